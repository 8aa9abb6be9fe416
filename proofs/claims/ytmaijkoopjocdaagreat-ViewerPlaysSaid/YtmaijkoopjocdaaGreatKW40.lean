import Derived.Test.YtmaijkoopjocdaaGreatKW29
import Derived.Deep.CutRange
set_option maxRecDepth 100000
set_option maxHeartbeats 64000000
namespace Go.Proofs.YtmaijkoopjocdaaGreat
open Go.RowKit Go.Lib
theorem afi {w:World} {B aM:Nat} {s:Value} {R:List aF} {x:aF} (h:hH.Row w B s R) (hv:av w aM 86 x.cells.toArray) (hB:B<=w.heap.size) (hl:R.length<=900000):
 Calls Tryz.prog 41 #[s,↑R.length,.slice ↑aM 1 1] w fun e w'=>∃v',e= .returned v'∧hH.Row w' B v' (R++ [x])∧aK (fun g=>s.ownBlock=some g) w w'∧(v'.ownBlock=s.ownBlock∨v'.ownBlock=some ↑w):=by
 have F:=af h;have E:=af hv;rcases h.2 with⟨hs,h0⟩|⟨g,c,cur,hs,M,hb,hnc,L,hcs,K⟩
 ·subst hs;rw [h0];clear h hv;go_enter Tryz.func41,Tryz.ntmps41;go_wp2_with (first
   |(at_builtin;go_loud (refine hH.push rfl (.tmp 23) (.tmp 24) rfl B (.slice none 0 0) R rfl F.o aM x rfl E.o.lt E.o.gH bh hB ?_)))
  intro v' J A C D;have G:=af A;have H:=af (fK C);have I:=af D;clear A C D;go_wp2_with fail;go_ret;exact⟨_,rfl,G.o,H.o.more (fun k hk=>hk.symm▸rfl),I.o⟩
 subst hs;unfold maxLen at L;have q1:R.length<=c:=hnc;obtain⟨n,hn⟩:=ai R.length;rw [hn]at q1 hl⊢;have HN:=af hn;replace F:Ei (hH.Row w B (.slice ↑g n c) R):=af (by rw [<-hn];exact F.o);clear h hv M hb hnc hcs K hn;go_enter Tryz.func41,Tryz.ntmps41;go_wp2_with (first
  |(at_builtin;go_loud (refine hH.push rfl (.tmp 23) (.tmp 24) rfl B (.slice ↑g n c) R rfl F.o aM x rfl E.o.lt E.o.gH (by rw [HN.o];omega) hB ?_)))
 all_goals (
  intro v' J A C D;have G:=af A;have H:=af (fK C);have I:=af D;clear A C D;go_wp2_with fail;go_ret;exact⟨_,rfl,G.o,H.o,I.o⟩)
theorem afj {w:World} {B aM:Nat} {s:Value} {R:List aF} {x:aF} {i:Nat} (h:hH.Row w B s R) (hi:i<=R.length) (hv:av w aM 86 x.cells.toArray) (hne:s.ownBlock≠some aM) (hB:B<=w.heap.size) (hl:R.length<=900000):
 Calls Tryz.prog 41 #[s,↑i,.slice ↑aM 1 1] w fun e w'=>∃v',e= .returned v'∧hH.Row w' B v' (R.take i++ [x]++R.drop i)∧aK (fun g=>s.ownBlock=some g) w w'∧(v'.ownBlock=s.ownBlock∨v'.ownBlock=some ↑w):=by
 by_cases hin:i=R.length
 ·subst hin;refine(afi h hv hB hl).mono ?_;rintro e w' ⟨v',h1,h2,h3,h4⟩;exact⟨v',h1,by rw [List.take_length,List.drop_length,List.append_nil];exact h2,h3,h4⟩
 have A:i<R.length:=bh;rcases h.2 with⟨hs,h0⟩|⟨g,c,cur,hs,F,hb,hnc,E,hcs,C⟩
 ·omega
 subst hs;have D:aM≠g:=by rintro rfl;exact hne rfl
 by_cases hroom:R.length+1<=c
 ·refine(afk hb rfl hcs C F E A hroom hv D hl).mono ?_;rintro e w' ⟨h1,h2,h3⟩;exact⟨_,h1,h2,h3.more fun k hk=>by rw [hk];rfl,.inl rfl⟩
 obtain rfl:c=R.length:=bh;refine(afl hb rfl hcs C hB A hv hl).mono ?_;rintro e w' ⟨c',h1,h2,h3⟩;exact⟨_,h1,h2,h3.more fun _ h=>h.elim,.inr rfl⟩
def FM (x q:Int):Int:=if x<q then-1 else if q<x then 1 else 0
theorem B4 (m:aF) (q:Int) (w:World):
 Calls Tryz.prog 38 #[m.agg,↑q] w fun e w'=>e= .returned (.int .i64 (FM m.seq q))∧Below ↑w w w':=by
 unfold aF.agg;have B:Ei (FM m.seq q=if m.seq<q then-1 else if q<m.seq then 1 else 0):=af rfl;rw [B.o];have A:=af (Below.aI w (.cells #[↑m.seq,↑m.inst,↑m.side,↑m.ap,↑m.aq,↑m.count,↑m.imp] 86));clear B;by_cases h1:m.seq<q
 ·rw [if_pos h1];go_enter Tryz.func38,Tryz.ntmps38;go_wp2_with fail;go_ret;exact⟨cF,A.o⟩
 rw [if_neg h1];by_cases h2:q<m.seq
 ·rw [if_pos h2];go_enter Tryz.func38,Tryz.ntmps38;go_wp2_with fail;go_ret;exact⟨cF,A.o⟩
 rw [if_neg h2];go_enter Tryz.func38,Tryz.ntmps38;go_wp2_with fail;go_ret;exact⟨cF,A.o⟩
def r5 (q:Int) (H:List aF):Nat:=(H.takeWhile (fun x=>decide (x.seq<q))).length
theorem ajZ (q:Int) (H:List aF):r5 q H<=H.length:=by unfold r5;exact(List.takeWhile_prefix _).length_le
theorem B6 {q:Int}:∀{H:List aF} {a:Nat},a<=H.length->(∀(k:Nat) (x:aF),k<a->H[k]? =some x->x.seq<q)->(∀(k:Nat) (x:aF),a<=k->H[k]? =some x->q<=x.seq)->r5 q H=a
 | [],a,ha,_,_=>by
   have:a=0:=by simpa using ha
   subst this;rfl
 |y::t,0,_,_,h2=>by have:=h2 0 y (Nat.le_refl 0) rfl;unfold r5;rw [List.takeWhile_cons,if_neg (by simp;omega)];rfl
 |y::t,a+1,ha,h1,h2=>by have h0:=h1 0 y bh rfl;have ih:=B6 (H:=t) (a:=a) (by simpa using ha) (fun k x hk hx=>h1 (k+1) x bh hx) (fun k x hk hx=>h2 (k+1) x bh hx);unfold r5 at*;rw [List.takeWhile_cons,if_pos (by simpa using h0),List.length_cons,ih]
theorem aj0 (m:aF) (H:List aF):gV m H=H.take (r5 m.seq H)++ [m]++H.drop (r5 m.seq H):=by
 unfold gV r5;have h1:H.take (H.takeWhile (fun x=>decide (x.seq<m.seq))).length=H.takeWhile (fun x=>decide (x.seq<m.seq)):=by
  conv=>lhs;rw [show H=H.takeWhile (fun x=>decide (x.seq<m.seq))++H.dropWhile (fun x=>decide (x.seq<m.seq))from List.takeWhile_append_dropWhile.symm]
  rw [List.takeWhile_append_dropWhile];exact List.prefix_iff_eq_take.1 (List.takeWhile_prefix _) |>.symm
 have h2:H.drop (H.takeWhile (fun x=>decide (x.seq<m.seq))).length=H.dropWhile (fun x=>decide (x.seq<m.seq)):=by have e:=List.takeWhile_append_dropWhile (p:=fun x:aF=>decide (x.seq<m.seq)) (l:=H);have e2:=List.take_append_drop (H.takeWhile (fun x=>decide (x.seq<m.seq))).length H;rw [h1]at e2;exact List.append_cancel_left (e2.trans e.symm)
 rw [h1,h2];simp
theorem aj1 {q:Int} {H:List aF} {a:Nat} (ha:sG H) (h1:∀(k:Nat) (x:aF),k<a->H[k]? =some x->x.seq<q) (h2:∀(k:Nat) (x:aF),a<=k->H[k]? =some x->q<=x.seq):
 kP q H=match H[a]? with|some x=>decide (x.seq=q)|none=>false:=by
 cases hx:H[a]? with
 |none=>
  dsimp only;unfold kP;rw [List.any_eq_false];intro y hy;obtain⟨j,hj⟩:=List.mem_iff_getElem?.1 hy;have hjl:=dM hj;have hal:H.length<=a:=by
   rcases Nat.lt_or_ge a H.length with h|h
   ·rw [List.getElem?_eq_getElem h]at hx;cases hx
   exact h
  have:=h1 j y bh hj;simp;omega
 |some x=>
  dsimp only;by_cases he:x.seq=q
  ·rw [decide_eq_true he];unfold kP;rw [List.any_eq_true];exact⟨x,List.mem_of_getElem? hx,by simpa using he⟩
  rw [decide_eq_false he];unfold kP;rw [List.any_eq_false];intro y hy;obtain⟨j,hj⟩:=List.mem_iff_getElem?.1 hy;have A:=h2 a x (Nat.le_refl _) hx;rcases Nat.lt_trichotomy j a with h|h|h
  ·have:=h1 j y h hj;simp;omega
  ·subst h;rw [hx]at hj;injection hj with hj;rw [<-hj];simpa using he
  have:=List.pairwise_iff_getElem.1 ha a j (dM hx) (dM hj) h;obtain⟨_,e1⟩:=lB hx;obtain⟨_,e2⟩:=lB hj;rw [e1,e2]at this;simp;omega
theorem Oj {w:World} {v:Value} {H:List aF} (h:hH.eT w v H) (ha:sG H) (hl:H.length<=900000) (q:Int):
 Calls Tryz.prog 37 #[v,↑q,.func (Fn.func 38) #[] #[]] w fun e w'=>e= .returned (.tuple #[.int .i64 (r5 q H),.bool (kP q H)])∧Below ↑w w w':=by
 have U:=af h;have T:=af ha;obtain⟨a0,c0,rfl,_,_⟩:=h;clear ha;go_enter Tryz.func37,Tryz.ntmps37;go_wp2_with fail;go_loopw [9,10] (fun i j w'=>∃a b:Nat,i=↑a∧j=↑b∧a<=b∧b<=H.length∧(∀(k:Nat) (x:aF),k<a->H[k]? =some x->x.seq<q)∧(∀(k:Nat) (x:aF),b<=k->H[k]? =some x->q<=x.seq)∧Below ↑w w w') (fun i j _=>(RowKit.intOf j).toNat-(RowKit.intOf i).toNat)
 case atStart=>exact⟨0,H.length,rfl,rfl,Nat.zero_le _,Nat.le_refl _,fun k x hk=>absurd hk bh,fun k x hk hx=>by have:=dM hx;omega,Below.refl _ _⟩
 obtain⟨a,b,rfl,rfl,hab,V,h1,h2,hb⟩:=hrel;obtain⟨ax,rfl⟩:=aj wr;have H1:=af h1;have H2:=af h2;have I:=af hb;have hsl:=U.o.below hb;clear h1 h2 hb;by_cases hlt:a<b
 ·have hlt':(a:Int)<(b:Int):=by omega
  obtain⟨m,hm⟩:=ai ((a+b) / 2);have hma:a<=m:=bh;have hmb:m<b:=bh;have y1:IntKind.i64.wrap ((a:Int)+(b:Int))=(a:Int)+(b:Int):=IntWalk.i64_in _ bh;have W:IntKind.u64.wrap ((a:Int)+(b:Int))=(a:Int)+(b:Int):=u64_wrap_id _ bh bh;have J:((a:Int)+(b:Int)) % 18446744073709551616=(a:Int)+(b:Int):=bh;have X:((a:Int)+(b:Int)).fdiv 2=(m:Int):=by rw [Int.fdiv_eq_ediv_of_nonneg _ b9];omega
  have K:((a:Int)+(b:Int)) / 2=(m:Int):=bh;have S:IntKind.i64.wrap (m:Int)=(m:Int):=IntWalk.i64_in _ bh;have Y:IntKind.i64.wrap ((m:Int)+1)=(m:Int)+1:=IntWalk.i64_in _ bh;have hml:(m:Int)<(H.length:Int):=bh;obtain⟨x,hx⟩:=GB H m bh;obtain⟨g,off,c',he,_,hcs⟩:=hsl.get hx;injection he with he _ P;subst he;subst P;have c0:ax.cell? ↑(g,off+m*7)=↑x.seq:=hcs 0 _ rfl;have c1:ax.cell? ↑(g,off+m*7+1)=↑x.inst:=hcs 1 _ rfl;have c2:ax.cell? ↑(g,off+m*7+2)=↑x.side:=hcs 2 _ rfl;have c3:ax.cell? ↑(g,off+m*7+3)=↑x.ap:=hcs 3 _ rfl;have O:ax.cell? ↑(g,off+m*7+4)=↑x.aq:=hcs 4 _ rfl;have M:ax.cell? ↑(g,off+m*7+5)=↑x.count:=hcs 5 _ rfl;have Q:ax.cell? ↑(g,off+m*7+6)=↑x.imp:=hcs 6 _ rfl;have A:=B4 x q ax;unfold aF.agg at A;have C:=af A;have B:=af hx;have Z:=af hm;clear hcs hx A hsl hm;go_wp2_with fail;refine C.o.mono ?_;rintro e w1 ⟨rfl,hb1⟩;have E:=ag I hb1;clear hb1 C c0 c1 c2 c3 O M Q y1 W J X K;have F:=List.pairwise_iff_getElem.1 T.o;by_cases hc:x.seq<q
  ·have hv:FM x.seq q= -1:=if_pos hc;rw [hv];have HN:Ei (∀(k:Nat) (y:aF),k<m+1->H[k]? =some y->y.seq<q):=af (by
    intro k y hk hy;rcases Nat.lt_or_ge k m with h|h
    ·have h3:=F k m (dM hy) (dM B.o) h;obtain⟨_,e1⟩:=lB hy;obtain⟨_,e2⟩:=lB B.o;rw [e1,e2]at h3;omega
    have:k=m:=bh;subst this;have h3:=B.o;rw [hy]at h3;injection h3 with h3;rw [h3];exact hc)
   clear F hc hv;go_wp2_with fail;go_roundw
   case rel=>exact⟨m+1,b,dR,rfl,bh,V,HN.o,H2.o,E.o⟩
   exact Ej
  have hv:¬FM x.seq q<0:=by unfold FM;rw [if_neg hc];split<;>omega
  have HN:Ei (∀(k:Nat) (y:aF),m<=k->H[k]? =some y->q<=y.seq):=af (by
   intro k y hk hy;rcases Nat.lt_or_ge m k with h|h
   ·have h3:=F m k (dM B.o) (dM hy) h;obtain⟨_,e1⟩:=lB hy;obtain⟨_,e2⟩:=lB B.o;rw [e1,e2]at h3;omega
   have:k=m:=bh;subst this;have h3:=B.o;rw [hy]at h3;injection h3 with h3;rw [h3];omega)
  clear F hc;go_wp2_with fail;go_roundw
  case rel=>exact⟨a,m,rfl,rfl,bh,bh,H1.o,HN.o,E.o⟩
  exact Ej
 have hba:b=a:=bh;subst hba;have hpos:=B6 bh H1.o H2.o;have D:=aj1 T.o H1.o H2.o;have R:=af hpos;have G:=af D;clear hpos D;by_cases hal:b<H.length
 ·have L:(b:Int)<(H.length:Int):=by omega
  obtain⟨x,hx⟩:=GB H b hal;obtain⟨g,off,c',he,_,hcs⟩:=hsl.get hx;injection he with he _ P;subst he;subst P;have c0:ax.cell? ↑(g,off+b*7)=↑x.seq:=hcs 0 _ rfl;have c1:ax.cell? ↑(g,off+b*7+1)=↑x.inst:=hcs 1 _ rfl;have c2:ax.cell? ↑(g,off+b*7+2)=↑x.side:=hcs 2 _ rfl;have c3:ax.cell? ↑(g,off+b*7+3)=↑x.ap:=hcs 3 _ rfl;have O:ax.cell? ↑(g,off+b*7+4)=↑x.aq:=hcs 4 _ rfl;have M:ax.cell? ↑(g,off+b*7+5)=↑x.count:=hcs 5 _ rfl;have Q:ax.cell? ↑(g,off+b*7+6)=↑x.imp:=hcs 6 _ rfl;have A:=B4 x q ax;unfold aF.agg at A;have C:=af A;have hq:=H2.o b x (Nat.le_refl _) hx;have hv:(FM x.seq q==0)=decide (x.seq=q):=by
   unfold FM;rw [if_neg bh];by_cases he:x.seq=q
   ·rw [if_neg bh,decide_eq_true he];rfl
   rw [if_pos bh,decide_eq_false he];rfl
  have N:Ei (kP q H=decide (x.seq=q)):=af (by rw [G.o,hx]);clear hcs hx A hsl G hq;go_wp2_with fail;refine C.o.mono ?_;rintro e w1 ⟨rfl,hb1⟩;have E:=ag I hb1;clear hb1 C c0 c1 c2 c3 O M Q;go_wp2_with fail;go_ret2;exact⟨by rw [R.o,N.o];try rfl,E.o⟩
 have L:¬(b:Int)<(H.length:Int):=bh;have N:Ei (kP q H=false):=af (by rw [G.o,List.getElem?_eq_none bh]);clear hsl G;go_wp2_with fail;go_ret2;exact⟨by rw [R.o,N.o];try rfl,I.o⟩
theorem MP {id:Int} {x:aC} {i:Nat}:∀(S:List (List aC)) (k:Nat),gR id k S=some (i,x)->k<=i∧∃L,S[i-k]? =some L∧vQ L id=(x,true)
 | [],k,h=>by simp [gR]at h
 |L::t,k,h=>by
  unfold gR at h;split at h
  ·rename_i hb;injection h with h;injection h with h1 h2;subst h1;exact⟨Nat.le_refl _,L,by rw [Nat.sub_self];rfl,by rw [<-h2,<-hb]⟩
  obtain⟨h1,K,h2,h3⟩:=MP t (k+1) h;refine⟨bh,K,?_,h3⟩;rw [show i-k=(i-(k+1))+1 by omega,List.getElem?_cons_succ];exact h2
def fW (S:List (List aC)) (id aq:Int):List (List aC)×Int:=match gR id 0 S with
 |none=>(S,26)
 |some (i,_)=>(S.set i (pF (S.getD i []) id aq).1,(pF (S.getD i []) id aq).2)
section
variable {W w w':World} {ps pb:Nat} {p:Prod} {Q:List Nat} {S:List (List aC)} {L L':List aC}
theorem V0 {id:Int} (h:gR id 0 S=none) (aq:Int):fW S id aq=(S,26):=by unfold fW;rw [h]
theorem V1 {id:Int} {i:Nat} {x:aC} (h:gR id 0 S=some (i,x)) (hl:S[i]? =some L) (aq:Int):fW S id aq=(S.set i (pF L id aq).1,(pF L id aq).2):=by
 unfold fW;rw [h];have:S.getD i []=L:=by rw [List.getD_eq_getElem?_getD,hl];rfl
 rw [<-this]
theorem Jq (h:eH W w ps p Q S) (hl:S.length<=100) (hL:∀L∈S,L.length<=250∧(L.map aC.id).Nodup∧∀o∈L,1<=o.aq∧o.aq<=1000000) (id aq:Int):
 Calls Tryz.prog 66 #[.pointer ↑ps,↑id,↑aq] w fun e w'=>e= .returned (.int .i64 (fW S id aq).2)∧eH W w' ps p Q (fW S id aq).1∧aK (fun g=>g∈Q) w w':=by
 have A:=af (Ep h hl (fun L h=>(hL L h).1) id);have H:=af h;have U:=af hL;have HN:=af hl;cases hf:gR id 0 S with
 |none=>rw [hf]at A;have B:=af (V0 hf aq);clear h hL hf hl;unfold xe at A;go_enter Tryz.func66,Tryz.ntmps66;go_wp2_with fail;refine A.o.mono ?_;rintro e w2 ⟨rfl,hb2⟩;have I:Ei (aK (fun g=>g∈Q) w (w2.alloc (.cells #[↑(),↑(),↑(),↑(),.bool false] 139))):=af (Below.keeps (hb2.trans ((Below.aI w2 _).mono hb2.size)));have H2:=af ((H.o.below hb2).below (Below.aI w2 (.cells #[↑(),↑(),↑(),↑(),.bool false] 139)));clear hb2 A;go_wp2_with fail;go_ret;refine⟨?_,by rw [B.o];exact H2.o,I.o⟩;rw [B.o];first|done|rfl
 |some V=>
  obtain⟨i,x⟩:=V;rw [hf]at A;obtain⟨_,L,hs,hfo⟩:=MP S 0 hf;rw [Nat.sub_zero]at hs;have B:=af (V1 hf hs aq);have J:=af hs;obtain⟨hi,E⟩:=lB hs;clear h hL hf hfo hs E;obtain⟨oi,os,op,N,R⟩:=x;unfold xe at A;simp only at A;go_enter Tryz.func66,Tryz.ntmps66;go_wp2_with fail;refine A.o.mono ?_;rintro e w2 ⟨rfl,hb2⟩;have I:Ei (aK (fun g=>g∈Q) w (w2.alloc (.cells #[↑oi,↑os,↑op,↑N,↑R] 139))):=af (Below.keeps (hb2.trans ((Below.aI w2 _).mono hb2.size)));have H2:=af ((H.o.below hb2).below (Below.aI w2 (.cells #[↑oi,↑os,↑op,↑N,↑R] 139)));clear hb2 A;go_upto_region 4 with(fail);obtain⟨pb,Z,hq,D,hrb⟩:=H2.o.get hi;rw [J.o]at D;injection D with D;subst D;obtain⟨n,hn⟩:=ai Q.length;have hin:i<n:=by rw [<-hn,H2.o.len];exact hi
  obtain⟨g,c,K,hrow,q0⟩:=H2.o.ptr hq;have F:=K.cell 11;rw [hn]at F;have P:=af hq;have C:=U.o L (List.mem_of_getElem? J.o);have M:=af (Wg hrb C.1 C.2.1 C.2.2 id aq);have b:=af hn;clear K hrow hrb hq C hn hi;generalize w2.alloc (.cells _ 139)=w3 at*;have Y:w3.cell? ↑(ps,11)=some (.slice ↑g n c):=F;clear F;go_wp2_with fail;refine M.o.mono ?_;rintro e T ⟨rfl,O,G⟩;have H4:=af (H2.o.Qe P.o G O);have X:Ei (aK (fun g=>g∈Q) w T):=af (I.o.trans (G.more fun k hk=>by have e:k=pb:=hk;rw [e];exact List.mem_of_getElem? P.o));clear O G M;go_wp2_with fail;go_ret;refine⟨?_,by rw [B.o];exact H4.o,X.o⟩;rw [B.o];first|done|rfl
end
def ew (n lo hi:Int):Int:=lo+n % (hi-lo+1)
theorem oq (n lo hi:Int) (h:lo<=hi):lo<=ew n lo hi∧ew n lo hi<=hi:=by unfold ew;have h1:=Int.emod_nonneg n (bh:hi-lo+1≠0);have h2:=Int.emod_lt_of_pos n (bh:0<hi-lo+1);omega
theorem v8 (n lo hi:Int) (w:World) (hn0: -9223372036854775808<=n) (E:n<=9223372036854775807) (h:lo<=hi) (h0: -1000000000<=lo) (h1:hi<=1000000000):
 Calls Tryz.prog 14 #[↑n,↑lo,↑hi] w fun e w'=>e= .returned (.int .i64 (ew n lo hi))∧w=w':=by
 obtain⟨m,hm⟩:=ai (hi-lo+1:Int);have hm0:1<=m:=bh;have F:m<=2000000001:=bh;have hW:ew n lo hi=lo+n % m:=by unfold ew;rw [hm]
 obtain⟨t,ht⟩:=ai (n.tmod m:Int);have B:(m==0)=false:=by rw [beq_eq_false_iff_ne];omega
 have D:(m== -1)=false:=by rw [beq_eq_false_iff_ne];omega
 have htb: -m<t∧t<m:=by subst ht;have a:=Int.tmod_lt_of_pos n (bh:0<m);have b:=Int.lt_tmod_of_pos n (bh:0<m);omega
 have A:ew n lo hi=if t<0 then lo+(t+hi-lo+1)else lo+t:=by
  rw [hW,<-ht,Int.emod_eq_tmod];by_cases hn:0<=n
  ·rw [if_pos (Or.inl hn)];have:0<=n.tmod m:=Int.tmod_nonneg _ hn;rw [if_neg bh];omega
  by_cases hd:m∣n
  ·rw [if_pos (Or.inr hd)];have:n.tmod m=0:=Int.tmod_eq_zero_of_dvd hd;rw [if_neg bh];omega
  rw [if_neg (by rintro(h|h);exact hn h;exact hd h)];have h2:n.tmod m<=0:=by have h4:=Int.tmod_nonneg m (bh:0<=-n);rw [Int.neg_tmod]at h4;omega
  have h3:n.tmod m≠0:=fun h=>hd (Int.dvd_of_tmod_eq_zero h);rw [if_pos bh];have:((m.natAbs:Nat):Int)=m:=bh;omega
 have C:=af A;clear hW A;go_enter Tryz.func14,Tryz.ntmps14;go_wp2;all_goals
  go_ret;refine⟨?_,rfl⟩;rw [C.o];first|(rw [if_pos ‹t<0›];rfl)|(rw [if_neg bh];rfl)
structure Qv (p:Prod):Prop where
 Cg:p.months.length<=9223372036854775807
 tick:cz p.tick
 wide:cz p.wide
 rule:cz p.rule
 top:cz p.top
 least:cz p.least
 part:cz p.part
theorem av.fill {w:World} {g:Nat} {t:TypeId} {x0 x1 D E F G I H J K C:Value} (h:av w g t #[x0,x1,D,E,F,G,I,H,J,K,C]) (v0 v1 v2 v3 v4 v5 v6 A B v9 v10:Value):av (((((((((((w.setCell ↑g v0).setCell ↑(g,1) v1).setCell ↑(g,2) v2).setCell ↑(g,3) v3).setCell ↑(g,4) v4).setCell ↑(g,5) v5).setCell ↑(g,6) v6).setCell ↑(g,7) A).setCell ↑(g,8) B).setCell ↑(g,9) v9).setCell ↑(g,10) v10) g t #[v0,v1,v2,v3,v4,v5,v6,A,B,v9,v10]:=by have h1:=(((((((((((h.aW 0 v0).aW 1 v1).aW 2 v2).aW 3 v3).aW 4 v4).aW 5 v5).aW 6 v6).aW 7 A).aW 8 B).aW 9 v9).aW 10 v10);simp only [List.setIfInBounds_toArray,List.set_cons_zero,List.set_cons_succ]at h1;exact h1
theorem aK.fill (w:World) (g:Nat) (v0 v1 v2 v3 v4 v5 v6 A B v9 v10:Value):aK (fun k=>k=g) w (((((((((((w.setCell ↑g v0).setCell ↑(g,1) v1).setCell ↑(g,2) v2).setCell ↑(g,3) v3).setCell ↑(g,4) v4).setCell ↑(g,5) v5).setCell ↑(g,6) v6).setCell ↑(g,7) A).setCell ↑(g,8) B).setCell ↑(g,9) v9).setCell ↑(g,10) v10):=
 ((((((((((((aK.refl (fun k=>k=g) w).setCell (p:=⟨g,0,none⟩) (fun _=>rfl) v0).setCell (p:=⟨g,1,none⟩) (fun _=>rfl) v1).setCell (p:=⟨g,2,none⟩) (fun _=>rfl) v2).setCell (p:=⟨g,3,none⟩) (fun _=>rfl) v3).setCell (p:=⟨g,4,none⟩) (fun _=>rfl) v4).setCell (p:=⟨g,5,none⟩) (fun _=>rfl) v5).setCell (p:=⟨g,6,none⟩) (fun _=>rfl) v6).setCell (p:=⟨g,7,none⟩) (fun _=>rfl) A).setCell (p:=⟨g,8,none⟩) (fun _=>rfl) B).setCell (p:=⟨g,9,none⟩) (fun _=>rfl) v9).setCell (p:=⟨g,10,none⟩) (fun _=>rfl) v10)
def kc (tick rule top least part wide:Int) (ma:Option Addr) (mc:Nat) (sa:Option Addr) (sc k:Nat):Array Value:=#[.string ⟨#[206,169]⟩,.slice ma k mc,.int .i64 tick,.int .i64 (-20*tick),.int .i64 (100*tick),.int .i64 wide,.int .i64 rule,.int .i64 top,.int .i64 least,.int .i64 part,.slice sa k sc]
theorem afo (p:Prod) (w:World) (hx:Qv p):
 Calls Tryz.prog 8 #[p.agg] w fun e w'=>∃(k:xk) (ma:Option Addr) (mc:Nat) (sa:Option Addr) (sc:Nat),k.ok∧e= .returned (k.prod ma mc sa sc).agg∧gM w' (k.prod ma mc sa sc)∧Below ↑w w w':=by
 obtain⟨hx0,hx1,uE,JT,WU,JU,JV⟩:=hx;unfold Prod.agg Prod.cells;have s1:=ak;have DH:Ei (PC (w.alloc (.cells ↑p 25)) ↑w p):=af (PC.new w p);have fE:Ei (Below ↑w w (w.alloc (.cells ↑p 25))):=af (Below.aI _ _);have r:Ei ((w.alloc (.cells ↑p 25)).heap.size=w.heap.size+1):=af (s1 _ _);have hw1:=oq (p.months.length:Int) 0 3 bh;obtain⟨n,hn⟩:∃n:Nat,2+ew (p.months.length:Int) 0 3=(n:Int):=⟨(2+ew (p.months.length:Int) 0 3).toNat,bh⟩;have vH:=oq p.tick 0 9 bh;obtain⟨tick,WV⟩:=ai (1+ew p.tick 0 9:Int);have JS:=oq p.rule 0 2 bh;have Qx:=oq p.top 0 9 bh;have WW:=oq p.least 0 4 bh;have r7:=oq p.part 0 100 bh;have aml:=oq p.wide 0 60 bh;have H1:=af fun w=>v8 (p.months.length:Int) 0 3 w bh bh bh bh bh;have H2:=af fun w=>v8 p.tick 0 9 w hx1.1 hx1.2 bh bh bh;have s6:=af fun w=>v8 p.wide 0 60 w uE.1 uE.2 bh bh bh;have HN:=af hn;have dN:=af WV;have hnb:2<=n∧n<=5:=bh;have htb:1<=tick∧tick<=10:=bh;have Cw: -9223372036854775808<=p.rule∧p.rule<=9223372036854775807:=JT;have w8: -9223372036854775808<=p.top∧p.top<=9223372036854775807:=WU;have u: -9223372036854775808<=p.least∧p.least<=9223372036854775807:=JU;have Nb: -9223372036854775808<=p.part∧p.part<=9223372036854775807:=JV;clear hx0 hx1 uE JT WU JU JV hn WV hw1 vH;generalize ew (p.months.length:Int) 0 3=v1 at*;generalize ew p.tick 0 9=v2 at*;generalize ew p.wide 0 60=jt at*;have x1:IntKind.i64.wrap (2+v1)=(n:Int):=by rw [<-HN.o];exact IntWalk.i64_in _ (by have:=HN.o;omega)
 have aZ:IntKind.i64.wrap (1+v2)=tick:=by rw [<-dN.o];exact IntWalk.i64_in _ (by have:=dN.o;omega)
 go_enter Tryz.func8,Tryz.ntmps8;go_wp2_with fail;refine(H1.o _).mono ?_;rintro e w1 ⟨rfl,rfl⟩;go_wp2_with fail;refine(H2.o _).mono ?_;rintro e w1 ⟨rfl,rfl⟩;go_upto_region 3 with(fail);have hz1:((w.alloc (.cells ↑p 25)).alloc (.cells #[.string ⟨#[]⟩,.slice none 0 0,↑(),↑(),↑(),↑(),↑(),↑(),↑(),↑(),.slice none 0 0] 25)).heap.size=w.heap.size+2:=by rw [s1,s1]
 have oF:Below ↑w w ((w.alloc (.cells ↑p 25)).alloc (.cells #[.string ⟨#[]⟩,.slice none 0 0,↑(),↑(),↑(),↑(),↑(),↑(),↑(),↑(),.slice none 0 0] 25)):=fE.o.alloc fE.o.size _;have iR:PC ((w.alloc (.cells ↑p 25)).alloc (.cells #[.string ⟨#[]⟩,.slice none 0 0,↑(),↑(),↑(),↑(),↑(),↑(),↑(),↑(),.slice none 0 0] 25)) ↑w p:=DH.o.below (Below.aI _ _) (by rw [r.o];omega);have fY:av ((w.alloc (.cells ↑p 25)).alloc (.cells #[.string ⟨#[]⟩,.slice none 0 0,↑(),↑(),↑(),↑(),↑(),↑(),↑(),↑(),.slice none 0 0] 25)) (w.heap.size+1) 25 #[.string ⟨#[]⟩,.slice none 0 0,↑(),↑(),↑(),↑(),↑(),↑(),↑(),↑(),.slice none 0 0]:=by have:=av.new (w.alloc (.cells ↑p 25)) 25 #[.string ⟨#[]⟩,.slice none 0 0,↑(),↑(),↑(),↑(),↑(),↑(),↑(),↑(),.slice none 0 0];rw [r.o]at this;exact this
 clear DH fE r;generalize ((w.alloc (.cells ↑p 25)).alloc (.cells #[.string ⟨#[]⟩,.slice none 0 0,↑(),↑(),↑(),↑(),↑(),↑(),↑(),↑(),.slice none 0 0] 25))=wb at*;have l:=af hz1;have Nc:=af oF;have sC:=af iR;have dG:=af fY;obtain⟨b0,b1,b2,b3,b4,bk,O,bn,L,M,Y⟩:=iR;clear b0 b1 b2 b3 b4 Y hz1 oF fY;have y1:IntKind.i64.wrap (-20*tick)= -20*tick:=IntWalk.i64_in _ bh;have fI:IntKind.i64.wrap (100*tick)=100*tick:=IntWalk.i64_in _ bh;have lF:IntKind.i64.wrap (1+ew p.rule 0 2)=1+ew p.rule 0 2:=IntWalk.i64_in _ bh;have CN:IntKind.i64.wrap (1+ew p.least 0 4)=1+ew p.least 0 4:=IntWalk.i64_in _ bh;go_cut [5] (fun v wx=>v= .pointer ↑wb.heap.size∧wx=(wb.alloc (.cells (kc tick (1+ew p.rule 0 2) (ew p.top 0 9) (1+ew p.least 0 4) (ew p.part 0 100) 0 none 0 none 0 0) 25)).drew)
 case first=>
  have Nd:Ei (∀o:Obj,(wb.alloc o).cell? ↑(w.heap.size,6)=↑p.rule∧(wb.alloc o).cell? ↑(w.heap.size,7)=↑p.top∧(wb.alloc o).cell? ↑(w.heap.size,8)=↑p.least∧(wb.alloc o).cell? ↑(w.heap.size,9)=↑p.part):=af fun o=>by obtain⟨_,_,_,_,_,_,Z,T,S,d,_⟩:=sC.o.below (Below.aI wb o) (by rw [l.o];omega);exact⟨Z,T,S,d⟩
  go_region_held3 (fun w'=>w'.cell? ⟨w.heap.size,6,none⟩=↑p.rule∧w'.cell? ⟨w.heap.size,7,none⟩=↑p.top∧w'.cell? ⟨w.heap.size,8,none⟩=↑p.least∧w'.cell? ⟨w.heap.size,9,none⟩=↑p.part)
   (first
    |exact⟨O,bn,L,M⟩
    |exact Nd.o _)
   (first
    |(go_at_call 14;refine(v8 _ _ _ _ bh bh bh bh bh).mono ?_;rintro e C ⟨rfl,rfl⟩))
  all_goals (go_wp2_with fail;go_meet)
  all_goals exact⟨rfl,rfl⟩
 case rest=>
 obtain⟨rfl,rfl⟩:=hcut;clear O bn L M bk y1 fI lF CN Cw w8 u Nb;generalize ew p.rule 0 2=v3 at*;generalize ew p.top 0 9=v4 at*;generalize ew p.least 0 4=v5 at*;generalize ew p.part 0 100=v6 at*;have hD:Below ↑wb wb (wb.alloc (.cells (kc tick (1+v3) v4 (1+v5) v6 0 none 0 none 0 0) 25)).drew:=(Below.aI _ _).drew;have hP:av (wb.alloc (.cells (kc tick (1+v3) v4 (1+v5) v6 0 none 0 none 0 0) 25)).drew wb.heap.size 25 (kc tick (1+v3) v4 (1+v5) v6 0 none 0 none 0 0):=av.new wb _ _;generalize (wb.alloc (.cells (kc tick (1+v3) v4 (1+v5) v6 0 none 0 none 0 0) 25)).drew=wc at*;have WX:=sC.o.below hD (by rw [l.o];omega);have bk:=WX.2.2.2.2.2.1;have uF:=ag Nc hD;have eA:=af (dG.o.keeps (Below.keeps (F:=fun _=>False) hD) (fun x=>x));obtain⟨wd,hwd⟩:=ai (5+jt:Int);have eK:IntKind.i64.wrap (5+jt)=wd:=by rw [<-hwd];exact IntWalk.i64_in _ bh
 have s:5<=wd∧wd<=65:=bh;have amm:=ED htb.1 s.1 s.2;have gF:IntKind.i64.wrap (tick*wd)=tick*wd:=IntWalk.i64_in _ bh;have we:wb.heap.size=w.heap.size+2:=l.o;rw [we]at hP⊢;have G:wc.cell? ↑(w.heap.size+2,5)=↑():=by rw [hP.cell];rfl
 have f5:wc.frozen? ↑(w.heap.size+2,5)=false:=hP.frozen 5;have sZ:=af hP;have y:w.heap.size+3<=wc.heap.size:=by have:=hP.lt;omega
 clear hP hD WX hwd sC dG l Nc we;go_wp2_with fail;refine(s6.o _).mono ?_;rintro e X ⟨rfl,rfl⟩;go_wp2_with fail;have t:av (wc.setCell ↑(w.heap.size+2,5) (.int .i64 (tick*wd))) (w.heap.size+2) 25 (kc tick (1+v3) v4 (1+v5) v6 (tick*wd) none 0 none 0 0):=sZ.o.aW 5 (.int .i64 (tick*wd));have WY:Below ↑w w (wc.setCell ↑(w.heap.size+2,5) (.int .i64 (tick*wd))):=uF.o.setCell (p:=⟨w.heap.size+2,5,none⟩) (by show w.heap.size<=w.heap.size+2;omega) _;have zT:av (wc.setCell ↑(w.heap.size+2,5) (.int .i64 (tick*wd))) (w.heap.size+1) 25 #[.string ⟨#[]⟩,.slice none 0 0,↑(),↑(),↑(),↑(),↑(),↑(),↑(),↑(),.slice none 0 0]:=eA.o.cC (p:=⟨w.heap.size+2,5,none⟩) (by show w.heap.size+1≠w.heap.size+2;omega) _;have z:w.heap.size+3<=(wc.setCell ↑(w.heap.size+2,5) (.int .i64 (tick*wd))).heap.size:=by have:=t.lt;omega
 clear sZ uF eA bk G f5 y;generalize wc.setCell ⟨w.heap.size+2,5,none⟩ (.int .i64 (tick*wd))=amn at*;go_loopw [6] (fun i w'=>∃k:Nat,i=↑k∧k<=n∧∃ma mc sa sc,av w' (w.heap.size+2) 25 (kc tick (1+v3) v4 (1+v5) v6 (tick*wd) ma mc sa sc k)∧q2 w' ↑w 3 (.slice ma k mc) (rP k)∧q2 w' ↑w 2 (.slice sa k sc) (oN tick k)∧Below ↑w w w'∧av w' (w.heap.size+1) 25 #[.string ⟨#[]⟩,.slice none 0 0,↑(),↑(),↑(),↑(),↑(),↑(),↑(),↑(),.slice none 0 0]) (fun i _=>n-(RowKit.intOf i).toNat)
 case atStart=>exact⟨0,rfl,Nat.zero_le _,none,0,none,0,t,World.ownsRow_nil _ _ _ _,World.ownsRow_nil _ _ _ _,WY,zT⟩
 clear t WY zT z;obtain⟨k,rfl,hk,ma,mc,sa,sc,hP,R,hS,hB,hG⟩:=hrel;obtain⟨A,rfl⟩:=aj wr;have P:=af hP;have D:=af R;have V:=af hS;have W:=af hB;have E:=af hG;clear hP R hS hB hG;by_cases hkn:k<n
 ·have G1:(k:Int)<(n:Int):=by omega
  have c1:A.cell? ↑(w.heap.size+2,1)=some (.slice ma k mc):=by rw [P.o.cell];rfl
  have amo:=P.o.lt;go_wp2_with (first
   |(at_builtin;refine afs rfl (.tmp 49) (.tmp 53) rfl ↑w ma mc k (rP k) (G2 k) rfl (Nf D.o (Below.aI _ _)) ↑A (10*(k:Int)+3) rfl (by rw [(av.new A 3 #[↑(10*(k:Int)+3)]).cell];rfl) bh (by rw [s1];omega) ?_))
  intro g1 B C dl U f;have I:=JW D.o U P.o b9;have JX:=JW D.o U E.o b9;have WZ:q2 C ↑w 2 (.slice sa k sc) (oN tick k):=W0 D.o U V.o b9;have m:=QA D.o U W.o;rw [<-afu]at dl;have G:C.cell? ↑(w.heap.size+2,1)=some (.slice ma k mc):=by rw [I.cell];rfl
  have f5:C.frozen? ↑(w.heap.size+2,1)=false:=I.frozen 1;have W3:=I.aW 1 (.slice ↑g1 (k+1) B);have W4:q2 (C.setCell ↑(w.heap.size+2,1) (.slice ↑g1 (k+1) B)) ↑w 3 (.slice ↑g1 (k+1) B) (rP (k+1)):=JY dl I b9 1 _;have W5:q2 (C.setCell ↑(w.heap.size+2,1) (.slice ↑g1 (k+1) B)) ↑w 2 (.slice sa k sc) (oN tick k):=JY WZ I b9 1 _;have W6:=JX.cC (p:=⟨w.heap.size+2,1,none⟩) (by show w.heap.size+1≠w.heap.size+2;omega) (.slice ↑g1 (k+1) B);have W7:=m.setCell (p:=⟨w.heap.size+2,1,none⟩) (by show w.heap.size<=w.heap.size+2;omega) (.slice ↑g1 (k+1) B);have Ng:=af W3;have O1:=af W4;have K:=af W5;have m9:=af W6;have b7:=af W7;have amq:w.heap.size<=C.heap.size:=m.size;clear W3 W4 W5 W6 W7 I JX WZ m dl U f c1;obtain⟨sv,q⟩:=ai (tick*(10+(k:Int)):Int);have hsb:=ED htb.1 (i:=10+(k:Int)) (a:=10) (b:=15) bh bh;have g5:IntKind.i64.wrap (tick*(10+(k:Int)))=sv:=by rw [<-q];exact IntWalk.i64_in _ bh
  have afv:=af q;clear q;go_upto_region 9 with(fail);clear G f5;generalize C.setCell ⟨w.heap.size+2,1,none⟩ (.slice ↑g1 (k+1) B)=X at*;have j:X.cell? ↑(w.heap.size+2,10)=some (.slice sa k sc):=by rw [Ng.o.cell];rfl
  go_wp2_with (first
   |(at_builtin;refine afw rfl (.tmp 57) (.tmp 62) rfl ↑w sa sc k (oN tick k) (G3 tick k) rfl (Nf K.o (Below.aI _ _)) ↑X sv rfl (by rw [(av.new X 2 #[↑sv]).cell];rfl) bh (by rw [s1];have:=b7.o.size;omega) ?_))
  intro g2 H N lQ Q afx;have J:=JW K.o Q Ng.o b9;have W8:=JW K.o Q m9.o b9;have W9:q2 N ↑w 3 (.slice ↑g1 (k+1) B) (rP (k+1)):=W0 K.o Q O1.o b9;have Xa:=QA K.o Q b7.o;rw [<-afv.o,<-afy]at lQ;have T:N.cell? ↑(w.heap.size+2,10)=some (.slice sa k sc):=by rw [J.cell];rfl
  have f7:N.frozen? ↑(w.heap.size+2,10)=false:=J.frozen 10;have Xb:=J.aW 10 (.slice ↑g2 (k+1) H);have Xc:q2 (N.setCell ↑(w.heap.size+2,10) (.slice ↑g2 (k+1) H)) ↑w 3 (.slice ↑g1 (k+1) B) (rP (k+1)):=JY W9 J b9 10 _;have Cc:q2 (N.setCell ↑(w.heap.size+2,10) (.slice ↑g2 (k+1) H)) ↑w 2 (.slice ↑g2 (k+1) H) (oN tick (k+1)):=JY lQ J b9 10 _;have Xd:=W8.cC (p:=⟨w.heap.size+2,10,none⟩) (by show w.heap.size+1≠w.heap.size+2;omega) (.slice ↑g2 (k+1) H);have Xe:=Xa.setCell (p:=⟨w.heap.size+2,10,none⟩) (by show w.heap.size<=w.heap.size+2;omega) (.slice ↑g2 (k+1) H);have afz:=af Xb;have Ci:=af Xc;have tE:=af Cc;have qF:=af Xd;have lz:=af Xe;clear Xb Xc Cc Xd Xe J W8 W9 Xa lQ Q afx j;go_wp2_with fail;go_roundw
  case rel=>exact⟨k+1,dR,bh,_,_,_,_,afz.o,Ci.o,tE.o,lz.o,qF.o⟩
  exact Ej
 obtain rfl:k=n:=bh;have hnn:¬(k:Int)<(k:Int):=bh;obtain⟨b0,b1,b2,b3,b4,bk,O,bn,L,M,Y⟩:PC A (w.heap.size+2) ((⟨k,tick,1+v3,v4,1+v5,v6,wd⟩:xk).prod ma mc sa sc):=by have h:∀i,A.cell? ⟨w.heap.size+2,i,none⟩=(kc tick (1+v3) v4 (1+v5) v6 (tick*wd) ma mc sa sc k)[i]? :=fun i=>P.o.cell i;unfold PC xk.prod;simp only [G2,G3];exact⟨h 0,h 1,h 2,h 3,h 4,h 5,h 6,h 7,h 8,h 9,h 10⟩
 simp only [xk.prod,G2,G3]at b0 b1 b2 b3 b4 bk O bn L M Y;have hg:∀i,A.cell? ⟨w.heap.size+1,i,none⟩=(#[.string ⟨#[]⟩,.slice none 0 0,↑(),↑(),↑(),↑(),↑(),↑(),↑(),↑(),.slice none 0 0]:Array Value)[i]? :=fun i=>E.o.cell i;have d0:=hg 0;have d1:=hg 1;have d2:=hg 2;have d3:=hg 3;have d4:=hg 4;have d5:=hg 5;have d6:=hg 6;have d7:=hg 7;have d8:=hg 8;have d9:=hg 9;have d10:=hg 10;have fz:∀i,A.frozen? ⟨w.heap.size+1,i,none⟩=false:=fun i=>E.o.frozen i;clear hg;go_wp2_with fail;clear d0 d1 d2 d3 d4 d5 d6 d7 d8 d9 d10 fz b0 b1 b2 b3 b4 bk O bn L M Y;have hk:aK (fun g=>g=w.heap.size+1) A (((((((((((A.setCell ↑(w.heap.size+1,0) (.string ⟨#[206,169]⟩)).setCell ↑(w.heap.size+1,1) (.slice ma k mc)).setCell ↑(w.heap.size+1,2) ↑tick).setCell ↑(w.heap.size+1,3) (.int .i64 (-20*tick))).setCell ↑(w.heap.size+1,4) (.int .i64 (100*tick))).setCell ↑(w.heap.size+1,5) (.int .i64 (tick*wd))).setCell ↑(w.heap.size+1,6) (.int .i64 (1+v3))).setCell ↑(w.heap.size+1,7) ↑v4).setCell ↑(w.heap.size+1,8) (.int .i64 (1+v5))).setCell ↑(w.heap.size+1,9) ↑v6).setCell ↑(w.heap.size+1,10) (.slice sa k sc)):=aK.fill _ _ _ _ _ _ _ _ _ _ _ _ _;have hB:av (((((((((((A.setCell ↑(w.heap.size+1,0) (.string ⟨#[206,169]⟩)).setCell ↑(w.heap.size+1,1) (.slice ma k mc)).setCell ↑(w.heap.size+1,2) ↑tick).setCell ↑(w.heap.size+1,3) (.int .i64 (-20*tick))).setCell ↑(w.heap.size+1,4) (.int .i64 (100*tick))).setCell ↑(w.heap.size+1,5) (.int .i64 (tick*wd))).setCell ↑(w.heap.size+1,6) (.int .i64 (1+v3))).setCell ↑(w.heap.size+1,7) ↑v4).setCell ↑(w.heap.size+1,8) (.int .i64 (1+v5))).setCell ↑(w.heap.size+1,9) ↑v6).setCell ↑(w.heap.size+1,10) (.slice sa k sc)) (w.heap.size+1) 25 (kc tick (1+v3) v4 (1+v5) v6 (tick*wd) ma mc sa sc k):=E.o.fill _ _ _ _ _ _ _ _ _ _ _;generalize (((((((((((A.setCell ⟨w.heap.size+1,0,none⟩ (.string ⟨#[206,169]⟩)).setCell ⟨w.heap.size+1,1,none⟩ (.slice ma k mc)).setCell ⟨w.heap.size+1,2,none⟩ ↑tick).setCell ⟨w.heap.size+1,3,none⟩ (.int .i64 (-20*tick))).setCell ⟨w.heap.size+1,4,none⟩ (.int .i64 (100*tick))).setCell ⟨w.heap.size+1,5,none⟩ (.int .i64 (tick*wd))).setCell ⟨w.heap.size+1,6,none⟩ (.int .i64 (1+v3))).setCell ⟨w.heap.size+1,7,none⟩ ↑v4).setCell ⟨w.heap.size+1,8,none⟩ (.int .i64 (1+v5))).setCell ⟨w.heap.size+1,9,none⟩ ↑v6).setCell ⟨w.heap.size+1,10,none⟩ (.slice sa k sc))=wf at*;have R:q2 wf ↑w 3 (.slice ma k mc) (rP k):=zv D.o hk fun g h1 h2=>(eo D.o g h1).ne E.o.aE b9 h2;have hS:q2 wf ↑w 2 (.slice sa k sc) (oN tick k):=zv V.o hk fun g h1 h2=>(eo V.o g h1).ne E.o.aE b9 h2;have EF:Below ↑w w wf:=W.o.trans (hk.below (fun g hg=>by rw [hg];omega) W.o.size);have c:∀i,wf.cell? ⟨w.heap.size+1,i,none⟩=(kc tick (1+v3) v4 (1+v5) v6 (tick*wd) ma mc sa sc k)[i]? :=fun i=>hB.cell i;have c0:=c 0;have c1:=c 1;have c2:=c 2;have c3:=c 3;have dH:=c 4;have G:=c 5;have Z:=c 6;have T:=c 7;have S:=c 8;have d:=c 9;have j:=c 10;simp only [kc]at c0 c1 c2 c3 dH G Z T S d j;have hok:(⟨k,tick,1+v3,v4,1+v5,v6,wd⟩:xk).ok:=⟨hnb,htb,by show 1<=1+v3∧1+v3<=3;omega,Qx,by show 1<=1+v5∧1+v5<=5;omega,r7,s⟩;have e1:∀x∈rP k,cz x:=by intro x hx;unfold rP at hx;rw [List.mem_map]at hx;obtain⟨i,hi,rfl⟩:=hx;rw [List.mem_range]at hi;unfold cz;omega
 have e2:∀x∈oN tick k,cz x:=by intro x hx;obtain⟨i,hi,rfl⟩:=Xf hx;have:=ED htb.1 (i:=10+(i:Int)) (a:=10) (b:=15) bh bh;unfold cz;omega
 have sD:gM wf ((⟨k,tick,1+v3,v4,1+v5,v6,wd⟩:xk).prod ma mc sa sc):=
  ⟨by show 2<=1000;omega,R.ints e1,hS.ints e2,by show(rP k).length<=_;rw [G2];omega,by show(oN tick k).length<=_;rw [G3];omega,by show cz tick;unfold cz;omega,by show cz (-20*tick);unfold cz;omega,by show cz (100*tick);unfold cz;omega,by show cz (tick*wd);unfold cz;omega⟩
 clear R hS hB c hk e1 e2 P D V W E;refine bodyPost_ret (v:= .agg #[.string ⟨#[206,169]⟩,.slice ma k mc,↑tick,.int .i64 (-20*tick),.int .i64 (100*tick),.int .i64 (tick*wd),.int .i64 (1+v3),↑v4,.int .i64 (1+v5),↑v6,.slice sa k sc]) (by simp [results,Tryz.results8,go_sem,c0,c1,c2,c3,dH,G,Z,T,S,d,j]) rfl ?_;refine⟨⟨k,tick,1+v3,v4,1+v5,v6,wd⟩,hok,ma,mc,sa,sc,?_,sD,EF⟩;simp only [xk.prod,G2,G3]
end Go.Proofs.YtmaijkoopjocdaaGreat
