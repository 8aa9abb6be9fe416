import Derived.Test.YtmaijkoopjocdaaGreatKW28
set_option maxRecDepth 100000
set_option maxHeartbeats 64000000
namespace Go.Proofs.YtmaijkoopjocdaaGreat
open Go.RowKit Go.Lib
def jo (n:Int):Nat->List Int
 |0=> []
 |k+1=>n % 256::jo (n / 256) k
theorem uu:∀(n:Int) (k:Nat),(jo n k).length=k
 |_,0=>rfl
 |n,k+1=>by rw [jo,List.length_cons,uu]
theorem Oe:∀(n:Int) (k:Nat),∀z∈jo n k,isByte z
 |_,0,z,h=>by simp [jo]at h
 |n,k+1,z,h=>by
  rcases List.mem_cons.1 h with rfl|h
  ·unfold isByte;omega
  exact Oe _ k z h
def nH (n:Int) (k:Nat):Int:=n / 256^k
theorem Pm:∀(n:Int) (k:Nat),jo n (k+1)=jo n k++ [nH n k % 256]
 |n,0=>by simp [jo,nH]
 |n,k+1=>by rw [jo,Pm (n / 256) k,jo];unfold nH;rw [List.cons_append,Int.ediv_ediv_of_nonneg b9,Int.pow_succ,Int.mul_comm 256]
theorem Pn (n:Int) (k:Nat):nH n (k+1)=nH n k / 256:=by unfold nH;rw [Int.ediv_ediv_of_nonneg (Int.le_of_lt (Int.pow_pos b9)),Int.pow_succ]
theorem Gb {n:Int} (h:0<=n) (k:Nat):0<=nH n k:=Int.ediv_nonneg h (Int.le_of_lt (Int.pow_pos b9))
theorem Gh {n:Int} (h:0<=n):∀k,nH n k<=n
 |0=>by simp [nH]
 |k+1=>by rw [Pn];have:=Gh h k;have:=Gb h k;omega
theorem SS (c:Int):r3 c=jo c 4:=by simp only [r3,jo,List.cons.injEq,and_true,true_and];refine⟨?_,?_⟩<;>omega
structure At (W w:World) (pw:Nat) (L:List Int):Prop where
 box:∃v,av w pw 223 #[v]∧cZ.Row w ↑W v L
 base:W.heap.size<=pw
 aJ:Below ↑W W w
section
variable {W w w':World} {pw:Nat} {L:List Int}
theorem At.below (h:At W w pw L) (hb:Below ↑w w w'):At W w' pw L:=by obtain⟨⟨v,h1,h2⟩,h3,h4⟩:=h;exact⟨⟨v,h1.below hb,h2.below hb⟩,h3,h4.trans (hb.mono h4.size)⟩
theorem ajN (w:World):Calls Tryz.prog 89 #[] w fun e w'=>∃pw,e= .returned (.pointer (some ⟨pw,0,none⟩))∧At w w' pw []:=by go_enter Tryz.func89,Tryz.ntmps89;go_wp2_with fail;go_ret;exact⟨_,rfl,⟨_,av.new w _ _,bl.Row.nil _ _⟩,Nat.le_refl _,Below.aI w _⟩
theorem alP (h:At W w pw L) (n:Int) (hn0:0<=n) (G:n<18446744073709551616) (k:Nat) (hk:k<=8) (hl:L.length<=900000):
 Calls Tryz.prog 126 #[.pointer ↑pw,.int .u64 n,↑k] w fun e w'=>e= .returned (.tuple #[])∧At W w' pw (L++jo n k):=by
 have H:=af h;have U:=af hl;have HN:=af (And.intro hn0 G);clear h hl hn0 G;go_enter Tryz.func126,Tryz.ntmps126;go_wp2_with fail;go_loopw [1,7] (fun y i w'=>∃j:Nat,i=↑j∧y= .int .u64 (nH n j)∧j<=k∧At W w' pw (L++jo n j)) (fun _ i _=>k-(RowKit.intOf i).toNat)
 case atStart=>exact⟨0,rfl,by rw [show nH n 0=n by simp [nH]],Nat.zero_le _,by rw [show jo n 0= []from rfl,List.append_nil];exact H.o⟩
 obtain⟨j,rfl,rfl,hj,hw⟩:=hrel;obtain⟨ax,rfl⟩:=aj wr;have H1:=af hw;by_cases hlt:j<k
 ·have hlt':(j:Int)<(k:Int):=by omega
  obtain⟨v,hb,hr⟩:=hw.box;obtain⟨a,c,rfl⟩:=hr.form;have O:Ei (nH n (j+1)=nH n j / 256):=af (Pn n j);have T:Ei (jo n (j+1)=jo n j++ [nH n j % 256]):=af (Pm n j);have q0:=Gb HN.o.1 j;have q1:=Gh HN.o.1 j;have N:Ei ((jo n j).length=j):=af (uu n j);have hq1:nH n j<18446744073709551616:=by have:=HN.o.2;omega
  generalize nH n j=y at*;have S:IntKind.u8.wrap y=y % 256:=IntKind.wrap_u8 y;have b:y.fdiv 256=y / 256:=Int.fdiv_eq_ediv_of_nonneg y b9;obtain⟨M,B⟩:=ai (L++jo n j);rw [B]at hr hb H1;have X:=af B;have Z:Ei (M.length<=900008):=af (by rw [<-B,List.length_append,N.o];have:=U.o;omega);clear B;obtain⟨m,hm⟩:=ai M.length;rw [hm]at hr hb;have c0:=hb.GC;have P:=af hb;have C:=Below.aI ax (.cells #[.int .u8 (y % 256)] 5);have I:=af C;have E:Ei (av (ax.alloc (.cells #[.int .u8 (y % 256)] 5)) ↑ax 5 (DS (y % 256)).toArray):=af (av.new _ _ _);have J:=af (hr.below C);have K:=af hr;clear hb hr C hw;go_wp2_with (first
   |(at_builtin;go_loud (refine cZ.push rfl (.tmp 13) (.tmp 16) rfl ↑W (.slice a m c) M rfl J.o ↑ax (y % 256) rfl E.o.lt E.o.gH (by have:=Z.o;omega) (I.o.mono H1.o.aJ.size |>.size |> Nat.le_trans H1.o.aJ.size) ?_)))
  intro v' Q D F Y;obtain⟨a',c',hv⟩:=D.form;rw [show(M++ [y % 256]).length=m+1 by rw [List.length_append,hm];rfl]at hv;subst hv;have hbk:=JW K.o F P.o b9;have A:=af hbk;have d:=hbk.GC;have fz:∀o,Q.frozen? ⟨pw,o,none⟩=false:=fun o=>hbk.frozen o;have V:=af D;have R:=af (QA K.o F H1.o.aJ);clear D F Y hbk E J I c0;go_wp2_with fail;go_roundw
  case rel=>refine⟨j+1,dR,by rw [O.o],hlt,?_⟩;rw [T.o,<-List.append_assoc,X.o];exact⟨⟨_,A.o.aW 0 _,JY V.o A.o b9 0 _⟩,H1.o.base,R.o.setCell (p:=⟨pw,0,none⟩) H1.o.base _⟩
  exact Ej
 obtain rfl:j=k:=bh;go_wp2_with fail;go_end0;exact⟨cF,H1.o⟩
theorem ajO (h:At W w pw L) (c:Int) (hc:qJ c) (hl:L.length<=900000):
 Calls Tryz.prog 90 #[.pointer ↑pw,.int .u32 c] w fun e w'=>e= .returned (.tuple #[])∧At W w' pw (L++r3 c):=by
 have y1:IntKind.u64.wrap c=c:=u64_wrap_id c hc.1 (by have:=hc.2;omega);have A:=af (alP h c hc.1 (by have:=hc.2;omega) 4 b9 hl);rw [SS];clear h hc hl;go_enter Tryz.func90,Tryz.ntmps90;go_wp2_with fail;refine A.o.mono ?_;rintro e w1 ⟨rfl,hw⟩;have B:=af hw;clear hw A;go_wp2_with fail;go_end0;exact⟨cF,B.o⟩
theorem ajQ (h:At W w pw L) (hl:L.length<=900000):
 Calls Tryz.prog 92 #[.pointer ↑pw] w fun e w'=>∃v',e= .returned v'∧cZ.Row w' ↑w v' L∧Below ↑w w w':=by
 obtain⟨v,hb,hr⟩:=h.box;have c0:=hb.GC;have A:=af (T7 hr.sl hl);obtain⟨a,c,rfl⟩:=hr.form;clear h hl hb hr;go_enter Tryz.func92,Tryz.ntmps92;go_wp2_with fail;refine A.o.mono ?_;rintro e w1 ⟨v',rfl,hr,hb⟩;have C:=af hr;have B:=af hb;clear hr hb A;go_wp2_with fail;go_ret;exact⟨_,rfl,C.o,B.o⟩
end
def gR (id:Int):Nat->List (List aC)->Option (Nat×aC)
 |_,[]=>none
 |k,L::t=>if(vQ L id).2=true then some (k,(vQ L id).1)else gR id (k+1) t
def xe (o:Option (Nat×aC)):Value:=match o with
 |none=> .tuple #[↑(),.agg #[↑(),↑(),↑(),↑(),.bool false],.bool false]
 |some (i,x)=> .tuple #[↑i,.agg #[↑x.id,↑x.side,↑x.ap,↑x.aq,↑x.top],.bool true]
section
variable {W w w':World} {ps pb:Nat} {p:Prod} {Q:List Nat} {S:List (List aC)} {L L':List aC}
theorem akd {id:Int} {k:Nat} (h:S[k]? =some L):gR id k (S.drop k)=if(vQ L id).2=true then some (k,(vQ L id).1)else gR id (k+1) (S.drop (k+1)):=by obtain⟨h1,h2⟩:=lB h;rw [List.drop_eq_getElem_cons h1,h2];rfl
theorem Ep (h:eH W w ps p Q S) (hl:S.length<=100) (hL:∀L∈S,L.length<=250) (id:Int):
 Calls Tryz.prog 65 #[.pointer ↑ps,↑id] w fun e w'=>e= .returned (xe (gR id 0 S))∧Below ↑w w w':=by
 obtain⟨a,c,U,hrow⟩:=h.box;obtain⟨n,hn⟩:=ai Q.length;have m:S.length=n:=by rw [<-h.len];exact hn
 rw [hn]at U hrow;have hba:=Below.aI w (.cells #[↑(),↑(),↑(),↑(),.bool false] 139);have P:Ei (av (w.alloc (.cells #[↑(),↑(),↑(),↑(),.bool false] 139)) ↑w 139 #[↑(),↑(),↑(),↑(),.bool false]):=af (av.new _ _ _);have H:=af (h.below hba);have jX:=af (U.below hba);have r:=af (hrow.below hba);have T:=af hba;have u:=af m;have rH:=af hn;have f:=af hL;rw [m]at hl;clear hba h U hrow m hn hL;go_enter Tryz.func65,Tryz.ntmps65;go_upto_region 1 with(fail);obtain⟨g,hg⟩:=ai w.heap.size;have y:=af hg;rw [hg]at P⊢;clear hg;generalize w.alloc (.cells _ 139)=w1 at*;go_wp2_with fail;go_loopw [7] (fun i w'=>∃k:Nat,i=↑k∧k<=n∧gR id 0 S=gR id k (S.drop k)∧Below ↑w1 w1 w') (fun i _=>n-(RowKit.intOf i).toNat)
 case atStart=>exact⟨0,rfl,Nat.zero_le _,by rw [List.drop_zero],Below.refl _ _⟩
 obtain⟨k,rfl,hk,s,hbz⟩:=hrel;obtain⟨ax,rfl⟩:=aj wr;have j:=af s;have F:=af hbz;have dS:=(jX.o.below hbz).MK;clear s hbz;by_cases hlt:k<n
 ·have hlt':(k:Int)<(n:Int):=by omega
  obtain⟨x,L,hq,hs,hrb⟩:=(H.o.below F.o).get (by rw [u.o];exact hlt);obtain⟨z,m6,e,_,_⟩:=r.o.at_ k x hq;rw [rH.o]at e;injection e with e1 _ bJ;subst e1;subst bJ;have q0:ax.cell? ↑(z,k)=some (.pointer ↑x):=Lu (r.o.below F.o) hq;have d:=af (akd (id:=id) hs);have Y:=af (ahh hrb (f.o L (List.mem_of_getElem? hs)) id);obtain⟨o,fb,hfo⟩:∃o b,vQ L id=(o,b):=⟨_,_,rfl⟩;rw [hfo]at Y d;clear hq hs hrb hfo;go_wp2_with fail;refine Y.o.mono ?_;rintro e w2 ⟨he,hb2⟩;obtain⟨oi,os,op,A,C⟩:=o;subst he;have q:=af hb2;have hba:=Below.aI w2 (.cells #[↑oi,↑os,↑op,↑A,↑C] 139);have D:Ei (av (w2.alloc (.cells #[↑oi,↑os,↑op,↑A,↑C] 139)) ↑w2 139 #[↑oi,↑os,↑op,↑A,↑C]):=af (av.new _ _ _);have O:=af ((ag F hb2).o.trans (hba.mono (ag F hb2).o.size));clear hb2 hba Y;simp only [aC.cells,List.toArray];cases fb with
  |false=>
   go_wp2_with fail;go_roundw
   case rel=>exact⟨k+1,dR,hlt,by rw [j.o,d.o];rfl,O.o⟩
   exact Ej
  |true=>have X:Ei (xe (gR id 0 S)= .tuple #[↑k,.agg #[↑oi,↑os,↑op,↑A,↑C],.bool true]):=af (by rw [j.o,d.o];rfl);have E:Ei (av (w2.alloc (.cells #[↑oi,↑os,↑op,↑A,↑C] 139)) g 139 #[↑(),↑(),↑(),↑(),.bool false]):=af (P.o.below O.o);have t:Ei (g<w2.heap.size):=af (Nat.lt_of_lt_of_le P.o.lt (ah F q).o.size);go_upto_region 6 with(fail);obtain⟨go,J⟩:=ai w2.heap.size;rw [J]at D t⊢;clear J q;generalize w2.alloc (.cells _ 139)=w3 at*;have c0:=D.o.cell 0;have c1:=D.o.cell 1;have c2:=D.o.cell 2;have c3:=D.o.cell 3;have G:=D.o.cell 4;refine cP (S:=fun w'=>w'.cell? ↑go=↑oi∧w'.cell? ⟨go,1,none⟩=↑os∧w'.cell? ⟨go,2,none⟩=↑op∧w'.cell? ⟨go,3,none⟩=↑A∧w'.cell? ⟨go,4,none⟩=↑C) ⟨c0,c1,c2,c3,G⟩ fun hHeld=>?_;refine eX [0,1] ?_;refine aU 2 fun K hK=>?_;go_simp;refine hK.out _ _ hHeld (fun hHeld=>?_);clear hK K;obtain⟨l0,l1,l2,l3,l4⟩:=E.o.gP;have fz:∀o,w3.frozen? ⟨g,o,none⟩=false:=fun o=>E.o.frozen o;refine aU 3 fun K hK=>?_;go_simp;clear l0 l1 l2 l3 l4 fz;have hz:=av.qc E.o ↑oi ↑os ↑op ↑A ↑C;have N:=aK.qc w3 g ↑oi ↑os ↑op ↑A ↑C;have hbz:=(ah T O).o.trans (N.below (B:=w.heap.size) (fun k hk=>by have hk2:k=g:=hk;rw [hk2];exact Nat.le_of_eq y.o) (ah T O).o.size);have J:av (((((w3.setCell ↑g ↑oi).setCell ↑(g,1) ↑os).setCell ↑(g,2) ↑op).setCell ↑(g,3) ↑A).setCell ↑(g,4) ↑C) go 139 #[↑oi,↑os,↑op,↑A,↑C]:=D.o.keeps N (fun e=>by have e2:go=g:=e;have:=t.o;omega);generalize (((((w3.setCell ↑g ↑oi).setCell ⟨g,1,none⟩ ↑os).setCell ⟨g,2,none⟩ ↑op).setCell ⟨g,3,none⟩ ↑A).setCell ⟨g,4,none⟩ ↑C)=V at*;have R:Ei (Below ↑w w V.drew):=af (hbz.drew);have I:=af hz.drew;have M:=af J.drew;clear hbz N hz J c0 c1 c2 c3 G;generalize V.drew=aA at*;have c0:=M.o.cell 0;have c1:=M.o.cell 1;have c2:=M.o.cell 2;have c3:=M.o.cell 3;have G:=M.o.cell 4;refine hK.out _ _ ⟨c0,c1,c2,c3,G⟩ (fun hHeld=>?_);clear hK K hHeld;refine dY 4 fun K hK=>?_;go_simp;refine hK.out _ _ ?_;clear hK K c0 c1 c2 c3 G;have k0:=I.o.cell 0;have k1:=I.o.cell 1;have k2:=I.o.cell 2;have Z:=I.o.cell 3;have l:=I.o.cell 4;go_wp2_with fail;refine bodyPost_ret (v:= .tuple #[↑k,.agg #[↑oi,↑os,↑op,↑A,↑C],.bool true]) (by simp [results,Tryz.results65,go_sem,k0,k1,k2,Z,l]) rfl ⟨by rw [X.o],R.o⟩
 have hkn:k=n:=bh;have X:Ei (xe (gR id 0 S)= .tuple #[↑(),.agg #[↑(),↑(),↑(),↑(),.bool false],.bool false]):=af (by rw [j.o,hkn,<-u.o,List.drop_length];rfl);have E:=af (P.o.below F.o);have R:=ah T F;clear hkn;obtain⟨l0,l1,l2,l3,l4⟩:=E.o.gP;have fz:∀o,ax.frozen? ⟨g,o,none⟩=false:=fun o=>E.o.frozen o;go_wp2_with fail;clear l0 l1 l2 l3 l4 fz;have hz:=av.qc E.o ↑() ↑() ↑() ↑() (.bool false);have N:=aK.qc ax g ↑() ↑() ↑() ↑() (.bool false);have hbz:=R.o.trans (N.below (B:=w.heap.size) (fun k hk=>by have hk2:k=g:=hk;rw [hk2];exact Nat.le_of_eq y.o) R.o.size);generalize (((((ax.setCell ↑g ↑()).setCell ⟨g,1,none⟩ ↑()).setCell ⟨g,2,none⟩ ↑()).setCell ⟨g,3,none⟩ ↑()).setCell ⟨g,4,none⟩ (.bool false))=V at*;have k0:=hz.cell 0;have k1:=hz.cell 1;have k2:=hz.cell 2;have Z:=hz.cell 3;have l:=hz.cell 4;refine bodyPost_ret (v:= .tuple #[↑(),.agg #[↑(),↑(),↑(),↑(),.bool false],.bool false]) (by simp [results,Tryz.results65,go_sem,k0,k1,k2,Z,l]) rfl ⟨by rw [X.o],hbz⟩
end
theorem Zv (side:Int) (h:side=1∨side=2) (w:World):
 Calls Tryz.prog 111 #[↑side] w fun e w'=>e= .returned (.int .i64 (3-side))∧w=w':=by
 go_enter Tryz.func111,Tryz.ntmps111;rcases h with rfl|rfl
 ·go_wp2_with fail;go_ret;exact⟨dR,cF⟩
 go_wp2_with fail;go_ret;exact⟨dR,cF⟩
theorem ZD (side x y:Int) (w:World):
 Calls Tryz.prog 135 #[↑side,↑x,↑y] w fun e w'=>e= .returned (.bool (!cT side x y))∧w=w':=by
 have A:=af (Gx side x y w);go_enter Tryz.func135,Tryz.ntmps135;go_wp2_with fail;refine A.o.mono ?_;rintro e w2 ⟨rfl,rfl⟩;go_wp2_with fail;go_ret;exact⟨by try rfl,cF⟩
def xm (p:Prod) (S:List (List aC)) (i:Nat) (id side ap aq:Int):List (List aC)×Int:=
 if(gR id 0 S).isSome=true then(S,25)else if 250<=tot S then(S,13)else if eW p i ap≠0 then(S,eW p i ap)
 else(S.set i (mT (S.getD i []) id side ap aq).1,(mT (S.getD i []) id side ap aq).2)
section
variable {W w w':World} {ps pb:Nat} {p:Prod} {Q:List Nat} {S:List (List aC)} {L L':List aC}
theorem agv (h:eH W w ps p Q S) (hl:S.length<=100) (hL:∀L∈S,L.length<=250) (ht:tot S<=100000) {i:Nat} (hi:i<S.length) (id side ap aq:Int):
 Calls Tryz.prog 113 #[.pointer ↑ps,↑i,↑id,↑side,↑ap,↑aq] w fun e w'=>e= .returned (.int .i64 (xm p S i id side ap aq).2)∧eH W w' ps p Q (xm p S i id side ap aq).1∧aK (fun g=>g∈Q) w w':=by
 have B:=af (Ep h hl hL id);have H:=af h;have s:=af hL;obtain⟨n,hn⟩:=ai Q.length;have hin:i<n:=by rw [<-hn,h.len];exact hi
 have hil:(i:Int)<(n:Int):=bh;have h0:¬(i:Int)<0:=bh;obtain⟨a,c,I,_⟩:=h.box;rw [hn]at I;have r:=I.MK;have y:=af hn;have M:=af ht;have X:=af hl;have u:=af hi;have hnb:n<=100:=by rw [<-hn,h.len];exact hl
 clear I hn h hL ht hl hi;cases hf:gR id 0 S with
 |some v=>obtain⟨j,x⟩:=v;rw [hf]at B;have A:Ei (xm p S i id side ap aq=(S,25)):=af (by unfold xm;rw [hf];rfl);clear hf;obtain⟨oi,os,op,O,U⟩:=x;unfold xe at B;simp only at B;go_enter Tryz.func113,Tryz.ntmps113;go_wp2_with fail;refine B.o.mono ?_;rintro e w2 ⟨rfl,hb2⟩;have E:Ei (aK (fun g=>g∈Q) w (w2.alloc (.cells #[↑oi,↑os,↑op,↑O,↑U] 139))):=af (Below.keeps (hb2.trans ((Below.aI w2 _).mono hb2.size)));have H2:=af ((H.o.below hb2).below (Below.aI w2 (.cells #[↑oi,↑os,↑op,↑O,↑U] 139)));clear hb2 B;go_wp2_with fail;go_ret;refine⟨?_,by rw [A.o];exact H2.o,E.o⟩;rw [A.o];first|done|rfl
 |none=>
  rw [hf]at B;have A:Ei (xm p S i id side ap aq=if 250<=tot S then(S,13)else if eW p i ap≠0 then(S,eW p i ap)else(S.set i (mT (S.getD i []) id side ap aq).1,(mT (S.getD i []) id side ap aq).2)):=af (by unfold xm;rw [hf];rfl);clear hf;unfold xe at B;simp only at B;go_enter Tryz.func113,Tryz.ntmps113;go_wp2_with fail;refine B.o.mono ?_;rintro e w2 ⟨rfl,hb2⟩;have E:Ei (aK (fun g=>g∈Q) w (w2.alloc (.cells #[↑(),↑(),↑(),↑(),.bool false] 139))):=af (Below.keeps (hb2.trans ((Below.aI w2 _).mono hb2.size)));have H2:=af ((H.o.below hb2).below (Below.aI w2 (.cells #[↑(),↑(),↑(),↑(),.bool false] 139)));clear hb2 B;go_upto_region 6 with(fail);generalize w2.alloc (.cells _ 139)=w3 at*;have C:=af (Ub H2.o X.o M.o);go_wp2_with fail;refine C.o.mono ?_;rintro e K ⟨rfl,rfl⟩;clear C;obtain⟨t,F⟩:=ai (tot S);have htb:t<=100000:=by rw [<-F];exact M.o
  rw [F]at A⊢;clear F;by_cases hfull:250<=t
  ·have Y:(250:Int)<=(t:Int):=by omega
   rw [if_pos hfull]at A;go_wp2_with fail;go_ret;refine⟨?_,by rw [A.o];exact H2.o,E.o⟩;rw [A.o];first|done|rfl
  have Y:¬(250:Int)<=(t:Int):=bh;rw [if_neg hfull]at A;obtain⟨a2,c2,R,_⟩:=H2.o.box;obtain⟨b0,b1,b2,b3,b4,bk,m,bn,b,d,l⟩:=R.rT;have D:=DM p i ap w3 (H2.o.pv.below H2.o.aJ);have D:=af D;unfold Prod.agg Prod.cells at D;clear R;go_wp2_with fail;clear b0 b1 b2 b3 b4 bk m bn b d l;refine D.o.mono ?_;rintro e K ⟨rfl,hb4⟩;have V:Ei (aK (fun g=>g∈Q) w K):=af (E.o.trans (Below.keeps hb4));have H4:=af (H2.o.below hb4);clear hb4 D E H2;obtain⟨q,hq⟩:=ai (eW p i ap);rw [hq]at A⊢;clear hq;by_cases hz:q=0
  ·subst hz;rw [if_neg (fun h=>h rfl)]at A;obtain⟨pb,L,hpq,hs,hrb⟩:=H4.o.get u.o;obtain⟨g,dH,G,P,q0⟩:=H4.o.ptr hpq;rw [y.o]at G P;have f:=G.MK;have T:=af hpq;have C:=af (ahU hrb (s.o L (List.mem_of_getElem? hs)) id side ap aq);have hgd:S.getD i []=L:=by rw [List.getD_eq_getElem?_getD,hs];rfl
   rw [hgd]at A;clear G P hrb hpq hs hgd r;go_wp2_with fail;refine C.o.mono ?_;rintro e Z ⟨rfl,N,J⟩;have H5:=af (H4.o.Qe T.o J N);have z:Ei (aK (fun g=>g∈Q) w Z):=af (V.o.trans (J.more fun k hk=>by have e:k=pb:=hk;rw [e];exact List.mem_of_getElem? T.o));clear N J C;go_wp2_with fail;go_ret;refine⟨?_,by rw [A.o];exact H5.o,z.o⟩;rw [A.o];first|done|rfl
  rw [if_pos hz]at A;go_wp2_with fail;go_ret;refine⟨?_,by rw [A.o];exact H4.o,V.o⟩;rw [A.o];first|done|rfl
end
end Go.Proofs.YtmaijkoopjocdaaGreat
