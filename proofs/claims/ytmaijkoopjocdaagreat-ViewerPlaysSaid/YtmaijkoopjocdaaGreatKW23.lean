import Derived.Test.YtmaijkoopjocdaaGreatKW19
import Derived.Test.YtmaijkoopjocdaaGreatKW14
import Derived.Test.YtmaijkoopjocdaaGreatKW22
import Derived.Test.YtmaijkoopjocdaaGreatKW21
set_option maxRecDepth 100000
set_option maxHeartbeats 64000000
namespace Go.Proofs.YtmaijkoopjocdaaGreat
open Go.RowKit Go.Lib
section
variable {W w w':World} {pv n:Nat} {hv:Value} {s:ig}
theorem Wt {B g cap:Nat} {x:aF} {t:List aF} (h:hH.Row w B (.slice ↑g (t.length+1) cap) (x::t)):
 hH.eT w (.slice (if cap=1 then some (⟨g,0,none⟩:Addr)else some ⟨g,7,none⟩) t.length (cap-1)) t:=by
 obtain⟨a,c,he,ho,hrd⟩:=h.sl;injection he with e1 _ bJ;subst e1;subst bJ;have hc:t.length+1<=cap:=ho.2.2;refine⟨if cap=1 then some (⟨g,0,none⟩:Addr)else some ⟨g,7,none⟩,cap-1,rfl,⟨fun h=>(by split at h<;>cases h),fun ad h _=>?_,bh⟩,fun j e hj=>?_⟩
 ·split at h<;>(injection h with h;subst h;exact⟨_,_,rfl⟩)
 have hjl:=dM hj;rw [if_neg bh];obtain⟨b,off,h1,h2,h3⟩:=hrd (j+1) e hj;have e1:g=b∧0=off:=by injection h1 with h1;injection h1 with x y;exact⟨x,y⟩
 obtain⟨rfl,rfl⟩:=e1;refine⟨g,7,rfl,h2,?_⟩;rw [show 7+j*hH.m=0+(j+1)*hH.m by show 7+j*7=0+(j+1)*7;omega];exact h3
structure JH (W w wr:World) (pv n:Nat) (hv:Value) (s:ig) (k:Nat) (dF:Value) (V:bG) (q:Int) (H:List aF):Prop where
 vY:fA W wr pv n dF ⟨V,q,H⟩
 kN:aK (fun g=>g=pv) w wr
 own:∀g,dF.ownBlock=some g->hv.ownBlock=some g∨w.heap.size<=g
 qO:jN H V q=jN s.H s.V s.seq
 len:H.length<=k
 vl:V.length=s.V.length
 oH:xU V
 sz:∃j,fX V j∧j+H.length<=700000
 JI:∀m∈H,Bc s.V.length m
 q0:0<=q
 q1:q<=9223372036854775807
theorem JH.Qj {wr wx:World} {k:Nat} {dF:Value} {V:bG} {q:Int} {H:List aF} (h:JH W w wr pv n hv s k dF V q H) (hb:Below ↑wr wr wx):JH W w wx pv n hv s k dF V q H:=
 ⟨h.vY.below hb,h.kN.trans (Below.keeps hb),h.own,h.qO,h.len,h.vl,h.oH,h.sz,h.JI,h.q0,h.q1⟩
theorem Wu (h:fA W w pv n hv s) (hl:s.V.length<=255) (hsz:∃j,fX s.V j∧j+s.H.length<=700000) (n7:xU s.V) (i:∀m∈s.H,Bc s.V.length m) (d:0<=s.seq) (hq1:s.seq<=9223372036854775807):
 Calls Tryz.prog 40 #[.pointer ↑pv] w fun e w'=>e= .returned (.tuple #[])∧∃dF,fA W w' pv n dF (jN s.H s.V s.seq)∧aK (fun g=>g=pv) w w'∧∀g,dF.ownBlock=some g->hv.ownBlock=some g∨w.heap.size<=g:=by
 have Ww:Ei (JH W w w pv n hv s s.H.length hv s.V s.seq s.H):=af ⟨h,aK.refl _ _,fun g hg=> .inl hg,rfl,Nat.le_refl _,rfl,n7,hsz,i,d,hq1⟩;clear h hsz n7 i d hq1;go_enter Tryz.func40,Tryz.ntmps40;go_wp2_with fail;go_loopg [] s.H.length (fun k wr=>∃(dF:Value) (V:bG) (q:Int) (H:List aF),JH W w wr pv n hv s k dF V q H)
 case atStart=>exact⟨_,_,_,_,Ww.o⟩
 clear Ww;obtain⟨hv1,V,q,H,hF⟩:=hrel;obtain⟨ax,rfl⟩:=aj wr;have A:=af hF;obtain⟨a,c,C,_⟩:=hF.vY.box;obtain⟨jO,ch,gU⟩:=hF.vY.held.form;subst gU;have jA:=af C;have d:=hF.q0;have hq1:=hF.q1;have k2:=C.Je;cases H with
 |nil=>have K:=C.Jf;clear C hF;go_wp2_with fail;go_quiet (fail);go_wp2_with fail;go_end0;refine⟨cF,_,?_,A.o.kN.trans (Below.keeps (Below.bO _ _)),A.o.own⟩;rw [<-A.o.qO];exact A.o.vY.below (Below.bO _ _)
 |cons m t=>
  have K:=C.Jf;obtain⟨g,cap,he,_,hcs⟩:=hF.vY.held.at_ 0 m rfl;injection he with eb _ eS;subst eb;subst eS;have G:iI ax g 0 [↑m.seq,↑m.inst,↑m.side,↑m.ap,↑m.aq,↑m.count,↑m.imp]:=by have:iI ax g (0*hH.m) m.cells:=hcs;rwa [Nat.zero_mul]at this
  have c0:ax.cell? ↑g=↑m.seq:=G 0 _ rfl;have c1:ax.cell? ↑(g,1)=↑m.inst:=by simpa using G 1 _ rfl
  have c2:ax.cell? ↑(g,2)=↑m.side:=by simpa using G 2 _ rfl
  have c3:ax.cell? ↑(g,3)=↑m.ap:=by simpa using G 3 _ rfl
  have dH:ax.cell? ↑(g,4)=↑m.aq:=by simpa using G 4 _ rfl
  have b8:ax.cell? ↑(g,5)=↑m.count:=by simpa using G 5 _ rfl
  have fJ:ax.cell? ↑(g,6)=↑m.imp:=by simpa using G 6 _ rfl
  have hm:=hF.JI m cU;have hs1:=hm.s1;have fD:=hm.o.seq.2;have y1:IntKind.i64.wrap (m.seq-1)=m.seq-1:=IntWalk.i64_in _ bh;have hpos:(0:Int)<(t.length:Int)+1:=bh;have amk:t.length+1<=700000:=by obtain⟨j,_,hj2⟩:=hF.sz;rw [List.length_cons]at hj2;omega
  have T:=af hm;clear C hF hcs G hm;by_cases hle:m.seq-1<=q
  ·go_wp2_with fail;go_quiet (fail);obtain⟨ay,Z⟩:=ai ax.heap.size;have tY:(ax.drewN nq).heap.size=ay:=Z;go_upto_region 2 with(fail);have ep:Below ↑ax ax ((ax.drewN nq).alloc (.cells #[↑m.seq,↑m.inst,↑m.side,↑m.ap,↑m.aq,↑m.count,↑m.imp] 86)):=(Below.bO ax nq).trans ((Below.aI (ax.drewN nq) _).mono (Nat.le_refl _));have l:=af (A.o.Qj ep);have S:av ((ax.drewN nq).alloc (.cells #[↑m.seq,↑m.inst,↑m.side,↑m.ap,↑m.aq,↑m.count,↑m.imp] 86)) ↑ax 86 #[↑m.seq,↑m.inst,↑m.side,↑m.ap,↑m.aq,↑m.count,↑m.imp]:=av.new (ax.drewN nq) _ _;rw [Z]at S;have dc:=af S;clear ep S Z tY c0 c1 c2 c3 dH b8 fJ k2 K;generalize (ax.drewN nq).alloc (.cells #[↑m.seq,↑m.inst,↑m.side,↑m.ap,↑m.aq,↑m.count,↑m.imp] 86)=N at*;obtain⟨a5,b8,cx,_⟩:=l.o.vY.box;have k2:=cx.Je;have m0:=dc.o.GC;clear cx;by_cases heq:m.seq-1=q
   ·have Y:(m.seq-1==q)=true:=by simpa using heq
    have L:Ei (jN (m::t) V q=jN t (gm m V) m.seq):=af (by conv=>{lhs;unfold jN};rw [if_pos hle,if_pos heq]);clear hle;go_quiet (fail);have D:=af (l.o.Qj (Below.bO N nq));have eD:=af (dc.o.below (Below.bO N nq));generalize N.drewN nq=X at*;clear k2 m0 heq;obtain⟨jj,sA,hj2⟩:=A.o.sz;rw [List.length_cons]at hj2;have r:=Wx D.o.vY (by have:=A.o.vl;dsimp only;omega) sA bh A.o.oH (m:=m) (by have h1:=A.o.vl;have h2:=T.o.f;rw [<-h1]at h2;exact h2);unfold aF.agg at r;have y:=af r;obtain⟨m0,m1,m2,eN,ea,eY,dV⟩:=eD.o.e4;clear r sA hj2;go_wp2_with fail;refine y.o.mono ?_;rintro e bf ⟨rfl,pH,kE⟩;have P:=af pH;have z:=af (D.o.kN.trans kE);clear pH kE y m0 m1 m2 eN ea eY dV;have C:=(P.o).box;obtain⟨a9,kp,E,_⟩:=C;have K:=E.Jf;have R:∀u:World,Below ↑bf bf u->u.cell? ↑(pv,3)=some (.slice ↑g (t.length+1) ch)∧u.frozen? ↑(pv,3)=false:=fun u hu=>⟨(E.below hu).cell 3,(E.below hu).frozen 3⟩;have I:=af R;obtain⟨off,hoff⟩:∃off,(if ch=1 then some (⟨g,0,none⟩:Addr)else some ⟨g,7,none⟩)=some ⟨g,off,none⟩:=by by_cases h:ch=1;exact⟨0,if_pos h⟩;exact⟨7,if_neg h⟩
    have htl:=Wt (P.o).held;rw [hoff]at htl;have Q:=af (T8 htl bh);have b:1<=t.length+1:=bh;have z2:1<=ch:=by have:=htl.choose_spec.choose_spec.2.1.2.2;have h2:=(P.o).held;obtain⟨_,_,e,o,_⟩:=h2.sl;injection e with _ _ bJ;rw [bJ];have:=o.2.2;rw [List.length_cons]at this;omega
    have z3:(1:Int)<=(t.length:Int)+1:=bh;have z4:t.length+1-1=t.length:=bh;clear E htl R;go_wp2_with fail;refine Q.o.mono ?_;rintro e J ⟨v9,rfl,F,B⟩;obtain⟨a8,O,rfl⟩:=F.form;have M:=(P.o).below B;have U:=af (M.Ql (F.base (B':=W.heap.size) (P.o).aJ.size));have p:=af ((z.o).trans ((Below.keeps B).trans (ct J pv 3 (.slice a8 t.length O))));have v:Ei (∀g,(Value.slice a8 t.length O).ownBlock=some g->hv.ownBlock=some g∨w.heap.size<=g):=af fun g hg=> .inr (Nat.le_trans (z.o).size (cS F g hg));have M1:=(I.o J B).1;have f9:=(I.o J B).2;clear F B M Q K hoff I b z2 z3 z4;go_wp2_with fail;go_roundg (gk-1)
    case measure=>have:=A.o.len;rw [List.length_cons]at this;omega
    refine⟨_,gm m V,m.seq,t,U.o,p.o,v.o,by rw [<-A.o.qO,L.o],by have:=A.o.len;rw [List.length_cons]at this;omega,by rw [CK];exact A.o.vl,M2 T.o.f.sd A.o.oH,by obtain⟨j,h1,h2⟩:=A.o.sz;rw [List.length_cons]at h2;exact⟨j+1,GY h1,bh⟩,fun x hx=>A.o.JI x (List.mem_cons_of_mem _ hx),by have:=T.o.s1;omega,T.o.o.seq.2⟩
   have Y:(m.seq-1==q)=false:=by rw [beq_eq_false_iff_ne];exact heq
   have L:Ei (jN (m::t) V q=jN t V q):=af (by conv=>{lhs;unfold jN};rw [if_pos hle,if_neg heq]);clear hle heq;go_quiet (fail);have D:=af (l.o.Qj (Below.bO N nq));generalize N.drewN nq=X at*;clear k2 m0;have C:=(D.o.vY).box;obtain⟨a9,kp,E,_⟩:=C;have K:=E.Jf;have R:∀u:World,Below ↑X X u->u.cell? ↑(pv,3)=some (.slice ↑g (t.length+1) ch)∧u.frozen? ↑(pv,3)=false:=fun u hu=>⟨(E.below hu).cell 3,(E.below hu).frozen 3⟩;have I:=af R;obtain⟨off,hoff⟩:∃off,(if ch=1 then some (⟨g,0,none⟩:Addr)else some ⟨g,7,none⟩)=some ⟨g,off,none⟩:=by by_cases h:ch=1;exact⟨0,if_pos h⟩;exact⟨7,if_neg h⟩
   have htl:=Wt (D.o.vY).held;rw [hoff]at htl;have Q:=af (T8 htl bh);have b:1<=t.length+1:=bh;have z2:1<=ch:=by have:=htl.choose_spec.choose_spec.2.1.2.2;have h2:=(D.o.vY).held;obtain⟨_,_,e,o,_⟩:=h2.sl;injection e with _ _ bJ;rw [bJ];have:=o.2.2;rw [List.length_cons]at this;omega
   have z3:(1:Int)<=(t.length:Int)+1:=bh;have z4:t.length+1-1=t.length:=bh;clear E htl R;go_wp2_with fail;refine Q.o.mono ?_;rintro e J ⟨v9,rfl,F,B⟩;obtain⟨a8,O,rfl⟩:=F.form;have M:=(D.o.vY).below B;have U:=af (M.Ql (F.base (B':=W.heap.size) (D.o.vY).aJ.size));have p:=af ((D.o.kN).trans ((Below.keeps B).trans (ct J pv 3 (.slice a8 t.length O))));have v:Ei (∀g,(Value.slice a8 t.length O).ownBlock=some g->hv.ownBlock=some g∨w.heap.size<=g):=af fun g hg=> .inr (Nat.le_trans (D.o.kN).size (cS F g hg));have M1:=(I.o J B).1;have f9:=(I.o J B).2;clear F B M Q K hoff I b z2 z3 z4;go_wp2_with fail;go_roundg (gk-1)
   case measure=>have:=A.o.len;rw [List.length_cons]at this;omega
   refine⟨_,V,q,t,U.o,p.o,v.o,by rw [<-A.o.qO,L.o],by have:=A.o.len;rw [List.length_cons]at this;omega,A.o.vl,A.o.oH,by obtain⟨j,h1,h2⟩:=A.o.sz;rw [List.length_cons]at h2;exact⟨j,h1,bh⟩,fun x hx=>A.o.JI x (List.mem_cons_of_mem _ hx),A.o.q0,A.o.q1⟩
  have L:Ei (jN (m::t) V q=⟨V,q,m::t⟩):=af (by unfold jN;rw [if_neg hle]);go_wp2_with fail;go_quiet (fail);go_wp2_with fail;go_end0;refine⟨cF,_,?_,A.o.kN.trans (Below.keeps (Below.bO _ _)),A.o.own⟩;rw [<-A.o.qO,L.o];exact A.o.vY.below (Below.bO _ _)
end
theorem Ds {w:World} {a:Option Addr} {n c:Nat} {L:List Int} (hn:L.length=n) (ho:DJ a n c) (h:cZ.fR w a L) (h0:0<n):(convert 37 9 (.slice a n c)).run Tryz.prog w= .ok (.string (strOfNums L)) w:=by
 cases a with
 |none=>have:L= []:=List.length_eq_zero_iff.1 (hn.trans (ho.1 rfl).1);subst this;exact run_convert_bytes_nil (P:=Tryz.prog) w _ _ Tryz.underlying37 Tryz.underlying5 n c _ Tryz.underlying9
 |some ad=>obtain⟨b,off,rfl⟩:=ho.2.1 ad rfl (by have:=ho.2.2;omega);refine run_convert_bytes_arg (P:=Tryz.prog) w _ _ Tryz.underlying37 Tryz.underlying5 b off n c L hn (fun i hi=>?_) _ Tryz.underlying9;have hi':i<L.length:=bh;obtain⟨b',off',he,_,hc⟩:=h i (L[i]) (List.getElem?_eq_getElem hi');injection he with he;injection he with h1 h2;subst h1;subst h2;have:=hc.one;rw [show off+i*cZ.m=off+i by show off+i*1=_;omega]at this;rw [this,List.getD_eq_getElem?_getD,List.getElem?_eq_getElem hi'];rfl
theorem ajC:∀{L M:List Int},(∀z∈L,isByte z)->(∀z∈M,isByte z)->strOfNums L=strOfNums M->L=M:=by
 intro L M hL A h;have h2:(L.map fun n=>UInt8.ofNat n.toNat)=(M.map fun n=>UInt8.ofNat n.toNat):=by have:=congrArg (fun s:ByteArray=>s.data.toList) h;exact this
 clear h;induction L generalizing M with
 |nil=>cases M with
  |nil=>rfl
  |cons y M=>cases h2
 |cons x L ih=>cases M with
  |nil=>cases h2
  |cons y M=>
   rw [List.map_cons,List.map_cons]at h2;injection h2 with h3 h4;have hx:=hL x (List.mem_cons_self);have hy:=A y (List.mem_cons_self);unfold isByte at hx hy;have h5:=congrArg UInt8.toNat h3;simp only [UInt8.toNat_ofNat']at h5;have:x=y:=by have e1:x.toNat % 2^8=x.toNat:=Nat.mod_eq_of_lt bh;have e2:y.toNat % 2^8=y.toNat:=Nat.mod_eq_of_lt bh;omega
   rw [this,ih (fun z hz=>hL z (List.mem_cons_of_mem _ hz)) (fun z hz=>A z (List.mem_cons_of_mem _ hz)) h4]
theorem ajD {L M:List Int} (hL:∀z∈L,isByte z) (A:∀z∈M,isByte z):((strOfNums L).toList==(strOfNums M).toList)=decide (L=M):=by
 rw [Bool.eq_iff_iff,beq_iff_eq,decide_eq_true_eq,strOfNums_toList,strOfNums_toList];constructor
 ·intro h;refine ajC hL A ?_;unfold Lib.bytesOf at h;unfold strOfNums;rw [h]
 intro h;rw [h]
def H7 (q:Int) (r:bG×Bool×bH):Int×bG×Int:=if r.2.1=true∧r.2.2.bad=false∧r.2.2.bs= []∧ql r.1=true then(0,r.1,q)else(12,[],0)
theorem H8 {b:List Int} (h:b.length<4):ld b=(14,[],0):=if_pos h
theorem Ia {b:List Int} {m:Nat} (h:b.length=m+4) (hs:r3 (rB (b.take m))≠b.drop m):ld b=(14,[],0):=by unfold ld;rw [if_neg bh,show b.length-4=m by omega,if_pos hs]
theorem Ib {b:List Int} {m:Nat} {q n:Int} {s1 s2:bH} (h:b.length=m+4) (hs:r3 (rB (b.take m))=b.drop m) (h1:(⟨b.take m,false⟩:bH).long=(q,s1)) (h2:s1.num 1=(n,s2)):ld b=H7 q (m3 n.toNat s2):=by unfold ld;rw [if_neg bh,show b.length-4=m by omega,if_neg (fun h=>h hs)];simp only [h1,h2];rfl
theorem Ig {q:Int} {V:bG} {t:bH}:H7 q (V,false,t)=(12,[],0):=if_neg (fun h=>by cases h.1)
theorem Ih {q:Int} {V:bG} {t:bH} {f:Bool} (h:¬zx t=0):H7 q (V,f,t)=(12,[],0):=if_neg fun k=>h (Po.2 fun h1=>by
 rcases h1 with h1|h1
 ·have:=k.2.1;dsimp only at this;rw [this]at h1;cases h1
 exact h1 k.2.2.1)
theorem Ii {q:Int} {V:bG} {t:bH} (h:zx t=0):H7 q (V,true,t)=if ql V=true then(0,V,q)else(12,[],0):=by
 have h1:=Po.1 h;have h2:t.bad=false:=by cases hb:t.bad with|false=>rfl|true=>exact(h1 (.inl hb)).elim
 have h3:t.bs= []:=Classical.byContradiction fun hc=>h1 (.inr hc);unfold H7;by_cases hv:ql V=true
 ·rw [if_pos ⟨rfl,h2,h3,hv⟩,if_pos hv]
 rw [if_neg (fun k=>hv k.2.2.2),if_neg hv]
theorem BT {s:bH} (h:s.ok):(mm s).1.lv.length<=255:=by
 have hb:=bH.Lm h;have e:∀(l:List aB) (t:bH),(xH l t).1.lv=l:=fun l t=>by unfold xH;split<;>rfl
 unfold mm;rw [e,Dl];omega
theorem wJ {s:bH} (h:s.ok):(mY s).2.ok:=bH.Oc (bH.Oc (bH.Oc h))
theorem BV:∀(n:Nat) {s:bH},s.ok->(oX n s).2.ok
 |0,_,h=>h
 |n+1,_,h=>BV n (wJ h)
theorem Il {l:List aB} {s:bH} (h:s.ok):(xH l s).2.2.ok:=by
 unfold xH;split
 ·exact wJ (bH.Od h)
 exact bH.Od h
theorem ajL {s:bH} (h:s.ok):(mm s).2.2.ok:=Il (BV _ (bH.Od h))
def xo (w:World) (g:Nat) (v0 v1 v2 v3 v4:Value):World:=((((w.setCell ⟨g,0,none⟩ v0).setCell ⟨g,1,none⟩ v1).setCell ⟨g,2,none⟩ v2).setCell ⟨g,3,none⟩ v3).setCell ⟨g,4,none⟩ v4
def xp (w:World) (g:Nat) (v0 v1 v2 v3 v4:Value):World:=((((w.setCell ⟨g,5,none⟩ v0).setCell ⟨g,6,none⟩ v1).setCell ⟨g,7,none⟩ v2).setCell ⟨g,8,none⟩ v3).setCell ⟨g,9,none⟩ v4
theorem aK.xo (w:World) (g:Nat) (v0 v1 v2 v3 v4:Value):aK (fun k=>k=g) w (xo w g v0 v1 v2 v3 v4):=
 ((((ct w g 0 v0).trans (ct _ g 1 v1)).trans (ct _ g 2 v2)).trans (ct _ g 3 v3)).trans (ct _ g 4 v4)
theorem aK.xp (w:World) (g:Nat) (v0 v1 v2 v3 v4:Value):aK (fun k=>k=g) w (xp w g v0 v1 v2 v3 v4):=
 ((((ct w g 5 v0).trans (ct _ g 6 v1)).trans (ct _ g 7 v2)).trans (ct _ g 8 v3)).trans (ct _ g 9 v4)
theorem av.xo {w:World} {g:Nat} {t:TypeId} {x0 x1 F G H A C B D E:Value} (h:av w g t #[x0,x1,F,G,H,A,C,B,D,E]) (v0 v1 v2 v3 v4:Value):av (Go.Proofs.YtmaijkoopjocdaaGreat.xo w g v0 v1 v2 v3 v4) g t #[v0,v1,v2,v3,v4,A,C,B,D,E]:=by have h1:=((((h.aW 0 v0).aW 1 v1).aW 2 v2).aW 3 v3).aW 4 v4;simp only [List.setIfInBounds_toArray,List.set_cons_zero,List.set_cons_succ]at h1;exact h1
theorem av.xp {w:World} {g:Nat} {t:TypeId} {x0 x1 A B C D F E G H:Value} (h:av w g t #[x0,x1,A,B,C,D,F,E,G,H]) (v0 v1 v2 v3 v4:Value):av (Go.Proofs.YtmaijkoopjocdaaGreat.xp w g v0 v1 v2 v3 v4) g t #[x0,x1,A,B,C,v0,v1,v2,v3,v4]:=by have h1:=((((h.aW 5 v0).aW 6 v1).aW 7 v2).aW 8 v3).aW 9 v4;simp only [List.setIfInBounds_toArray,List.set_cons_zero,List.set_cons_succ]at h1;exact h1
structure SQ (W w:World) (pr cI n:Nat) (s0:bH) (k:Nat) (v:Value) (f:Bool) (acc:bG) (t:bH):Prop where
 rd:iV W w pr t
 cW:av w cI 43 #[v]
 fh:cg ey bS w ↑W v acc
 e1:acc++(m3 (n-k) t).1=(m3 n s0).1
 e2:(f&&(m3 (n-k) t).2.1)=(m3 n s0).2.1
 bJ:(m3 (n-k) t).2.2=(m3 n s0).2.2
 len:acc.length=k
 le:fX acc 255
theorem cg.JZ {F:Nat->Prop} {Z:bl bB} {Y:bl aB} {w w':World} {B:Nat} {v:Value} {V:bG} (h:cg Z Y w B v V) (hk:aK F w w') (hz:∀g,v.ownBlock=some g->¬F g) (hy:∀g,ck w g Y.t->¬F g):cg Z Y w' B v V:=by obtain⟨P,h1,h2,h3⟩:=h;exact⟨P,h1.Bd hk hz,h2,fun j p x hp hx=>⟨(h3 j p x hp hx).1.keep hk hy,(h3 j p x hp hx).2.keep hk hy⟩⟩
structure wL (W w:World) (pr cI dB:Nat) (v:Value) (acc:bG) (x y:eO) (t:bH):Prop where
 rd:iV W w pr t
 cW:av w cI 43 #[v]
 fh:cg ey bS w ↑W v acc
 jP:∀g,v.ownBlock=some g->g≠dB
 bo:av w dB 50 #[.slice x.a x.n x.c,↑x.im.ap,↑x.im.aq,↑x.im.count,↑x.has,.slice y.a y.n y.c,↑y.im.ap,↑y.im.aq,↑y.im.count,↑y.has]
section
variable {W w w':World} {pr cI dB:Nat} {v:Value} {acc:bG} {x y:eO} {t t':bH}
theorem wL.read (h:wL W w pr cI dB v acc x y t) (B:cI≠pr) (A:dB≠pr) (hr:iV W w' pr t') (hk:aK (fun g=>g=pr) w w'):wL W w' pr cI dB v acc x y t':=
 ⟨hr,h.cW.keeps hk B,h.fh.keep hk (fun g hg e=>hg.ne h.rd.aE b9 e) (fun g hg e=>hg.ne h.rd.aE b9 e),h.jP,h.bo.keeps hk A⟩
theorem wL.left (h:wL W w pr cI dB v acc x y t) (A:cI≠dB) (np:pr≠dB) (hb:W.heap.size<=dB) (s:eO):wL W (xo w dB (.slice s.a s.n s.c) ↑s.im.ap ↑s.im.aq ↑s.im.count ↑s.has) pr cI dB v acc s y t:=by have hk:=aK.xo w dB (.slice s.a s.n s.c) ↑s.im.ap ↑s.im.aq ↑s.im.count ↑s.has;exact⟨h.rd.keep hk np (fun b hb e=>hb.ne h.bo.aE b9 e) (fun k hk=>by have hk2:k=dB:=hk;rw [hk2];exact hb),h.cW.keeps hk A,h.fh.JZ hk (fun g hg e=>h.jP g hg e) (fun g hg e=>hg.ne h.bo.aE b9 e),h.jP,h.bo.xo _ _ _ _ _⟩
theorem wL.right (h:wL W w pr cI dB v acc x y t) (A:cI≠dB) (np:pr≠dB) (hb:W.heap.size<=dB) (s:eO):wL W (xp w dB (.slice s.a s.n s.c) ↑s.im.ap ↑s.im.aq ↑s.im.count ↑s.has) pr cI dB v acc x s t:=by have hk:=aK.xp w dB (.slice s.a s.n s.c) ↑s.im.ap ↑s.im.aq ↑s.im.count ↑s.has;exact⟨h.rd.keep hk np (fun b hb e=>hb.ne h.bo.aE b9 e) (fun k hk=>by have hk2:k=dB:=hk;rw [hk2];exact hb),h.cW.keeps hk A,h.fh.JZ hk (fun g hg e=>h.jP g hg e) (fun g hg e=>hg.ne h.bo.aE b9 e),h.jP,h.bo.xp _ _ _ _ _⟩
theorem cg.snoc {B:Nat} {v':Value} {P:List bB} {p:bB} {d:aX×aX} (hr:ey.Row w B v' (P++ [p])) (hl:P.length=acc.length) (ho:∀(j:Nat) (p:bB) (x:aX×aX),P[j]? =some p->acc[j]? =some x->bV bS w B p.s x.1∧bV bS w B p.t x.2) (h1:bV bS w B p.s d.1) (h2:bV bS w B p.t d.2):cg ey bS w B v' (acc++ [d]):=by
 refine⟨_,hr,by rw [List.length_append,List.length_append,hl];rfl,fun j q z hq hz=>?_⟩;by_cases hj:j<P.length
 ·rw [List.getElem?_append_left hj]at hq;rw [List.getElem?_append_left bh]at hz;exact ho j q z hq hz
 rw [List.getElem?_append_right bh]at hq;rw [List.getElem?_append_right bh]at hz;have hj0:j-P.length=0:=by have:=dM hq;simp at this;omega
 rw [hj0]at hq;rw [<-hl,hj0]at hz;injection hq with hq;injection hz with hz;subst hq;subst hz;exact⟨h1,h2⟩
theorem wL.grow {wb A:World} {P:List bB} {v':Value} {d1 d2:aX} (h:wL W w pr cI dB v acc x y t) (hb:Below ↑w w wb) (hP:ey.Row wb ↑W v P) (hl:P.length=acc.length) (hs:∀(j:Nat) (p:bB) (x:aX×aX),P[j]? =some p->acc[j]? =some x->bV bS wb ↑W p.s x.1∧bV bS wb ↑W p.t x.2)
 (h1:bV bS w ↑W x d1) (h2:bV bS w ↑W y d2) (hr:ey.Row A ↑W v' (P++ [⟨x,y⟩])) (hg:wb.grownBy A v.ownBlock) (H:W.heap.size<=cI) (J:pr≠cI):
 iV W (A.setCell ↑cI v') pr t∧av (A.setCell ↑cI v') cI 43 #[v']∧cg ey bS (A.setCell ↑cI v') W.heap.size v' (acc++ [(d1,d2)])∧A.cell? ↑cI=some v∧A.frozen? ↑cI=false:=by
 have hk:=fK hg;have B:∀g,v.ownBlock=some g->ck wb g ey.t:=fun g hg=>eo hP g hg;have G:∀g,v.ownBlock=some g->W.heap.size<=g:=cS hP;have r1:=h.rd.below hb;have b1:=h.cW.below hb;have I:=r1.keep hk (fun e=>(B _ e).ne r1.aE b9 rfl) (fun b hb e=>(B _ e).ne hb b9 rfl) G;have bk:=b1.keeps hk (fun e=>(B _ e).ne b1.aE b9 rfl);have C:∀{s:eO} {d:aX},bV bS wb ↑W s d->bV bS A ↑W s d:=fun hh=>hh.keep hk (fun g hg e=>(B _ e).ne hg b9 rfl);have F:cg ey bS A ↑W v' (acc++ [(d1,d2)]):=cg.snoc hr hl (fun j p x hp hx=>⟨C (hs j p x hp hx).1,C (hs j p x hp hx).2⟩) (C (h1.below hb)) (C (h2.below hb));have E:=ct A cI 0 v';have D:=bk.aW 0 v';simp only [List.setIfInBounds_toArray,List.set_cons_zero]at D;exact⟨I.keep E J (fun b hb e=>hb.ne bk.aE b9 e) (fun k hk=>by have hk2:k=cI:=hk;rw [hk2];exact H),D,F.keep E (fun g hg e=>hg.ne bk.aE b9 e) (fun g hg e=>hg.ne bk.aE b9 e),bk.cell 0,bk.frozen 0⟩
end
theorem HW (n:Nat):madeCells (Value.agg ke.cells.toArray).cells (n*10)=((List.replicate n ke).flatMap bB.cells).toArray:=by
 apply Array.toList_inj.1;apply List.ext_getElem?;intro j;by_cases hj:j<n*10
 ·have h:=NA bB.cells 10 (fun _=>rfl) (List.replicate n ke) (j / 10) (j % 10) (by simp;omega) bh;rw [show j / 10*10+j % 10=j by omega,List.getElem_replicate]at h;show _=((List.replicate n ke).flatMap bB.cells)[j]?;rw [h];simp only [madeCells,Array.toList_map,Array.toList_range,List.getElem?_map,List.getElem?_range hj,Option.map_some];have hr:j % 10<10:=Nat.mod_lt _ bh;show some ((ke.cells.toArray)[j % 10]!)=_;generalize j % 10=r at hr;have h8:r=0∨r=1∨r=2∨r=3∨r=4∨r=5∨r=6∨r=7∨r=8∨r=9:=bh;rcases h8 with rfl|rfl|rfl|rfl|rfl|rfl|rfl|rfl|rfl|rfl<;>rfl
 have h1:(madeCells (Value.agg ke.cells.toArray).cells (n*10)).toList.length=n*10:=by rw [Array.length_toList,size_madeCells]
 rw [List.getElem?_eq_none bh,List.getElem?_eq_none (by show((List.replicate n ke).flatMap bB.cells).length<=j;rw [mK bB.cells 10 (fun _=>rfl)];simp;omega)]
theorem cg.made {Z:bl bB} {Y:bl aB} (w:World) (hZ:Z.cells=bB.cells) (hm:Z.m=10) (n:Nat) (hn:n<=255):cg Z Y (w.alloc (.cells ((List.replicate n ke).flatMap bB.cells).toArray Z.t)) ↑w (.slice ↑w.heap.size n n) (List.replicate n (vI,vI)):=by
 refine⟨List.replicate n ke,?_,cU,fun j p x hp hx=>?_⟩
 ·unfold bl.Row;rw [hZ,hm,List.length_replicate];have hfl:((List.replicate n ke).flatMap bB.cells).length=n*10:=by rw [mK bB.cells 10 (fun _=>rfl),List.length_replicate]
  exact⟨hfl,.inr ⟨w.heap.size,n,_,rfl,Nat.le_refl _,av.new w _ _,Nat.le_refl _,by unfold maxLen;omega,by rw [List.size_toArray,hfl],by rw [List.take_of_length_le (by rw [hfl];exact Nat.le_refl _)]⟩⟩
 rw [List.getElem?_replicate]at hp hx;split at hp
 ·injection hp with hp;rw [if_pos (by assumption)]at hx;injection hx with hx;subst hp;subst hx;exact⟨bV.zero _ _,bV.zero _ _⟩
 cases hp
theorem agx:(Tryz.prog.info? 50).map (fun i=>(i.zero,i.size,i.bytes))=some (some (.agg ke.cells.toArray),10,112):=eP
theorem X9 {n:Nat} (h:n<=6):nR n<=21:=by have:n=0∨n=1∨n=2∨n=3∨n=4∨n=5∨n=6:=bh;rcases this with rfl|rfl|rfl|rfl|rfl|rfl|rfl<;>decide
theorem Xn (p:Prod) (w:World) (hp:gM w p) (hz:cR p=0):
 Calls Tryz.prog 10 #[p.agg] w fun e w'=>∃pv,e= .returned (.tuple #[.pointer (some ⟨pv,0,none⟩),↑()])∧fA w w' pv (nR p.months.length) (.slice none 0 0) (rM (nR p.months.length)):=by
 unfold Prod.agg Prod.cells;have D:Ei (Below ↑w w (w.alloc (.cells ↑p 25))):=af (Below.aI _ _);have H:Ei (PC (w.alloc (.cells ↑p 25)) ↑w p):=af (PC.new w p);have E:Ei (w.heap.size<(w.alloc (.cells ↑p 25)).heap.size):=af cU;have F:=af (hp.below D.o);have A:=T6 p _ F.o;unfold Prod.agg Prod.cells at A;rw [hz]at A;have O:=af A;have c:=X9 (pI hz).2;have I:Ei (countP p=nR p.months.length):=af (if_pos hz);obtain⟨i0,hi,L,hz1,M⟩:=info_parts agx;have hmk:=fun w=>run_makeSlice (P:=Tryz.prog) w 41 50 i0 _ Tryz.underlying41 hi L .i64 .i64 (nR p.months.length) (nR p.months.length) bh bh (by rw [hz1];omega) (by rw [M];omega) bh;rw [hz1,Int.toNat_natCast,HW]at hmk;have G:=af hmk;obtain⟨n,hn⟩:=ai (nR p.months.length);rw [hn]at G I c⊢;clear hp A hz hi L hz1 M hmk hn;go_enter Tryz.func10,Tryz.ntmps10;go_wp2_with fail;refine O.o.mono ?_;rintro e w1 ⟨rfl,hb1⟩;have K:=ag D hb1;obtain⟨b0,b1,b2,b3,b4,bk,W,bn,R,T,U⟩:=H.o.below hb1 E.o;have Q:=af (F.o.below hb1);have X:w.heap.size<w1.heap.size:=Nat.lt_of_lt_of_le E.o hb1.size;have B:=Z4 p w1 Q.o;unfold Prod.agg Prod.cells at B;rw [I.o]at B;have N:=af B;clear B hb1 O;go_wp2_with fail;refine N.o.mono ?_;rintro e w2 ⟨rfl,hb2⟩;have C:=ag K hb2;clear hb2 N b0 b1 b2 b3 b4 bk W bn R T U Q K X D H E F;have hmk:=G.o w2;go_wp2_with fail;go_ret2;have b:=cg.made (Z:=ey) (Y:=bS) w2 rfl rfl n bh;have hb3:=Below.aI w2 (.cells ((List.replicate n ke).flatMap bB.cells).toArray 50);have hb4:=Below.aI (w2.alloc (.cells ((List.replicate n ke).flatMap bB.cells).toArray 50)) (.cells #[↑n,.slice ↑w2.heap.size n n,↑(),.slice none 0 0] 90);have J:=av.new (w2.alloc (.cells ((List.replicate n ke).flatMap bB.cells).toArray 50)) 90 #[↑n,.slice ↑w2.heap.size n n,↑(),.slice none 0 0];rw [show(w2.alloc (.cells ((List.replicate n ke).flatMap bB.cells).toArray 50)).heap.size=w2.heap.size+1 by simp]at J;have hlen:(rM n).V.length=n:=List.length_replicate;have S:=C.o.size;refine⟨_,rfl,⟨some ⟨w2.heap.size,0,none⟩,n,?_,?_⟩,bl.Row.nil _ _,bh,C.o.trans ((hb3.trans (hb4.mono hb3.size)).mono C.o.size)⟩
 ·rw [hlen];exact J
 rw [hlen];exact(b.below hb4).base S
structure sM (W w:World) (pw:Nat) (hw:Value) (s:ig):Prop where
 box:∃(a:Option Addr) (c:Nat),av w pw 116 #[.slice a s.V.length c,↑s.seq,hw]∧cg eJ bK w ↑W (.slice a s.V.length c) s.V
 held:hH.Row w ↑W hw s.H
 base:W.heap.size<=pw
 aJ:Below ↑W W w
section
variable {W w w':World} {pw:Nat} {hw:Value} {s:ig}
theorem sM.keep {F:Nat->Prop} (h:sM W w pw hw s) (hk:aK F w w') (hp:¬F pw) (hh:∀g,hw.ownBlock=some g->¬F g) (hy:∀g,ck w g eJ.t->¬F g) (hz:∀g,ck w g bK.t->¬F g) (hF:∀g,F g->W.heap.size<=g):sM W w' pw hw s:=by obtain⟨⟨a,c,h1,h2⟩,h3,h4,h5⟩:=h;exact⟨⟨a,c,h1.keeps hk hp,h2.keep hk hy hz⟩,h3.Bd hk hh,h4,h5.trans (hk.below hF h5.size)⟩
theorem sM.below (h:sM W w pw hw s) (hb:Below ↑w w w'):sM W w' pw hw s:=
 h.keep (F:=fun _=>False) (Below.keeps hb) (fun x=>x) (fun _ _ x=>x) (fun _ _ x=>x) (fun _ _ x=>x) (fun _ x=>x.elim)
theorem sM.Sb (h:sM W w pw hw s) (q:Int):sM W (w.setCell ↑(pw,1) ↑q) pw hw ⟨s.V,q,s.H⟩:=by obtain⟨⟨a,c,h1,h2⟩,h3,h4,h5⟩:=h;have hk:=ct w pw 1 ↑q;have hb:=h1.aW 1 ↑q;simp only [List.setIfInBounds_toArray,List.set_cons_zero,List.set_cons_succ]at hb;exact⟨⟨a,c,hb,h2.keep hk (fun g hg e=>hg.ne h1.aE b9 e) (fun g hg e=>hg.ne h1.aE b9 e)⟩,h3.keep hk (fun g hg e=>hg.ne h1.aE b9 e),h4,h5.setCell (p:=⟨pw,1,none⟩) h4 _⟩
theorem sM.Sc {V:bG} {a:Option Addr} {c:Nat} (h:sM W w pw hw s) (A:cg eJ bK w ↑W (.slice a V.length c) V):sM W (w.setCell ↑pw (.slice a V.length c)) pw hw ⟨V,s.seq,s.H⟩:=by obtain⟨⟨a0,c0,h1,h2⟩,h3,h4,h5⟩:=h;have hk:=ct w pw 0 (.slice a V.length c);have hb:=h1.aW 0 (.slice a V.length c);simp only [List.setIfInBounds_toArray,List.set_cons_zero]at hb;exact⟨⟨a,c,hb,A.keep hk (fun g hg e=>hg.ne h1.aE b9 e) (fun g hg e=>hg.ne h1.aE b9 e)⟩,h3.keep hk (fun g hg e=>hg.ne h1.aE b9 e),h4,h5.setCell (p:=⟨pw,0,none⟩) h4 _⟩
theorem sM.Ql {H:List aF} {hw':Value} (h:sM W w pw hw s) (hr:hH.Row w ↑W hw' H):sM W (w.setCell ↑(pw,2) hw') pw hw' ⟨s.V,s.seq,H⟩:=by obtain⟨⟨a,c,h1,h2⟩,h3,h4,h5⟩:=h;have hk:=ct w pw 2 hw';have hb:=h1.aW 2 hw';simp only [List.setIfInBounds_toArray,List.set_cons_zero,List.set_cons_succ]at hb;exact⟨⟨a,c,hb,h2.keep hk (fun g hg e=>hg.ne h1.aE b9 e) (fun g hg e=>hg.ne h1.aE b9 e)⟩,hr.keep hk (fun g hg e=>hg.ne h1.aE b9 e),h4,h5.setCell (p:=⟨pw,2,none⟩) h4 _⟩
theorem asb:(Tryz.prog.info? 104).map (fun i=>(i.zero,i.size,i.bytes))=some (some (.agg ke.cells.toArray),10,112):=eP
theorem HX (p:Prod):∃n:Nat,countP p=n∧n<=21:=by
 unfold countP;split
 ·rename_i h;exact⟨_,rfl,X9 (pI h).2⟩
 exact⟨0,rfl,b9⟩
theorem asc (p:Prod) (w:World) (hp:gM w p):
 Calls Tryz.prog 22 #[p.agg] w fun e w'=>∃pw,e= .returned (.pointer (some ⟨pw,0,none⟩))∧sM w w' pw (.slice none 0 0) (rM (countP p).toNat):=by
 obtain⟨n,hn,J⟩:=HX p;have C:Ei (Below ↑w w (w.alloc (.cells ↑p 25))):=af (Below.aI _ _);have H:=af (hp.below C.o);have A:=KA p _ H.o;unfold Prod.agg Prod.cells at A⊢;rw [hn]at A⊢;rw [Int.toNat_natCast];have G:=af A;obtain⟨i0,hi,E,hz1,F⟩:=info_parts asb;have hmk:=fun w=>run_makeSlice (P:=Tryz.prog) w 52 104 i0 _ Tryz.underlying52 hi E .i64 .i64 n n bh bh (by rw [hz1];omega) (by rw [F];omega) bh;rw [hz1,Int.toNat_natCast,HW]at hmk;have I:=af hmk;clear hp A hi E hz1 F hmk hn;go_enter Tryz.func22,Tryz.ntmps22;go_wp2_with fail;refine G.o.mono ?_;rintro e w2 ⟨rfl,hb2⟩;have B:=ag C hb2;clear hb2 G C H;have hmk:=I.o w2;go_wp2_with fail;go_ret;have L:=cg.made (Z:=eJ) (Y:=bK) w2 rfl rfl n bh;have hb3:=Below.aI w2 (.cells ((List.replicate n ke).flatMap bB.cells).toArray 104);have hb4:=Below.aI (w2.alloc (.cells ((List.replicate n ke).flatMap bB.cells).toArray 104)) (.cells #[.slice ↑w2.heap.size n n,↑(),.slice none 0 0] 116);have D:=av.new (w2.alloc (.cells ((List.replicate n ke).flatMap bB.cells).toArray 104)) 116 #[.slice ↑w2.heap.size n n,↑(),.slice none 0 0];rw [show(w2.alloc (.cells ((List.replicate n ke).flatMap bB.cells).toArray 104)).heap.size=w2.heap.size+1 by simp]at D;have hlen:(rM n).V.length=n:=List.length_replicate;have K:=B.o.size;refine⟨_,rfl,⟨some ⟨w2.heap.size,0,none⟩,n,?_,?_⟩,bl.Row.nil _ _,bh,B.o.trans ((hb3.trans (hb4.mono hb3.size)).mono B.o.size)⟩
 ·rw [hlen];exact D
 rw [hlen];exact(L.below hb4).base K
def fF (q:Int):Nat->List aF->Int
 |_,[]=> -1
 |k,m::t=>if m.seq=q then(k:Int)else fF q (k+1) t
theorem vG (q:Int):∀(H:List aF) (k:Nat),fF q k H=match H.findIdx? (fun m=>m.seq==q)with|none=> -1|some j=>((k+j:Nat):Int)
 | [],_=>rfl
 |m::t,k=>by
  unfold fF;rw [List.findIdx?_cons,vG q t (k+1)];by_cases h:m.seq=q
  ·have hb:(m.seq==q)=true:=by rw [beq_iff_eq];exact h
   rw [if_pos h,hb];simp
  have hb:(m.seq==q)=false:=by rw [beq_eq_false_iff_ne];exact h
  rw [if_neg h,hb];cases t.findIdx? (fun m=>m.seq==q)with
  |none=>rfl
  |some j=>show((k+1+j:Nat):Int)=((k+(j+1):Nat):Int);rw [show k+1+j=k+(j+1)by omega]
theorem zj (h:sM W w pw hw s) (hl:s.H.length<=500000) (q:Int):
 Calls Tryz.prog 56 #[.pointer ↑pw,↑q] w fun e w'=>e= .returned (.int .i64 (fF q 0 s.H))∧w=w':=by
 obtain⟨a0,c0,B,_⟩:=h.box;obtain⟨M,ch,rfl⟩:=h.held.form;have N:=af B;have L:=af h.held;have b2:=B.Je;clear B h;go_enter Tryz.func56,Tryz.ntmps56;go_wp2_with fail;go_loopw [5] (fun i w'=>∃k:Nat,i=↑k∧k<=s.H.length∧fF q 0 s.H=fF q k (s.H.drop k)∧w=w') (fun i _=>s.H.length-(RowKit.intOf i).toNat)
 case atStart=>exact⟨0,rfl,Nat.zero_le _,rfl,cF⟩
 obtain⟨k,rfl,hk,F,rfl⟩:=hrel;have C:=af F;clear F;by_cases hlt:k<s.H.length
 ·have hlt':(k:Int)<(s.H.length:Int):=by omega
  obtain⟨x,hx⟩:=GB s.H k hlt;obtain⟨bE,cap,he,_,D⟩:=L.o.at_ k x hx;injection he with K _ J;subst K;subst J;have x0:w.cell? ↑(bE,k*7)=↑x.seq:=D 0 _ rfl;have G:Ei (fF q k (s.H.drop k)=if x.seq=q then(k:Int)else fF q (k+1) (s.H.drop (k+1))):=af (by obtain⟨h1,h2⟩:=lB hx;rw [List.drop_eq_getElem_cons h1,h2];rfl);clear D hx;by_cases hq:x.seq=q
  ·have A:Ei (fF q 0 s.H=k):=af (by rw [C.o,G.o,if_pos hq]);have I:(x.seq==q)=true:=by rw [beq_iff_eq];exact hq
   clear hq;go_wp2_with fail;go_ret;exact⟨by rw [A.o];try rfl,cF⟩
  have A:Ei (fF q 0 s.H=fF q (k+1) (s.H.drop (k+1))):=af (by rw [C.o,G.o,if_neg hq]);have I:(x.seq==q)=false:=by rw [beq_eq_false_iff_ne];exact hq
  clear hq;go_wp2_with fail;go_roundw
  case rel=>exact⟨k+1,dR,hlt,A.o,cF⟩
  exact Ej
 have E:k=s.H.length:=bh;have A:Ei (fF q 0 s.H= -1):=af (by rw [C.o,E,List.drop_length];rfl);clear E;go_wp2_with fail;go_ret;exact⟨by rw [A.o];try rfl,cF⟩
end
structure dK where
 h0:Bool
 h1:Bool
 jh:Int
 p1:Int
 q0:Int
 q1:Int
deriving DecidableEq
structure dg where
 ap:Int
 aq:Int
 i0:Int
 s0:Int
 i1:Int
 s1:Int
deriving DecidableEq
def dK.cells (x:dK):List Value:= [.bool x.h0,.bool x.h1,.int .i64 x.jh,.int .i64 x.p1,.int .i64 x.q0,.int .i64 x.q1]
def dg.cells (x:dg):List Value:= [.int .i64 x.ap,.int .i64 x.aq,.int .i64 x.i0,.int .i64 x.s0,.int .i64 x.i1,.int .i64 x.s1]
def WE:dK:=⟨false,false,0,0,0,0⟩
def v7:dg:=⟨0,0,0,0,0,0⟩
theorem dK.kI (x:dK):∀u∈x.cells,u.oneCell'=true:=by intro u hu;simp only [dK.cells,List.mem_cons,List.not_mem_nil,or_false]at hu;rcases hu with rfl|rfl|rfl|rfl|rfl|rfl<;>rfl
theorem dg.kI (x:dg):∀u∈x.cells,u.oneCell'=true:=by intro u hu;simp only [dg.cells,List.mem_cons,List.not_mem_nil,or_false]at hu;rcases hu with rfl|rfl|rfl|rfl|rfl|rfl<;>rfl
def qW:bl dK:=⟨dK.cells,6,fun _=>rfl,dK.kI,bh,185,125,.agg WE.cells.toArray,40,Tryz.underlying125,eP,dn,bh⟩
def kz:bl dg:=⟨dg.cells,6,fun _=>rfl,dg.kI,bh,192,132,.agg v7.cells.toArray,48,Tryz.underlying132,eP,dn,bh⟩
def dK.has (x:dK) (k:Int):Bool:=if k=1 then x.h0 else x.h1
def dK.ap (x:dK) (k:Int):Int:=if k=1 then x.jh else x.p1
def dK.aq (x:dK) (k:Int):Int:=if k=1 then x.q0 else x.q1
structure dK.ok (x:dK):Prop where
 jh:cz x.jh
 p1:cz x.p1
 q0:cz x.q0
 q1:cz x.q1
def qh (L:List dK) (dA sa bi cr:Int) (less:Bool):Option dg:=
 match L[dA.toNat]?,L[bi.toNat]? with
 |some x,some y=>
  if x.has sa=true∧y.has cr=true then
   let r:=if less=true then qX (y.ap cr) (x.ap sa)else rN (x.ap sa) (y.ap cr)
   if r.2=true then some ⟨r.1,min (x.aq sa) (y.aq cr),dA,sa,bi,cr⟩else none
  else none
 |_,_=>none
theorem afd (s:Int) (w:World):
 Calls Tryz.prog 111 #[↑s] w fun e w'=>e= .returned (.int .i64 (wrap64 (3-s)))∧w=w':=by
 go_enter Tryz.func111,Tryz.ntmps111;go_wp2_with fail;go_ret;exact⟨cF,cF⟩
def WG (w:World) (b o:Nat) (x:dK):Prop:=w.cell? ⟨b,o,none⟩=some (.bool x.h0)∧w.cell? ⟨b,o+1,none⟩=some (.bool x.h1)∧w.cell? ⟨b,o+2,none⟩=some (.int .i64 x.jh)∧w.cell? ⟨b,o+3,none⟩=some (.int .i64 x.p1)∧w.cell? ⟨b,o+4,none⟩=some (.int .i64 x.q0)∧w.cell? ⟨b,o+5,none⟩=some (.int .i64 x.q1)
theorem iI.tp {w:World} {b o:Nat} {x:dK} (h:iI w b o x.cells):WG w b o x:=⟨h 0 _ rfl,h 1 _ rfl,h 2 _ rfl,h 3 _ rfl,h 4 _ rfl,h 5 _ rfl⟩
theorem dK.WH (x:dK) {k:Nat} (hk:k<2):x.cells.toArray[k]? =some (.bool (x.has (k+1))):=by have:k=0∨k=1:=bh;rcases this with rfl|rfl<;>rfl
theorem dK.GZ (x:dK) {k:Nat} (hk:k<2):x.cells.toArray[2+k]? =some (.int .i64 (x.ap (k+1))):=by have:k=0∨k=1:=bh;rcases this with rfl|rfl<;>rfl
theorem dK.WI (x:dK) {k:Nat} (hk:k<2):x.cells.toArray[4+k]? =some (.int .i64 (x.aq (k+1))):=by have:k=0∨k=1:=bh;rcases this with rfl|rfl<;>rfl
theorem dK.ok.ap {x:dK} (h:x.ok) (k:Int):cz (x.ap k):=by
 unfold dK.ap;split
 ·exact h.jh
 exact h.p1
theorem WJ {L:List dK} {A bi:Nat} {sa cr:Int} {less:Bool} {x y:dK} (hx:L[A]? =some x) (hy:L[bi]? =some y):qh L A sa bi cr less=
 if x.has sa=true∧y.has cr=true then(if(if less=true then qX (y.ap cr) (x.ap sa)else rN (x.ap sa) (y.ap cr)).2=true then some ⟨(if less=true then qX (y.ap cr) (x.ap sa)else rN (x.ap sa) (y.ap cr)).1,min (x.aq sa) (y.aq cr),A,sa,bi,cr⟩else none)else none:=by
 unfold qh;simp only [Int.toNat_natCast,hx,hy]
theorem M4 (w:World) (t1 t2:TypeId) (c1 c2:Array Value):av ((w.alloc (.cells c1 t1)).alloc (.cells c2 t2)) ↑w t1 c1∧av ((w.alloc (.cells c1 t1)).alloc (.cells c2 t2)) (w.heap.size+1) t2 c2∧Below ↑w w ((w.alloc (.cells c1 t1)).alloc (.cells c2 t2)):=by have s1:=ak;refine⟨(av.new _ _ _).alloc _,?_,(Below.aI _ _).alloc (by rw [s1];omega) _⟩;have:=av.new (w.alloc (.cells c1 t1)) t2 c2;rw [s1]at this;exact this
def qY (p:Prod) (L:List dK) (i:Nat) (side:Int):Nat->List dg
 |0=> []
 |k+1=>qY p L i side k++(qh L (rO p (i:Int) ((i+1+k:Nat):Int)).1 side ((i+1+k:Nat):Int) side false).toList
def uC (p:Prod) (L:List dK) (i:Nat) (side:Int):Nat->List dg
 |0=> []
 |k+1=>uC p L i side k++(qh L (rO p (k:Int) (i:Int)).1 (3-side) (k:Int) side true).toList
def CL (p:Prod) (L:List dK) (inst side:Int):Prop:=countP p=0∨(L.length:Int)≠countP p∨inst<0∨countP p<=inst∨(side≠1∧side≠2)
instance (p:Prod) (L:List dK) (inst side:Int):Decidable (CL p L inst side):=by unfold CL;infer_instance
def G0 (q:dg):dg:=⟨q.ap,q.aq,q.i1,q.s1,q.i0,q.s0⟩
def oM (p:Prod) (L:List dK) (inst side:Int):List dg:=
 if CL p L inst side then []else
 if(gf p inst).2.2=true then((qh L (gf p inst).2.1 (3-side) (gf p inst).1 side true).map G0).toList
 else qY p L inst.toNat side (p.months.length-(inst.toNat+1))++uC p L inst.toNat side inst.toNat
theorem Qn {α:Type} (o:Option α):o.toList.length<=1:=by cases o<;>simp
theorem Qo (p:Prod) (L:List dK) (i:Nat) (side:Int) (k:Nat):(qY p L i side k).length<=k:=by
 induction k with
 |zero=>simp [qY]
 |succ k ih=>have:=Qn (qh L (rO p (i:Int) ((i+1+k:Nat):Int)).1 side ((i+1+k:Nat):Int) side false);simp only [qY,List.length_append];omega
theorem WK (p:Prod) (L:List dK) (i:Nat) (side:Int) (k:Nat):(uC p L i side k).length<=k:=by
 induction k with
 |zero=>simp [uC]
 |succ k ih=>have:=Qn (qh L (rO p (k:Int) (i:Int)).1 (3-side) (k:Int) side true);simp only [uC,List.length_append];omega
theorem M5 {p:Prod} (hz:cR p=0) {i j:Nat} (hij:i<j) (hj:j<p.months.length):∃a:Nat,rO p (i:Int) (j:Int)=((a:Int),true)∧p.months.length<=a∧(a:Int)<countP p:=by
 have hl:=pI hz;have hok:JN p (i:Int) (j:Int):=⟨bh,bh,bh⟩;refine⟨p.months.length+k4 p.months.length i+(j-i-1),?_,bh,?_⟩
 ·unfold rO;rw [if_pos ⟨hz,hok⟩,Int.toNat_natCast]
  congr 1
  omega
 rw [yt hz];have he:=M6 p.months.length hl.2;have hs:=JO p.months.length i;have hm:=M7 p.months.length (bh:i+1<=p.months.length);omega
theorem afe (s:Int) (w:World) (hs:s=1∨s=2):
 Calls Tryz.prog 111 #[↑s] w fun e w'=>e= .returned (.int .i64 (3-s))∧w=w':=by
 have h:=afd s w;have e:wrap64 (3-s)=3-s:=by rw [<-IntWalk.i64_left];exact IntWalk.i64_in _ (by rcases hs with rfl|rfl<;>omega)
 rw [e]at h;exact h
end Go.Proofs.YtmaijkoopjocdaaGreat
