import Derived.Test.YtmaijkoopjocdaaGreatKW46
import Derived.Deep.Slices
import Derived.Deep.Fields
import Derived.ChangeSame
import Derived.OpenShut
set_option maxRecDepth 100000
set_option maxHeartbeats 64000000
namespace Go.Proofs.YtmaijkoopjocdaaGreat
open Go.RowKit Go.Lib
theorem agc {p:Prod} {S:List (List aC)} {k:Nat} (h:k<S.length):(dz p S)[k]? =some (lG p S k 1,lG p S k 2):=by unfold dz;rw [List.getElem?_map,List.getElem?_range h];rfl
theorem bl.Row.XU {α:Type} {Y:bl α} {w:World} {B n c:Nat} {a:Option Addr} {L:List α} (h:Y.Row w B (.slice a n c) L):Y.fR w a L:=by obtain⟨a',c',hv,_,hr⟩:=h.rd;injection hv with hv;rw [hv];exact hr
structure zY (w wr:World) (p:Prod) (aR c5 bt:Nat) (tJ v:Value) (T:List dK) (acc:bG):Prop where
 ek:av wr aR 25 p.cells
 b4:av wr c5 54 #[.slice none 0 0]
 bk:av wr bt 54 #[v]
 wq:qW.Row wr ↑w tJ T
 fh:cg eJ bK wr ↑w v acc
 aJ:Below ↑w w wr
 lT:w.heap.size<=c5
 qi:w.heap.size<=bt
 n45:c5≠bt
structure yB (w wr:World) (p:Prod) (aR c5 bt:Nat) (tJ v:Value) (T:List dK) (acc:bG) (cB:Nat) (x y:eO):Prop where
 i:zY w wr p aR c5 bt tJ v T acc
 bo:av wr cB 104 #[.slice x.a x.n x.c,↑x.im.ap,↑x.im.aq,↑x.im.count,↑x.has,.slice y.a y.n y.c,↑y.im.ap,↑y.im.aq,↑y.im.count,↑y.has]
 jP:∀g,v.ownBlock=some g->g≠cB
 tK:w.heap.size<=cB
section
variable {W w wr wr':World} {p:Prod} {aR c5 bt cB ps pb:Nat} {tJ v:Value} {T:List dK} {acc:bG} {x y x' y':eO} {Q:List Nat} {S:List (List aC)}
theorem zY.keep {F:Nat->Prop} (h:zY w wr p aR c5 bt tJ v T acc) (hk:aK F wr wr') (hF:∀g,F g->w.heap.size<=g) (hi:¬F aR) (h2:¬F c5) (h3:¬F bt) (hv:∀g,v.ownBlock=some g->¬F g) (hl:∀g,ck wr g bK.t->¬F g) (ht:∀g,ck wr g qW.t->¬F g):zY w wr' p aR c5 bt tJ v T acc:=
 ⟨h.ek.keeps hk hi,h.b4.keeps hk h2,h.bk.keeps hk h3,h.wq.keep hk ht,h.fh.JZ hk hv hl,h.aJ.trans (hk.below hF h.aJ.size),h.lT,h.qi,h.n45⟩
theorem zY.below (h:zY w wr p aR c5 bt tJ v T acc) (hb:Below ↑wr wr wr'):zY w wr' p aR c5 bt tJ v T acc:=
 h.keep (F:=fun _=>False) (Below.keeps hb) (fun _ x=>x.elim) (fun x=>x) (fun x=>x) (fun x=>x) (fun _ _ x=>x) (fun _ _ x=>x) (fun _ _ x=>x)
theorem yB.below (h:yB w wr p aR c5 bt tJ v T acc cB x y) (hb:Below ↑wr wr wr'):yB w wr' p aR c5 bt tJ v T acc cB x y:=⟨h.i.below hb,h.bo.below hb,h.jP,h.tK⟩
theorem yB.put (h:yB w wr p aR c5 bt tJ v T acc cB x y) (hk:aK (fun g=>g=cB) wr wr') (hb:av wr' cB 104 #[.slice x'.a x'.n x'.c,↑x'.im.ap,↑x'.im.aq,↑x'.im.count,↑x'.has,.slice y'.a y'.n y'.c,↑y'.im.ap,↑y'.im.aq,↑y'.im.count,↑y'.has]):yB w wr' p aR c5 bt tJ v T acc cB x' y':=
 ⟨h.i.keep hk (fun g e=>by have e2:g=cB:=e;rw [e2];exact h.tK) (fun e=>h.i.ek.aE.ne h.bo.aE b9 e) (fun e=>h.i.b4.aE.ne h.bo.aE b9 e) (fun e=>h.i.bk.aE.ne h.bo.aE b9 e) (fun g hg e=>h.jP g hg e) (fun g hg e=>hg.ne h.bo.aE b9 e) (fun g hg e=>hg.ne h.bo.aE b9 e),hb,h.jP,h.tK⟩
theorem bV.QY {s:eO} {d:aX} (h:bV bK wr ↑w s d) (hs:yB w wr p aR c5 bt tJ v T acc cB x y) (hk:aK (fun g=>g=cB) wr wr'):bV bK wr' ↑w s d:=
 h.keep hk fun g hg e=>hg.ne hs.bo.aE b9 e
theorem yB.grow {wb A:World} {P:List bB} {v':Value} {d1 d2:aX} (h:yB w wr p aR c5 bt tJ v T acc cB x y) (hb:Below ↑wr wr wb) (hP:eJ.Row wb ↑w v P) (hl:P.length=acc.length) (hs:∀(j:Nat) (p:bB) (x:aX×aX),P[j]? =some p->acc[j]? =some x->bV bK wb ↑w p.s x.1∧bV bK wb ↑w p.t x.2)
 (h1:bV bK wr ↑w x d1) (h2:bV bK wr ↑w y d2) (hr:eJ.Row A ↑w v' (P++ [⟨x,y⟩])) (hg:wb.grownBy A v.ownBlock):
 zY w (A.setCell ↑bt v') p aR c5 bt tJ v' T (acc++ [(d1,d2)])∧A.cell? ↑bt=some v∧A.frozen? ↑bt=false:=by
 have hk:=fK hg;have C:∀g,v.ownBlock=some g->ck wb g eJ.t:=fun g hg=>eo hP g hg;have L:∀g,v.ownBlock=some g->w.heap.size<=g:=cS hP;have i1:=h.i.below hb;have E:∀{s:eO} {d:aX},bV bK wb ↑w s d->bV bK A ↑w s d:=fun hh=>hh.keep hk (fun g hg e=>(C _ e).ne hg b9 rfl);have J:cg eJ bK A ↑w v' (acc++ [(d1,d2)]):=cg.QC hr hl (fun j p x hp hx=>⟨E (hs j p x hp hx).1,E (hs j p x hp hx).2⟩) (E (h1.below hb)) (E (h2.below hb));have H:=i1.ek.keeps hk (fun e=>(C _ e).ne i1.ek.aE b9 rfl);have F:=i1.b4.keeps hk (fun e=>(C _ e).ne i1.b4.aE b9 rfl);have B:=i1.bk.keeps hk (fun e=>(C _ e).ne i1.bk.aE b9 rfl);have G:=i1.wq.keep hk (fun g hg e=>(C _ e).ne hg b9 rfl);have K:=i1.aJ.trans (hk.below L i1.aJ.size);have D:=ct A bt 0 v';have I:=B.aW 0 v';simp only [List.setIfInBounds_toArray,List.set_cons_zero]at I;exact⟨⟨H.keeps D (fun e=>H.aE.ne B.aE b9 e),F.keeps D h.i.n45,I,G.keep D (fun g hg e=>hg.ne B.aE b9 e),J.keep D (fun g hg e=>hg.ne B.aE b9 e) (fun g hg e=>hg.ne B.aE b9 e),K.setCell (p:=⟨bt,0,none⟩) h.i.qi _,h.i.lT,h.i.qi,h.i.n45⟩,B.cell 0,B.frozen 0⟩
theorem XW (h:eH W w ps p Q S) (hz:cR p=0) (hS:ei p S):
 Calls Tryz.prog 28 #[p.agg,.pointer ↑ps] w fun e w'=>∃v',e= .returned (.agg #[v'])∧cg eJ bK w' ↑w v' (dz p S)∧Below ↑w w w':=by
 have hsz:=ak;unfold Prod.agg Prod.cells;have hb1:Below ↑w w (w.alloc (.cells ↑p 25)):=Below.aI _ _;have K:av (w.alloc (.cells ↑p 25)) ↑w 25 p.cells:=av.new _ _ _;have hz1:(w.alloc (.cells ↑p 25)).heap.size=w.heap.size+1:=hsz _ _;have H:=af h;have T:=af hS;have iD:=af hsz;have f:=af hS.le;obtain⟨n,hn⟩:=ai Q.length;have q4:S.length=n:=by rw [<-h.len];exact hn
 have J:=af q4;have rH:=af hn;have ec:=af hz;have hnb:n<=21:=by have:=hS.le;omega
 clear h hS hsz q4 hn hz;go_enter Tryz.func28,Tryz.ntmps28;go_upto_region 2 with(fail);generalize (w.alloc (.cells ↑p 25))=w0 at*;have hb2:=hb1.trans ((Below.aI w0 (.cells #[.slice none 0 0] 54)).mono hb1.size);have hb3:=hb2.trans ((Below.aI (w0.alloc (.cells #[.slice none 0 0] 54)) (.cells #[.slice none 0 0] 54)).mono hb2.size);have Bn:av ((w0.alloc (.cells #[.slice none 0 0] 54)).alloc (.cells #[.slice none 0 0] 54)) (w.heap.size+1) 54 #[.slice none 0 0]:=by have:=(av.new w0 54 #[.slice none 0 0]).alloc (.cells #[.slice none 0 0] 54);rwa [hz1]at this
 have M:av ((w0.alloc (.cells #[.slice none 0 0] 54)).alloc (.cells #[.slice none 0 0] 54)) (w.heap.size+1+1) 54 #[.slice none 0 0]:=by have:=av.new (w0.alloc (.cells #[.slice none 0 0] 54)) 54 #[.slice none 0 0];rwa [iD.o,hz1]at this
 have nT:=(K.below (Below.aI w0 (.cells #[.slice none 0 0] 54))).below (Below.aI (w0.alloc (.cells #[.slice none 0 0] 54)) (.cells #[.slice none 0 0] 54));try rw [show w.heap.size+2=w.heap.size+1+1 from rfl]
 obtain⟨bt,XX⟩:=ai (w.heap.size+1+1);rw [XX]at M⊢;obtain⟨c5,Kb⟩:=ai (w.heap.size+1);rw [Kb]at Bn⊢;have QZ:Ei (w.heap.size<=c5∧w.heap.size<=bt∧c5≠bt):=af bh;obtain⟨aR,xY⟩:=ai w.heap.size;have Nv:=af nT;rw [xY]at Nv;rw [show(Value.pointer ↑w.heap.size)= .pointer ↑aR by rw [xY]];have U:=af hb3;have lI:=af Bn;have mJ:=af M;clear XX Kb xY nT hb3 Bn M hb2 hb1 K hz1;generalize ((w0.alloc (.cells #[.slice none 0 0] 54)).alloc (.cells #[.slice none 0 0] 54))=w1 at*;go_wp2_with fail;refine(Q0 (H.o.below U.o) (by have:=f.o;omega) (fun L hL=>⟨(T.o.each L hL).len,(T.o.each L hL).aq⟩)).mono ?_;rintro e w2 ⟨Q1,rfl,uM,hb2⟩;obtain⟨ta,tc,pE,_,hrd⟩:=uM.rd;subst pE;have A:Ei (zY w w2 p aR c5 bt (.slice ta (ef S).length tc) (.slice none 0 0) (ef S) []):=af
  ⟨Nv.o.below hb2,lI.o.below hb2,mJ.o.below hb2,uM.base U.o.size,cg.nil _ _,U.o.trans (hb2.mono U.o.size),QZ.o.1,QZ.o.2.1,QZ.o.2.2⟩
 clear uM hrd hb2 Nv lI mJ U;go_wp2_with fail;go_loopw [7] (fun i w'=>∃(k:Nat) (v:Value),i=↑k∧k<=n∧zY w w' p aR c5 bt (.slice ta (ef S).length tc) v (ef S) ((dz p S).take k)) (fun i _=>n-(RowKit.intOf i).toNat)
 case atStart=>exact⟨0,_,rfl,Nat.zero_le _,A.o⟩
 clear A;obtain⟨k,v,rfl,hk,hI⟩:=hrel;obtain⟨ax,rfl⟩:=aj wr;have A:=af hI;clear hI;obtain⟨a,c,K,_⟩:=(H.o.below A.o.aJ).box;rw [rH.o]at K;have X:=K.MK;clear K;by_cases hlt:k<n
 ·have hlt':(k:Int)<(n:Int):=by omega
  obtain⟨pb,L,hq,hs,hrb⟩:=(H.o.below A.o.aJ).get (by rw [J.o];exact hlt);have u:=af hq;have d:=af (T.o.each L (List.mem_of_getElem? hs));have z:Ei (S.getD k []=L):=af (by rw [List.getD_eq_getElem?_getD,hs];rfl);have dN:Ei ((dz p S).take (k+1)=(dz p S).take k++ [(lG p S k 1,lG p S k 2)]):=af (kH (agc (by rw [J.o];exact hlt)));have tG:Ei (((dz p S).take k).length=k):=af (by rw [List.length_take,CS,J.o];omega);clear hq hs hrb;have hba:=Below.aI ax (.cells ke.cells.toArray 104);have nk:av (ax.alloc (.cells ke.cells.toArray 104)) ↑ax 104 ke.cells.toArray:=av.new _ _ _;have hw0:yB w (ax.alloc (.cells ke.cells.toArray 104)) p aR c5 bt (.slice ta (ef S).length tc) v (ef S) ((dz p S).take k) ax.heap.size mR mR:=⟨A.o.below hba,nk,fun g hg e=>by obtain⟨P,hP,_⟩:=A.o.fh;have:=ki hP g hg;omega,A.o.aJ.size⟩;have jJ:=af hw0;clear hba nk hw0;unfold ke bB.cells mR jD at jJ;dsimp only at jJ;go_upto_region 7 with(fail);obtain⟨cB,Cr⟩:=ai ax.heap.size;rw [Cr]at jJ⊢;clear Cr A X;generalize ax.alloc _=bW at*;go_wp2_with fail;go_loopw [9] (fun i w'=>∃(j:Nat) (x y:eO),i=↑((j:Int)+1)∧yB w w' p aR c5 bt (.slice ta (ef S).length tc) v (ef S) ((dz p S).take k) cB x y∧
   ((j=0∧x=mR∧y=mR)∨(j=1∧y=mR∧bV bK w' ↑w x (lG p S k 1))∨(j=2∧bV bK w' ↑w x (lG p S k 1)∧bV bK w' ↑w y (lG p S k 2)))) (fun i _=>4-(RowKit.intOf i).toNat)
  case atStart=>exact⟨0,_,_,rfl,jJ.o,.inl ⟨rfl,rfl,rfl⟩⟩
  clear jJ;obtain⟨j,x,y,rfl,hW,hc⟩:=hrel;obtain⟨wv,rfl⟩:=aj wr;rcases hc with⟨rfl,rfl,rfl⟩|⟨rfl,rfl,hs1⟩|⟨rfl,hs1,I⟩
  ·have W1:=af hW;clear hW;have Bo:=af (H.o.pv.below (H.o.aJ.trans (W1.o.i.aJ.mono H.o.aJ.size)));have E:=Q2 p k 1 ta tc (ef S) wv Bo.o W1.o.i.wq.XU T.o.CT (by rw [Nx];have:=f.o;omega) G8;obtain⟨⟨sp,D,sn,sh⟩,R⟩:=ai (nS (mA p (ef S) k 1) 1);have Z:=af R;have tL:=af (QT p S k 1);unfold Prod.agg Prod.cells at E;have Y:=af E;clear E R;obtain⟨c0,c1,c2,c3,dH,m,fJ,gL,iC,kp,wh⟩:=PC.oQ W1.o.i.ek;go_wp2_with fail;refine Y.o.mono ?_;rintro e w2 ⟨lJ,rfl,E,hb2⟩;obtain⟨sH,xh,CU,_,b⟩:=E.rd;subst CU;have O:=af b;have W2:=af (W1.o.below hb2);have V:=af hb2;clear E b hb2 c0 c1 c2 c3 dH m fJ gL iC kp wh;go_wp2_with fail;refine(XY (mA p (ef S) k 1) sH xh 1 w2 O.o (by have:=tL.o;omega)).mono ?_;rintro e w3 ⟨he,hb3⟩;rw [Z.o]at he;dsimp only at he;subst he;have F:=af (W2.o.below hb3);have l:=ag V hb3;clear hb3 O Y;obtain⟨g,c1,hb1,_,q0⟩:=(H.o.below F.o.i.aJ).ptr u.o;rw [rH.o]at hb1;have X:=hb1.MK;obtain⟨MY,C,hq2,I,hrb⟩:=(H.o.below F.o.i.aJ).get (by rw [J.o];exact hlt);have e1:MY=pb:=by have:=u.o;rw [hq2]at this;injection this
   have e2:C=L:=by have:=z.o;rw [List.getD_eq_getElem?_getD,I]at this;exact this
   subst e1;subst e2;have N:=af (Ny hrb d.o.len d.o.aq 1);clear hb1 hq2 I hrb;go_wp2_with fail;refine N.o.mono ?_;rintro e G ⟨vl,rfl,hrl,hb4⟩;obtain⟨la,lc,hvl⟩:=hrl.form;subst hvl;have B:=af (F.o.below hb4);have uv:Ei (bV bK G ↑w ⟨la,(k6 C 1).length,lc,⟨sp,D,sn⟩,sh⟩ (lG p S k 1)):=af (by
    have h1:(lG p S k 1)=⟨k6 C 1,⟨sp,D,sn⟩,sh⟩:=by unfold lG;rw [z.o,Z.o]
    rw [h1];exact⟨rfl,hrl.base F.o.i.aJ.size,rfl,rfl⟩)
   clear hrl hb4 N X q0 W2 F W1 V l;have fz:∀o,G.frozen? ⟨cB,o,none⟩=false:=fun o=>B.o.bo.frozen o;obtain⟨m0,m1,m2,eN,ea⟩:=B.o.bo.gP;go_wp2_with fail;have zZ:=B.o.put (aK.xo G cB (.slice la (k6 C 1).length lc) ↑sp ↑D ↑sn ↑sh) (B.o.bo.xo (.slice la (k6 C 1).length lc) ↑sp ↑D ↑sn ↑sh) (x':=⟨la,(k6 C 1).length,lc,⟨sp,D,sn⟩,sh⟩) (y':=mR);have vX:=aK.xo G cB (.slice la (k6 C 1).length lc) ↑sp ↑D ↑sn ↑sh;go_roundw
   case rel=>exact⟨1,_,_,rfl,zZ,.inr (.inl ⟨rfl,rfl,uv.o.QY B.o vX⟩)⟩
   simp [RowKit.intOf]
  ·have W1:=af hW;clear hW;have r:=af hs1;clear hs1;have Bo:=af (H.o.pv.below (H.o.aJ.trans (W1.o.i.aJ.mono H.o.aJ.size)));have E:=Q2 p k 2 ta tc (ef S) wv Bo.o W1.o.i.wq.XU T.o.CT (by rw [Nx];have:=f.o;omega) G8;obtain⟨⟨sp,D,sn,sh⟩,R⟩:=ai (nS (mA p (ef S) k 2) 2);have Z:=af R;have tL:=af (QT p S k 2);unfold Prod.agg Prod.cells at E;have Y:=af E;clear E R;obtain⟨c0,c1,c2,c3,dH,m,fJ,gL,iC,kp,wh⟩:=PC.oQ W1.o.i.ek;go_wp2_with fail;refine Y.o.mono ?_;rintro e w2 ⟨lJ,rfl,E,hb2⟩;obtain⟨sH,xh,CU,_,b⟩:=E.rd;subst CU;have O:=af b;have W2:=af (W1.o.below hb2);have V:=af hb2;clear E b hb2 c0 c1 c2 c3 dH m fJ gL iC kp wh;go_wp2_with fail;refine(XY (mA p (ef S) k 2) sH xh 2 w2 O.o (by have:=tL.o;omega)).mono ?_;rintro e w3 ⟨he,hb3⟩;rw [Z.o]at he;dsimp only at he;subst he;have F:=af (W2.o.below hb3);have l:=ag V hb3;clear hb3 O Y;obtain⟨g,c1,hb1,_,q0⟩:=(H.o.below F.o.i.aJ).ptr u.o;rw [rH.o]at hb1;have X:=hb1.MK;obtain⟨MY,C,hq2,I,hrb⟩:=(H.o.below F.o.i.aJ).get (by rw [J.o];exact hlt);have e1:MY=pb:=by have:=u.o;rw [hq2]at this;injection this
   have e2:C=L:=by have:=z.o;rw [List.getD_eq_getElem?_getD,I]at this;exact this
   subst e1;subst e2;have N:=af (Ny hrb d.o.len d.o.aq 2);clear hb1 hq2 I hrb;go_wp2_with fail;refine N.o.mono ?_;rintro e G ⟨vl,rfl,hrl,hb4⟩;obtain⟨la,lc,hvl⟩:=hrl.form;subst hvl;have B:=af (F.o.below hb4);have uv:Ei (bV bK G ↑w ⟨la,(k6 C 2).length,lc,⟨sp,D,sn⟩,sh⟩ (lG p S k 2)):=af (by
    have h1:(lG p S k 2)=⟨k6 C 2,⟨sp,D,sn⟩,sh⟩:=by unfold lG;rw [z.o,Z.o]
    rw [h1];exact⟨rfl,hrl.base F.o.i.aJ.size,rfl,rfl⟩)
   have agf:=af ((r.o.below l.o).below hb4);clear hrl hb4 N X q0 W2 F W1 V l;have fz:∀o,G.frozen? ⟨cB,o,none⟩=false:=fun o=>B.o.bo.frozen o;have m0:=B.o.bo.Jh;have m1:=B.o.bo.Ji;have m2:=B.o.bo.My;have eN:=B.o.bo.MH;have ea:=B.o.bo.MI;go_wp2_with fail;have zZ:=B.o.put (aK.xp G cB (.slice la (k6 C 2).length lc) ↑sp ↑D ↑sn ↑sh) (B.o.bo.xp (.slice la (k6 C 2).length lc) ↑sp ↑D ↑sn ↑sh) (x':=x) (y':=⟨la,(k6 C 2).length,lc,⟨sp,D,sn⟩,sh⟩);have vX:=aK.xp G cB (.slice la (k6 C 2).length lc) ↑sp ↑D ↑sn ↑sh;go_roundw
   case rel=>exact⟨2,_,_,rfl,zZ,.inr (.inr ⟨rfl,agf.o.QY B.o vX,uv.o.QY B.o vX⟩)⟩
   simp [RowKit.intOf]
  obtain⟨P,hP,gK,g8⟩:=hW.i.fh;obtain⟨cJ,aY,gU⟩:=hP.form;subst gU;have W1:=af hW;have dx:=af hP;have gq:=af gK;have e6:=af g8;have r:=af hs1;have cA:=af I;clear hP gK g8 hW hs1 I;obtain⟨m0,m1,m2,eN,ea,eY,dV,EL,CR,EM⟩:=W1.o.bo.vg;have v0:=W1.o.i.bk.GC;have hba:=Below.aI wv (.cells #[.slice x.a x.n x.c,↑x.im.ap,↑x.im.aq,↑x.im.count,↑x.has,.slice y.a y.n y.c,↑y.im.ap,↑y.im.aq,↑y.im.count,↑y.has] 104);have cK:=af hba;have g6:=af (dx.o.below hba);have uH:Ei (∀(j:Nat) (q:bB) (x:aX×aX),P[j]? =some q->((dz p S).take k)[j]? =some x->bV bK _ ↑w q.s x.1∧bV bK _ ↑w q.t x.2):=af fun j p x hp hx=>⟨(e6.o j p x hp hx).1.below hba,(e6.o j p x hp hx).2.below hba⟩;have c8:Ei (av (wv.alloc (.cells #[.slice x.a x.n x.c,↑x.im.ap,↑x.im.aq,↑x.im.count,↑x.has,.slice y.a y.n y.c,↑y.im.ap,↑y.im.aq,↑y.im.count,↑y.has] 104)) ↑wv 104 (eJ.cells ⟨x,y⟩).toArray):=af (av.new _ _ _);have XZ:Ei (w.heap.size<=(wv.alloc (.cells #[.slice x.a x.n x.c,↑x.im.ap,↑x.im.aq,↑x.im.count,↑x.has,.slice y.a y.n y.c,↑y.im.ap,↑y.im.aq,↑y.im.count,↑y.has] 104)).heap.size):=af (Nat.le_trans W1.o.i.aJ.size hba.size);have l9:Ei (P.length+1<=1000000):=af (by rw [gq.o,tG.o];have:=f.o;have:=J.o;omega);clear hba dx e6;go_wp2_with (first
   |(at_builtin;go_loud (refine eJ.push rfl (.tmp 60) (.tmp 62) rfl ↑w (.slice cJ P.length aY) P rfl g6.o ↑wv ⟨x,y⟩ rfl c8.o.lt c8.o.gH l9.o XZ.o ?_)))
  intro v' aA dl M _;obtain⟨a5,m,hM⟩:=dl.form;rw [show(P++ [(⟨x,y⟩:bB)]).length=P.length+1 by rw [List.length_append];rfl]at hM;subst hM;obtain⟨i6,lq,z5⟩:=W1.o.grow cK.o g6.o gq.o uH.o r.o cA.o dl M;rw [<-dN.o]at i6;have rQ:=af i6;clear dl M i6 g6 uH c8 XZ l9 cK W1 r cA m0 m1 m2 eN ea eY dV EL CR EM v0;go_wp2_with fail;go_roundw
  case rel=>exact⟨k+1,_,dR,hlt,rQ.o⟩
  exact Ej
 have eR:k=n:=bh;have e5:Ei (cg eJ bK ax ↑w v (dz p S)):=af (by have:=A.o.fh;rwa [eR,<-J.o,<-CS p S,List.take_length]at this);obtain⟨cJ,aY,gU⟩:=e5.o.form;have v0:=A.o.bk.GC;have cu:=A.o.b4.GC;have z0:ax.frozen? ↑c5=false:=A.o.b4.frozen 0;subst gU;clear eR;go_wp2_with fail;clear v0 cu z0;have k0:(ax.setCell ↑c5 (.slice cJ (dz p S).length aY)).cell? ↑c5=some (.slice cJ (dz p S).length aY):=(A.o.b4.aW 0 _).cell 0;have hbz:=A.o.aJ.setCell (p:=⟨c5,0,none⟩) A.o.lT (.slice cJ (dz p S).length aY);have J6:=e5.o.keep (ct ax c5 0 (.slice cJ (dz p S).length aY)) (fun g hg e=>hg.ne A.o.b4.aE b9 e) (fun g hg e=>hg.ne A.o.b4.aE b9 e);refine bodyPost_ret (v:= .agg #[.slice cJ (dz p S).length aY]) (by simp [results,Tryz.results28,go_sem,k0]) rfl ⟨_,rfl,J6,hbz⟩
end
def ia (k:Nat) (S:List (List aC)):Prop:=∀L∈S,L.length<=k
section
variable {p:Prod} {S:List (List aC)} {E:List Int} {k:Nat}
theorem ia.more (h:ia k S) {j:Nat} (hj:k<=j):ia j S:=fun L hL=>Nat.le_trans (h L hL) hj
theorem ia.at_ (h:ia k S) (i:Nat):(S.getD i []).length<=k:=by
 rw [List.getD_eq_getElem?_getD];cases hg:S[i]? with
 |none=>exact Nat.zero_le _
 |some L=>exact h L (List.mem_of_getElem? hg)
theorem ia.set (h:ia k S) {i:Nat} {L:List aC} (hL:L.length<=k):ia k (S.set i L):=fun K hK=>by
 rcases List.mem_or_eq_of_mem_set hK with h1|rfl
 ·exact h K h1
 exact hL
theorem XB:∀(z:List (aC×Int)) (L:List aC),(pz L z).length<=L.length
 | [],_=>Nat.le_refl _
 |x::t,L=>by
  have h1:=XB t (if 0<x.2 then(pF L x.1.id x.2).1 else L);have h2:(if 0<x.2 then(pF L x.1.id x.2).1 else L).length<=L.length:=by
   split
   ·exact XC ..
   exact Nat.le_refl _
  exact Nat.le_trans h1 h2
theorem ia.rR (h:ia k S) (i:Nat) (side ap q:Int):ia k (ou p S i side ap q).1:=
 h.set (Nat.le_trans (XB _ _) (h.at_ i))
theorem ia.step (h:ia k S) {i:Nat} {side ap aq:Int} {r:List (List aC)×nt} (hr:ur p S i side ap aq=some r):ia k r.1:=by
 unfold ur at hr;split at hr
 ·injection hr with hr;subst hr;exact h.rR _ _ _ _
 split at hr
 ·cases hr
 injection hr with hr;subst hr;exact(h.rR _ _ _ _).rR _ _ _ _
theorem ia.gO (i:Nat) (side ap:Int):∀(f:Nat) {S:List (List aC)} (aq:Int),ia k S->ia k (gO p i side ap f S aq).1
 |0,_,_,h=>h
 |f+1,S,aq,h=>by
  unfold Go.Proofs.YtmaijkoopjocdaaGreat.gO;split
  ·exact h
  cases hr:ur p S i side ap aq with
  |none=>exact h
  |some r=>exact ia.gO i side ap f (aq-r.2.aq) (h.step hr)
theorem ia.QM (h:ia k S) (i:Nat) (id side ap aq:Int):ia (k+1) (xm p S i id side ap aq).1:=by
 unfold xm;split
 ·exact h.more (Nat.le_succ _)
 split
 ·exact h.more (Nat.le_succ _)
 split
 ·exact h.more (Nat.le_succ _)
 exact(h.more (Nat.le_succ _)).set (Nat.le_trans (j8.Xy ..) (Nat.succ_le_succ (h.at_ i)))
theorem ia.run (h:ia k S) (i:Nat) (c:ed):ia (k+1) (ru p S i c):=by
 have h1:=ia.gO (p:=p) i c.side c.ap c.aq.toNat c.aq h;unfold ru;split
 ·exact h1.QM _ _ _ _ _
 exact h1.more (Nat.le_succ _)
theorem ia.take (h:ia k S) (id aq:Int):ia k (fW S id aq).1:=by
 unfold fW;split
 ·exact h
 exact h.set (Nat.le_trans (XC ..) (h.at_ _))
theorem ia.come (h:ia k S) (i:Nat) (c:ed):ia (k+1) (r9 p S E i c).1:=by
 unfold r9
 repeat' split
 all_goals first|exact h.more (Nat.le_succ _)|exact h.run i c
theorem ia.J9 (h:ia k S) (c:ed):ia (k+1) (mq p S E c).1:=by
 unfold mq;split
 ·exact h.come _ c
 split
 ·exact h.more (Nat.le_succ _)
 repeat' split
 all_goals first|exact h.more (Nat.le_succ _)|exact(h.take _ _).more (Nat.le_succ _)|exact(h.take _ _).run _ _
theorem ia.look (h:ia k S):fX (dz p S) k:=fun x hx=>by
 obtain⟨i,_,rfl⟩:=Ns hx;have hl:∀s,(k6 (S.getD i []) s).length<=k:=fun s=>by unfold k6;exact Nat.le_trans (QN _) (Nat.le_trans (List.length_filter_le ..) (h.at_ i))
 exact⟨hl 1,hl 2⟩
end
theorem ia.new (n:Nat):ia 0 (List.replicate n ([]:List aC)):=fun L hL=>by rw [(List.mem_replicate.1 hL).2];exact Nat.le_refl _
end Go.Proofs.YtmaijkoopjocdaaGreat
namespace Go.Proofs.YtmaijkoopjocdaaGreat
open Go.ChangeShapes Go.WideShapes Go.RowKit
structure Re (w:World) (p:Prod):Prop where
 code:p.code.size<=maxLen
 IB:rS w p.ma p.months
 aW:rS w p.sa p.settle
 Cg:p.months.length<=9223372036854775807
 F7:p.settle.length<=9223372036854775807
 tick:cz p.tick
 low:cz p.low
 high:cz p.high
 wide:cz p.wide
 rule:cz p.rule
 top:cz p.top
 least:cz p.least
 part:cz p.part
theorem Re.cq {w:World} {p:Prod} (h:Re w p):Qv p:=⟨h.Cg,h.tick,h.wide,h.rule,h.top,h.least,h.part⟩
section
variable {H:Type} {enc:TypeId×Value->H} {P:Program} {w:World} {base:Nat} {spare:Nat->Bool} {held:Bool}
theorem Yg {e:TypeId} {fs:Array Field} {n:Nat} {cs:List Value} {y:DataW H×List MemPlace} (he:P.underlying e=some (.struct fs)) (hone:Go.Deep.oneCellFields P fs=true) (hlen:cs.length=fs.size)
 (ht:DataW.trod enc P w base spare held n e cs=some y):
 ∀(j:Nat) (f:Field),fs[j]? =some f->∃(v:Value) (m:Nat) (z:DataW H×List MemPlace),cs[j]? =some v∧DataW.trod enc P w base spare held m f.type [v]=some z:=by
 intro j f hj;obtain⟨xs,m,_,_,_,hxl,hf⟩:=DataW.trod_struct he ht;have hjl:j<fs.size:=(Array.getElem?_eq_some_iff.1 hj).1;obtain⟨ho,hk⟩:=Go.Deep.hone_of hone j f hj;have h1:=hf j f hj;have A:j<cs.length:=bh;rw [ho,hk,List.drop_eq_getElem_cons A,List.take_succ_cons,List.take_zero]at h1;exact⟨cs[j],m,xs[j]' bh,List.getElem?_eq_getElem A,by rw [h1,List.getElem?_eq_getElem]⟩
end
def kO:Value->Int
 | .int _ n=>n
 |_=>0
theorem Rf {H:Type} {enc:TypeId×Value->H} {w:World} {spare:Nat->Bool} {held:Bool} {t e:TypeId} {n:Nat} {v:Value} {y:DataW H×List MemPlace} (ht:Tryz.prog.underlying t=some (.slice e)) (he:Tryz.prog.underlying e=some (.int .i64)) (hc:Tryz.prog.cellsOf e=1)
 (h:DataW.trod enc Tryz.prog w 0 spare held n t [v]=some y):∃(a:Option Addr) (L:List Int) (c:Nat),v= .slice a L.length c∧rS w a L∧L.length<=maxLen:=by
 rcases Go.Deep.open_slice1 ht hc h with⟨h0,_⟩|⟨a,len,cap,m,k,V,D,Pl,hcs,_,hl,hm,C,_,hi⟩
 ·have h0':v= .slice none 0 0:=by simpa using h0
  exact⟨none,[],0,h0',fun j x hj=>by simp at hj,Nat.zero_le _⟩
 have A:v= .slice (some a) len cap:=by simpa using hcs
 subst A;have hnm:len<=m:=by rw [C];split<;>omega
 obtain⟨b,off,sp⟩:=a;refine⟨some ⟨b,off,sp⟩,(List.range len).map (fun i=>kO (V i)),cap,cU,fun j x hj=>?_,by simp;omega⟩;have hjl:j<len:=by have:=dM hj;simpa using this
 rw [List.getElem?_map,List.getElem?_range hjl]at hj;simp at hj;obtain⟨h1,h2⟩:=hi j bh;obtain⟨z,hz1,_,F⟩:=DataW.trod_int he h2;have hz:V j=↑z:=by simpa using hz1
 rw [hz]at hj h1;have hx:x=z:=hj.symm;subst hx;have hsp:sp=none:=by
  have B:=(hi 0 bh).1;have:=World.cell?_spot B;unfold Addr.add at this
  simpa using this
 subst hsp;have E:(⟨b,off,none⟩:Addr).add j=⟨b,off+j,none⟩:=vE b off j;rw [E]at h1;refine⟨bounds_i64 F,b,off,rfl,?_,h1⟩;rcases Nat.lt_or_ge b ↑w with h|h
 ·exact h
 unfold World.cell? at h1;rw [show(⟨b,off+j,none⟩:Addr).block=b from rfl,Array.getElem?_eq_none h]at h1;cases h1
theorem agN:∃fs:Array Field,Tryz.prog.underlying 25=some (.struct fs)∧Go.Deep.oneCellFields Tryz.prog fs=true∧fs.size=11∧fs.map (·.type)=#[9,22,2,2,2,2,3,2,2,2,23]:=
 ⟨_,Tryz.underlying25,eP,eP,eP⟩
theorem agO {H:Type} {enc:TypeId×Value->H} {w:World} {spare:Nat->Bool} {held:Bool} {v:Value} {d:DataW H} {pl:List MemPlace} (h:DataW.Trod enc Tryz.prog w 0 spare held 25 v d pl) {b0:Nat} (hv:Value.okWide Tryz.prog w .any b0 25 v):
 ∃p:Prod,v=p.agg∧Re w p:=by
 obtain⟨fs,J,hone,hsz,W⟩:=agN;obtain⟨cs,rfl,L⟩:=okWide_struct J hv;obtain⟨fuel,hf⟩:=h;have hC:Tryz.prog.cellsOf 25=11:=eP;rw [hC]at L;have U:(Value.agg cs).cells=cs:=rfl;rw [U]at hf;have hh:=Yg J hone (by rw [hsz];simpa using L) hf;have B:∀(j:Nat) (t:TypeId),(#[9,22,2,2,2,2,3,2,2,2,23]:Array TypeId)[j]? =some t->∃(v:Value) (m:Nat) (z:DataW H×List MemPlace),cs.toList[j]? =some v∧DataW.trod enc Tryz.prog w 0 spare held m t [v]=some z:=by intro j t hj;rw [<-W,Array.getElem?_map,Option.map_eq_some_iff]at hj;obtain⟨f,R,r⟩:=hj;rw [<-r];exact hh j f R
 have A:∀(j:Nat) (t:TypeId),(#[9,22,2,2,2,2,3,2,2,2,23]:Array TypeId)[j]? =some t->Tryz.prog.underlying t=some (.int .i64)->∃z:Int,cs.toList[j]? =some ↑z∧cz z:=by
  intro j t hj hu;obtain⟨v,m,z,hv1,o⟩:=B j t hj;obtain⟨z',hz1,_,u⟩:=DataW.trod_int hu o;have hz:v=↑z':=by simpa using hz1
  exact⟨z',by rw [hv1,hz],bounds_i64 u⟩
 obtain⟨v0,m0,z0,g0,t0⟩:=B 0 9 rfl;obtain⟨s,hs1,_,T⟩:=DataW.trod_string Tryz.underlying9 t0;have hs:v0= .string s:=by simpa using hs1
 subst hs;obtain⟨v1,m1,y,g1,t1⟩:=B 1 22 rfl;obtain⟨a1,N,c1,rfl,C,l⟩:=Rf Tryz.underlying22 Tryz.underlying3 eP t1;obtain⟨n2,g2,o2⟩:=A 2 2 rfl Tryz.underlying2;obtain⟨pJ,aV,c⟩:=A 3 2 rfl Tryz.underlying2;obtain⟨lT,c5,g⟩:=A 4 2 rfl Tryz.underlying2;obtain⟨qi,bt,X⟩:=A 5 2 rfl Tryz.underlying2;obtain⟨I,q,Y⟩:=A 6 3 rfl Tryz.underlying3;obtain⟨K,aO,Z⟩:=A 7 2 rfl Tryz.underlying2;obtain⟨tK,cB,D⟩:=A 8 2 rfl Tryz.underlying2;obtain⟨O,cI,E⟩:=A 9 2 rfl Tryz.underlying2;obtain⟨v10,S,b,V,t10⟩:=B 10 23 rfl;obtain⟨M,Q,P,rfl,F,G⟩:=Rf Tryz.underlying23 Tryz.underlying2 eP t10;have hcs:cs=#[.string s,.slice a1 N.length c1,↑n2,↑pJ,↑lT,↑qi,↑I,↑K,↑tK,↑O,.slice M Q.length P]:=by
  apply Array.toList_inj.1;apply List.ext_getElem?;intro i;match i with
  |0=>exact g0
  |1=>exact g1
  |2=>exact g2
  |3=>exact aV
  |4=>exact c5
  |5=>exact bt
  |6=>exact q
  |7=>exact aO
  |8=>exact cB
  |9=>exact cI
  |10=>exact V
  |i+11=>rw [List.getElem?_eq_none (by simp;omega),List.getElem?_eq_none cU]
 subst hcs;have hml:maxLen<=9223372036854775807:=b9;exact⟨⟨s,a1,N,c1,n2,pJ,lT,qi,I,K,tK,O,M,Q,P⟩,rfl,T,C,F,Nat.le_trans l hml,Nat.le_trans G hml,o2,c,g,X,Y,Z,D,E⟩
theorem agU:∃fs:Array Field,Tryz.prog.underlying 80=some (.struct fs)∧Go.Deep.oneCellFields Tryz.prog fs=true∧fs.size=9∧fs.map (·.type)=#[3,2,3,3,2,2,2,3,9]:=
 ⟨_,Tryz.underlying80,eP,eP,eP⟩
theorem Yk {H:Type} {enc:TypeId×Value->H} {w:World} {spare:Nat->Bool} {held:Bool} {n:Nat} {cs:List Value} {y:DataW H×List MemPlace} (h:DataW.trod enc Tryz.prog w 0 spare held n 80 cs=some y):∃x:ed,cs=x.list∧E3 x:=by
 obtain⟨fs,D,hone,hsz,G⟩:=agU;obtain⟨_,_,_,_,hl,_,_⟩:=DataW.trod_struct D h;have hC:Tryz.prog.cellsOf 80=9:=eP;rw [hC]at hl;have hh:=Yg D hone (by rw [hsz];exact hl) h;have B:∀(j:Nat) (t:TypeId),(#[3,2,3,3,2,2,2,3,9]:Array TypeId)[j]? =some t->∃(v:Value) (m:Nat) (z:DataW H×List MemPlace),cs[j]? =some v∧DataW.trod enc Tryz.prog w 0 spare held m t [v]=some z:=by intro j t hj;rw [<-G,Array.getElem?_map,Option.map_eq_some_iff]at hj;obtain⟨f,F,Q⟩:=hj;rw [<-Q];exact hh j f F
 have A:∀(j:Nat) (t:TypeId),(#[3,2,3,3,2,2,2,3,9]:Array TypeId)[j]? =some t->Tryz.prog.underlying t=some (.int .i64)->∃z:Int,cs[j]? =some ↑z∧cz z:=by
  intro j t hj hu;obtain⟨v,m,z,hv1,N⟩:=B j t hj;obtain⟨z',hz1,_,R⟩:=DataW.trod_int hu N;have hz:v=↑z':=by simpa using hz1
  exact⟨z',by rw [hv1,hz],bounds_i64 R⟩
 obtain⟨n0,g0,o0⟩:=A 0 3 rfl Tryz.underlying3;obtain⟨n1,g1,o1⟩:=A 1 2 rfl Tryz.underlying2;obtain⟨n2,g2,o2⟩:=A 2 3 rfl Tryz.underlying3;obtain⟨pJ,aV,L⟩:=A 3 3 rfl Tryz.underlying3;obtain⟨lT,c5,M⟩:=A 4 2 rfl Tryz.underlying2;obtain⟨qi,bt,I⟩:=A 5 2 rfl Tryz.underlying2;obtain⟨C,P,J⟩:=A 6 2 rfl Tryz.underlying2;obtain⟨E,aO,K⟩:=A 7 3 rfl Tryz.underlying3;obtain⟨O,U,T,cB,t8⟩:=B 8 9 rfl;obtain⟨s,hs1,_,V⟩:=DataW.trod_string Tryz.underlying9 t8;have hs:O= .string s:=by simpa using hs1
 subst hs;have hcs:cs= [↑n0,↑n1,↑n2,↑pJ,↑lT,↑qi,↑C,↑E,.string s]:=by
  apply List.ext_getElem?;intro i;match i with
  |0=>exact g0
  |1=>exact g1
  |2=>exact g2
  |3=>exact aV
  |4=>exact c5
  |5=>exact bt
  |6=>exact P
  |7=>exact aO
  |8=>exact cB
  |i+9=>rw [List.getElem?_eq_none bh,List.getElem?_eq_none cU]
 subst hcs;exact⟨⟨n0,n1,n2,pJ,lT,qi,C,E,s⟩,rfl,o0,o1,o2,L,M,I,J,K⟩
theorem agV:E3 M3:=by
 have h:cz 0:=by unfold cz;omega
 exact⟨h,h,h,h,h,h,h,h⟩
theorem agW {H:Type} {enc:TypeId×Value->H} {w:World} {spare:Nat->Bool} {held:Bool} {v:Value} {d:DataW H} {p:List MemPlace} (h:DataW.Trod enc Tryz.prog w 0 spare held 26 v d p) {b0:Nat} (hv:Value.okWide Tryz.prog w .any b0 26 v):
 ∃(a:Option Addr) (L:List ed) (c:Nat),v= .slice a L.length c∧Qm.fR w a L∧(∀x∈L,E3 x)∧L.length<=9223372036854775807∧L.length<=c:=by
 obtain⟨a0,n0,c0,rfl⟩:=okWide_slice Tryz.underlying26 hv;obtain⟨fuel,hf⟩:=h;rcases Go.Deep.open_slice Tryz.underlying26 hf with⟨h0,_⟩|⟨a,len,cap,m,n,D,Pl,hcs,_,hl,hm,C,_,hi⟩
 ·have h0':a0=none∧n0=0∧c0=0:=by
   simp [Value.cells]at h0;exact h0
  obtain⟨rfl,rfl,rfl⟩:=h0';exact⟨none,[],0,rfl,bl.fR.nil,fun x hx=>by simp at hx,cU,cU⟩
 have h0':a0=some a∧n0=len∧c0=cap:=by simp [Value.cells]at hcs;exact hcs
 obtain⟨rfl,rfl,rfl⟩:=h0';have hnm:n0<=m:=by rw [C];split<;>omega
 obtain⟨b,off,sp⟩:=a;have hC:Tryz.prog.cellsOf 80=9:=eP;rw [hC]at hi;have hex:∀k:Nat,∃x:ed,E3 x∧(k<n0->sp=none∧b<w.heap.size∧iI w b (off+k*9) x.list):=by
  intro k;by_cases hk:k<n0
  ·obtain⟨cs',hc,ht⟩:=hi k bh;obtain⟨x,rfl,hx⟩:=Yk ht;obtain⟨_,_,B⟩:=World.cells?_some hc;have hsp:sp=none:=by
    obtain⟨cs0,hc0,E⟩:=hi 0 bh;obtain⟨x0,rfl,_⟩:=Yk E;obtain⟨_,_,A⟩:=World.cells?_some hc0;have h1:=A 0 bh;exact World.cell?_spot (a:=⟨b,off,sp⟩) (h1.trans rfl)
   subst hsp;refine⟨x,hx,fun _=>⟨rfl,?_,fun j u hu=>?_⟩⟩
   ·have h1:=B 0 bh;rw [vE]at h1;rcases Nat.lt_or_ge b ↑w with h|h
    ·exact h
    unfold World.cell? at h1;rw [show((⟨b,off+k*9,none⟩:Addr).add 0).block=b from rfl,Array.getElem?_eq_none h]at h1;cases h1
   have hj:j<9:=dM hu;have h1:=B j hj;rw [vE,vE]at h1;exact h1.trans hu
  exact⟨M3,agV,fun h=>absurd h hk⟩
 have hml:maxLen<=9223372036854775807:=b9;refine⟨some ⟨b,off,sp⟩,(List.range n0).map (fun k=>(hex k).choose),c0,cU,?_,?_,by simp;omega,by simp;omega⟩
 ·intro j e hj;have hjl:j<n0:=by have:=dM hj;simpa using this
  rw [List.getElem?_map,List.getElem?_range hjl]at hj;simp at hj;obtain⟨_,h2⟩:=(hex j).choose_spec;obtain⟨rfl,h4,h5⟩:=h2 hjl;rw [hj]at h5;exact⟨b,off,rfl,h4,h5⟩
 intro x hx;rw [List.mem_map]at hx;obtain⟨k,_,rfl⟩:=hx;exact((hex k).choose_spec).1
structure lY where
 kind:Int
 n:Int
 a:Option Addr
 b:List Int
 c:Nat
def Mi (w:World) (b o:Nat) (x:lY):Prop:=w.cell? ⟨b,o,none⟩=some (.int .i64 x.kind)∧w.cell? ⟨b,o+1,none⟩=some (.int .i64 x.n)∧w.cell? ⟨b,o+2,none⟩=some (.slice x.a x.b.length x.c)∧cz x.kind∧cz x.n∧bl.eT cZ w (.slice x.a x.b.length x.c) x.b∧∀z∈x.b,isByte z
def Mj (w:World) (a:Option Addr) (L:List lY):Prop:=∀(j:Nat) (x:lY),L[j]? =some x->∃b off,a=some ⟨b,off,none⟩∧b<w.heap.size∧Mi w b (off+j*3) x
theorem Mm {w:World} {b o:Nat} {v:Value} (h:w.cell? ↑(b,o)=some v):b<w.heap.size:=by
 rcases Nat.lt_or_ge b ↑w with h1|h1
 ·exact h1
 unfold World.cell? at h;rw [show(⟨b,o,none⟩:Addr).block=b from rfl,Array.getElem?_eq_none h1]at h;cases h
theorem arz {H:Type} {enc:TypeId×Value->H} {w:World} {held:Bool} {n:Nat} {v:Value} {y:DataW H×List MemPlace} (h:DataW.trod enc Tryz.prog w 0 (fun _=>true) held n 37 [v]=some y):
 ∃(a:Option Addr) (L:List Int) (c:Nat),v= .slice a L.length c∧bl.eT cZ w v L∧∀z∈L,isByte z:=by
 rcases Go.Deep.open_slice1 Tryz.underlying37 eP h with⟨h0,_⟩|⟨a,len,cap,m,k,V,D,Pl,hcs,_,hl,hm,F,_,hi⟩
 ·have h0':v= .slice none 0 0:=by simpa using h0
  subst h0';exact⟨none,[],0,rfl,bl.eT.nil,fun z hz=>by cases hz⟩
 have B:v= .slice (some a) len cap:=by simpa using hcs
 subst B;rw [if_pos rfl]at F;subst F;obtain⟨b,off,sp⟩:=a;have hz:∀i,i<m->sp=none∧w.cell? ⟨b,off+i,none⟩=some (.int .u8 (kO (V i)))∧isByte (kO (V i)):=by
  intro i hc;obtain⟨h1,h2⟩:=hi i hc;obtain⟨z,hz1,_,G⟩:=DataW.trod_int Tryz.underlying5 h2;have hz:V i= .int .u8 z:=by simpa using hz1
  have hsp:sp=none:=by
   have C:=(hi 0 bh).1;have:=World.cell?_spot C;unfold Addr.add at this
   simpa using this
  subst hsp;rw [vE]at h1;refine⟨rfl,by rw [h1,hz];rfl,?_⟩;rw [hz];show isByte z;unfold isByte;have e1:IntKind.u8.min=0:=b9;have e2:IntKind.u8.max=255:=b9;have:=bounds_u8 G;omega
 have hlen:((List.range len).map (fun i=>kO (V i))).length=len:=cU;refine⟨some ⟨b,off,sp⟩,(List.range len).map (fun i=>kO (V i)),m,by rw [hlen],⟨some ⟨b,off,sp⟩,m,by rw [hlen],⟨fun h=>(by cases h),fun ad h h0=>⟨b,off,by injection h with h;rw [<-h,(hz 0 h0).1]⟩,by rw [hlen];exact hl⟩,fun j x hj=>?_⟩,fun z A=>?_⟩
 ·have hjl:j<len:=by have:=dM hj;simpa using this
  rw [List.getElem?_map,List.getElem?_range hjl]at hj;have hx:x=kO (V j):=by simpa using hj.symm
  obtain⟨h1,h2,_⟩:=hz j bh;subst h1;subst hx;refine⟨b,off,rfl,Mm h2,fun i u hu=>?_⟩;have hi1:i<1:=dM hu;obtain rfl:i=0:=bh;have E:u= .int .u8 (kO (V j)):=by have h9:some (Value.int .u8 (kO (V j)))=some u:=hu;injection h9 with h9;exact h9.symm
  rw [E];have e:off+j*cZ.m+0=off+j:=by show off+j*1+0=_;omega
  rw [e];exact h2
 rw [List.mem_map]at A;obtain⟨i,hi',rfl⟩:=A;rw [List.mem_range]at hi';exact(hz i bh).2.2
theorem arA:∃fs:Array Field,Tryz.prog.underlying 66=some (.struct fs)∧Go.Deep.oneCellFields Tryz.prog fs=true∧fs.size=3∧fs.map (·.type)=#[3,3,37]:=
 ⟨_,Tryz.underlying66,eP,eP,eP⟩
theorem MU {H:Type} {enc:TypeId×Value->H} {w:World} {held:Bool} {n:Nat} {cs:List Value} {y:DataW H×List MemPlace} (h:DataW.trod enc Tryz.prog w 0 (fun _=>true) held n 66 cs=some y):∃x:lY,cs= [↑x.kind,↑x.n,.slice x.a x.b.length x.c]∧cz x.kind∧cz x.n∧bl.eT cZ w (.slice x.a x.b.length x.c) x.b∧∀z∈x.b,isByte z:=by
 obtain⟨fs,B,hone,hsz,E⟩:=arA;obtain⟨_,_,_,_,hl,_,_⟩:=DataW.trod_struct B h;have hC:Tryz.prog.cellsOf 66=3:=eP;rw [hC]at hl;have hh:=Yg B hone (by rw [hsz];exact hl) h;have A:∀(j:Nat) (t:TypeId),(#[3,3,37]:Array TypeId)[j]? =some t->∃(v:Value) (m:Nat) (z:DataW H×List MemPlace),cs[j]? =some v∧DataW.trod enc Tryz.prog w 0 (fun _=>true) held m t [v]=some z:=by intro j t hj;rw [<-E,Array.getElem?_map,Option.map_eq_some_iff]at hj;obtain⟨f,D,G⟩:=hj;rw [<-G];exact hh j f D
 have C:∀(j:Nat),(#[3,3,37]:Array TypeId)[j]? =some 3->∃z:Int,cs[j]? =some ↑z∧cz z:=by
  intro j hj;obtain⟨v,m,z,hv1,F⟩:=A j _ hj;obtain⟨z',hz1,_,I⟩:=DataW.trod_int Tryz.underlying3 F;have hz:v=↑z':=by simpa using hz1
  exact⟨z',by rw [hv1,hz],bounds_i64 I⟩
 obtain⟨n0,g0,o0⟩:=C 0 rfl;obtain⟨n1,g1,o1⟩:=C 1 rfl;obtain⟨v2,m2,z2,g2,t2⟩:=A 2 37 rfl;obtain⟨a,L,c,rfl,hsl,hby⟩:=arz t2;refine⟨⟨n0,n1,a,L,c⟩,?_,o0,o1,hsl,hby⟩;apply List.ext_getElem?;intro i;match i with
 |0=>exact g0
 |1=>exact g1
 |2=>exact g2
 |i+3=>rw [List.getElem?_eq_none bh,List.getElem?_eq_none cU]
theorem arB {H:Type} {enc:TypeId×Value->H} {w:World} {held:Bool} {v:Value} {d:DataW H} {p:List MemPlace} (h:DataW.Trod enc Tryz.prog w 0 (fun _=>true) held 61 v d p) {b0:Nat} (hv:Value.okWide Tryz.prog w .any b0 61 v):
 ∃(a:Option Addr) (L:List lY) (c:Nat),v= .slice a L.length c∧Mj w a L∧L.length<=9223372036854775807:=by
 obtain⟨a0,n0,c0,rfl⟩:=okWide_slice Tryz.underlying61 hv;obtain⟨fuel,hf⟩:=h;rcases Go.Deep.open_slice Tryz.underlying61 hf with⟨h0,_⟩|⟨a,len,cap,m,n,D,Pl,hcs,_,hl,hm,C,_,hi⟩
 ·have h0':a0=none∧n0=0∧c0=0:=by
   simp [Value.cells]at h0;exact h0
  obtain⟨rfl,rfl,rfl⟩:=h0';exact⟨none,[],0,rfl,fun j x hj=>by simp at hj,cU⟩
 have h0':a0=some a∧n0=len∧c0=cap:=by simp [Value.cells]at hcs;exact hcs
 obtain⟨rfl,rfl,rfl⟩:=h0';have hnm:n0<=m:=by rw [C];split<;>omega
 obtain⟨b,off,sp⟩:=a;have hC:Tryz.prog.cellsOf 66=3:=eP;rw [hC]at hi;have hex:∀k:Nat,∃x:lY,k<n0->sp=none∧b<w.heap.size∧Mi w b (off+k*3) x:=by
  intro k;by_cases hk:k<n0
  ·obtain⟨cs',hc,ht⟩:=hi k bh;obtain⟨x,rfl,o1,o2,hs,hb⟩:=MU ht;obtain⟨_,_,B⟩:=World.cells?_some hc;have hsp:sp=none:=by
    obtain⟨cs0,hc0,E⟩:=hi 0 bh;obtain⟨x0,rfl,_⟩:=MU E;obtain⟨_,_,A⟩:=World.cells?_some hc0;have h1:=A 0 bh;exact World.cell?_spot (a:=⟨b,off,sp⟩) (h1.trans rfl)
   subst hsp;have g:∀j,j<3->w.cell? ⟨b,off+k*3+j,none⟩= [Value.int .i64 x.kind,↑x.n,.slice x.a x.b.length x.c][j]? :=fun j hj=>by have h1:=B j hj;rw [vE,vE]at h1;exact h1
   exact⟨x,fun _=>⟨rfl,Mm (g 0 bh),g 0 bh,g 1 bh,g 2 bh,o1,o2,hs,hb⟩⟩
  exact⟨⟨0,0,none,[],0⟩,fun h=>absurd h hk⟩
 have hml:maxLen<=9223372036854775807:=b9;refine⟨some ⟨b,off,sp⟩,(List.range n0).map (fun k=>(hex k).choose),c0,cU,?_,by simp;omega⟩;intro j e hj;have hjl:j<n0:=by have:=dM hj;simpa using this
 rw [List.getElem?_map,List.getElem?_range hjl]at hj;simp at hj;obtain⟨h1,h2,h3⟩:=(hex j).choose_spec hjl;rw [hj]at h3;exact⟨b,off,by rw [h1],h2,h3⟩
end Go.Proofs.YtmaijkoopjocdaaGreat
