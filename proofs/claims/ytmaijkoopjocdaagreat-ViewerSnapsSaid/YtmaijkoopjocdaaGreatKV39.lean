import Derived.Test.YtmaijkoopjocdaaGreatKV37
import Derived.Test.YtmaijkoopjocdaaGreatKV38
import Derived.Deep.Slices
import Derived.Deep.Fields
import Derived.ChangeSame
import Derived.OpenShut
set_option maxRecDepth 100000
set_option maxHeartbeats 64000000
namespace Go.Proofs.YtmaijkoopjocdaaGreat
open Go.RowKit Go.Lib
theorem agc {p:Prod} {S:List (List aC)} {k:Nat} (h:k<S.length):(dz p S)[k]? =some (lG p S k 1,lG p S k 2):=by
 unfold dz;rw [List.getElem?_map,List.getElem?_range h];rfl
theorem bl.Row.XU {α:Type} {Y:bl α} {w:World} {B n c:Nat} {a:Option Addr} {L:List α} (h:Y.Row w B (.slice a n c) L):Y.fR w a L:=by
 obtain⟨a',c',hv,_,hr⟩:=h.rd;injection hv with hv;rw [hv];exact hr
structure zY (w wr:World) (p:Prod) (aR c5 bt:Nat) (tJ v:Value) (T:List dK) (acc:bG):Prop where
 ek:av wr aR 25 p.cells
 b4:av wr c5 54 #[.slice none 0 0]
 bk:av wr bt 54 #[v]
 wq:qW.Row wr w.heap.size tJ T
 fh:cg eJ bK wr w.heap.size v acc
 aJ:Below w.heap.size w wr
 lT:w.heap.size≤c5
 qi:w.heap.size≤bt
 n45:c5≠bt
structure yB (w wr:World) (p:Prod) (aR c5 bt:Nat) (tJ v:Value) (T:List dK) (acc:bG) (cB:Nat) (x y:eO):Prop where
 i:zY w wr p aR c5 bt tJ v T acc
 bo:av wr cB 104 #[.slice x.a x.n x.c,↑x.im.ap,↑x.im.aq,↑x.im.count,↑x.has,.slice y.a y.n y.c,↑y.im.ap,↑y.im.aq,↑y.im.count,↑y.has]
 jP:∀g,v.ownBlock=some g→g≠cB
 tK:w.heap.size≤cB
section
variable {W w wr wr':World} {p:Prod} {aR c5 bt cB ps pb:Nat} {tJ v:Value} {T:List dK} {acc:bG} {x y x' y':eO} {Q:List Nat} {S:List (List aC)}
theorem zY.keep {F:Nat→Prop} (h:zY w wr p aR c5 bt tJ v T acc) (hk:aK F wr wr') (hF:∀g,F g→w.heap.size≤g) (hi:¬F aR) (h2:¬F c5) (h3:¬F bt) (hv:∀g,v.ownBlock=some g→¬F g) (hl:∀g,ck wr g bK.t→¬F g) (ht:∀g,ck wr g qW.t→¬F g):zY w wr' p aR c5 bt tJ v T acc:=
 ⟨h.ek.keeps hk hi,h.b4.keeps hk h2,h.bk.keeps hk h3,h.wq.keep hk ht,h.fh.JZ hk hv hl,h.aJ.trans (hk.below hF h.aJ.size),h.lT,h.qi,h.n45⟩
theorem zY.below (h:zY w wr p aR c5 bt tJ v T acc) (hb:Below wr.heap.size wr wr'):zY w wr' p aR c5 bt tJ v T acc:=
 h.keep (F:=fun _=>False) (Below.keeps hb) (fun _ x=>x.elim) (fun x=>x) (fun x=>x) (fun x=>x) (fun _ _ x=>x) (fun _ _ x=>x) (fun _ _ x=>x)
theorem yB.below (h:yB w wr p aR c5 bt tJ v T acc cB x y) (hb:Below wr.heap.size wr wr'):yB w wr' p aR c5 bt tJ v T acc cB x y:=⟨h.i.below hb,h.bo.below hb,h.jP,h.tK⟩
theorem yB.put (h:yB w wr p aR c5 bt tJ v T acc cB x y) (hk:aK (fun g=>g=cB) wr wr') (hb:av wr' cB 104 #[.slice x'.a x'.n x'.c,↑x'.im.ap,↑x'.im.aq,↑x'.im.count,↑x'.has,.slice y'.a y'.n y'.c,↑y'.im.ap,↑y'.im.aq,↑y'.im.count,↑y'.has]):yB w wr' p aR c5 bt tJ v T acc cB x' y':=
 ⟨h.i.keep hk (fun g e=>by have e2:g=cB:=e;rw [e2];exact h.tK) (fun e=>h.i.ek.aE.ne h.bo.aE (by decide) e) (fun e=>h.i.b4.aE.ne h.bo.aE (by decide) e) (fun e=>h.i.bk.aE.ne h.bo.aE (by decide) e) (fun g hg e=>h.jP g hg e) (fun g hg e=>hg.ne h.bo.aE (by decide) e) (fun g hg e=>hg.ne h.bo.aE (by decide) e),hb,h.jP,h.tK⟩
theorem bV.QY {s:eO} {d:aX} (h:bV bK wr w.heap.size s d) (hs:yB w wr p aR c5 bt tJ v T acc cB x y) (hk:aK (fun g=>g=cB) wr wr'):bV bK wr' w.heap.size s d:=
 h.keep hk fun g hg e=>hg.ne hs.bo.aE (by decide) e
theorem yB.grow {wb aA:World} {P:List bB} {v':Value} {d1 d2:aX} (h:yB w wr p aR c5 bt tJ v T acc cB x y) (hb:Below wr.heap.size wr wb) (hP:eJ.Row wb w.heap.size v P) (hl:P.length=acc.length) (hs:∀(j:Nat) (p:bB) (x:aX×aX),P[j]? =some p→acc[j]? =some x→bV bK wb w.heap.size p.s x.1∧bV bK wb w.heap.size p.t x.2)
 (h1:bV bK wr w.heap.size x d1) (h2:bV bK wr w.heap.size y d2) (hr:eJ.Row aA w.heap.size v' (P++ [⟨x,y⟩])) (hg:wb.grownBy aA v.ownBlock):
 zY w (aA.setCell ↑bt v') p aR c5 bt tJ v' T (acc++ [(d1,d2)])∧aA.cell? ↑bt=some v∧aA.frozen? ↑bt=false:=by
 have hk:=fK hg;have bT:∀g,v.ownBlock=some g→ck wb g eJ.t:=fun g hg=>eo hP g hg;have dw:∀g,v.ownBlock=some g→w.heap.size≤g:=cS hP;have i1:=h.i.below hb;have gX:∀{s:eO} {d:aX},bV bK wb w.heap.size s d→bV bK aA w.heap.size s d:=fun hh=>hh.keep hk (fun g hg e=>(bT _ e).ne hg (by decide) rfl);have EG:cg eJ bK aA w.heap.size v' (acc++ [(d1,d2)]):=cg.QC hr hl (fun j p x hp hx=>⟨gX (hs j p x hp hx).1,gX (hs j p x hp hx).2⟩) (gX (h1.below hb)) (gX (h2.below hb));have XV:=i1.ek.keeps hk (fun e=>(bT _ e).ne i1.ek.aE (by decide) rfl);have agd:=i1.b4.keeps hk (fun e=>(bT _ e).ne i1.b4.aE (by decide) rfl);have EQ:=i1.bk.keeps hk (fun e=>(bT _ e).ne i1.bk.aE (by decide) rfl);have age:=i1.wq.keep hk (fun g hg e=>(bT _ e).ne hg (by decide) rfl);have QD:=i1.aJ.trans (hk.below dw i1.aJ.size);have fu:=ct aA bt 0 v';have bI:=EQ.aW 0 v';simp only [List.setIfInBounds_toArray,List.set_cons_zero]at bI;exact⟨⟨XV.keeps fu (fun e=>XV.aE.ne EQ.aE (by decide) e),agd.keeps fu h.i.n45,bI,age.keep fu (fun g hg e=>hg.ne EQ.aE (by decide) e),EG.keep fu (fun g hg e=>hg.ne EQ.aE (by decide) e) (fun g hg e=>hg.ne EQ.aE (by decide) e),QD.setCell (p:=⟨bt,0,none⟩) h.i.qi _,h.i.lT,h.i.qi,h.i.n45⟩,EQ.cell 0,EQ.frozen 0⟩
theorem XW (h:eH W w ps p Q S) (hz:cR p=0) (hS:ei p S):
 Calls Tryz.prog 28 #[p.agg,.pointer ↑ps] w fun e w'=>∃v',e= .returned (.agg #[v'])∧cg eJ bK w' w.heap.size v' (dz p S)∧Below w.heap.size w w':=by
 have hsz:=ak;unfold Prod.agg Prod.cells;have hb1:Below w.heap.size w (w.alloc (.cells #[.string p.code,.slice p.ma p.months.length p.mc,↑p.tick,↑p.low,↑p.high,↑p.wide,↑p.rule,↑p.top,↑p.least,↑p.part,.slice p.sa p.settle.length p.sc] 25)):=Below.aI _ _;have aT:av (w.alloc (.cells #[.string p.code,.slice p.ma p.months.length p.mc,↑p.tick,↑p.low,↑p.high,↑p.wide,↑p.rule,↑p.top,↑p.least,↑p.part,.slice p.sa p.settle.length p.sc] 25)) w.heap.size 25 p.cells:=av.new _ _ _;have hz1:(w.alloc (.cells #[.string p.code,.slice p.ma p.months.length p.mc,↑p.tick,↑p.low,↑p.high,↑p.wide,↑p.rule,↑p.top,↑p.least,↑p.part,.slice p.sa p.settle.length p.sc] 25)).heap.size=w.heap.size+1:=hsz _ _;have H:=af h;have aD:=af hS;have iD:=af hsz;have uL:=af hS.le;obtain⟨n,hn⟩:=ai Q.length;have q4:S.length=n:=by rw [←h.len];exact hn
 have oP:=af q4;have rH:=af hn;have ec:=af hz;have hnb:n≤21:=by have:=hS.le;omega
 clear h hS hsz q4 hn hz;go_enter Tryz.func28,Tryz.ntmps28
 go_upto_region 2 with(fail)
 generalize (w.alloc (.cells #[.string p.code,.slice p.ma p.months.length p.mc,↑p.tick,↑p.low,↑p.high,↑p.wide,↑p.rule,↑p.top,↑p.least,↑p.part,.slice p.sa p.settle.length p.sc] 25))=w0 at*;have hb2:=hb1.trans ((Below.aI w0 (.cells #[.slice none 0 0] 54)).mono hb1.size);have hb3:=hb2.trans ((Below.aI (w0.alloc (.cells #[.slice none 0 0] 54)) (.cells #[.slice none 0 0] 54)).mono hb2.size)
 have Bn:av ((w0.alloc (.cells #[.slice none 0 0] 54)).alloc (.cells #[.slice none 0 0] 54)) (w.heap.size+1) 54 #[.slice none 0 0]:=by
  have:=(av.new w0 54 #[.slice none 0 0]).alloc (.cells #[.slice none 0 0] 54)
  rwa [hz1]at this
 have gb:av ((w0.alloc (.cells #[.slice none 0 0] 54)).alloc (.cells #[.slice none 0 0] 54)) (w.heap.size+1+1) 54 #[.slice none 0 0]:=by
  have:=av.new (w0.alloc (.cells #[.slice none 0 0] 54)) 54 #[.slice none 0 0]
  rwa [iD.out,hz1]at this
 have nT:=(aT.below (Below.aI w0 (.cells #[.slice none 0 0] 54))).below (Below.aI (w0.alloc (.cells #[.slice none 0 0] 54)) (.cells #[.slice none 0 0] 54));try rw [show w.heap.size+2=w.heap.size+1+1 from rfl]
 obtain⟨bt,XX⟩:=ai (w.heap.size+1+1);rw [XX]at gb⊢;obtain⟨c5,Kb⟩:=ai (w.heap.size+1);rw [Kb]at Bn⊢;have QZ:Hid (w.heap.size≤c5∧w.heap.size≤bt∧c5≠bt):=af (by omega);obtain⟨aR,xY⟩:=ai w.heap.size;have Nv:=af nT;rw [xY]at Nv;rw [show(Value.pointer ↑w.heap.size)= .pointer ↑aR by rw [xY]];have aG:=af hb3;have lI:=af Bn;have mJ:=af gb;clear XX Kb xY nT hb3 Bn gb hb2 hb1 aT hz1;generalize ((w0.alloc (.cells #[.slice none 0 0] 54)).alloc (.cells #[.slice none 0 0] 54))=w1 at*;go_wp2_with fail
 refine(Q0 (H.out.below aG.out) (by have:=uL.out;omega) (fun L hL=>⟨(aD.out.each L hL).len,(aD.out.each L hL).aq⟩)).mono ?_;rintro e w2 ⟨Q1,rfl,uM,hb2⟩;obtain⟨ta,tc,pE,_,hrd⟩:=uM.rd;subst pE
 have cU:Hid (zY w w2 p aR c5 bt (.slice ta (ef S).length tc) (.slice none 0 0) (ef S) []):=af
  ⟨Nv.out.below hb2,lI.out.below hb2,mJ.out.below hb2,uM.base aG.out.size,cg.nil _ _,aG.out.trans (hb2.mono aG.out.size),QZ.out.1,QZ.out.2.1,QZ.out.2.2⟩
 clear uM hrd hb2 Nv lI mJ aG;go_wp2_with fail
 go_loopw [7] (fun i w'=>∃(k:Nat) (v:Value),i=↑k∧k≤n∧zY w w' p aR c5 bt (.slice ta (ef S).length tc) v (ef S) ((dz p S).take k)) (fun i _=>n-(RowKit.intOf i).toNat)
 case atStart=>exact⟨0,_,rfl,Nat.zero_le _,cU.out⟩
 case round=>
  clear cU;obtain⟨k,v,rfl,hk,hI⟩:=hrel;obtain⟨ax,rfl⟩:=aj wr;have cU:=af hI;clear hI;obtain⟨a,c,aT,_⟩:=(H.out.below cU.out.aJ).box;rw [rH.out]at aT;have dS:ax.cell? ⟨ps,11,none⟩=some (.slice a n c):=aT.cell 11;clear aT;by_cases hlt:k<n
  ·have hlt':(k:Int)<(n:Int):=by omega
   obtain⟨pb,L,hq,hs,hrb⟩:=(H.out.below cU.out.aJ).get (by rw [oP.out];exact hlt);have ie:=af hq;have Nw:=af (aD.out.each L (List.mem_of_getElem? hs));have qm:Hid (S.getD k []=L):=af (by rw [List.getD_eq_getElem?_getD,hs];rfl);have dN:Hid ((dz p S).take (k+1)=(dz p S).take k++ [(lG p S k 1,lG p S k 2)]):=af (kH (agc (by rw [oP.out];exact hlt)));have tG:Hid (((dz p S).take k).length=k):=af (by rw [List.length_take,CS,oP.out];omega);clear hq hs hrb;have hba:=Below.aI ax (.cells ke.cells.toArray 104);have nk:av (ax.alloc (.cells ke.cells.toArray 104)) ax.heap.size 104 ke.cells.toArray:=av.new _ _ _;have hw0:yB w (ax.alloc (.cells ke.cells.toArray 104)) p aR c5 bt (.slice ta (ef S).length tc) v (ef S) ((dz p S).take k) ax.heap.size mR mR:=⟨cU.out.below hba,nk,fun g hg e=>by obtain⟨P,hP,_⟩:=cU.out.fh;have:=ki hP g hg;omega,cU.out.aJ.size⟩;have jJ:=af hw0;clear hba nk hw0;unfold ke bB.cells mR jD at jJ;dsimp only at jJ;go_upto_region 7 with(fail)
   obtain⟨cB,Cr⟩:=ai ax.heap.size;rw [Cr]at jJ⊢;clear Cr cU dS;generalize ax.alloc _=bW at*;go_wp2_with fail
   go_loopw [9] (fun i w'=>∃(j:Nat) (x y:eO),i= .int .i64 ((j:Int)+1)∧yB w w' p aR c5 bt (.slice ta (ef S).length tc) v (ef S) ((dz p S).take k) cB x y∧
    ((j=0∧x=mR∧y=mR)∨(j=1∧y=mR∧bV bK w' w.heap.size x (lG p S k 1))∨(j=2∧bV bK w' w.heap.size x (lG p S k 1)∧bV bK w' w.heap.size y (lG p S k 2)))) (fun i _=>4-(RowKit.intOf i).toNat)
   case atStart=>exact⟨0,_,_,rfl,jJ.out,.inl ⟨rfl,rfl,rfl⟩⟩
   case round=>
    clear jJ;obtain⟨j,x,y,rfl,hW,hc⟩:=hrel;obtain⟨wv,rfl⟩:=aj wr;rcases hc with⟨rfl,rfl,rfl⟩|⟨rfl,rfl,hs1⟩|⟨rfl,hs1,fD⟩
    ·have W1:=af hW
     clear hW;have Bo:=af (H.out.pv.below (H.out.aJ.trans (W1.out.i.aJ.mono H.out.aJ.size)));have mC:=Q2 p k 1 ta tc (ef S) wv Bo.out W1.out.i.wq.XU aD.out.CT (by rw [Nx];have:=uL.out;omega) G8;obtain⟨⟨sp,iB,sn,sh⟩,Kc⟩:=ai (nS (mA p (ef S) k 1) 1);have wu:=af Kc;have tL:=af (QT p S k 1);unfold Prod.agg Prod.cells at mC;have uN:=af mC;clear mC Kc;obtain⟨c0,c1,c2,c3,dH,b8,fJ,gL,iC,kp,wh⟩:=PC.oQ W1.out.i.ek;go_wp2_with fail
     refine uN.out.mono ?_;rintro e w2 ⟨lJ,rfl,mC,hb2⟩;obtain⟨sH,xh,CU,_,yC⟩:=mC.rd;subst CU;have CV:=af yC;have W2:=af (W1.out.below hb2);have aS:=af hb2;clear mC yC hb2 c0 c1 c2 c3 dH b8 fJ gL iC kp wh;go_wp2_with fail
     refine(XY (mA p (ef S) k 1) sH xh 1 w2 CV.out (by have:=tL.out;omega)).mono ?_;rintro e w3 ⟨he,hb3⟩;rw [wu.out]at he;dsimp only at he;subst he;have qo:=af (W2.out.below hb3);have aQ:=ag aS hb3;clear hb3 CV uN;obtain⟨g,c1,hb1,_,q0⟩:=(H.out.below qo.out.i.aJ).ptr ie.out;rw [rH.out]at hb1;have dS:w3.cell? ⟨ps,11,none⟩=some (.slice ↑g n c1):=hb1.cell 11;obtain⟨MY,mz,hq2,fD,hrb⟩:=(H.out.below qo.out.i.aJ).get (by rw [oP.out];exact hlt);have e1:MY=pb:=by have:=ie.out;rw [hq2]at this;injection this
     have e2:mz=L:=by have:=qm.out;rw [List.getD_eq_getElem?_getD,fD]at this;exact this
     subst e1;subst e2;have Bp:=af (Ny hrb Nw.out.len Nw.out.aq 1);clear hb1 hq2 fD hrb;go_wp2_with fail
     refine Bp.out.mono ?_;rintro e az ⟨vl,rfl,hrl,hb4⟩;obtain⟨la,lc,hvl⟩:=hrl.form;subst hvl;have pM:=af (qo.out.below hb4)
     have uv:Hid (bV bK az w.heap.size ⟨la,(k6 mz 1).length,lc,⟨sp,iB,sn⟩,sh⟩ (lG p S k 1)):=af (by
      have h1:(lG p S k 1)=⟨k6 mz 1,⟨sp,iB,sn⟩,sh⟩:=by unfold lG;rw [qm.out,wu.out]
      rw [h1];exact⟨rfl,hrl.base qo.out.i.aJ.size,rfl,rfl⟩)
     clear hrl hb4 Bp dS q0 W2 qo W1 aS aQ;have fz:∀o,az.frozen? ⟨cB,o,none⟩=false:=fun o=>pM.out.bo.frozen o;obtain⟨m0,m1,m2,eN,ea⟩:=pM.out.bo.amx;go_wp2_with fail
     have zZ:=pM.out.put (aK.xo az cB (.slice la (k6 mz 1).length lc) ↑sp ↑iB ↑sn ↑sh) (pM.out.bo.xo (.slice la (k6 mz 1).length lc) ↑sp ↑iB ↑sn ↑sh) (x':=⟨la,(k6 mz 1).length,lc,⟨sp,iB,sn⟩,sh⟩) (y':=mR);have vX:=aK.xo az cB (.slice la (k6 mz 1).length lc) ↑sp ↑iB ↑sn ↑sh;go_roundw
     case rel=>exact⟨1,_,_,rfl,zZ,.inr (.inl ⟨rfl,rfl,uv.out.QY pM.out vX⟩)⟩
     case measure=>simp [RowKit.intOf]
    ·have W1:=af hW
     clear hW;have dW:=af hs1;clear hs1;have Bo:=af (H.out.pv.below (H.out.aJ.trans (W1.out.i.aJ.mono H.out.aJ.size)));have mC:=Q2 p k 2 ta tc (ef S) wv Bo.out W1.out.i.wq.XU aD.out.CT (by rw [Nx];have:=uL.out;omega) G8;obtain⟨⟨sp,iB,sn,sh⟩,Kc⟩:=ai (nS (mA p (ef S) k 2) 2);have wu:=af Kc;have tL:=af (QT p S k 2);unfold Prod.agg Prod.cells at mC;have uN:=af mC;clear mC Kc;obtain⟨c0,c1,c2,c3,dH,b8,fJ,gL,iC,kp,wh⟩:=PC.oQ W1.out.i.ek;go_wp2_with fail
     refine uN.out.mono ?_;rintro e w2 ⟨lJ,rfl,mC,hb2⟩;obtain⟨sH,xh,CU,_,yC⟩:=mC.rd;subst CU;have CV:=af yC;have W2:=af (W1.out.below hb2);have aS:=af hb2;clear mC yC hb2 c0 c1 c2 c3 dH b8 fJ gL iC kp wh;go_wp2_with fail
     refine(XY (mA p (ef S) k 2) sH xh 2 w2 CV.out (by have:=tL.out;omega)).mono ?_;rintro e w3 ⟨he,hb3⟩;rw [wu.out]at he;dsimp only at he;subst he;have qo:=af (W2.out.below hb3);have aQ:=ag aS hb3;clear hb3 CV uN;obtain⟨g,c1,hb1,_,q0⟩:=(H.out.below qo.out.i.aJ).ptr ie.out;rw [rH.out]at hb1;have dS:w3.cell? ⟨ps,11,none⟩=some (.slice ↑g n c1):=hb1.cell 11;obtain⟨MY,mz,hq2,fD,hrb⟩:=(H.out.below qo.out.i.aJ).get (by rw [oP.out];exact hlt);have e1:MY=pb:=by have:=ie.out;rw [hq2]at this;injection this
     have e2:mz=L:=by have:=qm.out;rw [List.getD_eq_getElem?_getD,fD]at this;exact this
     subst e1;subst e2;have Bp:=af (Ny hrb Nw.out.len Nw.out.aq 2);clear hb1 hq2 fD hrb;go_wp2_with fail
     refine Bp.out.mono ?_;rintro e az ⟨vl,rfl,hrl,hb4⟩;obtain⟨la,lc,hvl⟩:=hrl.form;subst hvl;have pM:=af (qo.out.below hb4)
     have uv:Hid (bV bK az w.heap.size ⟨la,(k6 mz 2).length,lc,⟨sp,iB,sn⟩,sh⟩ (lG p S k 2)):=af (by
      have h1:(lG p S k 2)=⟨k6 mz 2,⟨sp,iB,sn⟩,sh⟩:=by unfold lG;rw [qm.out,wu.out]
      rw [h1];exact⟨rfl,hrl.base qo.out.i.aJ.size,rfl,rfl⟩)
     have agf:=af ((dW.out.below aQ.out).below hb4);clear hrl hb4 Bp dS q0 W2 qo W1 aS aQ;have fz:∀o,az.frozen? ⟨cB,o,none⟩=false:=fun o=>pM.out.bo.frozen o;have m0:az.cell? ⟨cB,5,none⟩=some (.slice none 0 0):=pM.out.bo.cell 5;have m1:az.cell? ⟨cB,6,none⟩=some (.int .i64 0):=pM.out.bo.cell 6;have m2:az.cell? ⟨cB,7,none⟩=some (.int .i64 0):=pM.out.bo.cell 7;have eN:az.cell? ⟨cB,8,none⟩=some (.int .i64 0):=pM.out.bo.cell 8;have ea:az.cell? ⟨cB,9,none⟩=some (.bool false):=pM.out.bo.cell 9;go_wp2_with fail
     have zZ:=pM.out.put (aK.xp az cB (.slice la (k6 mz 2).length lc) ↑sp ↑iB ↑sn ↑sh) (pM.out.bo.xp (.slice la (k6 mz 2).length lc) ↑sp ↑iB ↑sn ↑sh) (x':=x) (y':=⟨la,(k6 mz 2).length,lc,⟨sp,iB,sn⟩,sh⟩);have vX:=aK.xp az cB (.slice la (k6 mz 2).length lc) ↑sp ↑iB ↑sn ↑sh;go_roundw
     case rel=>exact⟨2,_,_,rfl,zZ,.inr (.inr ⟨rfl,agf.out.QY pM.out vX,uv.out.QY pM.out vX⟩)⟩
     case measure=>simp [RowKit.intOf]
    ·obtain⟨P,hP,gK,g8⟩:=hW.i.fh
     obtain⟨cJ,aY,gU⟩:=hP.form;subst gU;have W1:=af hW;have dx:=af hP;have gq:=af gK;have e6:=af g8;have dW:=af hs1;have cA:=af fD;clear hP gK g8 hW hs1 fD;obtain⟨m0,m1,m2,eN,ea,eY,dV,EL,CR,EM⟩:=W1.out.bo.amC;have v0:wv.cell? ↑bt=some (.slice cJ P.length aY):=W1.out.i.bk.cell 0;have hba:=Below.aI wv (.cells #[.slice x.a x.n x.c,↑x.im.ap,↑x.im.aq,↑x.im.count,↑x.has,.slice y.a y.n y.c,↑y.im.ap,↑y.im.aq,↑y.im.count,↑y.has] 104);have cK:=af hba;have g6:=af (dx.out.below hba);have uH:Hid (∀(j:Nat) (q:bB) (x:aX×aX),P[j]? =some q→((dz p S).take k)[j]? =some x→bV bK _ w.heap.size q.s x.1∧bV bK _ w.heap.size q.t x.2):=af fun j p x hp hx=>⟨(e6.out j p x hp hx).1.below hba,(e6.out j p x hp hx).2.below hba⟩;have c8:Hid (av (wv.alloc (.cells #[.slice x.a x.n x.c,↑x.im.ap,↑x.im.aq,↑x.im.count,↑x.has,.slice y.a y.n y.c,↑y.im.ap,↑y.im.aq,↑y.im.count,↑y.has] 104)) wv.heap.size 104 (eJ.cells ⟨x,y⟩).toArray):=af (av.new _ _ _);have XZ:Hid (w.heap.size≤(wv.alloc (.cells #[.slice x.a x.n x.c,↑x.im.ap,↑x.im.aq,↑x.im.count,↑x.has,.slice y.a y.n y.c,↑y.im.ap,↑y.im.aq,↑y.im.count,↑y.has] 104)).heap.size):=af (Nat.le_trans W1.out.i.aJ.size hba.size);have l9:Hid (P.length+1≤1000000):=af (by rw [gq.out,tG.out];have:=uL.out;have:=oP.out;omega);clear hba dx e6
     go_wp2_with (first
      |(at_builtin;go_loud (refine eJ.push rfl (.tmp 60) (.tmp 62) rfl w.heap.size (.slice cJ P.length aY) P rfl g6.out wv.heap.size ⟨x,y⟩ rfl c8.out.lt c8.out.gH l9.out XZ.out ?_)))
     intro v' aA dl gb _;obtain⟨a5,b8,hM⟩:=dl.form;rw [show(P++ [(⟨x,y⟩:bB)]).length=P.length+1 by rw [List.length_append];rfl]at hM;subst hM;obtain⟨i6,lq,z5⟩:=W1.out.grow cK.out g6.out gq.out uH.out dW.out cA.out dl gb;rw [←dN.out]at i6;have rQ:=af i6;clear dl gb i6 g6 uH c8 XZ l9 cK W1 dW cA m0 m1 m2 eN ea eY dV EL CR EM v0;go_wp2_with fail
     go_roundw
     case rel=>exact⟨k+1,_,by go_num,hlt,rQ.out⟩
     case measure=>simp [RowKit.intOf];omega
  ·have eR:k=n:=by omega
   have e5:Hid (cg eJ bK ax w.heap.size v (dz p S)):=af (by have:=cU.out.fh;rwa [eR,←oP.out,←CS p S,List.take_length]at this);obtain⟨cJ,aY,gU⟩:=e5.out.form;have v0:ax.cell? ↑bt=some v:=cU.out.bk.cell 0;have cu:ax.cell? ↑c5=some (.slice none 0 0):=cU.out.b4.cell 0;have z0:ax.frozen? ↑c5=false:=cU.out.b4.frozen 0;subst gU;clear eR;go_wp2_with fail
   clear v0 cu z0;have k0:(ax.setCell ↑c5 (.slice cJ (dz p S).length aY)).cell? ↑c5=some (.slice cJ (dz p S).length aY):=(cU.out.b4.aW 0 _).cell 0;have hbz:=cU.out.aJ.setCell (p:=⟨c5,0,none⟩) cU.out.lT (.slice cJ (dz p S).length aY);have J6:=e5.out.keep (ct ax c5 0 (.slice cJ (dz p S).length aY)) (fun g hg e=>hg.ne cU.out.b4.aE (by decide) e) (fun g hg e=>hg.ne cU.out.b4.aE (by decide) e);refine bodyPost_ret (v:= .agg #[.slice cJ (dz p S).length aY]) (by simp [results,Tryz.results28,go_sem,k0]) rfl ⟨_,rfl,J6,hbz⟩
end
structure Hd where
 a:Option Addr
 n:Nat
 c:Nat
def Hd.v (h:Hd):Value:= .slice h.a h.n h.c
def Hd.cells (h:Hd):List Value:= [.slice h.a h.n h.c]
theorem Hd.kI (h:Hd):∀u∈h.cells,u.oneCell'=true:=by
 intro u hu;simp only [Hd.cells,List.mem_cons,List.not_mem_nil,or_false]at hu;rw [hu];rfl
def Ez:bl Hd:=⟨Hd.cells,1,fun _=>rfl,Hd.kI,by omega,37,28,.slice none 0 0,24,Tryz.underlying28,by kernel_rfl,by rfl,by omega⟩
def zR:bl Hd:=⟨Hd.cells,1,fun _=>rfl,Hd.kI,by omega,54,29,.agg #[.slice none 0 0],24,Tryz.underlying29,by kernel_rfl,by rfl,by omega⟩
def ed.list (c:ed):List Value:= [.int .i64 c.kind,.int .i64 c.id,.int .i64 c.inst,.int .i64 c.side,.int .i64 c.ap,.int .i64 c.aq,.int .i64 c.least,.int .i64 c.time,.string c.label]
theorem ed.kI (c:ed):∀u∈c.list,u.oneCell'=true:=by
 intro u hu;simp only [ed.list,List.mem_cons,List.not_mem_nil,or_false]at hu;rcases hu with rfl|rfl|rfl|rfl|rfl|rfl|rfl|rfl|rfl<;>rfl
def Qm:bl ed:=⟨ed.list,9,fun _=>rfl,ed.kI,by omega,80,26,.agg M3.list.toArray,80,Tryz.underlying26,by kernel_rfl,by rfl,by omega⟩
def mQ (w:World) (B:Nat) (v:Value) (M:List aF):Prop:=
 ∃P:List Hd,Ez.Row w B v P∧P.length=M.length∧∀(j:Nat) (h:Hd) (m:aF),P[j]? =some h→M[j]? =some m→cZ.Row w B (.slice h.a h.n h.c) (fL m)
def oL (w:World) (B:Nat) (v:Value) (V:List bG):Prop:=
 ∃P:List Hd,zR.Row w B v P∧P.length=V.length∧∀(j:Nat) (h:Hd) (x:bG),P[j]? =some h→V[j]? =some x→cg eJ bK w B (.slice h.a h.n h.c) x
section
variable {w w':World} {B B':Nat} {v v':Value} {M:List aF} {V:List bG} {F:Nat→Prop}
theorem mQ.nil (w:World) (B:Nat):mQ w B (.slice none 0 0) []:=⟨[],bl.Row.nil w B,rfl,fun j h m hp=>by simp at hp⟩
theorem mQ.keep (h:mQ w B v M) (hk:aK F w w') (hv:∀g,v.ownBlock=some g→¬F g) (hy:∀g,ck w g cZ.t→¬F g):mQ w' B v M:=by
 obtain⟨P,h1,h2,h3⟩:=h;exact⟨P,h1.Bd hk hv,h2,fun j x m hp hm=>(h3 j x m hp hm).keep hk hy⟩
theorem mQ.below (h:mQ w B v M) (hb:Below w.heap.size w w'):mQ w' B v M:=
 h.keep (F:=fun _=>False) (Below.keeps hb) (fun _ _ x=>x) (fun _ _ x=>x)
theorem mQ.base (h:mQ w B v M) (hB:B'≤B):mQ w B' v M:=by
 obtain⟨P,h1,h2,h3⟩:=h;exact⟨P,h1.base hB,h2,fun j x m hp hm=>(h3 j x m hp hm).base hB⟩
theorem mQ.snoc {P:List Hd} {x:Hd} {m:aF} (hr:Ez.Row w B v' (P++ [x])) (hl:P.length=M.length) (ho:∀(j:Nat) (h:Hd) (m:aF),P[j]? =some h→M[j]? =some m→cZ.Row w B (.slice h.a h.n h.c) (fL m)) (h1:cZ.Row w B (.slice x.a x.n x.c) (fL m)):mQ w B v' (M++ [m]):=by
 refine⟨_,hr,by rw [List.length_append,List.length_append,hl];rfl,fun j q z hq hz=>?_⟩;by_cases hj:j<P.length
 ·rw [List.getElem?_append_left hj]at hq
  rw [List.getElem?_append_left (by omega)]at hz;exact ho j q z hq hz
 ·rw [List.getElem?_append_right (by omega)]at hq
  rw [List.getElem?_append_right (by omega)]at hz;have hj0:j-P.length=0:=by have:=dM hq;simp at this;omega
  rw [hj0]at hq;rw [←hl,hj0]at hz;injection hq with hq;injection hz with hz;subst hq;subst hz;exact h1
theorem oL.keep (h:oL w B v V) (hk:aK F w w') (hv:∀g,v.ownBlock=some g→¬F g) (hz:∀g,ck w g eJ.t→¬F g) (hy:∀g,ck w g bK.t→¬F g):oL w' B v V:=by
 obtain⟨P,h1,h2,h3⟩:=h;exact⟨P,h1.Bd hk hv,h2,fun j x m hp hm=>(h3 j x m hp hm).keep hk hz hy⟩
theorem oL.below (h:oL w B v V) (hb:Below w.heap.size w w'):oL w' B v V:=
 h.keep (F:=fun _=>False) (Below.keeps hb) (fun _ _ x=>x) (fun _ _ x=>x) (fun _ _ x=>x)
theorem oL.base (h:oL w B v V) (hB:B'≤B):oL w B' v V:=by
 obtain⟨P,h1,h2,h3⟩:=h;exact⟨P,h1.base hB,h2,fun j x m hp hm=>(h3 j x m hp hm).base hB⟩
theorem oL.snoc {P:List Hd} {x:Hd} {m:bG} (hr:zR.Row w B v' (P++ [x])) (hl:P.length=V.length) (ho:∀(j:Nat) (h:Hd) (m:bG),P[j]? =some h→V[j]? =some m→cg eJ bK w B (.slice h.a h.n h.c) m) (h1:cg eJ bK w B (.slice x.a x.n x.c) m):oL w B v' (V++ [m]):=by
 refine⟨_,hr,by rw [List.length_append,List.length_append,hl];rfl,fun j q z hq hz=>?_⟩;by_cases hj:j<P.length
 ·rw [List.getElem?_append_left hj]at hq
  rw [List.getElem?_append_left (by omega)]at hz;exact ho j q z hq hz
 ·rw [List.getElem?_append_right (by omega)]at hq
  rw [List.getElem?_append_right (by omega)]at hz;have hj0:j-P.length=0:=by have:=dM hq;simp at this;omega
  rw [hj0]at hq;rw [←hl,hj0]at hz;injection hq with hq;injection hz with hz;subst hq;subst hz;exact h1
theorem mQ.get (h:mQ w B v M) {j:Nat} {m:aF} (hj:M[j]? =some m):∃(g cap:Nat) (x:Hd),v= .slice ↑g M.length cap∧g<w.heap.size∧w.cell? ⟨g,j,none⟩=some (.slice x.a x.n x.c)∧cZ.Row w B (.slice x.a x.n x.c) (fL m):=by
 obtain⟨P,h1,h2,h3⟩:=h;have hl:=dM hj;have hp:P[j]? =some (P[j]'(by omega)):=List.getElem?_eq_getElem (by omega);obtain⟨g,cap,e1,e2,bJ⟩:=h1.at_ j _ hp;have cV:=bJ 0 _ rfl;rw [show j*Ez.m+0=j by show j*1+0=j;omega]at cV;exact⟨g,cap,_,by rw [e1,h2],e2,cV,h3 j _ m hp hj⟩
theorem oL.get (h:oL w B v V) {j:Nat} {m:bG} (hj:V[j]? =some m):∃(g cap:Nat) (x:Hd),v= .slice ↑g V.length cap∧g<w.heap.size∧w.cell? ⟨g,j,none⟩=some (.slice x.a x.n x.c)∧cg eJ bK w B (.slice x.a x.n x.c) m:=by
 obtain⟨P,h1,h2,h3⟩:=h;have hl:=dM hj;have hp:P[j]? =some (P[j]'(by omega)):=List.getElem?_eq_getElem (by omega);obtain⟨g,cap,e1,e2,bJ⟩:=h1.at_ j _ hp;have cV:=bJ 0 _ rfl;rw [show j*zR.m+0=j by show j*1+0=j;omega]at cV;exact⟨g,cap,_,by rw [e1,h2],e2,cV,h3 j _ m hp hj⟩
theorem mQ.form (h:mQ w B v M):∃a c,v= .slice a M.length c:=by
 obtain⟨P,h1,h2,_⟩:=h;obtain⟨a,c,e⟩:=h1.form;exact⟨a,c,by rw [e,h2]⟩
theorem oL.form (h:oL w B v V):∃a c,v= .slice a V.length c:=by
 obtain⟨P,h1,h2,_⟩:=h;obtain⟨a,c,e⟩:=h1.form;exact⟨a,c,by rw [e,h2]⟩
end
theorem ae9 {p:Prod} (hz:cR p=0) {L:List dK} (h:∀x∈L,∀s,x.has s=false) (i:Nat) (s:Int):oM p L i s= []:=by
 refine List.eq_nil_iff_forall_not_mem.2 fun q hq=>?_;obtain⟨_,x,_,h2,_,h3,_⟩:=(Wy hz hq).a;rw [h x (List.mem_of_getElem? h2)]at h3;cases h3
theorem afa {p:Prod} (hz:cR p=0) (n:Nat):dz p (List.replicate n [])=(rM n).V:=by
 have ht:∀x∈ef (List.replicate n ([]:List aC)),∀s,x.has s=false:=fun x hx s=>by
  unfold ef at hx;obtain⟨L,hL,rfl⟩:=List.mem_map.1 hx;rw [(List.mem_replicate.1 hL).2];unfold xj dK.has;split<;>rfl
 have hs:∀i s,lG p (List.replicate n []) i s=vI:=fun i s=>by
  have hq:mA p (ef (List.replicate n [])) i s= []:=by unfold mA;rw [ae9 hz ht];rfl
  have hg:(List.replicate n ([]:List aC)).getD i []= []:=by
   rw [List.getD_eq_getElem?_getD,List.getElem?_replicate];split<;>rfl
  unfold lG;rw [hq,hg];rfl
 unfold dz;rw [List.length_replicate];show _=List.replicate n (vI,vI);refine List.ext_getElem? fun j=>?_;rw [List.getElem?_map,List.getElem?_replicate];by_cases hj:j<n
 ·rw [List.getElem?_range hj,if_pos hj]
  simp only [Option.map_some,hs]
 ·rw [if_neg hj,List.getElem?_eq_none (by rw [List.length_range];omega)]
  rfl
end Go.Proofs.YtmaijkoopjocdaaGreat
namespace Go.Proofs.YtmaijkoopjocdaaGreat
open Go.ChangeShapes Go.WideShapes Go.RowKit
structure Re (w:World) (p:Prod):Prop where
 code:p.code.size≤maxLen
 IB:rS w p.ma p.months
 aW:rS w p.sa p.settle
 Cg:p.months.length≤9223372036854775807
 F7:p.settle.length≤9223372036854775807
 tick:cz p.tick
 low:cz p.low
 high:cz p.high
 wide:cz p.wide
 rule:cz p.rule
 top:cz p.top
 least:cz p.least
 part:cz p.part
theorem Re.cq {w:World} {p:Prod} (h:Re w p):Qv p:=⟨h.Cg,h.tick,h.wide,h.rule,h.top,h.least,h.part⟩
section
variable {H:Type} {enc:TypeId×Value→H} {P:Program} {w:World} {base:Nat} {spare:Nat→Bool} {held:Bool}
theorem Yg {e:TypeId} {fs:Array Field} {n:Nat} {cs:List Value} {y:DataW H×List MemPlace} (he:P.underlying e=some (.struct fs)) (hone:Go.Deep.oneCellFields P fs=true) (hlen:cs.length=fs.size)
 (ht:DataW.trod enc P w base spare held n e cs=some y):
 ∀(j:Nat) (f:Field),fs[j]? =some f→∃(v:Value) (m:Nat) (z:DataW H×List MemPlace),cs[j]? =some v∧DataW.trod enc P w base spare held m f.type [v]=some z:=by
 intro j f hj;obtain⟨xs,m,_,_,_,hxl,hf⟩:=DataW.trod_struct he ht;have hjl:j<fs.size:=(Array.getElem?_eq_some_iff.1 hj).1;obtain⟨ho,hk⟩:=Go.Deep.hone_of hone j f hj;have h1:=hf j f hj;have Yh:j<cs.length:=by omega
 rw [ho,hk,List.drop_eq_getElem_cons Yh,List.take_succ_cons,List.take_zero]at h1;exact⟨cs[j],m,xs[j]'(by omega),List.getElem?_eq_getElem Yh,by rw [h1,List.getElem?_eq_getElem]⟩
end
def agK:Value→Int
 | .int _ n=>n
 |_=>0
theorem Rf {H:Type} {enc:TypeId×Value→H} {w:World} {spare:Nat→Bool} {held:Bool} {t e:TypeId} {n:Nat} {v:Value} {y:DataW H×List MemPlace} (ht:Tryz.prog.underlying t=some (.slice e)) (he:Tryz.prog.underlying e=some (.int .i64)) (hc:Tryz.prog.cellsOf e=1)
 (h:DataW.trod enc Tryz.prog w 0 spare held n t [v]=some y):∃(a:Option Addr) (L:List Int) (c:Nat),v= .slice a L.length c∧rS w a L∧L.length≤maxLen:=by
 rcases Go.Deep.open_slice1 ht hc h with⟨h0,_⟩|⟨a,len,cap,m,k,V,D,Pl,hcs,_,hl,hm,Cq,_,hi⟩
 ·have h0':v= .slice none 0 0:=by simpa using h0
  exact⟨none,[],0,h0',fun j x hj=>by simp at hj,Nat.zero_le _⟩
 ·have agL:v= .slice (some a) len cap:=by simpa using hcs
  subst agL;have hnm:len≤m:=by rw [Cq];split<;>omega
  obtain⟨b,off,sp⟩:=a;refine⟨some ⟨b,off,sp⟩,(List.range len).map (fun i=>agK (V i)),cap,by simp,fun j x hj=>?_,by simp;omega⟩;have hjl:j<len:=by have:=dM hj;simpa using this
  rw [List.getElem?_map,List.getElem?_range hjl]at hj;simp at hj;obtain⟨h1,h2⟩:=hi j (by omega);obtain⟨z,hz1,_,yf⟩:=DataW.trod_int he h2;have hz:V j=↑z:=by simpa using hz1
  rw [hz]at hj h1;have hx:x=z:=hj.symm;subst hx
  have hsp:sp=none:=by
   have agM:=(hi 0 (by omega)).1;have:=World.cell?_spot agM;unfold Addr.add at this
   simpa using this
  subst hsp;have Rg:(⟨b,off,none⟩:Addr).add j=⟨b,off+j,none⟩:=vE b off j;rw [Rg]at h1;refine⟨bounds_i64 yf,b,off,rfl,?_,h1⟩;rcases Nat.lt_or_ge b w.heap.size with h|h
  ·exact h
  ·unfold World.cell? at h1
   rw [show(⟨b,off+j,none⟩:Addr).block=b from rfl,Array.getElem?_eq_none h]at h1;cases h1
theorem agN:∃fs:Array Field,Tryz.prog.underlying 25=some (.struct fs)∧Go.Deep.oneCellFields Tryz.prog fs=true∧fs.size=11∧fs.map (·.type)=#[9,22,2,2,2,2,3,2,2,2,23]:=
 ⟨_,Tryz.underlying25,by kernel_rfl,by kernel_rfl,by kernel_rfl⟩
theorem agO {H:Type} {enc:TypeId×Value→H} {w:World} {spare:Nat→Bool} {held:Bool} {v:Value} {d:DataW H} {pl:List MemPlace} (h:DataW.Trod enc Tryz.prog w 0 spare held 25 v d pl) {b0:Nat} (hv:Value.okWide Tryz.prog w .any b0 25 v):
 ∃p:Prod,v=p.agg∧Re w p:=by
 obtain⟨fs,Kq,hone,hsz,Rh⟩:=agN;obtain⟨cs,rfl,Yi⟩:=okWide_struct Kq hv;obtain⟨fuel,hf⟩:=h;have hC:Tryz.prog.cellsOf 25=11:=by kernel_rfl
 rw [hC]at Yi;have EZ:(Value.agg cs).cells=cs:=rfl;rw [EZ]at hf;have hh:=Yg Kq hone (by rw [hsz];simpa using Yi) hf
 have E0:∀(j:Nat) (t:TypeId),(#[9,22,2,2,2,2,3,2,2,2,23]:Array TypeId)[j]? =some t→∃(v:Value) (m:Nat) (z:DataW H×List MemPlace),cs.toList[j]? =some v∧DataW.trod enc Tryz.prog w 0 spare held m t [v]=some z:=by
  intro j t hj;rw [←Rh,Array.getElem?_map,Option.map_eq_some_iff]at hj;obtain⟨f,Bt,wA⟩:=hj;rw [←wA];exact hh j f Bt
 have rU:∀(j:Nat) (t:TypeId),(#[9,22,2,2,2,2,3,2,2,2,23]:Array TypeId)[j]? =some t→Tryz.prog.underlying t=some (.int .i64)→∃z:Int,cs.toList[j]? =some ↑z∧cz z:=by
  intro j t hj hu;obtain⟨v,m,z,hv1,kf⟩:=E0 j t hj;obtain⟨z',hz1,_,yf⟩:=DataW.trod_int hu kf;have hz:v=↑z':=by simpa using hz1
  exact⟨z',by rw [hv1,hz],bounds_i64 yf⟩
 obtain⟨v0,m0,z0,g0,t0⟩:=E0 0 9 rfl;obtain⟨s,hs1,_,E1⟩:=DataW.trod_string Tryz.underlying9 t0;have hs:v0= .string s:=by simpa using hs1
 subst hs;obtain⟨v1,m1,fw,g1,t1⟩:=E0 1 22 rfl;obtain⟨a1,eX,c1,rfl,agP,jF⟩:=Rf Tryz.underlying22 Tryz.underlying3 (by kernel_rfl) t1;obtain⟨n2,g2,o2⟩:=rU 2 2 rfl Tryz.underlying2;obtain⟨pJ,aV,bF⟩:=rU 3 2 rfl Tryz.underlying2;obtain⟨lT,c5,dX⟩:=rU 4 2 rfl Tryz.underlying2;obtain⟨qi,bt,Ri⟩:=rU 5 2 rfl Tryz.underlying2;obtain⟨E2,qH,Rj⟩:=rU 6 3 rfl Tryz.underlying3;obtain⟨Kr,aO,Rk⟩:=rU 7 2 rfl Tryz.underlying2;obtain⟨tK,cB,agQ⟩:=rU 8 2 rfl Tryz.underlying2;obtain⟨sI,cI,agR⟩:=rU 9 2 rfl Tryz.underlying2;obtain⟨v10,amI,amJ,G9,t10⟩:=E0 10 23 rfl;obtain⟨Yj,zK,wh,rfl,agS,agT⟩:=Rf Tryz.underlying23 Tryz.underlying2 (by kernel_rfl) t10
 have hcs:cs=#[.string s,.slice a1 eX.length c1,↑n2,↑pJ,↑lT,↑qi,↑E2,↑Kr,↑tK,↑sI,.slice Yj zK.length wh]:=by
  apply Array.toList_inj.1;apply List.ext_getElem?;intro i
  match i with
  |0=>exact g0
  |1=>exact g1
  |2=>exact g2
  |3=>exact aV
  |4=>exact c5
  |5=>exact bt
  |6=>exact qH
  |7=>exact aO
  |8=>exact cB
  |9=>exact cI
  |10=>exact G9
  |i+11=>rw [List.getElem?_eq_none (by simp;omega),List.getElem?_eq_none (by simp)]
 subst hcs;have hml:maxLen≤9223372036854775807:=by decide
 exact⟨⟨s,a1,eX,c1,n2,pJ,lT,qi,E2,Kr,tK,sI,Yj,zK,wh⟩,rfl,E1,agP,agS,Nat.le_trans jF hml,Nat.le_trans agT hml,o2,bF,dX,Ri,Rj,Rk,agQ,agR⟩
theorem open_ints {H:Type} {enc:TypeId×Value→H} {w:World} {spare:Nat→Bool} {held:Bool} {v:Value} {d:DataW H} {pl:List MemPlace} (h:DataW.Trod enc Tryz.prog w 0 spare held 22 v d pl) {b0:Nat} (hv:Value.okWide Tryz.prog w .any b0 22 v):
 ∃(a:Option Addr) (L:List Int) (c:Nat),v= .slice a L.length c∧rS w a L:=by
 obtain⟨a0,n0,c0,rfl⟩:=okWide_slice Tryz.underlying22 hv;obtain⟨fuel,hf⟩:=h;obtain⟨a,L,c,h1,h2,_⟩:=Rf Tryz.underlying22 Tryz.underlying3 (by kernel_rfl) hf;exact⟨a,L,c,h1,h2⟩
theorem agU:∃fs:Array Field,Tryz.prog.underlying 80=some (.struct fs)∧Go.Deep.oneCellFields Tryz.prog fs=true∧fs.size=9∧fs.map (·.type)=#[3,2,3,3,2,2,2,3,9]:=
 ⟨_,Tryz.underlying80,by kernel_rfl,by kernel_rfl,by kernel_rfl⟩
theorem Yk {H:Type} {enc:TypeId×Value→H} {w:World} {spare:Nat→Bool} {held:Bool} {n:Nat} {cs:List Value} {y:DataW H×List MemPlace} (h:DataW.trod enc Tryz.prog w 0 spare held n 80 cs=some y):∃x:ed,cs=x.list∧E3 x:=by
 obtain⟨fs,Kq,hone,hsz,Rh⟩:=agU;obtain⟨_,_,_,_,hl,_,_⟩:=DataW.trod_struct Kq h;have hC:Tryz.prog.cellsOf 80=9:=by kernel_rfl
 rw [hC]at hl;have hh:=Yg Kq hone (by rw [hsz];exact hl) h
 have E0:∀(j:Nat) (t:TypeId),(#[3,2,3,3,2,2,2,3,9]:Array TypeId)[j]? =some t→∃(v:Value) (m:Nat) (z:DataW H×List MemPlace),cs[j]? =some v∧DataW.trod enc Tryz.prog w 0 spare held m t [v]=some z:=by
  intro j t hj;rw [←Rh,Array.getElem?_map,Option.map_eq_some_iff]at hj;obtain⟨f,Bt,wA⟩:=hj;rw [←wA];exact hh j f Bt
 have rU:∀(j:Nat) (t:TypeId),(#[3,2,3,3,2,2,2,3,9]:Array TypeId)[j]? =some t→Tryz.prog.underlying t=some (.int .i64)→∃z:Int,cs[j]? =some ↑z∧cz z:=by
  intro j t hj hu;obtain⟨v,m,z,hv1,kf⟩:=E0 j t hj;obtain⟨z',hz1,_,yf⟩:=DataW.trod_int hu kf;have hz:v=↑z':=by simpa using hz1
  exact⟨z',by rw [hv1,hz],bounds_i64 yf⟩
 obtain⟨n0,g0,o0⟩:=rU 0 3 rfl Tryz.underlying3;obtain⟨n1,g1,o1⟩:=rU 1 2 rfl Tryz.underlying2;obtain⟨n2,g2,o2⟩:=rU 2 3 rfl Tryz.underlying3;obtain⟨pJ,aV,bF⟩:=rU 3 3 rfl Tryz.underlying3;obtain⟨lT,c5,dX⟩:=rU 4 2 rfl Tryz.underlying2;obtain⟨qi,bt,Ri⟩:=rU 5 2 rfl Tryz.underlying2;obtain⟨E2,qH,Rj⟩:=rU 6 2 rfl Tryz.underlying2;obtain⟨Kr,aO,Rk⟩:=rU 7 3 rfl Tryz.underlying3;obtain⟨lH,CR,AO,cB,t8⟩:=E0 8 9 rfl;obtain⟨s,hs1,_,E1⟩:=DataW.trod_string Tryz.underlying9 t8;have hs:lH= .string s:=by simpa using hs1
 subst hs
 have hcs:cs= [↑n0,↑n1,↑n2,↑pJ,↑lT,↑qi,↑E2,↑Kr,.string s]:=by
  apply List.ext_getElem?;intro i
  match i with
  |0=>exact g0
  |1=>exact g1
  |2=>exact g2
  |3=>exact aV
  |4=>exact c5
  |5=>exact bt
  |6=>exact qH
  |7=>exact aO
  |8=>exact cB
  |i+9=>rw [List.getElem?_eq_none (by omega),List.getElem?_eq_none (by simp)]
 subst hcs;exact⟨⟨n0,n1,n2,pJ,lT,qi,E2,Kr,s⟩,rfl,o0,o1,o2,bF,dX,Ri,Rj,Rk⟩
theorem agV:E3 M3:=by
 have h:cz 0:=by unfold cz;omega
 exact⟨h,h,h,h,h,h,h,h⟩
theorem agW {H:Type} {enc:TypeId×Value→H} {w:World} {spare:Nat→Bool} {held:Bool} {v:Value} {d:DataW H} {p:List MemPlace} (h:DataW.Trod enc Tryz.prog w 0 spare held 26 v d p) {b0:Nat} (hv:Value.okWide Tryz.prog w .any b0 26 v):
 ∃(a:Option Addr) (L:List ed) (c:Nat),v= .slice a L.length c∧Qm.fR w a L∧(∀x∈L,E3 x)∧L.length≤9223372036854775807∧L.length≤c:=by
 obtain⟨a0,n0,c0,rfl⟩:=okWide_slice Tryz.underlying26 hv;obtain⟨fuel,hf⟩:=h;rcases Go.Deep.open_slice Tryz.underlying26 hf with⟨h0,_⟩|⟨a,len,cap,m,n,D,Pl,hcs,_,hl,hm,Cq,_,hi⟩
 ·have h0':a0=none∧n0=0∧c0=0:=by
   simp [Value.cells]at h0;exact h0
  obtain⟨rfl,rfl,rfl⟩:=h0';exact⟨none,[],0,rfl,bl.fR.nil,fun x hx=>by simp at hx,by simp,by simp⟩
 ·have h0':a0=some a∧n0=len∧c0=cap:=by
   simp [Value.cells]at hcs;exact hcs
  obtain⟨rfl,rfl,rfl⟩:=h0';have hnm:n0≤m:=by rw [Cq];split<;>omega
  obtain⟨b,off,sp⟩:=a;have hC:Tryz.prog.cellsOf 80=9:=by kernel_rfl
  rw [hC]at hi
  have hex:∀k:Nat,∃x:ed,E3 x∧(k<n0→sp=none∧b<w.heap.size∧iI w b (off+k*9) x.list):=by
   intro k;by_cases hk:k<n0
   ·obtain⟨cs',hc,ht⟩:=hi k (by omega)
    obtain⟨x,rfl,hx⟩:=Yk ht;obtain⟨_,_,Cb⟩:=World.cells?_some hc
    have hsp:sp=none:=by
     obtain⟨cs0,hc0,ko⟩:=hi 0 (by omega);obtain⟨x0,rfl,_⟩:=Yk ko;obtain⟨_,_,agX⟩:=World.cells?_some hc0;have h1:=agX 0 (by omega);exact World.cell?_spot (a:=⟨b,off,sp⟩) (h1.trans rfl)
    subst hsp;refine⟨x,hx,fun _=>⟨rfl,?_,fun j u hu=>?_⟩⟩
    ·have h1:=Cb 0 (by omega)
     rw [vE]at h1;rcases Nat.lt_or_ge b w.heap.size with h|h
     ·exact h
     ·unfold World.cell? at h1
      rw [show((⟨b,off+k*9,none⟩:Addr).add 0).block=b from rfl,Array.getElem?_eq_none h]at h1;cases h1
    ·have hj:j<9:=dM hu
     have h1:=Cb j hj;rw [vE,vE]at h1;exact h1.trans hu
   ·exact⟨M3,agV,fun h=>absurd h hk⟩
  have hml:maxLen≤9223372036854775807:=by decide
  refine⟨some ⟨b,off,sp⟩,(List.range n0).map (fun k=>(hex k).choose),c0,by simp,?_,?_,by simp;omega,by simp;omega⟩
  ·intro j e hj
   have hjl:j<n0:=by have:=dM hj;simpa using this
   rw [List.getElem?_map,List.getElem?_range hjl]at hj;simp at hj;obtain⟨_,h2⟩:=(hex j).choose_spec;obtain⟨rfl,h4,h5⟩:=h2 hjl;rw [hj]at h5;exact⟨b,off,rfl,h4,h5⟩
  ·intro x hx
   rw [List.mem_map]at hx;obtain⟨k,_,rfl⟩:=hx;exact((hex k).choose_spec).1
end Go.Proofs.YtmaijkoopjocdaaGreat
