import Derived.Test.YtmaijkoopjocdaaGreatKT39
set_option maxRecDepth 100000
set_option maxHeartbeats 64000000
namespace Go.Proofs.YtmaijkoopjocdaaGreat
open Go.RowKit Go.Lib
theorem adz {p:Prod} {S:List (List ay)} {k:Nat} (h:k<S.length):(cT p S)[k]? =some (kL p S k 1,kL p S k 2):=by
 unfold cT;rw [List.getElem?_map,List.getElem?_range h];rfl
theorem aY.Row.VZ {α:Type} {Y:aY α} {w:World} {B n c:Nat} {a:Option Addr} {L:List α} (h:Y.Row w B (.slice a n c) L):Y.fF w a L:=by
 obtain⟨a',c',hv,_,hr⟩:=h.rd;injection hv with hv;rw [hv];exact hr
structure yg (w wr:World) (p:Prod) (aH gj bg:Nat) (rU v:Value) (T:List cZ) (acc:bP):Prop where
 dx:aj wr aH 25 p.cells
 b4:aj wr gj 54 #[.slice none 0 0]
 aW:aj wr bg 54 #[v]
 uy:pV.Row wr w.heap.size rU T
 fG:cl eF bC wr w.heap.size v acc
 aF:Below w.heap.size w wr
 kW:w.heap.size≤gj
 pn:w.heap.size≤bg
 n45:gj≠bg
structure wP (w wr:World) (p:Prod) (aH gj bg:Nat) (rU v:Value) (T:List cZ) (acc:bP) (ck:Nat) (x y:eI):Prop where
 i:yg w wr p aH gj bg rU v T acc
 bo:aj wr ck 104 #[.slice x.a x.n x.c,.int .i64 x.im.ag,.int .i64 x.im.ah,.int .i64 x.im.count,.bool x.has,.slice y.a y.n y.c,.int .i64 y.im.ag,.int .i64 y.im.ah,.int .i64 y.im.count,.bool y.has]
 j8:∀g,v.ownBlock=some g→g≠ck
 rV:w.heap.size≤ck
section
variable {W w wr wr':World} {p:Prod} {aH gj bg ck ps pb:Nat} {rU v:Value} {T:List cZ} {acc:bP} {x y x' y':eI} {Q:List Nat} {S:List (List ay)}
theorem yg.keep {F:Nat→Prop} (h:yg w wr p aH gj bg rU v T acc) (hk:aD F wr wr') (hF:∀g,F g→w.heap.size≤g) (hi:¬F aH) (h2:¬F gj) (h3:¬F bg) (hv:∀g,v.ownBlock=some g→¬F g) (hl:∀g,bV wr g bC.t→¬F g) (ht:∀g,bV wr g pV.t→¬F g):yg w wr' p aH gj bg rU v T acc:=
 ⟨h.dx.keeps hk hi,h.b4.keeps hk h2,h.aW.keeps hk h3,h.uy.keep hk ht,h.fG.Ls hk hv hl,h.aF.trans (hk.below hF h.aF.size),h.kW,h.pn,h.n45⟩
theorem yg.below (h:yg w wr p aH gj bg rU v T acc) (hb:Below wr.heap.size wr wr'):yg w wr' p aH gj bg rU v T acc:=
 h.keep (F:=fun _=>False) (Below.keeps hb) (fun _ x=>x.elim) (fun x=>x) (fun x=>x) (fun x=>x) (fun _ _ x=>x) (fun _ _ x=>x) (fun _ _ x=>x)
theorem wP.below (h:wP w wr p aH gj bg rU v T acc ck x y) (hb:Below wr.heap.size wr wr'):wP w wr' p aH gj bg rU v T acc ck x y:=⟨h.i.below hb,h.bo.below hb,h.j8,h.rV⟩
theorem wP.put (h:wP w wr p aH gj bg rU v T acc ck x y) (hk:aD (fun g=>g=ck) wr wr') (hb:aj wr' ck 104 #[.slice x'.a x'.n x'.c,.int .i64 x'.im.ag,.int .i64 x'.im.ah,.int .i64 x'.im.count,.bool x'.has,.slice y'.a y'.n y'.c,.int .i64 y'.im.ag,.int .i64 y'.im.ah,.int .i64 y'.im.count,.bool y'.has]):wP w wr' p aH gj bg rU v T acc ck x' y':=
 ⟨h.i.keep hk (fun g e=>by have e2:g=ck:=e;rw [e2];exact h.rV) (fun e=>h.i.dx.aC.ne h.bo.aC (by decide) e) (fun e=>h.i.b4.aC.ne h.bo.aC (by decide) e) (fun e=>h.i.aW.aC.ne h.bo.aC (by decide) e) (fun g hg e=>h.j8 g hg e) (fun g hg e=>hg.ne h.bo.aC (by decide) e) (fun g hg e=>hg.ne h.bo.aC (by decide) e),hb,h.j8,h.rV⟩
theorem bN.Pu {s:eI} {d:aV} (h:bN bC wr w.heap.size s d) (hs:wP w wr p aH gj bg rU v T acc ck x y) (hk:aD (fun g=>g=ck) wr wr'):bN bC wr' w.heap.size s d:=
 h.keep hk fun g hg e=>hg.ne hs.bo.aC (by decide) e
theorem wP.grow {wb au:World} {P:List bz} {v':Value} {d1 d2:aV} (h:wP w wr p aH gj bg rU v T acc ck x y) (hb:Below wr.heap.size wr wb) (hP:eF.Row wb w.heap.size v P) (hl:P.length=acc.length) (hs:∀(j:Nat) (p:bz) (x:aV×aV),P[j]? =some p→acc[j]? =some x→bN bC wb w.heap.size p.s x.1∧bN bC wb w.heap.size p.t x.2)
 (h1:bN bC wr w.heap.size x d1) (h2:bN bC wr w.heap.size y d2) (hr:eF.Row au w.heap.size v' (P++ [⟨x,y⟩])) (hg:wb.grownBy au v.ownBlock):
 yg w (au.setCell ⟨bg,0,none⟩ v') p aH gj bg rU v' T (acc++ [(d1,d2)])∧au.cell? ⟨bg,0,none⟩=some v∧au.frozen? ⟨bg,0,none⟩=false:=by
 have hk:=fe hg;have bI:∀g,v.ownBlock=some g→bV wb g eF.t:=fun g hg=>dR hP g hg;have dO:∀g,v.ownBlock=some g→w.heap.size≤g:=cx hP;have i1:=h.i.below hb;have fT:∀{s:eI} {d:aV},bN bC wb w.heap.size s d→bN bC au w.heap.size s d:=fun hh=>hh.keep hk (fun g hg e=>(bI _ e).ne hg (by decide) rfl);have CX:cl eF bC au w.heap.size v' (acc++ [(d1,d2)]):=cl.O0 hr hl (fun j p x hp hx=>⟨fT (hs j p x hp hx).1,fT (hs j p x hp hx).2⟩) (fT (h1.below hb)) (fT (h2.below hb));have V0:=i1.dx.keeps hk (fun e=>(bI _ e).ne i1.dx.aC (by decide) rfl);have adA:=i1.b4.keeps hk (fun e=>(bI _ e).ne i1.b4.aC (by decide) rfl);have C9:=i1.aW.keeps hk (fun e=>(bI _ e).ne i1.aW.aC (by decide) rfl);have adB:=i1.uy.keep hk (fun g hg e=>(bI _ e).ne hg (by decide) rfl);have O1:=i1.aF.trans (hk.below dO i1.aF.size);have fS:=bS au bg 0 v';have bF:=C9.aQ 0 v';simp only [List.setIfInBounds_toArray,List.set_cons_zero]at bF;exact⟨⟨V0.keeps fS (fun e=>V0.aC.ne C9.aC (by decide) e),adA.keeps fS h.i.n45,bF,adB.keep fS (fun g hg e=>hg.ne C9.aC (by decide) e),CX.keep fS (fun g hg e=>hg.ne C9.aC (by decide) e) (fun g hg e=>hg.ne C9.aC (by decide) e),O1.setCell (p:=⟨bg,0,none⟩) h.i.pn _,h.i.kW,h.i.pn,h.i.n45⟩,C9.cell 0,C9.frozen 0⟩
theorem V1 (h:ek W w ps p Q S) (hz:cz p=0) (hS:dJ p S):
 Calls Tryz.prog 28 #[p.agg,.pointer (some ⟨ps,0,none⟩)] w fun e w'=>∃v',e= .returned (.agg #[v'])∧cl eF bC w' w.heap.size v' (cT p S)∧Below w.heap.size w w':=by
 have hsz:∀(w:World) (o:Obj),(w.alloc o).heap.size=w.heap.size+1:=fun w o=>by simp
 unfold Prod.agg Prod.cells;have hb1:Below w.heap.size w (w.alloc (.cells #[.string p.code,.slice p.ma p.months.length p.mc,.int .i64 p.tick,.int .i64 p.low,.int .i64 p.high,.int .i64 p.wide,.int .i64 p.rule,.int .i64 p.top,.int .i64 p.least,.int .i64 p.part,.slice p.sa p.settle.length p.sc] 25)):=Below.aA _ _;have aP:aj (w.alloc (.cells #[.string p.code,.slice p.ma p.months.length p.mc,.int .i64 p.tick,.int .i64 p.low,.int .i64 p.high,.int .i64 p.wide,.int .i64 p.rule,.int .i64 p.top,.int .i64 p.least,.int .i64 p.part,.slice p.sa p.settle.length p.sc] 25)) w.heap.size 25 p.cells:=aj.new _ _ _;have hz1:(w.alloc (.cells #[.string p.code,.slice p.ma p.months.length p.mc,.int .i64 p.tick,.int .i64 p.low,.int .i64 p.high,.int .i64 p.wide,.int .i64 p.rule,.int .i64 p.top,.int .i64 p.least,.int .i64 p.part,.slice p.sa p.settle.length p.sc] 25)).heap.size=w.heap.size+1:=hsz _ _;have H:=af h;have aq:=af hS;have hM:=af hsz;have sR:=af hS.le;obtain⟨n,hn⟩:∃n,Q.length=n:=⟨_,rfl⟩;have p5:S.length=n:=by rw [←h.len];exact hn
 have nU:=af p5;have o5:=af hn;have dI:=af hz;have hnb:n≤21:=by have:=hS.le;omega
 clear h hS hsz p5 hn hz;go_enter Tryz.func28,Tryz.ntmps28
 go_upto_region 2 with(fail)
 generalize (w.alloc (.cells #[.string p.code,.slice p.ma p.months.length p.mc,.int .i64 p.tick,.int .i64 p.low,.int .i64 p.high,.int .i64 p.wide,.int .i64 p.rule,.int .i64 p.top,.int .i64 p.least,.int .i64 p.part,.slice p.sa p.settle.length p.sc] 25))=w0 at*;have hb2:=hb1.trans ((Below.aA w0 (.cells #[.slice none 0 0] 54)).mono hb1.size);have hb3:=hb2.trans ((Below.aA (w0.alloc (.cells #[.slice none 0 0] 54)) (.cells #[.slice none 0 0] 54)).mono hb2.size)
 have Pv:aj ((w0.alloc (.cells #[.slice none 0 0] 54)).alloc (.cells #[.slice none 0 0] 54)) (w.heap.size+1) 54 #[.slice none 0 0]:=by
  have:=(aj.new w0 54 #[.slice none 0 0]).alloc (.cells #[.slice none 0 0] 54)
  rwa [hz1]at this
 have fW:aj ((w0.alloc (.cells #[.slice none 0 0] 54)).alloc (.cells #[.slice none 0 0] 54)) (w.heap.size+1+1) 54 #[.slice none 0 0]:=by
  have:=aj.new (w0.alloc (.cells #[.slice none 0 0] 54)) 54 #[.slice none 0 0]
  rwa [hM.out,hz1]at this
 have m4:=(aP.below (Below.aA w0 (.cells #[.slice none 0 0] 54))).below (Below.aA (w0.alloc (.cells #[.slice none 0 0] 54)) (.cells #[.slice none 0 0] 54));try rw [show w.heap.size+2=w.heap.size+1+1 from rfl]
 obtain⟨bg,V2⟩:∃g,w.heap.size+1+1=g:=⟨_,rfl⟩;rw [V2]at fW⊢;obtain⟨gj,V3⟩:∃g,w.heap.size+1=g:=⟨_,rfl⟩;rw [V3]at Pv⊢;have Pw:Hid (w.heap.size≤gj∧w.heap.size≤bg∧gj≠bg):=af (by omega);obtain⟨aH,vR⟩:∃g,w.heap.size=g:=⟨_,rfl⟩;have LH:=af m4;rw [vR]at LH;rw [show(Value.pointer (some ⟨w.heap.size,0,none⟩))= .pointer (some ⟨aH,0,none⟩)by rw [vR]];have aE:=af hb3;have wQ:=af Pv;have sw:=af fW;clear V2 V3 vR m4 hb3 Pv fW hb2 hb1 aP hz1;generalize ((w0.alloc (.cells #[.slice none 0 0] 54)).alloc (.cells #[.slice none 0 0] 54))=w1 at*;go_wp2_with fail
 refine(Px (H.out.below aE.out) (by have:=sR.out;omega) (fun L hL=>⟨(aq.out.each L hL).len,(aq.out.each L hL).ah⟩)).mono ?_;rintro e w2 ⟨Py,rfl,sS,hb2⟩;obtain⟨ta,tc,oy,_,hrd⟩:=sS.rd;subst oy
 have iq:Hid (yg w w2 p aH gj bg (.slice ta (dF S).length tc) (.slice none 0 0) (dF S) []):=af
  ⟨LH.out.below hb2,wQ.out.below hb2,sw.out.below hb2,sS.base aE.out.size,cl.nil _ _,aE.out.trans (hb2.mono aE.out.size),Pw.out.1,Pw.out.2.1,Pw.out.2.2⟩
 clear sS hrd hb2 LH wQ sw aE;go_wp2_with fail
 go_loopw [7] (fun i w'=>∃(k:Nat) (v:Value),i= .int .i64 k∧k≤n∧yg w w' p aH gj bg (.slice ta (dF S).length tc) v (dF S) ((cT p S).take k)) (fun i _=>n-(RowKit.intOf i).toNat)
 case atStart=>exact⟨0,_,rfl,Nat.zero_le _,iq.out⟩
 case round=>
  clear iq;obtain⟨k,v,rfl,hk,hI⟩:=hrel;obtain⟨ak,rfl⟩:∃bk:World,bk=wr:=⟨_,rfl⟩;have iq:=af hI;clear hI;obtain⟨a,c,aP,_⟩:=(H.out.below iq.out.aF).box;rw [o5.out]at aP;have dg:ak.cell? ⟨ps,11,none⟩=some (.slice a n c):=aP.cell 11;clear aP;by_cases hlt:k<n
  ·have hlt':(k:Int)<(n:Int):=by omega
   obtain⟨pb,L,hq,hs,hrb⟩:=(H.out.below iq.out.aF).get (by rw [nU.out];exact hlt);have gM:=af hq;have LI:=af (aq.out.each L (List.mem_of_getElem? hs));have LJ:Hid (S.getD k []=L):=af (by rw [List.getD_eq_getElem?_getD,hs];rfl);have dh:Hid ((cT p S).take (k+1)=(cT p S).take k++ [(kL p S k 1,kL p S k 2)]):=af (lp (adz (by rw [nU.out];exact hlt)));have ye:Hid (((cT p S).take k).length=k):=af (by rw [List.length_take,A8,nU.out];omega);clear hq hs hrb;have hba:=Below.aA ak (.cells k9.cells.toArray 104);have nR:aj (ak.alloc (.cells k9.cells.toArray 104)) ak.heap.size 104 k9.cells.toArray:=aj.new _ _ _;have hw0:wP w (ak.alloc (.cells k9.cells.toArray 104)) p aH gj bg (.slice ta (dF S).length tc) v (dF S) ((cT p S).take k) ak.heap.size ny ny:=⟨iq.out.below hba,nR,fun g hg e=>by obtain⟨P,hP,_⟩:=iq.out.fG;have:=jH hP g hg;omega,iq.out.aF.size⟩;have k3:=af hw0;clear hba nR hw0;unfold k9 bz.cells ny oP at k3;dsimp only at k3;go_upto_region 7 with(fail)
   obtain⟨ck,Ax⟩:∃g,ak.heap.size=g:=⟨_,rfl⟩;rw [Ax]at k3⊢;clear Ax iq dg;generalize ak.alloc _=bG at*;go_wp2_with fail
   go_loopw [9] (fun i w'=>∃(j:Nat) (x y:eI),i= .int .i64 ((j:Int)+1)∧wP w w' p aH gj bg (.slice ta (dF S).length tc) v (dF S) ((cT p S).take k) ck x y∧
    ((j=0∧x=ny∧y=ny)∨(j=1∧y=ny∧bN bC w' w.heap.size x (kL p S k 1))∨(j=2∧bN bC w' w.heap.size x (kL p S k 1)∧bN bC w' w.heap.size y (kL p S k 2)))) (fun i _=>4-(RowKit.intOf i).toNat)
   case atStart=>exact⟨0,_,_,rfl,k3.out,.inl ⟨rfl,rfl,rfl⟩⟩
   case round=>
    clear k3;obtain⟨j,x,y,rfl,hW,hc⟩:=hrel;obtain⟨wv,rfl⟩:∃bk:World,bk=wr:=⟨_,rfl⟩;rcases hc with⟨rfl,rfl,rfl⟩|⟨rfl,rfl,hs1⟩|⟨rfl,hs1,ic⟩
    ·have W1:=af hW
     clear hW;have zw:=af (H.out.pv.below (H.out.aF.trans (W1.out.i.aF.mono H.out.aF.size)));have lK:=Pz p k 1 ta tc (dF S) wv zw.out W1.out.i.uy.VZ aq.out.A9 (by rw [LK];have:=sR.out;omega) Fo;obtain⟨⟨sp,gS,sn,sh⟩,Ik⟩:∃r,m3 (lF p (dF S) k 1) 1=r:=⟨_,rfl⟩;have Ba:=af Ik;have vg:=af (Pq p S k 1);unfold Prod.agg Prod.cells at lK;have sU:=af lK;clear lK Ik;obtain⟨c0,c1,c2,c3,dn,cj,fE,gP,iC,kT,ur⟩:=PC.nV W1.out.i.dx;go_wp2_with fail
     refine sU.out.mono ?_;rintro e w2 ⟨kN,rfl,lK,hb2⟩;obtain⟨q3,MM,Bb,_,Il⟩:=lK.rd;subst Bb;have Bc:=af Il;have W2:=af (W1.out.below hb2);have aT:=af hb2;clear lK Il hb2 c0 c1 c2 c3 dn cj fE gP iC kT ur;go_wp2_with fail
     refine(V4 (lF p (dF S) k 1) q3 MM 1 w2 Bc.out (by have:=vg.out;omega)).mono ?_;rintro e w3 ⟨he,hb3⟩;rw [Ba.out]at he;dsimp only at he;subst he;have wR:=af (W2.out.below hb3);have aN:=af (aT.out.trans (hb3.mono aT.out.size));clear hb3 Bc sU;obtain⟨g,c1,hb1,_,q0⟩:=(H.out.below wR.out.i.aF).ptr gM.out;rw [o5.out]at hb1;have dg:w3.cell? ⟨ps,11,none⟩=some (.slice (some ⟨g,0,none⟩) n c1):=hb1.cell 11;obtain⟨K8,lD,hq2,ic,hrb⟩:=(H.out.below wR.out.i.aF).get (by rw [nU.out];exact hlt);have e1:K8=pb:=by have:=gM.out;rw [hq2]at this;injection this
     have e2:lD=L:=by have:=LJ.out;rw [List.getD_eq_getElem?_getD,ic]at this;exact this
     subst e1;subst e2;have zx:=af (LL hrb LI.out.len LI.out.ah 1);clear hb1 hq2 ic hrb;go_wp2_with fail
     refine zx.out.mono ?_;rintro e av ⟨vl,rfl,hrl,hb4⟩;obtain⟨la,lc,hvl⟩:=hrl.form;subst hvl;have oG:=af (wR.out.below hb4)
     have y4:Hid (bN bC av w.heap.size ⟨la,(j9 lD 1).length,lc,⟨sp,gS,sn⟩,sh⟩ (kL p S k 1)):=af (by
      have h1:(kL p S k 1)=⟨j9 lD 1,⟨sp,gS,sn⟩,sh⟩:=by unfold kL;rw [LJ.out,Ba.out]
      rw [h1];exact⟨rfl,hrl.base wR.out.i.aF.size,rfl,rfl⟩)
     clear hrl hb4 zx dg q0 W2 wR W1 aT aN;have fz:∀o,av.frozen? ⟨ck,o,none⟩=false:=fun o=>oG.out.bo.frozen o;have m0:av.cell? ⟨ck,0,none⟩=some (.slice none 0 0):=oG.out.bo.cell 0;have m1:av.cell? ⟨ck,1,none⟩=some (.int .i64 0):=oG.out.bo.cell 1;have m2:av.cell? ⟨ck,2,none⟩=some (.int .i64 0):=oG.out.bo.cell 2;have eH:av.cell? ⟨ck,3,none⟩=some (.int .i64 0):=oG.out.bo.cell 3;have dQ:av.cell? ⟨ck,4,none⟩=some (.bool false):=oG.out.bo.cell 4;go_wp2_with fail
     have yh:=oG.out.put (aD.yj av ck (.slice la (j9 lD 1).length lc) (.int .i64 sp) (.int .i64 gS) (.int .i64 sn) (.bool sh)) (oG.out.bo.yj (.slice la (j9 lD 1).length lc) (.int .i64 sp) (.int .i64 gS) (.int .i64 sn) (.bool sh)) (x':=⟨la,(j9 lD 1).length,lc,⟨sp,gS,sn⟩,sh⟩) (y':=ny);have uh:=aD.yj av ck (.slice la (j9 lD 1).length lc) (.int .i64 sp) (.int .i64 gS) (.int .i64 sn) (.bool sh);go_roundw
     case rel=>exact⟨1,_,_,rfl,yh,.inr (.inl ⟨rfl,rfl,y4.out.Pu oG.out uh⟩)⟩
     case measure=>simp [RowKit.intOf]
    ·have W1:=af hW
     clear hW;have c5:=af hs1;clear hs1;have zw:=af (H.out.pv.below (H.out.aF.trans (W1.out.i.aF.mono H.out.aF.size)));have lK:=Pz p k 2 ta tc (dF S) wv zw.out W1.out.i.uy.VZ aq.out.A9 (by rw [LK];have:=sR.out;omega) Fo;obtain⟨⟨sp,gS,sn,sh⟩,Ik⟩:∃r,m3 (lF p (dF S) k 2) 2=r:=⟨_,rfl⟩;have Ba:=af Ik;have vg:=af (Pq p S k 2);unfold Prod.agg Prod.cells at lK;have sU:=af lK;clear lK Ik;obtain⟨c0,c1,c2,c3,dn,cj,fE,gP,iC,kT,ur⟩:=PC.nV W1.out.i.dx;go_wp2_with fail
     refine sU.out.mono ?_;rintro e w2 ⟨kN,rfl,lK,hb2⟩;obtain⟨q3,MM,Bb,_,Il⟩:=lK.rd;subst Bb;have Bc:=af Il;have W2:=af (W1.out.below hb2);have aT:=af hb2;clear lK Il hb2 c0 c1 c2 c3 dn cj fE gP iC kT ur;go_wp2_with fail
     refine(V4 (lF p (dF S) k 2) q3 MM 2 w2 Bc.out (by have:=vg.out;omega)).mono ?_;rintro e w3 ⟨he,hb3⟩;rw [Ba.out]at he;dsimp only at he;subst he;have wR:=af (W2.out.below hb3);have aN:=af (aT.out.trans (hb3.mono aT.out.size));clear hb3 Bc sU;obtain⟨g,c1,hb1,_,q0⟩:=(H.out.below wR.out.i.aF).ptr gM.out;rw [o5.out]at hb1;have dg:w3.cell? ⟨ps,11,none⟩=some (.slice (some ⟨g,0,none⟩) n c1):=hb1.cell 11;obtain⟨K8,lD,hq2,ic,hrb⟩:=(H.out.below wR.out.i.aF).get (by rw [nU.out];exact hlt);have e1:K8=pb:=by have:=gM.out;rw [hq2]at this;injection this
     have e2:lD=L:=by have:=LJ.out;rw [List.getD_eq_getElem?_getD,ic]at this;exact this
     subst e1;subst e2;have zx:=af (LL hrb LI.out.len LI.out.ah 2);clear hb1 hq2 ic hrb;go_wp2_with fail
     refine zx.out.mono ?_;rintro e av ⟨vl,rfl,hrl,hb4⟩;obtain⟨la,lc,hvl⟩:=hrl.form;subst hvl;have oG:=af (wR.out.below hb4)
     have y4:Hid (bN bC av w.heap.size ⟨la,(j9 lD 2).length,lc,⟨sp,gS,sn⟩,sh⟩ (kL p S k 2)):=af (by
      have h1:(kL p S k 2)=⟨j9 lD 2,⟨sp,gS,sn⟩,sh⟩:=by unfold kL;rw [LJ.out,Ba.out]
      rw [h1];exact⟨rfl,hrl.base wR.out.i.aF.size,rfl,rfl⟩)
     have adC:=af ((c5.out.below aN.out).below hb4);clear hrl hb4 zx dg q0 W2 wR W1 aT aN;have fz:∀o,av.frozen? ⟨ck,o,none⟩=false:=fun o=>oG.out.bo.frozen o;have m0:av.cell? ⟨ck,5,none⟩=some (.slice none 0 0):=oG.out.bo.cell 5;have m1:av.cell? ⟨ck,6,none⟩=some (.int .i64 0):=oG.out.bo.cell 6;have m2:av.cell? ⟨ck,7,none⟩=some (.int .i64 0):=oG.out.bo.cell 7;have eH:av.cell? ⟨ck,8,none⟩=some (.int .i64 0):=oG.out.bo.cell 8;have dQ:av.cell? ⟨ck,9,none⟩=some (.bool false):=oG.out.bo.cell 9;go_wp2_with fail
     have yh:=oG.out.put (aD.Da av ck (.slice la (j9 lD 2).length lc) (.int .i64 sp) (.int .i64 gS) (.int .i64 sn) (.bool sh)) (oG.out.bo.Da (.slice la (j9 lD 2).length lc) (.int .i64 sp) (.int .i64 gS) (.int .i64 sn) (.bool sh)) (x':=x) (y':=⟨la,(j9 lD 2).length,lc,⟨sp,gS,sn⟩,sh⟩);have uh:=aD.Da av ck (.slice la (j9 lD 2).length lc) (.int .i64 sp) (.int .i64 gS) (.int .i64 sn) (.bool sh);go_roundw
     case rel=>exact⟨2,_,_,rfl,yh,.inr (.inr ⟨rfl,adC.out.Pu oG.out uh,y4.out.Pu oG.out uh⟩)⟩
     case measure=>simp [RowKit.intOf]
    ·obtain⟨P,hP,fY,gX⟩:=hW.i.fG
     obtain⟨eG,aZ,iN⟩:=hP.form;subst iN;have W1:=af hW;have dy:=af hP;have ia:=af fY;have eV:=af gX;have c5:=af hs1;have cy:=af ic;clear hP fY gX hW hs1 ic;have m0:wv.cell? ⟨ck,0,none⟩=some (.slice x.a x.n x.c):=W1.out.bo.cell 0;have m1:wv.cell? ⟨ck,1,none⟩=some (.int .i64 x.im.ag):=W1.out.bo.cell 1;have m2:wv.cell? ⟨ck,2,none⟩=some (.int .i64 x.im.ah):=W1.out.bo.cell 2;have eH:wv.cell? ⟨ck,3,none⟩=some (.int .i64 x.im.count):=W1.out.bo.cell 3;have dQ:wv.cell? ⟨ck,4,none⟩=some (.bool x.has):=W1.out.bo.cell 4;have eP:wv.cell? ⟨ck,5,none⟩=some (.slice y.a y.n y.c):=W1.out.bo.cell 5;have dH:wv.cell? ⟨ck,6,none⟩=some (.int .i64 y.im.ag):=W1.out.bo.cell 6;have O7:wv.cell? ⟨ck,7,none⟩=some (.int .i64 y.im.ah):=W1.out.bo.cell 7;have Lv:wv.cell? ⟨ck,8,none⟩=some (.int .i64 y.im.count):=W1.out.bo.cell 8;have O8:wv.cell? ⟨ck,9,none⟩=some (.bool y.has):=W1.out.bo.cell 9;have v0:wv.cell? ⟨bg,0,none⟩=some (.slice eG P.length aZ):=W1.out.i.aW.cell 0;have hba:=Below.aA wv (.cells #[.slice x.a x.n x.c,.int .i64 x.im.ag,.int .i64 x.im.ah,.int .i64 x.im.count,.bool x.has,.slice y.a y.n y.c,.int .i64 y.im.ag,.int .i64 y.im.ah,.int .i64 y.im.count,.bool y.has] 104);have cP:=af hba;have lJ:=af (dy.out.below hba);have wK:Hid (∀(j:Nat) (q:bz) (x:aV×aV),P[j]? =some q→((cT p S).take k)[j]? =some x→bN bC _ w.heap.size q.s x.1∧bN bC _ w.heap.size q.t x.2):=af fun j p x hp hx=>⟨(eV.out j p x hp hx).1.below hba,(eV.out j p x hp hx).2.below hba⟩;have dN:Hid (aj (wv.alloc (.cells #[.slice x.a x.n x.c,.int .i64 x.im.ag,.int .i64 x.im.ah,.int .i64 x.im.count,.bool x.has,.slice y.a y.n y.c,.int .i64 y.im.ag,.int .i64 y.im.ah,.int .i64 y.im.count,.bool y.has] 104)) wv.heap.size 104 (eF.cells ⟨x,y⟩).toArray):=af (aj.new _ _ _);have V5:Hid (w.heap.size≤(wv.alloc (.cells #[.slice x.a x.n x.c,.int .i64 x.im.ag,.int .i64 x.im.ah,.int .i64 x.im.count,.bool x.has,.slice y.a y.n y.c,.int .i64 y.im.ag,.int .i64 y.im.ah,.int .i64 y.im.count,.bool y.has] 104)).heap.size):=af (Nat.le_trans W1.out.i.aF.size hba.size);have mm:Hid (P.length+1≤1000000):=af (by rw [ia.out,ye.out];have:=sR.out;have:=nU.out;omega);clear hba dy eV
     go_wp2_with (first
      |(at_builtin;go_loud (refine eF.push rfl (.tmp 60) (.tmp 62) rfl w.heap.size (.slice eG P.length aZ) P rfl lJ.out wv.heap.size ⟨x,y⟩ rfl dN.out.lt dN.out.fU mm.out V5.out ?_)))
     intro v' au cS fW _;obtain⟨a5,cj,iA⟩:=cS.form;rw [show(P++ [(⟨x,y⟩:bz)]).length=P.length+1 by rw [List.length_append];rfl]at iA;subst iA;obtain⟨i6,kX,z5⟩:=W1.out.grow cP.out lJ.out ia.out wK.out c5.out cy.out cS fW;rw [←dh.out]at i6;have ux:=af i6;clear cS fW i6 lJ wK dN V5 mm cP W1 c5 cy m0 m1 m2 eH dQ eP dH O7 Lv O8 v0;go_wp2_with fail
     go_roundw
     case rel=>exact⟨k+1,_,by go_num,hlt,ux.out⟩
     case measure=>simp [RowKit.intOf];omega
  ·have fP:k=n:=by omega
   have eT:Hid (cl eF bC ak w.heap.size v (cT p S)):=af (by have:=iq.out.fG;rwa [fP,←nU.out,←A8 p S,List.take_length]at this);obtain⟨eG,aZ,iN⟩:=eT.out.form;have v0:ak.cell? ⟨bg,0,none⟩=some v:=iq.out.aW.cell 0;have b6:ak.cell? ⟨gj,0,none⟩=some (.slice none 0 0):=iq.out.b4.cell 0;have z0:ak.frozen? ⟨gj,0,none⟩=false:=iq.out.b4.frozen 0;subst iN;clear fP;go_wp2_with fail
   clear v0 b6 z0;have k0:(ak.setCell ⟨gj,0,none⟩ (.slice eG (cT p S).length aZ)).cell? ⟨gj,0,none⟩=some (.slice eG (cT p S).length aZ):=(iq.out.b4.aQ 0 _).cell 0;have hbz:=iq.out.aF.setCell (p:=⟨gj,0,none⟩) iq.out.kW (.slice eG (cT p S).length aZ);have O9:=eT.out.keep (bS ak gj 0 (.slice eG (cT p S).length aZ)) (fun g hg e=>hg.ne iq.out.b4.aC (by decide) e) (fun g hg e=>hg.ne iq.out.b4.aC (by decide) e);refine bodyPost_ret (v:= .agg #[.slice eG (cT p S).length aZ]) (by simp [results,Tryz.results28,go_sem,k0]) rfl ⟨_,rfl,O9,hbz⟩
end
end Go.Proofs.YtmaijkoopjocdaaGreat
namespace Go.Proofs.YtmaijkoopjocdaaGreat
open Go.RowKit
def dW (n lo hi:Int):Int:=lo+n % (hi-lo+1)
theorem nx (n lo hi:Int) (h:lo≤hi):lo≤dW n lo hi∧dW n lo hi≤hi:=by
 unfold dW;have h1:=Int.emod_nonneg n (show hi-lo+1≠0 by omega);have h2:=Int.emod_lt_of_pos n (show 0<hi-lo+1 by omega);omega
theorem uo (n lo hi:Int) (w:World) (hn0: -9223372036854775808≤n) (LY:n≤9223372036854775807) (h:lo≤hi) (h0: -1000000000≤lo) (h1:hi≤1000000000):
 Calls Tryz.prog 14 #[.int .i64 n,.int .i64 lo,.int .i64 hi] w fun e w'=>e= .returned (.int .i64 (dW n lo hi))∧w=w':=by
 obtain⟨m,hm⟩:∃m:Int,hi-lo+1=m:=⟨_,rfl⟩;have hm0:1≤m:=by omega
 have Jk:m≤2000000001:=by omega
 have hW:dW n lo hi=lo+n % m:=by unfold dW;rw [hm]
 obtain⟨t,ht⟩:∃t:Int,n.tmod m=t:=⟨_,rfl⟩;have aj7:(m==0)=false:=by rw [beq_eq_false_iff_ne];omega
 have Aw:(m== -1)=false:=by rw [beq_eq_false_iff_ne];omega
 have htb: -m<t∧t<m:=by
  subst ht;have a:=Int.tmod_lt_of_pos n (show 0<m by omega);have b:=Int.lt_tmod_of_pos n (show 0<m by omega);omega
 have ZU:dW n lo hi=if t<0 then lo+(t+hi-lo+1)else lo+t:=by
  rw [hW,←ht,Int.emod_eq_tmod];by_cases hn:0≤n
  ·rw [if_pos (Or.inl hn)]
   have:0≤n.tmod m:=Int.tmod_nonneg _ hn;rw [if_neg (by omega)];omega
  ·by_cases hd:m∣n
   ·rw [if_pos (Or.inr hd)]
    have:n.tmod m=0:=Int.tmod_eq_zero_of_dvd hd;rw [if_neg (by omega)];omega
   ·rw [if_neg (by rintro(h|h);exact hn h;exact hd h)]
    have h2:n.tmod m≤0:=by
     have h4:=Int.tmod_nonneg m (show 0≤-n by omega);rw [Int.neg_tmod]at h4;omega
    have h3:n.tmod m≠0:=fun h=>hd (Int.dvd_of_tmod_eq_zero h);rw [if_pos (by omega)];have:((m.natAbs:Nat):Int)=m:=by omega
    omega
 have kZ:=af ZU;clear hW ZU;go_enter Tryz.func14,Tryz.ntmps14
 go_wp2
 all_goals
  go_ret;refine⟨?_,rfl⟩;rw [kZ.out];first|(rw [if_pos ‹t<0›];rfl)|(rw [if_neg (by omega)];rfl)
end Go.Proofs.YtmaijkoopjocdaaGreat
