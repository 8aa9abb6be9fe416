import Derived.Test.YtmaijkoopjocdaaGreatKT48
import Derived.Test.YtmaijkoopjocdaaGreatKT49
set_option maxRecDepth 100000
set_option maxHeartbeats 64000000
namespace Go.Proofs.YtmaijkoopjocdaaGreat
open Go.RowKit Go.Lib
theorem xj.back {F:Nat→Prop} {w w':World} {pm g:Nat} (hk:aD F w w') (hl:pm<w.heap.size) (hn:¬F pm) (h:xj w' pm g):xj w pm g:=by
 obtain⟨a,n,c,h1,h2⟩:=h;refine⟨a,n,c,?_,h2⟩;unfold World.cell? at h1⊢;rw [show(⟨pm,12,none⟩:Addr).block=pm from rfl]at h1⊢;rw [hk.block pm hl hn]at h1;exact h1
section
variable {W w w':World} {pm ps:Nat} {p:Prod} {Q:List Nat} {S:List (List ay)} {E:List Int}
theorem ed.Ft {k3:World} (h:ed W w pm ps p Q S E) (hb:Below k3.heap.size k3 W) (hp:fZ k3 p):ed k3 w pm ps p Q S E:=by
 obtain⟨a,c,h1,h2⟩:=h.box;exact⟨⟨a,c,h1,h2.base hb.size⟩,h.bZ.Ft hb hp,Nat.le_trans hb.size h.base⟩
theorem ed.ag3 {F:Nat→Prop} (h:ed W w pm ps p Q S E) (hk:aD F w w') (hF:∀g,F g→bV w g 2) (hm:∀g,F g→¬xj w pm g) (hb:∀g,F g→W.heap.size≤g):ed W w' pm ps p Q S E:=by
 obtain⟨a,c,h1,h2⟩:=h.box;exact⟨⟨a,c,h1.keeps hk (fun e=>h1.aC.ne (hF _ e) (by decide) rfl),h2.zk hk (fun g hg e=>hm g e ⟨a,E.length,c,h1.cell 12,hg⟩)⟩,h.bZ.pR hk hF (Nat.le_refl _) hb (by decide),h.base⟩
end
structure m7 (W w:World) (p:Prod) (aH ck pm ps:Nat) (jG:List Nat) (S:List (List ay)) (E:List Int) (va:Value) (A:bP) (vm:Value) (M:List aB) (lY:Value) (V:List bP) (kN:Value) (Q:List Int):Prop where
 dx:aj w aH 25 p.cells
 ba:aj w ck 54 #[va]
 la:cl eF bC w W.heap.size va A
 gi:ed W w pm ps p jG S E
 q9:lU w W.heap.size vm M
 fG:nO w W.heap.size lY V
 vD:eJ.Row w W.heap.size kN Q
 aF:Below W.heap.size W w
 j8:∀g,kN.ownBlock=some g→¬xj w pm g
 eG:∀g,lY.ownBlock=some g→g≠ck
 rV:W.heap.size≤ck
section
variable {W w w':World} {p:Prod} {aH ck pm ps:Nat} {jG:List Nat} {S S':List (List ay)} {E E':List Int} {va vb:Value} {A B:bP} {vm YH lY My kN Mz:Value} {M:List aB} {V:List bP} {Q:List Int}
theorem nO.row {w:World} {B:Nat} {v:Value} {V:List bP} (h:nO w B v V):∃P:List Hd,x9.Row w B v P:=by
 obtain⟨P,h1,_⟩:=h;exact⟨P,h1⟩
theorem m7.below (h:m7 W w p aH ck pm ps jG S E va A vm M lY V kN Q) (hb:Below w.heap.size w w'):m7 W w' p aH ck pm ps jG S E va A vm M lY V kN Q:=
 ⟨h.dx.below hb,h.ba.below hb,h.la.below hb,h.gi.below hb,h.q9.below hb,h.fG.below hb,h.vD.below hb,h.aF.trans (hb.mono h.aF.size),
   fun g hg e=>h.j8 g hg (e.back (F:=fun _=>False) (Below.keeps hb) h.gi.aC.lt (fun x=>x)),h.eG,h.rV⟩
theorem m7.Ii (h:m7 W w p aH ck pm ps jG S E va A vm M lY V kN Q) (hd:fQ W w w' pm ps p jG S' E'):m7 W w' p aH ck pm ps jG S' E' va A vm M lY V kN Q:=by
 have hk:=hd.k;have hq:∀g,g∈jG→bV w g 181∧W.heap.size≤g:=fun g hg=>h.gi.bZ.ow hg
 have hne:∀{g:Nat} {t:TypeId},bV w g t→t≠181→t≠76→t≠2→¬(g∈jG∨g=pm∨xj w pm g):=by
  intro g t ht h1 h2 h3 e;rcases e with e|e|e
  ·exact ht.ne (hq g e).1 h1 rfl
  ·exact ht.ne h.gi.aC h2 e
  ·exact ht.ne (h.gi.q9 e).1 h3 rfl
 have dO:∀g,(g∈jG∨g=pm∨xj w pm g)→W.heap.size≤g:=fun g e=>by
  rcases e with e|e|e
  ·exact(hq g e).2
  ·rw [e];exact h.gi.base
  ·exact(h.gi.q9 e).2
 obtain⟨YI,JB⟩:=h.fG.row;obtain⟨PM,xk,DV,DW⟩:=h.q9
 refine⟨h.dx.keeps hk (hne h.dx.aC (by decide) (by decide) (by decide)),h.ba.keeps hk (hne h.ba.aC (by decide) (by decide) (by decide)),h.la.keep hk (fun g hg=>hne hg (by decide) (by decide) (by decide)) (fun g hg=>hne hg (by decide) (by decide) (by decide)),hd.gi,
  (show lU w W.heap.size vm M from⟨PM,xk,DV,DW⟩).keep hk (fun g hg=>hne (dR xk g hg) (by decide) (by decide) (by decide)) (fun g hg=>hne hg (by decide) (by decide) (by decide)),
  h.fG.keep hk (fun g hg=>hne (dR JB g hg) (by decide) (by decide) (by decide)) (fun g hg=>hne hg (by decide) (by decide) (by decide)) (fun g hg=>hne hg (by decide) (by decide) (by decide)),
  h.vD.zk hk (fun g hg e=>?_),h.aF.trans (hk.below dO h.aF.size),fun g hg e=>?_,h.eG,h.rV⟩
 ·have ht:bV w g 2:=dR h.vD g hg
  rcases e with e|e|e
  ·exact ht.ne (hq g e).1 (by decide) rfl
  ·exact ht.ne h.gi.aC (by decide) e
  ·exact h.j8 g hg e
 ·rcases hd.o g e with h1|h1
  ·exact h.j8 g hg h1
  ·have:=jH h.vD g hg;omega
theorem m7.msg {wb au:World} {P:List Hd} {x:Hd} {m:aB} (h:m7 W w p aH ck pm ps jG S E va A vm M lY V kN Q) (hb:Below w.heap.size w wb) (hP:CR.Row wb W.heap.size vm P) (hl:P.length=M.length)
 (ho:∀(j:Nat) (h:Hd) (m:aB),P[j]? =some h→M[j]? =some m→e9.Row wb W.heap.size (.slice h.a h.n h.c) (j6 m)) (h1:e9.Row wb W.heap.size (.slice x.a x.n x.c) (j6 m))
 (hr:CR.Row au W.heap.size YH (P++ [x])) (hg:wb.grownBy au vm.ownBlock):m7 W au p aH ck pm ps jG S E va A YH (M++ [m]) lY V kN Q∧aD (fun g=>vm.ownBlock=some g) wb au:=by
 have hk:=fe hg;have bI:∀g,vm.ownBlock=some g→bV wb g 37:=fun g hg=>dR hP g hg;have dO:∀g,vm.ownBlock=some g→W.heap.size≤g:=cx hP;have i1:=h.below hb;have hne:∀{g:Nat} {t:TypeId},bV wb g t→37≠t→¬vm.ownBlock=some g:=fun hg hn e=>hg.ne (bI _ e) (Ne.symm hn) rfl;obtain⟨YI,JB⟩:=i1.fG.row;have fT:∀{v:Value} {L:List Int},e9.Row wb W.heap.size v L→e9.Row au W.heap.size v L:=fun hh=>hh.keep hk (fun g hg=>hne hg (by decide))
 exact⟨⟨i1.dx.keeps hk (hne i1.dx.aC (by decide)),i1.ba.keeps hk (hne i1.ba.aC (by decide)),i1.la.keep hk (fun g hg=>hne hg (by decide)) (fun g hg=>hne hg (by decide)),
  i1.gi.pR hk bI (Nat.le_refl _) dO (by decide),lU.snoc hr hl (fun j h m hp hm=>fT (ho j h m hp hm)) (fT h1),
  i1.fG.keep hk (fun g hg=>hne (dR JB g hg) (by decide)) (fun g hg=>hne hg (by decide)) (fun g hg=>hne hg (by decide)),
  i1.vD.keep hk (fun g hg=>hne hg (by decide)),i1.aF.trans (hk.below dO i1.aF.size),fun g hg e=>i1.j8 g hg (e.back hk i1.gi.aC.lt (hne i1.gi.aC (by decide))),i1.eG,i1.rV⟩,hk⟩
theorem m7.put (h:m7 W w p aH ck pm ps jG S E va A vm M lY V kN Q) (hv:cl eF bC w W.heap.size vb B):m7 W (w.setCell ⟨ck,0,none⟩ vb) p aH ck pm ps jG S E vb B vm M lY V kN Q:=by
 have hk:=bS w ck 0 vb;have hne:∀{g:Nat} {t:TypeId},bV w g t→54≠t→¬g=ck:=fun hg hn e=>hg.ne h.ba.aC (Ne.symm hn) e;obtain⟨PM,xk,DV,DW⟩:=h.q9;have hb:=h.ba.aQ 0 vb;simp only [List.setIfInBounds_toArray,List.set_cons_zero]at hb
 exact⟨h.dx.keeps hk (hne h.dx.aC (by decide)),hb,hv.keep hk (fun g hg=>hne hg (by decide)) (fun g hg=>hne hg (by decide)),
  h.gi.pR (t:=54) hk (fun g e=>by have e2:g=ck:=e;rw [e2];exact h.ba.aC) (Nat.le_refl _) (fun g e=>by have e2:g=ck:=e;rw [e2];exact h.rV) (by decide),
  (show lU w W.heap.size vm M from⟨PM,xk,DV,DW⟩).keep hk (fun g hg=>hne (dR xk g hg) (by decide)) (fun g hg=>hne hg (by decide)),
  h.fG.keep hk (fun g hg e=>h.eG g hg e) (fun g hg=>hne hg (by decide)) (fun g hg=>hne hg (by decide)),
  h.vD.keep hk (fun g hg=>hne hg (by decide)),h.aF.setCell (p:=⟨ck,0,none⟩) h.rV _,fun g hg e=>h.j8 g hg (e.back hk h.gi.aC.lt (hne h.gi.aC (by decide))),h.eG,h.rV⟩
theorem m7.view {wb au:World} {P:List Hd} {x:Hd} {X:bP} (h:m7 W w p aH ck pm ps jG S E va A vm M lY V kN Q) (hb:Below w.heap.size w wb) (hP:x9.Row wb W.heap.size lY P) (hl:P.length=V.length)
 (ho:∀(j:Nat) (h:Hd) (m:bP),P[j]? =some h→V[j]? =some m→cl eF bC wb W.heap.size (.slice h.a h.n h.c) m) (h1:cl eF bC wb W.heap.size (.slice x.a x.n x.c) X)
 (hr:x9.Row au W.heap.size My (P++ [x])) (hg:wb.grownBy au lY.ownBlock) (o4:My.ownBlock=lY.ownBlock∨My.ownBlock=some wb.heap.size):m7 W au p aH ck pm ps jG S E va A vm M My (V++ [X]) kN Q:=by
 have hk:=fe hg;have bI:∀g,lY.ownBlock=some g→bV wb g 54:=fun g hg=>dR hP g hg;have dO:∀g,lY.ownBlock=some g→W.heap.size≤g:=cx hP;have i1:=h.below hb;have hne:∀{g:Nat} {t:TypeId},bV wb g t→54≠t→¬lY.ownBlock=some g:=fun hg hn e=>hg.ne (bI _ e) (Ne.symm hn) rfl;obtain⟨PM,xk,DV,DW⟩:=i1.q9;have fT:∀{v:Value} {L:bP},cl eF bC wb W.heap.size v L→cl eF bC au W.heap.size v L:=fun hh=>hh.keep hk (fun g hg=>hne hg (by decide)) (fun g hg=>hne hg (by decide))
 exact⟨i1.dx.keeps hk (hne i1.dx.aC (by decide)),i1.ba.keeps hk (fun e=>i1.eG _ e rfl),fT i1.la,
  i1.gi.pR hk bI (Nat.le_refl _) dO (by decide),
  (show lU wb W.heap.size vm M from⟨PM,xk,DV,DW⟩).keep hk (fun g hg=>hne (dR xk g hg) (by decide)) (fun g hg=>hne hg (by decide)),
  nO.snoc hr hl (fun j h m hp hm=>fT (ho j h m hp hm)) (fT h1),
  i1.vD.keep hk (fun g hg=>hne hg (by decide)),i1.aF.trans (hk.below dO i1.aF.size),fun g hg e=>i1.j8 g hg (e.back hk i1.gi.aC.lt (hne i1.gi.aC (by decide))),
  fun g hg=>by
   rcases o4 with ho|ho
   ·rw [ho]at hg;exact i1.eG g hg
   ·rw [ho]at hg
    injection hg with hg;intro e;have:=i1.ba.lt;omega,i1.rV⟩
theorem m7.seq {wb au:World} {x:Int} (h:m7 W w p aH ck pm ps jG S E va A vm M lY V kN Q) (hb:Below w.heap.size w wb) (hr:eJ.Row au W.heap.size Mz (Q++ [x])) (hg:wb.grownBy au kN.ownBlock) (o4:Mz.ownBlock=kN.ownBlock∨Mz.ownBlock=some wb.heap.size):m7 W au p aH ck pm ps jG S E va A vm M lY V Mz (Q++ [x]):=by
 have hk:=fe hg;have i1:=h.below hb;have bI:∀g,kN.ownBlock=some g→bV wb g 2:=fun g hg=>dR i1.vD g hg;have dO:∀g,kN.ownBlock=some g→W.heap.size≤g:=cx i1.vD;have hne:∀{g:Nat} {t:TypeId},bV wb g t→2≠t→¬kN.ownBlock=some g:=fun hg hn e=>hg.ne (bI _ e) (Ne.symm hn) rfl;obtain⟨PM,xk,DV,DW⟩:=i1.q9;obtain⟨YI,JB⟩:=i1.fG.row
 exact⟨i1.dx.keeps hk (hne i1.dx.aC (by decide)),i1.ba.keeps hk (hne i1.ba.aC (by decide)),i1.la.keep hk (fun g hg=>hne hg (by decide)) (fun g hg=>hne hg (by decide)),
  i1.gi.ag3 hk bI (fun g hg=>i1.j8 g hg) dO,
  (show lU wb W.heap.size vm M from⟨PM,xk,DV,DW⟩).keep hk (fun g hg=>hne (dR xk g hg) (by decide)) (fun g hg=>hne hg (by decide)),
  i1.fG.keep hk (fun g hg=>hne (dR JB g hg) (by decide)) (fun g hg=>hne hg (by decide)) (fun g hg=>hne hg (by decide)),
  hr,i1.aF.trans (hk.below dO i1.aF.size),fun g hg e=>by
    have e1:=e.back hk i1.gi.aC.lt (hne i1.gi.aC (by decide));rcases o4 with ho|ho
    ·rw [ho]at hg;exact i1.j8 g hg e1
    ·rw [ho]at hg
     injection hg with hg;have:=(i1.gi.q9 e1).1.lt;omega,i1.eG,i1.rV⟩
structure MA (W w:World) (p:Prod) (aH ck pm ps:Nat) (jG:List Nat) (S:List (List ay)) (E:List Int) (va:Value) (A:bP) (vm:Value) (M:List aB) (lY:Value) (V:List bP) (kN:Value) (Q:List Int) (bX:Nat) (vb:Value) (B:bP) (vd:Value) (nE:List aB):Prop where
 i:m7 W w p aH ck pm ps jG S E va A vm M lY V kN Q
 bb:aj w bX 54 #[vb]
 vb:cl eF bC w W.heap.size vb B
 dd:gb.Row w W.heap.size vd nE
theorem ag4 (p:Prod) (w:World) (hp:fZ w p) (hz:cz p=0) (ht:1≤p.tick∧p.tick≤10) {la:Option Addr} {lc:Nat} {z8:List dB} (hrd:OH.fF w la z8) (hcs:∀c∈z8,Dl c):
 Calls Tryz.prog 9 #[p.agg,.slice la z8.length lc] w fun e w'=>∃vm lY kN,e= .returned (.tuple #[vm,lY,kN])∧∃M V Q,zv (countP p).toNat M V Q∧M.length≤60000∧V.length≤26∧lU w' w.heap.size vm M∧nO w' w.heap.size lY V∧eJ.Row w' w.heap.size kN Q∧Below w.heap.size w w':=by
 unfold Prod.agg Prod.cells;have hb1:Below w.heap.size w (w.alloc (.cells #[.string p.code,.slice p.ma p.months.length p.mc,.int .i64 p.tick,.int .i64 p.low,.int .i64 p.high,.int .i64 p.wide,.int .i64 p.rule,.int .i64 p.top,.int .i64 p.least,.int .i64 p.part,.slice p.sa p.settle.length p.sc] 25)):=Below.aA _ _;have aP:aj (w.alloc (.cells #[.string p.code,.slice p.ma p.months.length p.mc,.int .i64 p.tick,.int .i64 p.low,.int .i64 p.high,.int .i64 p.wide,.int .i64 p.rule,.int .i64 p.top,.int .i64 p.least,.int .i64 p.part,.slice p.sa p.settle.length p.sc] 25)) w.heap.size 25 p.cells:=aj.new _ _ _;obtain⟨n,hn⟩:∃n,z8.length=n:=⟨_,rfl⟩;rw [hn];have ag5:=af hn;have dy:=af hp;have dI:=af hz;have bK:=af ht;have rI:=af hrd;have jJ:=af hcs;have hcb:=zL p;have dN:Hid ((countP p).toNat≤21):=af (by omega);clear hn hp hz ht hrd hcs hcb;go_enter Tryz.func9,Tryz.ntmps9
 go_upto_region 1 with(fail)
 obtain⟨aH,m4⟩:∃g,w.heap.size=g:=⟨_,rfl⟩;have e3:=af hb1;have jd:=af aP;rw [m4]at jd⊢;clear m4 hb1 aP;generalize (w.alloc (.cells #[.string p.code,.slice p.ma p.months.length p.mc,.int .i64 p.tick,.int .i64 p.low,.int .i64 p.high,.int .i64 p.wide,.int .i64 p.rule,.int .i64 p.top,.int .i64 p.least,.int .i64 p.part,.slice p.sa p.settle.length p.sc] 25))=w0 at*;have Aa:=adT p w0 (dy.out.below e3.out);unfold Prod.agg Prod.cells at Aa;have Aa:=af Aa;obtain⟨jO,p1,p2,p3,xm,xo,xp,xq,xu,xw,xx⟩:=PC.nV jd.out;go_wp2_with fail
 refine Aa.out.mono ?_;rintro e w1 ⟨pm,ps,jG,rfl,hmb⟩;have iT:=af (hmb.Ft e3.out dy.out);have rX:=af (jd.out.below hmb.bZ.aF);have bD:=af (e3.out.trans (hmb.bZ.aF.mono e3.out.size));clear hmb Aa jd jO p1 p2 p3 xm xo xp xq xu xw xx;go_upto_region 2 with(fail)
 have dX:=af (dJ.new p);have mD:Hid (∀wx,Below w1.heap.size w1 wx→Calls Tryz.prog 28 #[p.agg,.pointer (some ⟨ps,0,none⟩)] wx fun e w'=>∃v',e= .returned (.agg #[v'])∧cl eF bC w' wx.heap.size v' (cT p (List.replicate (countP p).toNat []))∧Below wx.heap.size wx w'):=af fun wx aP=>V1 ((iT.out.below aP).bZ) dI.out dX.out;unfold Prod.agg Prod.cells at mD
 have b5:Hid (∀wx,Below w1.heap.size w1 wx→(wx.cell? ⟨aH,0,none⟩=some (.string p.code)∧wx.cell? ⟨aH,1,none⟩=some (.slice p.ma p.months.length p.mc)∧wx.cell? ⟨aH,2,none⟩=some (.int .i64 p.tick)∧wx.cell? ⟨aH,3,none⟩=some (.int .i64 p.low)∧wx.cell? ⟨aH,4,none⟩=some (.int .i64 p.high)∧wx.cell? ⟨aH,5,none⟩=some (.int .i64 p.wide)∧wx.cell? ⟨aH,6,none⟩=some (.int .i64 p.rule)∧wx.cell? ⟨aH,7,none⟩=some (.int .i64 p.top)∧wx.cell? ⟨aH,8,none⟩=some (.int .i64 p.least)∧wx.cell? ⟨aH,9,none⟩=some (.int .i64 p.part)∧wx.cell? ⟨aH,10,none⟩=some (.slice p.sa p.settle.length p.sc))∧wx.cell? ⟨pm,11,none⟩=some (.pointer (some ⟨ps,0,none⟩))):=af fun wx aP=>by
  obtain⟨_,_,hmb,_⟩:=(iT.out.below aP).box;exact⟨PC.nV (rX.out.below aP),hmb.cell 11⟩
 go_cut [8] (fun u wx=>∃(ge:Nat) (aa:Option Addr) (ac:Nat),u= .pointer (some ⟨ge,0,none⟩)∧aj wx ge 54 #[.slice aa (cT p (List.replicate (countP p).toNat [])).length ac]∧cl eF bC wx w1.heap.size (.slice aa (cT p (List.replicate (countP p).toNat [])).length ac) (cT p (List.replicate (countP p).toNat []))∧Below w1.heap.size w1 wx∧w1.heap.size≤ge)
 case first=>
  have cr:Hid (Below w1.heap.size w1 w1.drew):=af (Below.refl w1.heap.size w1).drew;refine cF (S:=fun w'=>(w'.cell? ⟨aH,0,none⟩=some (.string p.code)∧w'.cell? ⟨aH,1,none⟩=some (.slice p.ma p.months.length p.mc)∧w'.cell? ⟨aH,2,none⟩=some (.int .i64 p.tick)∧w'.cell? ⟨aH,3,none⟩=some (.int .i64 p.low)∧w'.cell? ⟨aH,4,none⟩=some (.int .i64 p.high)∧w'.cell? ⟨aH,5,none⟩=some (.int .i64 p.wide)∧w'.cell? ⟨aH,6,none⟩=some (.int .i64 p.rule)∧w'.cell? ⟨aH,7,none⟩=some (.int .i64 p.top)∧w'.cell? ⟨aH,8,none⟩=some (.int .i64 p.least)∧w'.cell? ⟨aH,9,none⟩=some (.int .i64 p.part)∧w'.cell? ⟨aH,10,none⟩=some (.slice p.sa p.settle.length p.sc))∧w'.cell? ⟨pm,11,none⟩=some (.pointer (some ⟨ps,0,none⟩))) (by kernel_rfl) (b5.out _ cr.out) (fun hHeld=>?_);refine ai 0 ?_;refine ai 1 ?_;refine ai 2 ?_;refine ai 3 ?_;refine ai 4 ?_;generalize w1.drew=wd at*;refine jW 5 6 (fun K hK=>?_) fun K hK=>?_
  ·as_aux_lemma=>
   go_simp;go_at_call 28
   refine(mD.out _ cr.out).mono ?_;rintro e w2 ⟨vl,rfl,fh,hb2⟩;obtain⟨aa,ac,hvl⟩:=fh.form;subst hvl;have aT:=af (cr.out.trans (hb2.mono cr.out.size));refine hK.out _ _ (b5.out _ aT.out) (fun hHeld=>?_);clear hK K;refine aR 6 fun K hK=>?_;go_simp;have hba:=Below.aA w2 (.cells #[.slice none 0 0] 54);have bu:=af (aT.out.trans (hba.mono aT.out.size));have bB:Hid (aj (w2.alloc (.cells #[.slice none 0 0] 54)) w2.heap.size 54 #[.slice none 0 0]):=af (aj.new _ _ _);have eT:=af ((fh.below hba).base cr.out.size);refine hK.out _ _ (b5.out _ bu.out) (fun hHeld=>?_);obtain⟨ge,hge⟩:∃g,w2.heap.size=g:=⟨_,rfl⟩;have nw:Hid (w1.heap.size≤ge):=af (by rw [←hge];exact aT.out.size);rw [hge]at bB⊢;clear hK K hba hge fh hb2;generalize w2.alloc (.cells #[.slice none 0 0] 54)=w3 at*;have k0:w3.cell? ⟨ge,0,none⟩=some (.slice none 0 0):=bB.out.cell 0;have z0:w3.frozen? ⟨ge,0,none⟩=false:=bB.out.frozen 0;refine cO 7 fun K hK=>?_;go_simp;refine hK.out _ _ ?_;have dz:=bB.out.aQ 0 (.slice aa (cT p (List.replicate (countP p).toNat [])).length ac);simp only [List.setIfInBounds_toArray,List.set_cons_zero]at dz;have cJ:=bS w3 ge 0 (.slice aa (cT p (List.replicate (countP p).toNat [])).length ac);have hv1:=eT.out.keep cJ (fun g hg e=>hg.ne bB.out.aC (by decide) e) (fun g hg e=>hg.ne bB.out.aC (by decide) e);have hb1:=bu.out.trans (cJ.below (B:=w1.heap.size) (fun k hk=>by have e:k=ge:=hk;rw [e];exact nw.out) bu.out.size);have bY:=af dz;have uC:=af hv1;have bD:=af hb1;clear hK K hHeld k0 z0 dz cJ hv1 hb1;go_wp2_with fail
   go_meet;exact⟨ge,aa,ac,rfl,bY.out,uC.out,bD.out,nw.out⟩
  ·as_aux_lemma=>
   go_simp;have hba:=Below.aA wd (.cells #[.slice none 0 0] 54);have aT:=af (cr.out.trans (hba.mono cr.out.size));have JC:Hid (aj (wd.alloc (.cells #[.slice none 0 0] 54)) wd.heap.size 54 #[.slice none 0 0]):=af (aj.new _ _ _);refine hK.out _ _ (b5.out _ aT.out) (fun hHeld=>?_);obtain⟨ge,hge⟩:∃g,wd.heap.size=g:=⟨_,rfl⟩;have nw:Hid (w1.heap.size≤ge):=af (by rw [←hge];exact cr.out.size);rw [hge]at JC⊢;clear hK K hba hge;generalize wd.alloc (.cells #[.slice none 0 0] 54)=w2 at*;refine aR 5 fun K hK=>?_;go_simp;go_at_call 28
   refine(mD.out _ aT.out).mono ?_;rintro e w3 ⟨vl,rfl,fh,hb3⟩;obtain⟨aa,ac,hvl⟩:=fh.form;subst hvl;have bu:=af (aT.out.trans (hb3.mono aT.out.size));have bB:=af (JC.out.below hb3);have eT:=af (fh.base aT.out.size);refine hK.out _ _ (b5.out _ bu.out) (fun hHeld=>?_);clear hK K fh hb3;have k0:w3.cell? ⟨ge,0,none⟩=some (.slice none 0 0):=bB.out.cell 0;have z0:w3.frozen? ⟨ge,0,none⟩=false:=bB.out.frozen 0;refine cO 7 fun K hK=>?_;go_simp;refine hK.out _ _ ?_;have dz:=bB.out.aQ 0 (.slice aa (cT p (List.replicate (countP p).toNat [])).length ac);simp only [List.setIfInBounds_toArray,List.set_cons_zero]at dz;have cJ:=bS w3 ge 0 (.slice aa (cT p (List.replicate (countP p).toNat [])).length ac);have hv1:=eT.out.keep cJ (fun g hg e=>hg.ne bB.out.aC (by decide) e) (fun g hg e=>hg.ne bB.out.aC (by decide) e);have hb1:=bu.out.trans (cJ.below (B:=w1.heap.size) (fun k hk=>by have e:k=ge:=hk;rw [e];exact nw.out) bu.out.size);have bY:=af dz;have uC:=af hv1;have bD:=af hb1;clear hK K hHeld k0 z0 dz cJ hv1 hb1;go_wp2_with fail
   go_meet;exact⟨ge,aa,ac,rfl,bY.out,uC.out,bD.out,nw.out⟩
 case rest=>
 obtain⟨ck,aa,ac,rfl,Ax,fh,hbc,iM⟩:=hcut;have gH:=af (iT.out.below hbc);have vp:=af (rX.out.below hbc);have aT:=af (bD.out.trans (hbc.mono bD.out.size));have ef:=af Ax;have Bh:=af (fh.base bD.out.size);have xM:Hid (w.heap.size≤ck):=af (Nat.le_trans bD.out.size iM);have js:Hid ((cT p (List.replicate (countP p).toNat [])).length=(countP p).toNat):=af (by rw [A8,List.length_replicate]);obtain⟨an,YJ⟩:∃x,(cT p (List.replicate (countP p).toNat [])).length=x:=⟨_,rfl⟩;rw [YJ]at ef Bh;clear Ax fh hbc iM mD b5 iT rX bD YJ;generalize wc=w2 at*;have ug:w2.cell? ⟨ck,0,none⟩=some (.slice aa an ac):=ef.out.cell 0;go_upto_region 5 with(fail)
 have s1:∀(w:World) (o:Obj),(w.alloc o).heap.size=w.heap.size+1:=fun w o=>by simp
 have hba:=Below.aA w2 (.cells #[.slice aa an ac] 54);have aJ:Below w2.heap.size w2 ((w2.alloc (.cells #[.slice aa an ac] 54)).alloc (.cells #[.int .i64 0] 2)):=hba.alloc (by rw [s1];omega) _;have YK:x9.Row (w2.alloc (.cells #[.slice aa an ac] 54)) w2.heap.size (.slice (some ⟨w2.heap.size,0,none⟩) 1 1) [⟨aa,an,ac⟩]:=aY.Row.AY x9 (L:= [⟨aa,an,ac⟩]) (aj.new _ _ _) (by simp)
 have lK:eJ.Row ((w2.alloc (.cells #[.slice aa an ac] 54)).alloc (.cells #[.int .i64 0] 2)) (w2.heap.size+1) (.slice (some ⟨w2.heap.size+1,0,none⟩) 1 1) [0]:=by
  have h1:=aj.new (w2.alloc (.cells #[.slice aa an ac] 54)) 2 #[.int .i64 0];rw [s1]at h1;exact aY.Row.AY eJ (L:= [0]) h1 (by simp)
 have MB:Hid (m7 w ((w2.alloc (.cells #[.slice aa an ac] 54)).alloc (.cells #[.int .i64 0] 2)) p aH ck pm ps jG (List.replicate (countP p).toNat []) [] (.slice aa an ac) (cT p (List.replicate (countP p).toNat [])) (.slice none 0 0) [] (.slice (some ⟨w2.heap.size,0,none⟩) 1 1) [cT p (List.replicate (countP p).toNat [])] (.slice (some ⟨w2.heap.size+1,0,none⟩) 1 1) [0]):=af
  ⟨vp.out.below aJ,ef.out.below aJ,Bh.out.below aJ,gH.out.below aJ,lU.nil _ _,
   nO.snoc (P:= []) (V:= []) ((YK.below (Below.aA _ _)).base aT.out.size) rfl (fun j h m hp=>(by simp at hp)) (Bh.out.below aJ),
   lK.base (Nat.le_trans aT.out.size (Nat.le_succ _)),aT.out.trans (aJ.mono aT.out.size),
   fun g hg e=>by
    have e1:=((gH.out.below aJ).q9 e).1;have e2:=e.back (F:=fun _=>False) (Below.keeps aJ) gH.out.aC.lt (fun x=>x);have bE:=(gH.out.q9 e2).1.lt;have cw:some (w2.heap.size+1)=some g:=hg;injection cw with cw;omega,
   fun g hg e=>by
    have cw:some w2.heap.size=some g:=hg;injection cw with cw;have:=ef.out.lt;omega,xM.out⟩
 obtain⟨cu,cR⟩:∃g,w2.heap.size+1=g:=⟨_,rfl⟩;obtain⟨aG,eZ⟩:∃g,w2.heap.size=g:=⟨_,rfl⟩;rw [cR]at MB;try rw [cR]
 rw [show(Value.slice (some ⟨w2.heap.size,0,none⟩) 1 1)= .slice (some ⟨aG,0,none⟩) 1 1 by rw [eZ]]at MB⊢;clear cR eZ hba aJ YK lK ug s1 gH vp aT ef Bh;generalize (w2.alloc (.cells #[.slice aa an ac] 54)).alloc (.cells #[.int .i64 0] 2)=w3 at*;go_wp2_with fail
 go_loopw [13,12,11,10,9] (fun i gS Rs fk ag6 w'=>∃(k ml:Nat) (mi:Int) (S:List (List ay)) (E:List Int) (M:List aB) (V:List bP) (Q:List Int) (a1:Option Addr) (n1 c1:Nat) (a2:Option Addr) (n2 c2:Nat) (a3:Option Addr) (oD c3:Nat) (a4:Option Addr) (kW dn:Nat),
  i= .int .i64 k∧k≤n∧k≤25∧gS= .int .i64 mi∧Hid (mi=(ml:Int))∧Rs= .slice a1 n1 c1∧fk= .slice a2 n2 c2∧ag6= .slice a3 oD c3∧Hid (M.length=ml)∧ml≤k*2142∧Hid (V.length=k+1)∧Hid (E.length≤k)∧Hid (dJ p S)∧Hid (gK k S)∧Hid (V[V.length-1]? =some (cT p S))∧Hid (zv (countP p).toNat M V Q)∧m7 w w' p aH ck pm ps jG S E (.slice a4 kW dn) (cT p S) (.slice a1 n1 c1) M (.slice a3 oD c3) V (.slice a2 n2 c2) Q) (fun i _ _ _ _ _=>n-(RowKit.intOf i).toNat)
 case atStart=>
  exact⟨0,0,0,_,_,_,_,_,_,_,_,_,_,_,_,_,_,_,_,_,rfl,Nat.zero_le _,Nat.zero_le _,rfl,af rfl,rfl,rfl,rfl,af rfl,Nat.zero_le _,af rfl,af (Nat.le_refl _),dX,af (gK.new _),af rfl,af (by rw [ack dI.out];exact zv.start _),MB.out⟩
 case round=>
  clear MB dX js;obtain⟨k,ml,mi,S,E,M,V,Q,a1,n1,c1,a2,n2,c2,a3,oD,c3,a4,kW,dn,rfl,hkn,ajv,rfl,D8,rfl,rfl,rfl,iI,abz,oL,YL,dX,yM,xV,kx,hI⟩:=hrel;obtain⟨ak,rfl⟩:∃bk:World,bk=wr:=⟨_,rfl⟩;have uG:=af hI;clear hI;have ajw:ml≤53550:=by omega
  have ajx:0≤mi∧mi≤53550:=by have:=D8.out;omega
  by_cases hlt:k<n∧k<25
  ·obtain⟨iR,Am⟩:=hlt
   have YM:(k:Int)<(n:Int):=by omega
   have ag7:(k:Int)<25:=by omega
   obtain⟨xy,iK⟩:∃x,z8[k]? =some x:=⟨_,List.getElem?_eq_getElem (by rw [ag5.out];exact iR)⟩;have YN:=af (jJ.out xy (List.mem_of_getElem? iK));obtain⟨lb,lo,hla,hlb,hlc⟩:=rI.out k xy iK;subst hla;have MC:Hid (∀wx,Below w.heap.size w wx→Calls Tryz.prog 30 #[p.agg,.agg xy.cells,.int .i64 k] wx fun e w'=>e= .returned (.agg (BD p xy k).cells)∧Below wx.heap.size wx w'):=af fun wx aP=>ag8 p wx (dy.out.below aP) dI.out bK.out xy YN.out k (by omega)
   have FZ:Hid (wm S.length (BD p xy k)):=af (by
    have h1:(countP p).toNat=S.length:=dX.out.len.symm;rw [←h1];refine ag9 ?_ bK.out xy (by omega);have h2:countP p=mZ p.months.length:=if_pos dI.out;have h3:=oC dI.out;have h4:=w6 p.months.length h3.2;omega)
   obtain⟨tc,YO⟩:∃x,BD p xy k=x:=⟨_,rfl⟩;rw [YO]at MC FZ;clear YO;obtain⟨S',E',GC⟩:∃x y,lC p S E tc=(x,y):=⟨_,_,rfl⟩
   have Rt:Hid (∀wx,ed w wx pm ps p jG S E→Calls Tryz.prog 29 #[.pointer (some ⟨pm,0,none⟩),.agg tc.cells] wx fun e w'=>∃v,e= .returned v∧fQ w wx w' pm ps p jG S' E'):=af fun wx hm=>by
    have:=abR hm dI.out dX.out tc FZ.out (by have:=YL.out;omega)
    rwa [GC]at this
   have YP:Hid (gK (k+1) S'):=af (by
    have h1:=yM.out.Ii (p:=p) (E:=E) tc;rw [GC]at h1;exact h1)
   have yG:Hid (dJ p S'∧E'.length≤k+1):=af (by
    have h1:=dX.out.Ii (E:=E) dI.out tc FZ.out;rw [GC]at h1;exact⟨h1.1,by have h2:=h1.2;have h3:=YL.out;dsimp only at h2;omega⟩)
   clear GC iK
   have b5:Hid (∀wx,Below ak.heap.size ak wx→(wx.cell? ⟨aH,0,none⟩=some (.string p.code)∧wx.cell? ⟨aH,1,none⟩=some (.slice p.ma p.months.length p.mc)∧wx.cell? ⟨aH,2,none⟩=some (.int .i64 p.tick)∧wx.cell? ⟨aH,3,none⟩=some (.int .i64 p.low)∧wx.cell? ⟨aH,4,none⟩=some (.int .i64 p.high)∧wx.cell? ⟨aH,5,none⟩=some (.int .i64 p.wide)∧wx.cell? ⟨aH,6,none⟩=some (.int .i64 p.rule)∧wx.cell? ⟨aH,7,none⟩=some (.int .i64 p.top)∧wx.cell? ⟨aH,8,none⟩=some (.int .i64 p.least)∧wx.cell? ⟨aH,9,none⟩=some (.int .i64 p.part)∧wx.cell? ⟨aH,10,none⟩=some (.slice p.sa p.settle.length p.sc))∧gL wx lb (lo+k*9) xy.list):=af fun wx aP=>
    ⟨PC.nV (uG.out.dx.below aP),hlc.below (uG.out.aF.trans (aP.mono uG.out.aF.size)) hlb⟩
   clear hlc hlb;obtain⟨x0,x1,bl,dK,ew,gV,lG,lH,qZ⟩:=xy
   have tW:Hid (∀wx,gL wx lb (lo+k*9) (dB.list ⟨x0,x1,bl,dK,ew,gV,lG,lH,qZ⟩)→wx.cell? ⟨lb,lo+k*9,none⟩=some (.int .i64 x0)∧wx.cell? ⟨lb,lo+k*9+1,none⟩=some (.int .i64 x1)∧wx.cell? ⟨lb,lo+k*9+2,none⟩=some (.int .i64 bl)∧wx.cell? ⟨lb,lo+k*9+3,none⟩=some (.int .i64 dK)∧wx.cell? ⟨lb,lo+k*9+4,none⟩=some (.int .i64 ew)∧wx.cell? ⟨lb,lo+k*9+5,none⟩=some (.int .i64 gV)∧wx.cell? ⟨lb,lo+k*9+6,none⟩=some (.int .i64 lG)∧wx.cell? ⟨lb,lo+k*9+7,none⟩=some (.int .i64 lH)∧wx.cell? ⟨lb,lo+k*9+8,none⟩=some (.string qZ)):=af fun wx h=>
    ⟨h 0 _ rfl,h 1 _ rfl,h 2 _ rfl,h 3 _ rfl,h 4 _ rfl,h 5 _ rfl,h 6 _ rfl,h 7 _ rfl,h 8 _ rfl⟩
   unfold Prod.agg Prod.cells dB.cells at MC;unfold dB.cells at Rt;go_upto_region 10 with(fail)
   go_cut [] (fun wx=>m7 w wx p aH ck pm ps jG S' E' (.slice a4 kW dn) (cT p S) (.slice a1 n1 c1) M (.slice a3 oD c3) V (.slice a2 n2 c2) Q)
   case first=>
    have cr:Hid (Below ak.heap.size ak ak.drew):=af (Below.refl ak.heap.size ak).drew;have hs0:=b5.out _ cr.out;have hc0:=tW.out _ hs0.2;refine cF (S:=fun w'=>(w'.cell? ⟨aH,0,none⟩=some (.string p.code)∧w'.cell? ⟨aH,1,none⟩=some (.slice p.ma p.months.length p.mc)∧w'.cell? ⟨aH,2,none⟩=some (.int .i64 p.tick)∧w'.cell? ⟨aH,3,none⟩=some (.int .i64 p.low)∧w'.cell? ⟨aH,4,none⟩=some (.int .i64 p.high)∧w'.cell? ⟨aH,5,none⟩=some (.int .i64 p.wide)∧w'.cell? ⟨aH,6,none⟩=some (.int .i64 p.rule)∧w'.cell? ⟨aH,7,none⟩=some (.int .i64 p.top)∧w'.cell? ⟨aH,8,none⟩=some (.int .i64 p.least)∧w'.cell? ⟨aH,9,none⟩=some (.int .i64 p.part)∧w'.cell? ⟨aH,10,none⟩=some (.slice p.sa p.settle.length p.sc))∧w'.cell? ⟨lb,lo+k*9,none⟩=some (.int .i64 x0)∧w'.cell? ⟨lb,lo+k*9+1,none⟩=some (.int .i64 x1)∧w'.cell? ⟨lb,lo+k*9+2,none⟩=some (.int .i64 bl)∧w'.cell? ⟨lb,lo+k*9+3,none⟩=some (.int .i64 dK)∧w'.cell? ⟨lb,lo+k*9+4,none⟩=some (.int .i64 ew)∧w'.cell? ⟨lb,lo+k*9+5,none⟩=some (.int .i64 gV)∧w'.cell? ⟨lb,lo+k*9+6,none⟩=some (.int .i64 lG)∧w'.cell? ⟨lb,lo+k*9+7,none⟩=some (.int .i64 lH)∧w'.cell? ⟨lb,lo+k*9+8,none⟩=some (.string qZ)) (by kernel_rfl) ⟨hs0.1,hc0⟩ (fun hHeld=>?_);clear hs0 hc0;refine ai 0 ?_;refine ai 1 ?_;refine ai 2 ?_;refine ai 3 ?_;refine ai 4 ?_;refine ai 5 ?_;refine ai 6 ?_;have xA:=af (uG.out.below cr.out);generalize ak.drew=wd at*;refine aR 7 fun K hK=>?_;go_simp;go_at_call 30
    refine(MC.out _ xA.out.aF).mono ?_;rintro e au ⟨rfl,di⟩;have ux:=af (xA.out.below di);have hs1:=b5.out _ (cr.out.trans (di.mono cr.out.size));refine hK.out _ _ ⟨hs1.1,tW.out _ hs1.2⟩ (fun hHeld=>?_);clear hK K hs1 di;refine cO 8 fun K hK=>?_;go_simp;go_at_call 29
    refine(Rt.out _ ux.out.gi).mono ?_;rintro e aK ⟨v,rfl,Ar⟩;have aha:=af (ux.out.Ii Ar);clear Ar;refine hK.out _ _ ?_;clear hK K hHeld;go_wp2_with fail
    go_meet;exact aha.out
   case rest=>
   have xA:=af hcut;clear hcut uG b5 tW MC Rt YN FZ;generalize wc=au at*;have YQ:=af yG.out.1;go_upto_region 11 with(fail)
   have mD:Hid (∀wx,Below au.heap.size au wx→Calls Tryz.prog 28 #[p.agg,.pointer (some ⟨ps,0,none⟩)] wx fun e w'=>∃v',e= .returned (.agg #[v'])∧cl eF bC w' wx.heap.size v' (cT p S')∧Below wx.heap.size wx w'):=af fun wx aP=>V1 ((xA.out.gi.below aP).bZ) dI.out YQ.out;unfold Prod.agg Prod.cells at mD
   have b5:Hid (∀wx,Below au.heap.size au wx→(wx.cell? ⟨aH,0,none⟩=some (.string p.code)∧wx.cell? ⟨aH,1,none⟩=some (.slice p.ma p.months.length p.mc)∧wx.cell? ⟨aH,2,none⟩=some (.int .i64 p.tick)∧wx.cell? ⟨aH,3,none⟩=some (.int .i64 p.low)∧wx.cell? ⟨aH,4,none⟩=some (.int .i64 p.high)∧wx.cell? ⟨aH,5,none⟩=some (.int .i64 p.wide)∧wx.cell? ⟨aH,6,none⟩=some (.int .i64 p.rule)∧wx.cell? ⟨aH,7,none⟩=some (.int .i64 p.top)∧wx.cell? ⟨aH,8,none⟩=some (.int .i64 p.least)∧wx.cell? ⟨aH,9,none⟩=some (.int .i64 p.part)∧wx.cell? ⟨aH,10,none⟩=some (.slice p.sa p.settle.length p.sc))∧wx.cell? ⟨pm,11,none⟩=some (.pointer (some ⟨ps,0,none⟩))):=af fun wx aP=>by
    obtain⟨_,_,hmb,_⟩:=(xA.out.gi.below aP).box;exact⟨PC.nV (xA.out.dx.below aP),hmb.cell 11⟩
   go_cut [14] (fun u wx=>∃(ge:Nat) (aa:Option Addr) (ac:Nat),u= .pointer (some ⟨ge,0,none⟩)∧aj wx ge 54 #[.slice aa (cT p S').length ac]∧cl eF bC wx au.heap.size (.slice aa (cT p S').length ac) (cT p S')∧Below au.heap.size au wx∧au.heap.size≤ge)
   case first=>
    have cr:Hid (Below au.heap.size au au.drew):=af (Below.refl au.heap.size au).drew;refine cF (S:=fun w'=>(w'.cell? ⟨aH,0,none⟩=some (.string p.code)∧w'.cell? ⟨aH,1,none⟩=some (.slice p.ma p.months.length p.mc)∧w'.cell? ⟨aH,2,none⟩=some (.int .i64 p.tick)∧w'.cell? ⟨aH,3,none⟩=some (.int .i64 p.low)∧w'.cell? ⟨aH,4,none⟩=some (.int .i64 p.high)∧w'.cell? ⟨aH,5,none⟩=some (.int .i64 p.wide)∧w'.cell? ⟨aH,6,none⟩=some (.int .i64 p.rule)∧w'.cell? ⟨aH,7,none⟩=some (.int .i64 p.top)∧w'.cell? ⟨aH,8,none⟩=some (.int .i64 p.least)∧w'.cell? ⟨aH,9,none⟩=some (.int .i64 p.part)∧w'.cell? ⟨aH,10,none⟩=some (.slice p.sa p.settle.length p.sc))∧w'.cell? ⟨pm,11,none⟩=some (.pointer (some ⟨ps,0,none⟩))) (by kernel_rfl) (b5.out _ cr.out) (fun hHeld=>?_);refine ai 0 ?_;refine ai 1 ?_;refine ai 2 ?_;refine ai 3 ?_;refine ai 4 ?_;generalize au.drew=wd at*;refine jW 5 6 (fun K hK=>?_) fun K hK=>?_
    ·as_aux_lemma=>
     go_simp;go_at_call 28
     refine(mD.out _ cr.out).mono ?_;rintro e w2 ⟨vl,rfl,fh,hb2⟩;obtain⟨aa,ac,hvl⟩:=fh.form;subst hvl;have aT:=af (cr.out.trans (hb2.mono cr.out.size));refine hK.out _ _ (b5.out _ aT.out) (fun hHeld=>?_);clear hK K;refine aR 6 fun K hK=>?_;go_simp;have hba:=Below.aA w2 (.cells #[.slice none 0 0] 54);have bu:=af (aT.out.trans (hba.mono aT.out.size));have bB:Hid (aj (w2.alloc (.cells #[.slice none 0 0] 54)) w2.heap.size 54 #[.slice none 0 0]):=af (aj.new _ _ _);have eT:=af ((fh.below hba).base cr.out.size);refine hK.out _ _ (b5.out _ bu.out) (fun hHeld=>?_);obtain⟨ge,hge⟩:∃g,w2.heap.size=g:=⟨_,rfl⟩;have nw:Hid (au.heap.size≤ge):=af (by rw [←hge];exact aT.out.size);rw [hge]at bB⊢;clear hK K hba hge fh hb2;generalize w2.alloc (.cells #[.slice none 0 0] 54)=w3 at*;have k0:w3.cell? ⟨ge,0,none⟩=some (.slice none 0 0):=bB.out.cell 0;have z0:w3.frozen? ⟨ge,0,none⟩=false:=bB.out.frozen 0;refine cO 7 fun K hK=>?_;go_simp;refine hK.out _ _ ?_;have dz:=bB.out.aQ 0 (.slice aa (cT p S').length ac);simp only [List.setIfInBounds_toArray,List.set_cons_zero]at dz;have cJ:=bS w3 ge 0 (.slice aa (cT p S').length ac);have hv1:=eT.out.keep cJ (fun g hg e=>hg.ne bB.out.aC (by decide) e) (fun g hg e=>hg.ne bB.out.aC (by decide) e);have hb1:=bu.out.trans (cJ.below (B:=au.heap.size) (fun k hk=>by have e:k=ge:=hk;rw [e];exact nw.out) bu.out.size);have bY:=af dz;have uC:=af hv1;have bD:=af hb1;clear hK K hHeld k0 z0 dz cJ hv1 hb1;go_wp2_with fail
     go_meet;exact⟨ge,aa,ac,rfl,bY.out,uC.out,bD.out,nw.out⟩
    ·as_aux_lemma=>
     go_simp;have hba:=Below.aA wd (.cells #[.slice none 0 0] 54);have aT:=af (cr.out.trans (hba.mono cr.out.size));have JC:Hid (aj (wd.alloc (.cells #[.slice none 0 0] 54)) wd.heap.size 54 #[.slice none 0 0]):=af (aj.new _ _ _);refine hK.out _ _ (b5.out _ aT.out) (fun hHeld=>?_);obtain⟨ge,hge⟩:∃g,wd.heap.size=g:=⟨_,rfl⟩;have nw:Hid (au.heap.size≤ge):=af (by rw [←hge];exact cr.out.size);rw [hge]at JC⊢;clear hK K hba hge;generalize wd.alloc (.cells #[.slice none 0 0] 54)=w2 at*;refine aR 5 fun K hK=>?_;go_simp;go_at_call 28
     refine(mD.out _ aT.out).mono ?_;rintro e w3 ⟨vl,rfl,fh,hb3⟩;obtain⟨aa,ac,hvl⟩:=fh.form;subst hvl;have bu:=af (aT.out.trans (hb3.mono aT.out.size));have bB:=af (JC.out.below hb3);have eT:=af (fh.base aT.out.size);refine hK.out _ _ (b5.out _ bu.out) (fun hHeld=>?_);clear hK K fh hb3;have k0:w3.cell? ⟨ge,0,none⟩=some (.slice none 0 0):=bB.out.cell 0;have z0:w3.frozen? ⟨ge,0,none⟩=false:=bB.out.frozen 0;refine cO 7 fun K hK=>?_;go_simp;refine hK.out _ _ ?_;have dz:=bB.out.aQ 0 (.slice aa (cT p S').length ac);simp only [List.setIfInBounds_toArray,List.set_cons_zero]at dz;have cJ:=bS w3 ge 0 (.slice aa (cT p S').length ac);have hv1:=eT.out.keep cJ (fun g hg e=>hg.ne bB.out.aC (by decide) e) (fun g hg e=>hg.ne bB.out.aC (by decide) e);have hb1:=bu.out.trans (cJ.below (B:=au.heap.size) (fun k hk=>by have e:k=ge:=hk;rw [e];exact nw.out) bu.out.size);have bY:=af dz;have uC:=af hv1;have bD:=af hb1;clear hK K hHeld k0 z0 dz cJ hv1 hb1;go_wp2_with fail
     go_meet;exact⟨ge,aa,ac,rfl,bY.out,uC.out,bD.out,nw.out⟩
   case rest=>
   obtain⟨bX,aa,ac,rfl,fj,hvb,hbc,iM⟩:=hcut;have ux:=af (xA.out.below hbc);have nG:=af fj;have MD:=af (hvb.base xA.out.aF.size);have ahb:Hid (¬bX=ck):=af (by have:=xA.out.ba.lt;omega);have eu:Hid (w.heap.size≤bX):=af (Nat.le_trans xA.out.aF.size iM);obtain⟨pE,Ru⟩:∃x,(cT p S').length=x:=⟨_,rfl⟩;have YR:=af Ru;rw [Ru]at nG MD;clear fj hvb hbc iM mD b5 xA Ru;generalize wc=aK at*;have ug:aK.cell? ⟨ck,0,none⟩=some (.slice a4 kW dn):=ux.out.ba.cell 0;have kb:aK.cell? ⟨bX,0,none⟩=some (.slice aa pE ac):=nG.out.cell 0;have YS:Hid (kW=(cT p S).length):=af (by obtain⟨_,_,h⟩:=ux.out.la.form;injection h)
   have sR:Hid ((cT p S).length=(cT p S').length∧(cT p S).length≤40):=af (by
    have h1:=A8 p S;have h2:=A8 p S';have h3:=dX.out.len;have h4:=yG.out.1.len;have h5:=dN.out;omega)
   have Rv:Hid (Calls Tryz.prog 31 #[.agg #[.slice a4 kW dn],.agg #[.slice aa pE ac],.int .i64 mi] aK fun e w'=>∃v,e= .returned v∧gb.Row w' aK.heap.size v (pN (cT p S) (cT p S') ml)∧Below aK.heap.size aK w'):=af (by
    rw [YS.out,←YR.out,D8.out];have h1:=ux.out.la;rw [YS.out]at h1;have h2:=MD.out;rw [←YR.out]at h2;exact abn h1 h2 sR.out.1 sR.out.2 (Ps dX.out) (Ps yG.out.1) (by omega) (by omega))
   obtain⟨nE,hdf⟩:∃x,pN (cT p S) (cT p S') (ml:Int)=x:=⟨_,rfl⟩;rw [hdf]at Rv;have NG:=af hdf
   have Ci:Hid (nE.length≤2142):=af (by
    have h1:=Td ((yM.out.more (show k≤25 by omega)).look (p:=p)) ((YP.out.more (show k+1≤25 by omega)).look (p:=p)) (ml:Int);rw [hdf]at h1;have h2:(cT p S).length≤21:=by have:=A8 p S;have:=dX.out.len;have:=dN.out;omega
    have h3:(cT p S).length*(4*25+2)≤21*102:=Nat.mul_le_mul h2 (Nat.le_refl _);omega)
   have ahc:Hid (∀m∈nE,(0≤m.inst∧m.inst≤255)∧(m.side=1∨m.side=2)):=af fun m hm=>by
    rw [←hdf]at hm;have h2:(cT p S).length≤21:=by have:=A8 p S;have:=dX.out.len;have:=dN.out;omega
    have h3:=Ci.out;rw [←hdf]at h3;have h4:=Tc (q:=(ml:Int)) (by omega) sR.out.1 (VV dI.out yG.out.1) (Pr dI.out dX.out) (Pr dI.out yG.out.1) hm (by omega) (by omega);exact⟨⟨h4.1.i0,by have:=h4.1.i1;omega⟩,h4.1.sd⟩
   clear hdf;go_wp2_with fail
   refine Rv.out.mono ?_;rintro e bw ⟨vd,rfl,Rw,kz⟩;obtain⟨da,jo,JD⟩:=Rw.form;obtain⟨pY,hdn⟩:∃x,nE.length=x:=⟨_,rfl⟩;rw [hdn]at JD;subst JD;have ME:=af hdn;have ajy:pY≤2142:=by have:=Ci.out;omega
   have YT:Hid (MA w bw p aH ck pm ps jG S' E' (.slice a4 kW dn) (cT p S) (.slice a1 n1 c1) (M) (.slice a3 oD c3) V (.slice a2 n2 c2) Q bX (.slice aa pE ac) (cT p S') (.slice da pY jo) nE):=af ⟨ux.out.below kz,nG.out.below kz,MD.out.below kz,Rw.base ux.out.aF.size⟩;clear Rw kz hdn ug kb ux nG MD Rv;go_wp2_with fail
   go_loopw [16,11] (fun i Rs w'=>∃(t:Nat) (a1:Option Addr) (n1 c1:Nat),i= .int .i64 t∧t≤pY∧Rs= .slice a1 n1 c1∧MA w w' p aH ck pm ps jG S' E' (.slice a4 kW dn) (cT p S) (.slice a1 n1 c1) (M++nE.take t) (.slice a3 oD c3) V (.slice a2 n2 c2) Q bX (.slice aa pE ac) (cT p S') (.slice da pY jo) nE) (fun i _ _=>pY-(RowKit.intOf i).toNat)
   case atStart=>exact⟨0,a1,n1,c1,rfl,Nat.zero_le _,rfl,by rw [List.take_zero,List.append_nil];exact YT.out⟩
   case round=>
    clear YT;obtain⟨t,a1,n1,c1,rfl,ht,rfl,YU⟩:=hrel;obtain⟨wt,rfl⟩:∃bk:World,bk=wr:=⟨_,rfl⟩;have xB:=af YU;clear YU;by_cases htd:t<pY
    ·have ajz:(t:Int)<(pY:Int):=by omega
     obtain⟨m,hm⟩:∃m,nE[t]? =some m:=⟨_,List.getElem?_eq_getElem (by rw [ME.out];exact htd)⟩;have dh:=af (lp hm);have qM:=af (ahc.out m (List.mem_of_getElem? hm));obtain⟨BF,ajA,ahd,hdl,hdc⟩:=xB.out.dd.at_ t m hm;injection ahd with hd1 NL UL;subst hd1;clear NL UL;have JE:Hid (∀wx,Calls Tryz.prog 32 #[m.agg] wx fun e w'=>∃v,e= .returned (.tuple #[v,.int .i64 0])∧e9.Row w' wx.heap.size v (j6 m)∧Below wx.heap.size wx w'):=af fun wx=>Pc m wx qM.out.1 qM.out.2;obtain⟨em,hem⟩:∃x,j6 m=x:=⟨_,rfl⟩;have ahe:=af hem;rw [hem]at JE;obtain⟨y0,y1,dw,mV,pP,Fh,Rx⟩:=m;unfold aB.agg at JE;dsimp only at JE;have d0:wt.cell? ⟨BF,t*7,none⟩=some (.int .i64 y0):=hdc 0 _ rfl;have d1:wt.cell? ⟨BF,t*7+1,none⟩=some (.int .i64 y1):=hdc 1 _ rfl;have d2:wt.cell? ⟨BF,t*7+2,none⟩=some (.int .i64 dw):=hdc 2 _ rfl;have d3:wt.cell? ⟨BF,t*7+3,none⟩=some (.int .i64 mV):=hdc 3 _ rfl;have d4:wt.cell? ⟨BF,t*7+4,none⟩=some (.int .i64 pP):=hdc 4 _ rfl;have d5:wt.cell? ⟨BF,t*7+5,none⟩=some (.int .i64 Fh):=hdc 5 _ rfl;have d6:wt.cell? ⟨BF,t*7+6,none⟩=some (.bool Rx):=hdc 6 _ rfl;clear hdc hm hem hdl;go_wp2_with fail
     refine(JE.out _).mono ?_;rintro e bW ⟨ajB,rfl,Ry,jv⟩;obtain⟨yQ,yR,F2⟩:=Ry.form;obtain⟨el,hel⟩:∃x,em.length=x:=⟨_,rfl⟩;rw [hel]at F2;subst F2;clear hel d0 d1 d2 d3 d4 d5 d6 JE;obtain⟨P,hP,fY,gX⟩:=xB.out.i.q9;obtain⟨pa,pc,Rz⟩:=hP.form;injection Rz with hv1 jq Fv;subst hv1;subst jq;subst Fv;have fR:=Below.aA bW (.cells #[.slice yQ el yR] 37);have F3:=af (jv.trans (fR.mono jv.size));have lJ:=af ((hP.below jv).below fR);have wK:Hid (∀(j:Nat) (h:Hd) (m:aB),P[j]? =some h→(M++nE.take t)[j]? =some m→e9.Row _ w.heap.size (.slice h.a h.n h.c) (j6 m)):=af fun j h m hp hm=>((gX j h m hp hm).below jv).below fR;have ia:=af fY;have YV:=af ((Ry.below fR).base xB.out.i.aF.size);have xC:Hid (aj (bW.alloc (.cells #[.slice yQ el yR] 37)) bW.heap.size 37 (CR.cells ⟨yQ,el,yR⟩).toArray):=af (aj.new _ _ _);have hM:Hid (w.heap.size≤(bW.alloc (.cells #[.slice yQ el yR] 37)).heap.size):=af (Nat.le_trans xB.out.i.aF.size F3.out.size)
     have mm:Hid (P.length+1≤1000000):=af (by
      rw [fY,List.length_append];have h1:=iI.out;have h2:=List.length_take_le t nE;omega)
     clear hP fY gX Ry jv fR
     go_wp2_with (first
      |(at_builtin;go_loud (refine CR.push rfl (.tmp 73) (.tmp 75) rfl w.heap.size (.slice a1 P.length c1) P rfl lJ.out bW.heap.size ⟨yQ,el,yR⟩ rfl xC.out.lt xC.out.fU mm.out hM.out ?_)))
     intro v' bG je gJ _;obtain⟨a5,cj,iA⟩:=je.form;obtain⟨pn,JF⟩:∃x,(P++ [(⟨yQ,el,yR⟩:Hd)]).length=x:=⟨_,rfl⟩;rw [JF]at iA;clear JF;subst iA
     have vE:Hid (MA w bG p aH ck pm ps jG S' E' (.slice a4 kW dn) (cT p S) (.slice a5 pn cj) (M++nE.take (t+1)) (.slice a3 oD c3) V (.slice a2 n2 c2) Q bX (.slice aa pE ac) (cT p S') (.slice (some ⟨BF,0,none⟩) pY jo) nE):=af (by
      obtain⟨i1,cJ⟩:=xB.out.i.msg (m:=⟨y0,y1,dw,mV,pP,Fh,Rx⟩) F3.out lJ.out ia.out wK.out (by rw [ahe.out];exact YV.out) je gJ;have bI:∀g,(Value.slice a1 P.length c1).ownBlock=some g→bV _ g 37:=fun g hg=>dR lJ.out g hg;have b1:=xB.out.bb.below F3.out;rw [dh.out,←List.append_assoc];exact⟨i1,b1.keeps cJ (fun e=>b1.aC.ne (bI _ e) (by decide) rfl),(xB.out.vb.below F3.out).keep cJ (fun g hg e=>hg.ne (bI _ e) (by decide) rfl) (fun g hg e=>hg.ne (bI _ e) (by decide) rfl),(xB.out.dd.below F3.out).keep cJ (fun g hg e=>hg.ne (bI _ e) (by decide) rfl)⟩)
     clear je gJ lJ wK ia YV xC hM mm F3 xB;go_wp2_with fail
     go_roundw
     case rel=>exact⟨t+1,a5,pn,cj,by go_num,htd,rfl,vE.out⟩
     case measure=>simp [RowKit.intOf];omega
    ·have YW:t=pY:=by omega
     have vE:Hid (MA w wt p aH ck pm ps jG S' E' (.slice a4 kW dn) (cT p S) (.slice a1 n1 c1) (M++nE) (.slice a3 oD c3) V (.slice a2 n2 c2) Q bX (.slice aa pE ac) (cT p S') (.slice da pY jo) nE):=af (by
      have h1:nE.take t=nE:=by rw [YW,←ME.out,List.take_length]
      have:=xB.out
      rwa [h1]at this)
     obtain⟨uH,PT⟩:∃x:Int,mi+(pY:Int)=x:=⟨_,rfl⟩;obtain⟨m2,hm2⟩:∃x:Nat,ml+pY=x:=⟨_,rfl⟩;have gH:=af hm2;have YX:Hid (uH=(m2:Int)):=af (by have:=D8.out;omega);have ajC:0≤uH∧uH≤600000:=by omega
     clear YW xB hm2;have kb:wt.cell? ⟨bX,0,none⟩=some (.slice aa pE ac):=vE.out.bb.cell 0;have ug:wt.cell? ⟨ck,0,none⟩=some (.slice a4 kW dn):=vE.out.i.ba.cell 0;have y2:wt.frozen? ⟨ck,0,none⟩=false:=vE.out.i.ba.frozen 0;go_upto_region 20 with(fail)
     clear PT;have MF:Hid (m7 w _ p aH ck pm ps jG S' E' (.slice aa pE ac) (cT p S') (.slice a1 n1 c1) (M++nE) (.slice a3 oD c3) V (.slice a2 n2 c2) Q):=af (vE.out.i.put vE.out.vb);have YY:=af (vE.out.bb.keeps (bS wt ck 0 (.slice aa pE ac)) ahb.out);have YZ:=af (vE.out.vb.keep (bS wt ck 0 (.slice aa pE ac)) (fun g hg e=>hg.ne vE.out.i.ba.aC (by decide) e) (fun g hg e=>hg.ne vE.out.i.ba.aC (by decide) e));clear kb ug y2 vE;generalize wt.setCell ⟨ck,0,none⟩ (.slice aa pE ac)=oY at*;have kb:oY.cell? ⟨bX,0,none⟩=some (.slice aa pE ac):=YY.out.cell 0;obtain⟨P,hP,fY,gX⟩:=MF.out.fG;obtain⟨pa,pc,Rz⟩:=hP.form;injection Rz with hv1 jq Fv;subst hv1;subst jq;subst Fv;have fR:=Below.aA oY (.cells #[.slice aa pE ac] 54);have vF:=af fR;have lJ:=af (hP.below fR);have wK:Hid (∀(j:Nat) (h:Hd) (m:bP),P[j]? =some h→V[j]? =some m→cl eF bC _ w.heap.size (.slice h.a h.n h.c) m):=af fun j h m hp hm=>(gX j h m hp hm).below fR;have ia:=af fY;have Y0:=af (YZ.out.below fR);have xC:Hid (aj (oY.alloc (.cells #[.slice aa pE ac] 54)) oY.heap.size 54 (x9.cells ⟨aa,pE,ac⟩).toArray):=af (aj.new _ _ _);have hM:Hid (w.heap.size≤(oY.alloc (.cells #[.slice aa pE ac] 54)).heap.size):=af (Nat.le_trans MF.out.aF.size fR.size);have mm:Hid (P.length+1≤1000000):=af (by rw [fY,oL.out];omega);clear hP fY gX fR
     go_wp2_with (first
      |(at_builtin;go_loud (refine x9.push rfl (.tmp 82) (.tmp 84) rfl w.heap.size (.slice a3 P.length c3) P rfl lJ.out oY.heap.size ⟨aa,pE,ac⟩ rfl xC.out.lt xC.out.fU mm.out hM.out ?_)))
     intro v' bG je gJ JG;obtain⟨a5,cj,iA⟩:=je.form;obtain⟨pn,JF⟩:∃x,(P++ [(⟨aa,pE,ac⟩:Hd)]).length=x:=⟨_,rfl⟩;rw [JF]at iA;clear JF;subst iA
     have MG:=af (MF.out.view vF.out lJ.out ia.out wK.out Y0.out je gJ (by
      rcases JG with h|h
      ·exact .inl h
      ·exact .inr (by rw [h];simp)))
     clear je gJ JG lJ wK ia xC hM mm vF MF YZ Y0 YY kb;go_upto_region 21 with(fail)
     have fR:=Below.aA bG (.cells #[.int .i64 uH] 2);have vF:=af fR;have Y1:=af (MG.out.vD.below fR);have vg:Hid (Q.length+1≤1000000):=af (by have:=kx.out.len;have:=oL.out;omega);have xC:Hid (aj (bG.alloc (.cells #[.int .i64 uH] 2)) bG.heap.size 2 (eJ.cells uH).toArray):=af (aj.new _ _ _);have hM:Hid (w.heap.size≤(bG.alloc (.cells #[.int .i64 uH] 2)).heap.size):=af (Nat.le_trans MG.out.aF.size fR.size);clear fR
     go_wp2_with (first
      |(at_builtin;go_loud (refine eJ.push rfl (.tmp 86) (.tmp 88) rfl w.heap.size (.slice a2 n2 c2) Q rfl Y1.out bG.heap.size uH rfl xC.out.lt xC.out.fU vg.out hM.out ?_)))
     intro v' yS RA Ir Y2;obtain⟨a6,fE,Kp⟩:=RA.form;obtain⟨Dk,Y3⟩:∃x,(Q++ [uH]).length=x:=⟨_,rfl⟩;rw [Y3]at Kp;clear Y3;subst Kp
     have ahf:=af (MG.out.seq vF.out RA Ir (by
      rcases Y2 with h|h
      ·exact .inl h
      ·exact .inr (by rw [h];simp)))
     have l6:Hid (zv (countP p).toNat (M++nE) (V++ [cT p S']) (Q++ [uH])):=af (by
      have h1:=kx.out.next xV.out (VV dI.out yG.out.1) (Pr dI.out yG.out.1) (Ps yG.out.1) (by rw [A8];exact yG.out.1.len) (by have:=dN.out;omega) (by have:=iI.out;omega);rw [iI.out,NG.out]at h1;have h2:((M++nE).length:Int)=uH:=by rw [List.length_append,iI.out,ME.out,YX.out,←gH.out]
      rw [h2]at h1;exact h1)
     have ahg:Hid ((M++nE).length=m2):=af (by rw [List.length_append,iI.out,ME.out];exact gH.out);have ahh:Hid ((V++ [cT p S']).length=k+1+1):=af (by rw [List.length_append,oL.out];rfl)
     have ahi:Hid ((V++ [cT p S'])[(V++ [cT p S']).length-1]? =some (cT p S')):=af (by
      rw [show(V++ [cT p S']).length-1=V.length by rw [List.length_append];rfl,List.getElem?_append_right (Nat.le_refl _),Nat.sub_self];rfl)
     have ahj:m2≤(k+1)*2142:=by have:=gH.out;omega
     clear RA Ir Y2 Y1 vg xC hM vF MG;go_wp2_with fail
     go_roundw
     case rel=>exact⟨k+1,m2,uH,S',E',M++nE,V++ [cT p S'],Q++ [uH],a1,n1,c1,a6,Dk,fE,a5,pn,cj,aa,pE,ac,by go_num,iR,by omega,rfl,YX,rfl,rfl,rfl,ahg,ahj,ahh,af yG.out.2,YQ,YP,ahi,l6,ahf.out⟩
     case measure=>simp [RowKit.intOf];omega
  ·have MH:Hid (M.length≤60000∧V.length≤26):=af (by have:=iI.out;have:=oL.out;omega)
   have Y4:(k:Int)<(n:Int)→¬(k:Int)<25:=fun h=>by omega
   by_cases iR:k<n
   ·have YM:(k:Int)<(n:Int):=by omega
    have ag7:¬(k:Int)<25:=by omega
    clear hlt Y4;go_wp2_with fail
    go_ret3
    exact⟨_,_,_,rfl,M,V,Q,kx.out,MH.out.1,MH.out.2,uG.out.q9,uG.out.fG,uG.out.vD,uG.out.aF⟩
   ·have YM:¬(k:Int)<(n:Int):=by omega
    clear hlt Y4;go_wp2_with fail
    go_ret3
    exact⟨_,_,_,rfl,M,V,Q,kx.out,MH.out.1,MH.out.2,uG.out.q9,uG.out.fG,uG.out.vD,uG.out.aF⟩
end
end Go.Proofs.YtmaijkoopjocdaaGreat
