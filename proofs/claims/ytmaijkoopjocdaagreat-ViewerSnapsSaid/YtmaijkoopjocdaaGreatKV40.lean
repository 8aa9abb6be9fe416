import Derived.Test.YtmaijkoopjocdaaGreatKV36
import Derived.Test.YtmaijkoopjocdaaGreatKV35
import Derived.Test.YtmaijkoopjocdaaGreatKV39
import Derived.Test.YtmaijkoopjocdaaGreatKV27
set_option maxRecDepth 100000
set_option maxHeartbeats 64000000
namespace Go.Proofs.YtmaijkoopjocdaaGreat
open Go.RowKit Go.Lib
section
variable {W w w':World} {pm ps pb:Nat} {p:Prod} {Q:List Nat} {S S':List (List aC)} {E:List Int}
theorem aeL (h:eF W w pm ps p Q S E) (hz:cR p=0) (hS:ei p S) (c:ed) (hc:yg S.length c) (hE:E.length≤90000):
 Calls Tryz.prog 29 #[.pointer ↑pm,.agg c.cells] w fun e w'=>∃v,e= .returned v∧gy W w w' pm ps p Q (mq p S E c).1 (mq p S E c).2:=by
 by_cases hk:c.kind=1
 ·exact aeM h hz hS c hc hE hk
 ·cases hf:gR c.id 0 S with
  |none=>exact aeN h hz hS c hc hE hk hf
  |some rI=>
   obtain⟨i,x⟩:=rI;have hne:gR c.id 0 S≠none:=by rw [hf];simp
   have hone:∀(P:Nat→aC→Prop),P i x→∀(j:Nat) (y:aC),gR c.id 0 S=some (j,y)→P j y:=fun P hp j y he=>by
    rw [hf]at he;injection he with he;injection he with h1 h2;rw [←h1,←h2];exact hp
   have hkk:=hc.kind;by_cases h2:c.kind=2∨(c.kind=3∧x.aq≤c.aq)
   ·exact aeO h hz hS c hc hE hk hne (hone (fun _ x=>c.kind=2∨(c.kind=3∧x.aq≤c.aq)) h2)
   ·by_cases h3:c.kind=3
    ·exact aeP h hz hS c hc hE hk hne (hone (fun _ x=>c.kind=3∧c.aq<x.aq) ⟨h3,by omega⟩)
    ·have h4:c.kind=4:=by omega
     by_cases h5:eW p i c.ap≠0∨(c.ap=x.ap∧c.aq≤x.aq)
     ·exact aeQ h hz hS c hc hE hk hne (hone (fun i x=>c.kind=4∧(eW p i c.ap≠0∨(c.ap=x.ap∧c.aq≤x.aq))) ⟨h4,h5⟩)
     ·exact aeR h hz hS c hc hE hk hne (hone (fun i x=>c.kind=4∧eW p i c.ap=0∧¬(c.ap=x.ap∧c.aq≤x.aq)) ⟨h4,by
       refine Decidable.byContradiction fun h6=>h5 (.inl h6),fun h6=>h5 (.inr h6)⟩)
end
theorem y6.back {F:Nat→Prop} {w w':World} {pm g:Nat} (hk:aK F w w') (hl:pm<w.heap.size) (hn:¬F pm) (h:y6 w' pm g):y6 w pm g:=by
 obtain⟨a,n,c,h1,h2⟩:=h;refine⟨a,n,c,?_,h2⟩;unfold World.cell? at h1⊢;rw [show(⟨pm,12,none⟩:Addr).block=pm from rfl]at h1⊢;rw [hk.block pm hl hn]at h1;exact h1
section
variable {W w w':World} {pm ps:Nat} {p:Prod} {Q:List Nat} {S:List (List aC)} {E:List Int}
theorem eF.Hg {jJ:World} (h:eF W w pm ps p Q S E) (hb:Below jJ.heap.size jJ W) (hp:gM jJ p):eF jJ w pm ps p Q S E:=by
 obtain⟨a,c,h1,h2⟩:=h.box;exact⟨⟨a,c,h1,h2.base hb.size⟩,h.cr.Hg hb hp,Nat.le_trans hb.size h.base⟩
theorem eF.akq {F:Nat→Prop} (h:eF W w pm ps p Q S E) (hk:aK F w w') (hF:∀g,F g→ck w g 2) (hm:∀g,F g→¬y6 w pm g) (hb:∀g,F g→W.heap.size≤g):eF W w' pm ps p Q S E:=by
 obtain⟨a,c,h1,h2⟩:=h.box;exact⟨⟨a,c,h1.keeps hk (fun e=>h1.aE.ne (hF _ e) (by decide) rfl),h2.Bd hk (fun g hg e=>hm g e ⟨a,E.length,c,h1.cell 12,hg⟩)⟩,h.cr.qT hk hF (Nat.le_refl _) hb (by decide),h.base⟩
end
structure nZ (W w:World) (p:Prod) (aR cB pm ps:Nat) (kD:List Nat) (S:List (List aC)) (E:List Int) (va:Value) (A:bG) (vm:Value) (M:List aF) (m4:Value) (V:List bG) (lJ:Value) (Q:List Int):Prop where
 ek:av w aR 25 p.cells
 ba:av w cB 54 #[va]
 la:cg eJ bK w W.heap.size va A
 gN:eF W w pm ps p kD S E
 sO:mQ w W.heap.size vm M
 fh:oL w W.heap.size m4 V
 xL:e8.Row w W.heap.size lJ Q
 aJ:Below W.heap.size W w
 jP:∀g,lJ.ownBlock=some g→¬y6 w pm g
 cJ:∀g,m4.ownBlock=some g→g≠cB
 tK:W.heap.size≤cB
section
variable {W w w':World} {p:Prod} {aR cB pm ps:Nat} {kD:List Nat} {S S':List (List aC)} {E E':List Int} {va vb:Value} {A B:bG} {vm aa7 m4 Om lJ On:Value} {M:List aF} {V:List bG} {Q:List Int}
theorem oL.row {w:World} {B:Nat} {v:Value} {V:List bG} (h:oL w B v V):∃P:List Hd,zR.Row w B v P:=by
 obtain⟨P,h1,_⟩:=h;exact⟨P,h1⟩
theorem nZ.below (h:nZ W w p aR cB pm ps kD S E va A vm M m4 V lJ Q) (hb:Below w.heap.size w w'):nZ W w' p aR cB pm ps kD S E va A vm M m4 V lJ Q:=
 ⟨h.ek.below hb,h.ba.below hb,h.la.below hb,h.gN.below hb,h.sO.below hb,h.fh.below hb,h.xL.below hb,h.aJ.trans (hb.mono h.aJ.size),
   fun g hg e=>h.jP g hg (e.back (F:=fun _=>False) (Below.keeps hb) h.gN.aE.lt (fun x=>x)),h.cJ,h.tK⟩
theorem nZ.J9 (h:nZ W w p aR cB pm ps kD S E va A vm M m4 V lJ Q) (hd:gy W w w' pm ps p kD S' E'):nZ W w' p aR cB pm ps kD S' E' va A vm M m4 V lJ Q:=by
 have hk:=hd.k;have hq:∀g,g∈kD→ck w g 181∧W.heap.size≤g:=fun g hg=>h.gN.cr.py hg
 have hne:∀{g:Nat} {t:TypeId},ck w g t→t≠181→t≠76→t≠2→¬(g∈kD∨g=pm∨y6 w pm g):=by
  intro g t ht h1 h2 h3 e;rcases e with e|e|e
  ·exact ht.ne (hq g e).1 h1 rfl
  ·exact ht.ne h.gN.aE h2 e
  ·exact ht.ne (h.gN.sO e).1 h3 rfl
 have dw:∀g,(g∈kD∨g=pm∨y6 w pm g)→W.heap.size≤g:=fun g e=>by
  rcases e with e|e|e
  ·exact(hq g e).2
  ·rw [e];exact h.gN.base
  ·exact(h.gN.sO e).2
 obtain⟨aa8,Lw⟩:=h.fh.row;obtain⟨PM,y7,FN,FO⟩:=h.sO
 refine⟨h.ek.keeps hk (hne h.ek.aE (by decide) (by decide) (by decide)),h.ba.keeps hk (hne h.ba.aE (by decide) (by decide) (by decide)),h.la.keep hk (fun g hg=>hne hg (by decide) (by decide) (by decide)) (fun g hg=>hne hg (by decide) (by decide) (by decide)),hd.gN,
  (show mQ w W.heap.size vm M from⟨PM,y7,FN,FO⟩).keep hk (fun g hg=>hne (eo y7 g hg) (by decide) (by decide) (by decide)) (fun g hg=>hne hg (by decide) (by decide) (by decide)),
  h.fh.keep hk (fun g hg=>hne (eo Lw g hg) (by decide) (by decide) (by decide)) (fun g hg=>hne hg (by decide) (by decide) (by decide)) (fun g hg=>hne hg (by decide) (by decide) (by decide)),
  h.xL.Bd hk (fun g hg e=>?_),h.aJ.trans (hk.below dw h.aJ.size),fun g hg e=>?_,h.cJ,h.tK⟩
 ·have ht:ck w g 2:=eo h.xL g hg
  rcases e with e|e|e
  ·exact ht.ne (hq g e).1 (by decide) rfl
  ·exact ht.ne h.gN.aE (by decide) e
  ·exact h.jP g hg e
 ·rcases hd.o g e with h1|h1
  ·exact h.jP g hg h1
  ·have:=ki h.xL g hg;omega
theorem nZ.msg {wb aA:World} {P:List Hd} {x:Hd} {m:aF} (h:nZ W w p aR cB pm ps kD S E va A vm M m4 V lJ Q) (hb:Below w.heap.size w wb) (hP:Ez.Row wb W.heap.size vm P) (hl:P.length=M.length)
 (ho:∀(j:Nat) (h:Hd) (m:aF),P[j]? =some h→M[j]? =some m→cZ.Row wb W.heap.size (.slice h.a h.n h.c) (fL m)) (h1:cZ.Row wb W.heap.size (.slice x.a x.n x.c) (fL m))
 (hr:Ez.Row aA W.heap.size aa7 (P++ [x])) (hg:wb.grownBy aA vm.ownBlock):nZ W aA p aR cB pm ps kD S E va A aa7 (M++ [m]) m4 V lJ Q∧aK (fun g=>vm.ownBlock=some g) wb aA:=by
 have hk:=fK hg;have bT:∀g,vm.ownBlock=some g→ck wb g 37:=fun g hg=>eo hP g hg;have dw:∀g,vm.ownBlock=some g→W.heap.size≤g:=cS hP;have i1:=h.below hb;have hne:∀{g:Nat} {t:TypeId},ck wb g t→37≠t→¬vm.ownBlock=some g:=fun hg hn e=>hg.ne (bT _ e) (Ne.symm hn) rfl;obtain⟨aa8,Lw⟩:=i1.fh.row;have gX:∀{v:Value} {L:List Int},cZ.Row wb W.heap.size v L→cZ.Row aA W.heap.size v L:=fun hh=>hh.keep hk (fun g hg=>hne hg (by decide))
 exact⟨⟨i1.ek.keeps hk (hne i1.ek.aE (by decide)),i1.ba.keeps hk (hne i1.ba.aE (by decide)),i1.la.keep hk (fun g hg=>hne hg (by decide)) (fun g hg=>hne hg (by decide)),
  i1.gN.qT hk bT (Nat.le_refl _) dw (by decide),mQ.snoc hr hl (fun j h m hp hm=>gX (ho j h m hp hm)) (gX h1),
  i1.fh.keep hk (fun g hg=>hne (eo Lw g hg) (by decide)) (fun g hg=>hne hg (by decide)) (fun g hg=>hne hg (by decide)),
  i1.xL.keep hk (fun g hg=>hne hg (by decide)),i1.aJ.trans (hk.below dw i1.aJ.size),fun g hg e=>i1.jP g hg (e.back hk i1.gN.aE.lt (hne i1.gN.aE (by decide))),i1.cJ,i1.tK⟩,hk⟩
theorem nZ.put (h:nZ W w p aR cB pm ps kD S E va A vm M m4 V lJ Q) (hv:cg eJ bK w W.heap.size vb B):nZ W (w.setCell ↑cB vb) p aR cB pm ps kD S E vb B vm M m4 V lJ Q:=by
 have hk:=ct w cB 0 vb;have hne:∀{g:Nat} {t:TypeId},ck w g t→54≠t→¬g=cB:=fun hg hn e=>hg.ne h.ba.aE (Ne.symm hn) e;obtain⟨PM,y7,FN,FO⟩:=h.sO;have hb:=h.ba.aW 0 vb;simp only [List.setIfInBounds_toArray,List.set_cons_zero]at hb
 exact⟨h.ek.keeps hk (hne h.ek.aE (by decide)),hb,hv.keep hk (fun g hg=>hne hg (by decide)) (fun g hg=>hne hg (by decide)),
  h.gN.qT (t:=54) hk (fun g e=>by have e2:g=cB:=e;rw [e2];exact h.ba.aE) (Nat.le_refl _) (fun g e=>by have e2:g=cB:=e;rw [e2];exact h.tK) (by decide),
  (show mQ w W.heap.size vm M from⟨PM,y7,FN,FO⟩).keep hk (fun g hg=>hne (eo y7 g hg) (by decide)) (fun g hg=>hne hg (by decide)),
  h.fh.keep hk (fun g hg e=>h.cJ g hg e) (fun g hg=>hne hg (by decide)) (fun g hg=>hne hg (by decide)),
  h.xL.keep hk (fun g hg=>hne hg (by decide)),h.aJ.setCell (p:=⟨cB,0,none⟩) h.tK _,fun g hg e=>h.jP g hg (e.back hk h.gN.aE.lt (hne h.gN.aE (by decide))),h.cJ,h.tK⟩
theorem nZ.view {wb aA:World} {P:List Hd} {x:Hd} {X:bG} (h:nZ W w p aR cB pm ps kD S E va A vm M m4 V lJ Q) (hb:Below w.heap.size w wb) (hP:zR.Row wb W.heap.size m4 P) (hl:P.length=V.length)
 (ho:∀(j:Nat) (h:Hd) (m:bG),P[j]? =some h→V[j]? =some m→cg eJ bK wb W.heap.size (.slice h.a h.n h.c) m) (h1:cg eJ bK wb W.heap.size (.slice x.a x.n x.c) X)
 (hr:zR.Row aA W.heap.size Om (P++ [x])) (hg:wb.grownBy aA m4.ownBlock) (th:Om.ownBlock=m4.ownBlock∨Om.ownBlock=some wb.heap.size):nZ W aA p aR cB pm ps kD S E va A vm M Om (V++ [X]) lJ Q:=by
 have hk:=fK hg;have bT:∀g,m4.ownBlock=some g→ck wb g 54:=fun g hg=>eo hP g hg;have dw:∀g,m4.ownBlock=some g→W.heap.size≤g:=cS hP;have i1:=h.below hb;have hne:∀{g:Nat} {t:TypeId},ck wb g t→54≠t→¬m4.ownBlock=some g:=fun hg hn e=>hg.ne (bT _ e) (Ne.symm hn) rfl;obtain⟨PM,y7,FN,FO⟩:=i1.sO;have gX:∀{v:Value} {L:bG},cg eJ bK wb W.heap.size v L→cg eJ bK aA W.heap.size v L:=fun hh=>hh.keep hk (fun g hg=>hne hg (by decide)) (fun g hg=>hne hg (by decide))
 exact⟨i1.ek.keeps hk (hne i1.ek.aE (by decide)),i1.ba.keeps hk (fun e=>i1.cJ _ e rfl),gX i1.la,
  i1.gN.qT hk bT (Nat.le_refl _) dw (by decide),
  (show mQ wb W.heap.size vm M from⟨PM,y7,FN,FO⟩).keep hk (fun g hg=>hne (eo y7 g hg) (by decide)) (fun g hg=>hne hg (by decide)),
  oL.snoc hr hl (fun j h m hp hm=>gX (ho j h m hp hm)) (gX h1),
  i1.xL.keep hk (fun g hg=>hne hg (by decide)),i1.aJ.trans (hk.below dw i1.aJ.size),fun g hg e=>i1.jP g hg (e.back hk i1.gN.aE.lt (hne i1.gN.aE (by decide))),
  fun g hg=>by
   rcases th with ho|ho
   ·rw [ho]at hg;exact i1.cJ g hg
   ·rw [ho]at hg
    injection hg with hg;intro e;have:=i1.ba.lt;omega,i1.tK⟩
theorem nZ.seq {wb aA:World} {x:Int} (h:nZ W w p aR cB pm ps kD S E va A vm M m4 V lJ Q) (hb:Below w.heap.size w wb) (hr:e8.Row aA W.heap.size On (Q++ [x])) (hg:wb.grownBy aA lJ.ownBlock) (th:On.ownBlock=lJ.ownBlock∨On.ownBlock=some wb.heap.size):nZ W aA p aR cB pm ps kD S E va A vm M m4 V On (Q++ [x]):=by
 have hk:=fK hg;have i1:=h.below hb;have bT:∀g,lJ.ownBlock=some g→ck wb g 2:=fun g hg=>eo i1.xL g hg;have dw:∀g,lJ.ownBlock=some g→W.heap.size≤g:=cS i1.xL;have hne:∀{g:Nat} {t:TypeId},ck wb g t→2≠t→¬lJ.ownBlock=some g:=fun hg hn e=>hg.ne (bT _ e) (Ne.symm hn) rfl;obtain⟨PM,y7,FN,FO⟩:=i1.sO;obtain⟨aa8,Lw⟩:=i1.fh.row
 exact⟨i1.ek.keeps hk (hne i1.ek.aE (by decide)),i1.ba.keeps hk (hne i1.ba.aE (by decide)),i1.la.keep hk (fun g hg=>hne hg (by decide)) (fun g hg=>hne hg (by decide)),
  i1.gN.akq hk bT (fun g hg=>i1.jP g hg) dw,
  (show mQ wb W.heap.size vm M from⟨PM,y7,FN,FO⟩).keep hk (fun g hg=>hne (eo y7 g hg) (by decide)) (fun g hg=>hne hg (by decide)),
  i1.fh.keep hk (fun g hg=>hne (eo Lw g hg) (by decide)) (fun g hg=>hne hg (by decide)) (fun g hg=>hne hg (by decide)),
  hr,i1.aJ.trans (hk.below dw i1.aJ.size),fun g hg e=>by
    have e1:=e.back hk i1.gN.aE.lt (hne i1.gN.aE (by decide));rcases th with ho|ho
    ·rw [ho]at hg;exact i1.jP g hg e1
    ·rw [ho]at hg
     injection hg with hg;have:=(i1.gN.sO e1).1.lt;omega,i1.cJ,i1.tK⟩
structure Oo (W w:World) (p:Prod) (aR cB pm ps:Nat) (kD:List Nat) (S:List (List aC)) (E:List Int) (va:Value) (A:bG) (vm:Value) (M:List aF) (m4:Value) (V:List bG) (lJ:Value) (Q:List Int) (bE:Nat) (vb:Value) (B:bG) (vd:Value) (oA:List aF):Prop where
 i:nZ W w p aR cB pm ps kD S E va A vm M m4 V lJ Q
 bb:av w bE 54 #[vb]
 vb:cg eJ bK w W.heap.size vb B
 dd:hH.Row w W.heap.size vd oA
theorem akr (p:Prod) (w:World) (hp:gM w p) (hz:cR p=0) (ht:1≤p.tick∧p.tick≤10) {la:Option Addr} {lc:Nat} {BZ:List ed} (hrd:Qm.fR w la BZ) (hcs:∀c∈BZ,E3 c):
 Calls Tryz.prog 9 #[p.agg,.slice la BZ.length lc] w fun e w'=>∃vm m4 lJ,e= .returned (.tuple #[vm,m4,lJ])∧∃M V Q,Bm (countP p).toNat M V Q∧M.length≤60000∧V.length≤26∧mQ w' w.heap.size vm M∧oL w' w.heap.size m4 V∧e8.Row w' w.heap.size lJ Q∧Below w.heap.size w w':=by
 unfold Prod.agg Prod.cells;have hb1:Below w.heap.size w (w.alloc (.cells #[.string p.code,.slice p.ma p.months.length p.mc,↑p.tick,↑p.low,↑p.high,↑p.wide,↑p.rule,↑p.top,↑p.least,↑p.part,.slice p.sa p.settle.length p.sc] 25)):=Below.aI _ _;have aT:av (w.alloc (.cells #[.string p.code,.slice p.ma p.months.length p.mc,↑p.tick,↑p.low,↑p.high,↑p.wide,↑p.rule,↑p.top,↑p.least,↑p.part,.slice p.sa p.settle.length p.sc] 25)) w.heap.size 25 p.cells:=av.new _ _ _;obtain⟨n,hn⟩:=ai BZ.length;rw [hn];have aks:=af hn;have dx:=af hp;have ec:=af hz;have bP:=af ht;have om:=af hrd;have kG:=af hcs;have hcb:=BA p;have c8:Hid ((countP p).toNat≤21):=af (by omega);clear hn hp hz ht hrd hcs hcb;go_enter Tryz.func9,Tryz.ntmps9
 go_upto_region 1 with(fail)
 obtain⟨aR,nT⟩:=ai w.heap.size;have fE:=af hb1;have jU:=af aT;rw [nT]at jU⊢;clear nT hb1 aT;generalize (w.alloc (.cells #[.string p.code,.slice p.ma p.months.length p.mc,↑p.tick,↑p.low,↑p.high,↑p.wide,↑p.rule,↑p.top,↑p.least,↑p.part,.slice p.sa p.settle.length p.sc] 25))=w0 at*;have wM:=agy p w0 (dx.out.below fE.out);unfold Prod.agg Prod.cells at wM;have wM:=af wM;obtain⟨jh,p1,p2,p3,y8,y9,za,zb,ze,zf,zg⟩:=PC.oQ jU.out;go_wp2_with fail
 refine wM.out.mono ?_;rintro e w1 ⟨pm,ps,kD,rfl,hmb⟩;have jG:=af (hmb.Hg fE.out dx.out);have tN:=af (jU.out.below hmb.cr.aJ);have bA:=af (fE.out.trans (hmb.cr.aJ.mono fE.out.size));clear hmb wM jU jh p1 p2 p3 y8 y9 za zb ze zf zg;go_upto_region 2 with(fail)
 have dJ:=af (ei.new p);have nC:Hid (∀wx,Below w1.heap.size w1 wx→Calls Tryz.prog 28 #[p.agg,.pointer ↑ps] wx fun e w'=>∃v',e= .returned (.agg #[v'])∧cg eJ bK w' wx.heap.size v' (dz p (List.replicate (countP p).toNat []))∧Below wx.heap.size wx w'):=af fun wx aT=>XW ((jG.out.below aT).cr) ec.out dJ.out;unfold Prod.agg Prod.cells at nC
 have c4:Hid (∀wx,Below w1.heap.size w1 wx→(wx.cell? ↑aR=some (.string p.code)∧wx.cell? ⟨aR,1,none⟩=some (.slice p.ma p.months.length p.mc)∧wx.cell? ⟨aR,2,none⟩=some ↑p.tick∧wx.cell? ⟨aR,3,none⟩=some ↑p.low∧wx.cell? ⟨aR,4,none⟩=some ↑p.high∧wx.cell? ⟨aR,5,none⟩=some ↑p.wide∧wx.cell? ⟨aR,6,none⟩=some ↑p.rule∧wx.cell? ⟨aR,7,none⟩=some ↑p.top∧wx.cell? ⟨aR,8,none⟩=some ↑p.least∧wx.cell? ⟨aR,9,none⟩=some ↑p.part∧wx.cell? ⟨aR,10,none⟩=some (.slice p.sa p.settle.length p.sc))∧wx.cell? ⟨pm,11,none⟩=some (.pointer ↑ps)):=af fun wx aT=>by
  obtain⟨_,_,hmb,_⟩:=(jG.out.below aT).box;exact⟨PC.oQ (tN.out.below aT),hmb.cell 11⟩
 go_cut [8] (fun u wx=>∃(ge:Nat) (aa:Option Addr) (ac:Nat),u= .pointer ↑ge∧av wx ge 54 #[.slice aa (dz p (List.replicate (countP p).toNat [])).length ac]∧cg eJ bK wx w1.heap.size (.slice aa (dz p (List.replicate (countP p).toNat [])).length ac) (dz p (List.replicate (countP p).toNat []))∧Below w1.heap.size w1 wx∧w1.heap.size≤ge)
 case first=>
  have b6:Hid (Below w1.heap.size w1 w1.drew):=af (Below.refl w1.heap.size w1).drew;refine cP (S:=fun w'=>(w'.cell? ↑aR=some (.string p.code)∧w'.cell? ⟨aR,1,none⟩=some (.slice p.ma p.months.length p.mc)∧w'.cell? ⟨aR,2,none⟩=some ↑p.tick∧w'.cell? ⟨aR,3,none⟩=some ↑p.low∧w'.cell? ⟨aR,4,none⟩=some ↑p.high∧w'.cell? ⟨aR,5,none⟩=some ↑p.wide∧w'.cell? ⟨aR,6,none⟩=some ↑p.rule∧w'.cell? ⟨aR,7,none⟩=some ↑p.top∧w'.cell? ⟨aR,8,none⟩=some ↑p.least∧w'.cell? ⟨aR,9,none⟩=some ↑p.part∧w'.cell? ⟨aR,10,none⟩=some (.slice p.sa p.settle.length p.sc))∧w'.cell? ⟨pm,11,none⟩=some (.pointer ↑ps)) (c4.out _ b6.out) fun hHeld=>?_;refine au 0 ?_;refine au 1 ?_;refine au 2 ?_;refine au 3 ?_;refine au 4 ?_;generalize w1.drew=wd at*;refine lZ 5 6 (fun K hK=>?_) fun K hK=>?_
  ·as_aux_lemma=>
   go_simp;go_at_call 28
   refine(nC.out _ b6.out).mono ?_;rintro e w2 ⟨vl,rfl,fj,hb2⟩;obtain⟨aa,ac,hvl⟩:=fj.form;subst hvl;have aS:=ag b6 hb2;refine hK.out _ _ (c4.out _ aS.out) (fun hHeld=>?_);clear hK K;refine aU 6 fun K hK=>?_;go_simp;have hba:=Below.aI w2 (.cells #[.slice none 0 0] 54);have bp:=ag aS hba;have bL:Hid (av (w2.alloc (.cells #[.slice none 0 0] 54)) w2.heap.size 54 #[.slice none 0 0]):=af (av.new _ _ _);have e5:=af ((fj.below hba).base b6.out.size);refine hK.out _ _ (c4.out _ bp.out) (fun hHeld=>?_);obtain⟨ge,hge⟩:=ai w2.heap.size;have oo:Hid (w1.heap.size≤ge):=af (by rw [←hge];exact aS.out.size);rw [hge]at bL⊢;clear hK K hba hge fj hb2;generalize w2.alloc (.cells #[.slice none 0 0] 54)=w3 at*;have k0:w3.cell? ↑ge=some (.slice none 0 0):=bL.out.cell 0;have z0:w3.frozen? ↑ge=false:=bL.out.frozen 0;refine dY 7 fun K hK=>?_;go_simp;refine hK.out _ _ ?_;have eZ:=bL.out.aW 0 (.slice aa (dz p (List.replicate (countP p).toNat [])).length ac);simp only [List.setIfInBounds_toArray,List.set_cons_zero]at eZ;have cN:=ct w3 ge 0 (.slice aa (dz p (List.replicate (countP p).toNat [])).length ac);have hv1:=e5.out.keep cN (fun g hg e=>hg.ne bL.out.aE (by decide) e) (fun g hg e=>hg.ne bL.out.aE (by decide) e);have hb1:=bp.out.trans (cN.below (B:=w1.heap.size) (fun k hk=>by have e:k=ge:=hk;rw [e];exact oo.out) bp.out.size);have cm:=af eZ;have wF:=af hv1;have bA:=af hb1;clear hK K hHeld k0 z0 eZ cN hv1 hb1;go_wp2_with fail
   go_meet;exact⟨ge,aa,ac,rfl,cm.out,wF.out,bA.out,oo.out⟩
  ·as_aux_lemma=>
   go_simp;have hba:=Below.aI wd (.cells #[.slice none 0 0] 54);have aS:=ag b6 hba;have Lx:Hid (av (wd.alloc (.cells #[.slice none 0 0] 54)) wd.heap.size 54 #[.slice none 0 0]):=af (av.new _ _ _);refine hK.out _ _ (c4.out _ aS.out) (fun hHeld=>?_);obtain⟨ge,hge⟩:=ai wd.heap.size;have oo:Hid (w1.heap.size≤ge):=af (by rw [←hge];exact b6.out.size);rw [hge]at Lx⊢;clear hK K hba hge;generalize wd.alloc (.cells #[.slice none 0 0] 54)=w2 at*;refine aU 5 fun K hK=>?_;go_simp;go_at_call 28
   refine(nC.out _ aS.out).mono ?_;rintro e w3 ⟨vl,rfl,fj,hb3⟩;obtain⟨aa,ac,hvl⟩:=fj.form;subst hvl;have bp:=ag aS hb3;have bL:=af (Lx.out.below hb3);have e5:=af (fj.base aS.out.size);refine hK.out _ _ (c4.out _ bp.out) (fun hHeld=>?_);clear hK K fj hb3;have k0:w3.cell? ↑ge=some (.slice none 0 0):=bL.out.cell 0;have z0:w3.frozen? ↑ge=false:=bL.out.frozen 0;refine dY 7 fun K hK=>?_;go_simp;refine hK.out _ _ ?_;have eZ:=bL.out.aW 0 (.slice aa (dz p (List.replicate (countP p).toNat [])).length ac);simp only [List.setIfInBounds_toArray,List.set_cons_zero]at eZ;have cN:=ct w3 ge 0 (.slice aa (dz p (List.replicate (countP p).toNat [])).length ac);have hv1:=e5.out.keep cN (fun g hg e=>hg.ne bL.out.aE (by decide) e) (fun g hg e=>hg.ne bL.out.aE (by decide) e);have hb1:=bp.out.trans (cN.below (B:=w1.heap.size) (fun k hk=>by have e:k=ge:=hk;rw [e];exact oo.out) bp.out.size);have cm:=af eZ;have wF:=af hv1;have bA:=af hb1;clear hK K hHeld k0 z0 eZ cN hv1 hb1;go_wp2_with fail
   go_meet;exact⟨ge,aa,ac,rfl,cm.out,wF.out,bA.out,oo.out⟩
 case rest=>
 obtain⟨cB,aa,ac,rfl,Cr,fj,hbc,jz⟩:=hcut;have hN:=af (jG.out.below hbc);have xx:=af (tN.out.below hbc);have aS:=ag bA hbc;have dG:=af Cr;have yM:=af (fj.base bA.out.size);have qF:Hid (w.heap.size≤cB):=af (Nat.le_trans bA.out.size jz);have iu:Hid ((dz p (List.replicate (countP p).toNat [])).length=(countP p).toNat):=af (by rw [CS,List.length_replicate]);obtain⟨an,aa9⟩:=ai ((dz p (List.replicate (countP p).toNat [])).length);rw [aa9]at dG yM;clear Cr fj hbc jz nC c4 jG tN bA aa9;generalize wc=w2 at*;have yq:w2.cell? ↑cB=some (.slice aa an ac):=dG.out.cell 0;go_upto_region 5 with(fail)
 have s1:=ak;have hba:=Below.aI w2 (.cells #[.slice aa an ac] 54);have aP:Below w2.heap.size w2 ((w2.alloc (.cells #[.slice aa an ac] 54)).alloc (.cells #[.int .i64 0] 2)):=hba.alloc (by rw [s1];omega) _;have BF:zR.Row (w2.alloc (.cells #[.slice aa an ac] 54)) w2.heap.size (.slice ↑w2.heap.size 1 1) [⟨aa,an,ac⟩]:=bl.Row.CG zR (L:= [⟨aa,an,ac⟩]) (av.new _ _ _) (by simp)
 have mC:e8.Row ((w2.alloc (.cells #[.slice aa an ac] 54)).alloc (.cells #[.int .i64 0] 2)) (w2.heap.size+1) (.slice (some ⟨w2.heap.size+1,0,none⟩) 1 1) [0]:=by
  have h1:=av.new (w2.alloc (.cells #[.slice aa an ac] 54)) 2 #[.int .i64 0];rw [s1]at h1;exact bl.Row.CG e8 (L:= [0]) h1 (by simp)
 have Oq:Hid (nZ w ((w2.alloc (.cells #[.slice aa an ac] 54)).alloc (.cells #[.int .i64 0] 2)) p aR cB pm ps kD (List.replicate (countP p).toNat []) [] (.slice aa an ac) (dz p (List.replicate (countP p).toNat [])) (.slice none 0 0) [] (.slice ↑w2.heap.size 1 1) [dz p (List.replicate (countP p).toNat [])] (.slice (some ⟨w2.heap.size+1,0,none⟩) 1 1) [0]):=af
  ⟨xx.out.below aP,dG.out.below aP,yM.out.below aP,hN.out.below aP,mQ.nil _ _,
   oL.snoc (P:= []) (V:= []) ((BF.below (Below.aI _ _)).base aS.out.size) rfl (fun j h m hp=>(by simp at hp)) (yM.out.below aP),
   mC.base (Nat.le_trans aS.out.size (Nat.le_succ _)),aS.out.trans (aP.mono aS.out.size),
   fun g hg e=>by
    have e1:=((hN.out.below aP).sO e).1;have e2:=e.back (F:=fun _=>False) (Below.keeps aP) hN.out.aE.lt (fun x=>x);have bJ:=(hN.out.sO e2).1.lt;have cV:some (w2.heap.size+1)=some g:=hg;injection cV with cV;omega,
   fun g hg e=>by
    have cV:some w2.heap.size=some g:=hg;injection cV with cV;have:=dG.out.lt;omega,qF.out⟩
 obtain⟨dU,dy⟩:=ai (w2.heap.size+1);obtain⟨aM,fC⟩:=ai w2.heap.size;rw [dy]at Oq;try rw [dy]
 rw [show(Value.slice ↑w2.heap.size 1 1)= .slice ↑aM 1 1 by rw [fC]]at Oq⊢;clear dy fC hba aP BF mC yq s1 hN xx aS dG yM;generalize (w2.alloc (.cells #[.slice aa an ac] 54)).alloc (.cells #[.int .i64 0] 2)=w3 at*;go_wp2_with fail
 go_loopw [13,12,11,10,9] (fun i iB Ta fP akt w'=>∃(k ml:Nat) (mi:Int) (S:List (List aC)) (E:List Int) (M:List aF) (V:List bG) (Q:List Int) (a1:Option Addr) (n1 c1:Nat) (a2:Option Addr) (n2 c2:Nat) (a3:Option Addr) (pJ c3:Nat) (a4:Option Addr) (lT dH:Nat),
  i=↑k∧k≤n∧k≤25∧iB=↑mi∧Hid (mi=(ml:Int))∧Ta= .slice a1 n1 c1∧fP= .slice a2 n2 c2∧akt= .slice a3 pJ c3∧Hid (M.length=ml)∧ml≤k*2142∧Hid (V.length=k+1)∧Hid (E.length≤k)∧Hid (ei p S)∧Hid (ia k S)∧Hid (V[V.length-1]? =some (dz p S))∧Hid (Bm (countP p).toNat M V Q)∧nZ w w' p aR cB pm ps kD S E (.slice a4 lT dH) (dz p S) (.slice a1 n1 c1) M (.slice a3 pJ c3) V (.slice a2 n2 c2) Q) (fun i _ _ _ _ _=>n-(RowKit.intOf i).toNat)
 case atStart=>
  exact⟨0,0,0,_,_,_,_,_,_,_,_,_,_,_,_,_,_,_,_,_,rfl,Nat.zero_le _,Nat.zero_le _,rfl,af rfl,rfl,rfl,rfl,af rfl,Nat.zero_le _,af rfl,af (Nat.le_refl _),dJ,af (ia.new _),af rfl,af (by rw [afa ec.out];exact Bm.start _),Oq.out⟩
 case round=>
  clear Oq dJ iu;obtain⟨k,ml,mi,S,E,M,V,Q,a1,n1,c1,a2,n2,c2,a3,pJ,c3,a4,lT,dH,rfl,hkn,anx,rfl,F6,rfl,rfl,rfl,jf,aeb,Ly,abb,dJ,Ax,zF,gG,hI⟩:=hrel;obtain⟨ax,rfl⟩:=aj wr;have wN:=af hI;clear hI;have anz:ml≤53550:=by omega
  have anA:0≤mi∧mi≤53550:=by have:=F6.out;omega
  by_cases hlt:k<n∧k<25
  ·obtain⟨jF,Cf⟩:=hlt
   have abd:(k:Int)<(n:Int):=by omega
   have aku:(k:Int)<25:=by omega
   obtain⟨zh,jy⟩:∃x,BZ[k]? =some x:=⟨_,List.getElem?_eq_getElem (by rw [aks.out];exact jF)⟩;have Ck:=af (kG.out zh (List.mem_of_getElem? jy));obtain⟨lb,lo,hla,hlb,hlc⟩:=om.out k zh jy;subst hla;have Ot:Hid (∀wx,Below w.heap.size w wx→Calls Tryz.prog 30 #[p.agg,.agg zh.cells,↑k] wx fun e w'=>e= .returned (.agg (Dt p zh k).cells)∧Below wx.heap.size wx w'):=af fun wx aT=>akv p wx (dx.out.below aT) ec.out bP.out zh Ck.out k (by omega)
   have HV:Hid (yg S.length (Dt p zh k)):=af (by
    have h1:(countP p).toNat=S.length:=dJ.out.len.symm;rw [←h1];refine akw ?_ bP.out zh (by omega);have h2:countP p=nR p.months.length:=if_pos ec.out;have h3:=pI ec.out;have h4:=yN p.months.length h3.2;omega)
   obtain⟨tc,abe⟩:=ai (Dt p zh k);rw [abe]at Ot HV;clear abe;obtain⟨S',E',IW⟩:∃x y,mq p S E tc=(x,y):=⟨_,_,rfl⟩
   have Dj:Hid (∀wx,eF w wx pm ps p kD S E→Calls Tryz.prog 29 #[.pointer ↑pm,.agg tc.cells] wx fun e w'=>∃v,e= .returned v∧gy w wx w' pm ps p kD S' E'):=af fun wx hm=>by
    have:=aeL hm ec.out dJ.out tc HV.out (by have:=abb.out;omega)
    rwa [IW]at this
   have abf:Hid (ia (k+1) S'):=af (by
    have h1:=Ax.out.J9 (p:=p) (E:=E) tc;rw [IW]at h1;exact h1)
   have Ap:Hid (ei p S'∧E'.length≤k+1):=af (by
    have h1:=dJ.out.J9 (E:=E) ec.out tc HV.out;rw [IW]at h1;exact⟨h1.1,by have h2:=h1.2;have h3:=abb.out;dsimp only at h2;omega⟩)
   clear IW jy
   have c4:Hid (∀wx,Below ax.heap.size ax wx→(wx.cell? ↑aR=some (.string p.code)∧wx.cell? ⟨aR,1,none⟩=some (.slice p.ma p.months.length p.mc)∧wx.cell? ⟨aR,2,none⟩=some ↑p.tick∧wx.cell? ⟨aR,3,none⟩=some ↑p.low∧wx.cell? ⟨aR,4,none⟩=some ↑p.high∧wx.cell? ⟨aR,5,none⟩=some ↑p.wide∧wx.cell? ⟨aR,6,none⟩=some ↑p.rule∧wx.cell? ⟨aR,7,none⟩=some ↑p.top∧wx.cell? ⟨aR,8,none⟩=some ↑p.least∧wx.cell? ⟨aR,9,none⟩=some ↑p.part∧wx.cell? ⟨aR,10,none⟩=some (.slice p.sa p.settle.length p.sc))∧iI wx lb (lo+k*9) zh.list):=af fun wx aT=>
    ⟨PC.oQ (wN.out.ek.below aT),hlc.below (wN.out.aJ.trans (aT.mono wN.out.aJ.size)) hlb⟩
   clear hlc hlb;obtain⟨x0,x1,aZ,cl,cw,eK,gF,g5,k5⟩:=zh
   have vR:Hid (∀wx,iI wx lb (lo+k*9) (ed.list ⟨x0,x1,aZ,cl,cw,eK,gF,g5,k5⟩)→wx.cell? ⟨lb,lo+k*9,none⟩=some ↑x0∧wx.cell? ⟨lb,lo+k*9+1,none⟩=some ↑x1∧wx.cell? ⟨lb,lo+k*9+2,none⟩=some ↑aZ∧wx.cell? ⟨lb,lo+k*9+3,none⟩=some ↑cl∧wx.cell? ⟨lb,lo+k*9+4,none⟩=some ↑cw∧wx.cell? ⟨lb,lo+k*9+5,none⟩=some ↑eK∧wx.cell? ⟨lb,lo+k*9+6,none⟩=some ↑gF∧wx.cell? ⟨lb,lo+k*9+7,none⟩=some ↑g5∧wx.cell? ⟨lb,lo+k*9+8,none⟩=some (.string k5)):=af fun wx h=>
    ⟨h 0 _ rfl,h 1 _ rfl,h 2 _ rfl,h 3 _ rfl,h 4 _ rfl,h 5 _ rfl,h 6 _ rfl,h 7 _ rfl,h 8 _ rfl⟩
   unfold Prod.agg Prod.cells ed.cells at Ot;unfold ed.cells at Dj;go_upto_region 10 with(fail)
   go_cut [] (fun wx=>nZ w wx p aR cB pm ps kD S' E' (.slice a4 lT dH) (dz p S) (.slice a1 n1 c1) M (.slice a3 pJ c3) V (.slice a2 n2 c2) Q)
   case first=>
    have b6:Hid (Below ax.heap.size ax ax.drew):=af (Below.refl ax.heap.size ax).drew;have hs0:=c4.out _ b6.out;have hc0:=vR.out _ hs0.2;refine cP (S:=fun w'=>(w'.cell? ↑aR=some (.string p.code)∧w'.cell? ⟨aR,1,none⟩=some (.slice p.ma p.months.length p.mc)∧w'.cell? ⟨aR,2,none⟩=some ↑p.tick∧w'.cell? ⟨aR,3,none⟩=some ↑p.low∧w'.cell? ⟨aR,4,none⟩=some ↑p.high∧w'.cell? ⟨aR,5,none⟩=some ↑p.wide∧w'.cell? ⟨aR,6,none⟩=some ↑p.rule∧w'.cell? ⟨aR,7,none⟩=some ↑p.top∧w'.cell? ⟨aR,8,none⟩=some ↑p.least∧w'.cell? ⟨aR,9,none⟩=some ↑p.part∧w'.cell? ⟨aR,10,none⟩=some (.slice p.sa p.settle.length p.sc))∧w'.cell? ⟨lb,lo+k*9,none⟩=some ↑x0∧w'.cell? ⟨lb,lo+k*9+1,none⟩=some ↑x1∧w'.cell? ⟨lb,lo+k*9+2,none⟩=some ↑aZ∧w'.cell? ⟨lb,lo+k*9+3,none⟩=some ↑cl∧w'.cell? ⟨lb,lo+k*9+4,none⟩=some ↑cw∧w'.cell? ⟨lb,lo+k*9+5,none⟩=some ↑eK∧w'.cell? ⟨lb,lo+k*9+6,none⟩=some ↑gF∧w'.cell? ⟨lb,lo+k*9+7,none⟩=some ↑g5∧w'.cell? ⟨lb,lo+k*9+8,none⟩=some (.string k5)) ⟨hs0.1,hc0⟩ fun hHeld=>?_;clear hs0 hc0;refine au 0 ?_;refine au 1 ?_;refine au 2 ?_;refine au 3 ?_;refine au 4 ?_;refine au 5 ?_;refine au 6 ?_;have zi:=af (wN.out.below b6.out);generalize ax.drew=wd at*;refine aU 7 fun K hK=>?_;go_simp;go_at_call 30
    refine(Ot.out _ zi.out.aJ).mono ?_;rintro e aA ⟨rfl,cx⟩;have rQ:=af (zi.out.below cx);have hs1:=c4.out _ (ag b6 cx).out;refine hK.out _ _ ⟨hs1.1,vR.out _ hs1.2⟩ (fun hHeld=>?_);clear hK K hs1 cx;refine dY 8 fun K hK=>?_;go_simp;go_at_call 29
    refine(Dj.out _ rQ.out.gN).mono ?_;rintro e aN ⟨v,rfl,Cj⟩;have akx:=af (rQ.out.J9 Cj);clear Cj;refine hK.out _ _ ?_;clear hK K hHeld;go_wp2_with fail
    go_meet;exact akx.out
   case rest=>
   have zi:=af hcut;clear hcut wN c4 vR Ot Dj Ck HV;generalize wc=aA at*;have abg:=af Ap.out.1;go_upto_region 11 with(fail)
   have nC:Hid (∀wx,Below aA.heap.size aA wx→Calls Tryz.prog 28 #[p.agg,.pointer ↑ps] wx fun e w'=>∃v',e= .returned (.agg #[v'])∧cg eJ bK w' wx.heap.size v' (dz p S')∧Below wx.heap.size wx w'):=af fun wx aT=>XW ((zi.out.gN.below aT).cr) ec.out abg.out;unfold Prod.agg Prod.cells at nC
   have c4:Hid (∀wx,Below aA.heap.size aA wx→(wx.cell? ↑aR=some (.string p.code)∧wx.cell? ⟨aR,1,none⟩=some (.slice p.ma p.months.length p.mc)∧wx.cell? ⟨aR,2,none⟩=some ↑p.tick∧wx.cell? ⟨aR,3,none⟩=some ↑p.low∧wx.cell? ⟨aR,4,none⟩=some ↑p.high∧wx.cell? ⟨aR,5,none⟩=some ↑p.wide∧wx.cell? ⟨aR,6,none⟩=some ↑p.rule∧wx.cell? ⟨aR,7,none⟩=some ↑p.top∧wx.cell? ⟨aR,8,none⟩=some ↑p.least∧wx.cell? ⟨aR,9,none⟩=some ↑p.part∧wx.cell? ⟨aR,10,none⟩=some (.slice p.sa p.settle.length p.sc))∧wx.cell? ⟨pm,11,none⟩=some (.pointer ↑ps)):=af fun wx aT=>by
    obtain⟨_,_,hmb,_⟩:=(zi.out.gN.below aT).box;exact⟨PC.oQ (zi.out.ek.below aT),hmb.cell 11⟩
   go_cut [14] (fun u wx=>∃(ge:Nat) (aa:Option Addr) (ac:Nat),u= .pointer ↑ge∧av wx ge 54 #[.slice aa (dz p S').length ac]∧cg eJ bK wx aA.heap.size (.slice aa (dz p S').length ac) (dz p S')∧Below aA.heap.size aA wx∧aA.heap.size≤ge)
   case first=>
    have b6:Hid (Below aA.heap.size aA aA.drew):=af (Below.refl aA.heap.size aA).drew;refine cP (S:=fun w'=>(w'.cell? ↑aR=some (.string p.code)∧w'.cell? ⟨aR,1,none⟩=some (.slice p.ma p.months.length p.mc)∧w'.cell? ⟨aR,2,none⟩=some ↑p.tick∧w'.cell? ⟨aR,3,none⟩=some ↑p.low∧w'.cell? ⟨aR,4,none⟩=some ↑p.high∧w'.cell? ⟨aR,5,none⟩=some ↑p.wide∧w'.cell? ⟨aR,6,none⟩=some ↑p.rule∧w'.cell? ⟨aR,7,none⟩=some ↑p.top∧w'.cell? ⟨aR,8,none⟩=some ↑p.least∧w'.cell? ⟨aR,9,none⟩=some ↑p.part∧w'.cell? ⟨aR,10,none⟩=some (.slice p.sa p.settle.length p.sc))∧w'.cell? ⟨pm,11,none⟩=some (.pointer ↑ps)) (c4.out _ b6.out) fun hHeld=>?_;refine au 0 ?_;refine au 1 ?_;refine au 2 ?_;refine au 3 ?_;refine au 4 ?_;generalize aA.drew=wd at*;refine lZ 5 6 (fun K hK=>?_) fun K hK=>?_
    ·as_aux_lemma=>
     go_simp;go_at_call 28
     refine(nC.out _ b6.out).mono ?_;rintro e w2 ⟨vl,rfl,fj,hb2⟩;obtain⟨aa,ac,hvl⟩:=fj.form;subst hvl;have aS:=ag b6 hb2;refine hK.out _ _ (c4.out _ aS.out) (fun hHeld=>?_);clear hK K;refine aU 6 fun K hK=>?_;go_simp;have hba:=Below.aI w2 (.cells #[.slice none 0 0] 54);have bp:=ag aS hba;have bL:Hid (av (w2.alloc (.cells #[.slice none 0 0] 54)) w2.heap.size 54 #[.slice none 0 0]):=af (av.new _ _ _);have e5:=af ((fj.below hba).base b6.out.size);refine hK.out _ _ (c4.out _ bp.out) (fun hHeld=>?_);obtain⟨ge,hge⟩:=ai w2.heap.size;have oo:Hid (aA.heap.size≤ge):=af (by rw [←hge];exact aS.out.size);rw [hge]at bL⊢;clear hK K hba hge fj hb2;generalize w2.alloc (.cells #[.slice none 0 0] 54)=w3 at*;have k0:w3.cell? ↑ge=some (.slice none 0 0):=bL.out.cell 0;have z0:w3.frozen? ↑ge=false:=bL.out.frozen 0;refine dY 7 fun K hK=>?_;go_simp;refine hK.out _ _ ?_;have eZ:=bL.out.aW 0 (.slice aa (dz p S').length ac);simp only [List.setIfInBounds_toArray,List.set_cons_zero]at eZ;have cN:=ct w3 ge 0 (.slice aa (dz p S').length ac);have hv1:=e5.out.keep cN (fun g hg e=>hg.ne bL.out.aE (by decide) e) (fun g hg e=>hg.ne bL.out.aE (by decide) e);have hb1:=bp.out.trans (cN.below (B:=aA.heap.size) (fun k hk=>by have e:k=ge:=hk;rw [e];exact oo.out) bp.out.size);have cm:=af eZ;have wF:=af hv1;have bA:=af hb1;clear hK K hHeld k0 z0 eZ cN hv1 hb1;go_wp2_with fail
     go_meet;exact⟨ge,aa,ac,rfl,cm.out,wF.out,bA.out,oo.out⟩
    ·as_aux_lemma=>
     go_simp;have hba:=Below.aI wd (.cells #[.slice none 0 0] 54);have aS:=ag b6 hba;have Lx:Hid (av (wd.alloc (.cells #[.slice none 0 0] 54)) wd.heap.size 54 #[.slice none 0 0]):=af (av.new _ _ _);refine hK.out _ _ (c4.out _ aS.out) (fun hHeld=>?_);obtain⟨ge,hge⟩:=ai wd.heap.size;have oo:Hid (aA.heap.size≤ge):=af (by rw [←hge];exact b6.out.size);rw [hge]at Lx⊢;clear hK K hba hge;generalize wd.alloc (.cells #[.slice none 0 0] 54)=w2 at*;refine aU 5 fun K hK=>?_;go_simp;go_at_call 28
     refine(nC.out _ aS.out).mono ?_;rintro e w3 ⟨vl,rfl,fj,hb3⟩;obtain⟨aa,ac,hvl⟩:=fj.form;subst hvl;have bp:=ag aS hb3;have bL:=af (Lx.out.below hb3);have e5:=af (fj.base aS.out.size);refine hK.out _ _ (c4.out _ bp.out) (fun hHeld=>?_);clear hK K fj hb3;have k0:w3.cell? ↑ge=some (.slice none 0 0):=bL.out.cell 0;have z0:w3.frozen? ↑ge=false:=bL.out.frozen 0;refine dY 7 fun K hK=>?_;go_simp;refine hK.out _ _ ?_;have eZ:=bL.out.aW 0 (.slice aa (dz p S').length ac);simp only [List.setIfInBounds_toArray,List.set_cons_zero]at eZ;have cN:=ct w3 ge 0 (.slice aa (dz p S').length ac);have hv1:=e5.out.keep cN (fun g hg e=>hg.ne bL.out.aE (by decide) e) (fun g hg e=>hg.ne bL.out.aE (by decide) e);have hb1:=bp.out.trans (cN.below (B:=aA.heap.size) (fun k hk=>by have e:k=ge:=hk;rw [e];exact oo.out) bp.out.size);have cm:=af eZ;have wF:=af hv1;have bA:=af hb1;clear hK K hHeld k0 z0 eZ cN hv1 hb1;go_wp2_with fail
     go_meet;exact⟨ge,aa,ac,rfl,cm.out,wF.out,bA.out,oo.out⟩
   case rest=>
   obtain⟨bE,aa,ac,rfl,fT,hvb,hbc,jz⟩:=hcut;have rQ:=af (zi.out.below hbc);have oB:=af fT;have Ou:=af (hvb.base zi.out.aJ.size);have aky:Hid (¬bE=cB):=af (by have:=zi.out.ba.lt;omega);have dO:Hid (w.heap.size≤bE):=af (Nat.le_trans zi.out.aJ.size jz);obtain⟨qy,Tb⟩:=ai ((dz p S').length);have ML:=af Tb;rw [Tb]at oB Ou;clear fT hvb hbc jz nC c4 zi Tb;generalize wc=aN at*;have yq:aN.cell? ↑cB=some (.slice a4 lT dH):=rQ.out.ba.cell 0;have kb:aN.cell? ↑bE=some (.slice aa qy ac):=oB.out.cell 0;have abh:Hid (lT=(dz p S).length):=af (by obtain⟨_,_,h⟩:=rQ.out.la.form;injection h)
   have uL:Hid ((dz p S).length=(dz p S').length∧(dz p S).length≤40):=af (by
    have h1:=CS p S;have h2:=CS p S';have h3:=dJ.out.len;have h4:=Ap.out.1.len;have h5:=c8.out;omega)
   have Tc:Hid (Calls Tryz.prog 31 #[.agg #[.slice a4 lT dH],.agg #[.slice aa qy ac],↑mi] aN fun e w'=>∃v,e= .returned v∧hH.Row w' aN.heap.size v (qK (dz p S) (dz p S') ml)∧Below aN.heap.size aN w'):=af (by
    rw [abh.out,←ML.out,F6.out];have h1:=rQ.out.la;rw [abh.out]at h1;have h2:=Ou.out;rw [←ML.out]at h2;exact adX h1 h2 uL.out.1 uL.out.2 (QV dJ.out) (QV Ap.out.1) (by omega) (by omega))
   obtain⟨oA,hdf⟩:=ai (qK (dz p S) (dz p S') (ml:Int));rw [hdf]at Tc;have PJ:=af hdf
   have Ec:Hid (oA.length≤2142):=af (by
    have h1:=U1 ((Ax.out.more (show k≤25 by omega)).look (p:=p)) ((abf.out.more (show k+1≤25 by omega)).look (p:=p)) (ml:Int);rw [hdf]at h1;have h2:(dz p S).length≤21:=by have:=CS p S;have:=dJ.out.len;have:=c8.out;omega
    have h3:(dz p S).length*(4*25+2)≤21*102:=Nat.mul_le_mul h2 (Nat.le_refl _);omega)
   have akz:Hid (∀m∈oA,(0≤m.inst∧m.inst≤255)∧(m.side=1∨m.side=2)):=af fun m hm=>by
    rw [←hdf]at hm;have h2:(dz p S).length≤21:=by have:=CS p S;have:=dJ.out.len;have:=c8.out;omega
    have h3:=Ec.out;rw [←hdf]at h3;have h4:=U0 (q:=(ml:Int)) (by omega) uL.out.1 (XN ec.out Ap.out.1) (QU ec.out dJ.out) (QU ec.out Ap.out.1) hm (by omega) (by omega);exact⟨⟨h4.1.i0,by have:=h4.1.i1;omega⟩,h4.1.sd⟩
   clear hdf;go_wp2_with fail
   refine Tc.out.mono ?_;rintro e bf ⟨vd,rfl,Td,jn⟩;obtain⟨da,j9,Fe⟩:=Td.form;obtain⟨qZ,hdn⟩:=ai oA.length;rw [hdn]at Fe;subst Fe;have FJ:=af hdn;have anB:qZ≤2142:=by have:=Ec.out;omega
   have abi:Hid (Oo w bf p aR cB pm ps kD S' E' (.slice a4 lT dH) (dz p S) (.slice a1 n1 c1) (M) (.slice a3 pJ c3) V (.slice a2 n2 c2) Q bE (.slice aa qy ac) (dz p S') (.slice da qZ j9) oA):=af ⟨rQ.out.below jn,oB.out.below jn,Ou.out.below jn,Td.base rQ.out.aJ.size⟩;clear Td jn hdn yq kb rQ oB Ou Tc;go_wp2_with fail
   go_loopw [16,11] (fun i Ta w'=>∃(t:Nat) (a1:Option Addr) (n1 c1:Nat),i=↑t∧t≤qZ∧Ta= .slice a1 n1 c1∧Oo w w' p aR cB pm ps kD S' E' (.slice a4 lT dH) (dz p S) (.slice a1 n1 c1) (M++oA.take t) (.slice a3 pJ c3) V (.slice a2 n2 c2) Q bE (.slice aa qy ac) (dz p S') (.slice da qZ j9) oA) (fun i _ _=>qZ-(RowKit.intOf i).toNat)
   case atStart=>exact⟨0,a1,n1,c1,rfl,Nat.zero_le _,rfl,by rw [List.take_zero,List.append_nil];exact abi.out⟩
   case round=>
    clear abi;obtain⟨t,a1,n1,c1,rfl,ht,rfl,abj⟩:=hrel;obtain⟨wt,rfl⟩:=aj wr;have zj:=af abj;clear abj;by_cases htd:t<qZ
    ·have anC:(t:Int)<(qZ:Int):=by omega
     obtain⟨m,hm⟩:∃m,oA[t]? =some m:=⟨_,List.getElem?_eq_getElem (by rw [FJ.out];exact htd)⟩;have dN:=af (kH hm);have r8:=af (akz.out m (List.mem_of_getElem? hm));obtain⟨Du,anD,akA,hdl,hdc⟩:=zj.out.dd.at_ t m hm;injection akA with hd1 D8 WB;subst hd1;clear D8 WB;have LA:Hid (∀wx,Calls Tryz.prog 32 #[m.agg] wx fun e w'=>∃v,e= .returned (.tuple #[v,.int .i64 0])∧cZ.Row w' wx.heap.size v (fL m)∧Below wx.heap.size wx w'):=af fun wx=>QG m wx r8.out.1 r8.out.2;obtain⟨em,hem⟩:=ai (fL m);have akB:=af hem;rw [hem]at LA;obtain⟨y0,y1,fI,lF,qb,CN,Ln⟩:=m;unfold aF.agg at LA;dsimp only at LA;have d0:wt.cell? ⟨Du,t*7,none⟩=some ↑y0:=hdc 0 _ rfl;have d1:wt.cell? ⟨Du,t*7+1,none⟩=some ↑y1:=hdc 1 _ rfl;have d2:wt.cell? ⟨Du,t*7+2,none⟩=some ↑fI:=hdc 2 _ rfl;have d3:wt.cell? ⟨Du,t*7+3,none⟩=some ↑lF:=hdc 3 _ rfl;have d4:wt.cell? ⟨Du,t*7+4,none⟩=some ↑qb:=hdc 4 _ rfl;have d5:wt.cell? ⟨Du,t*7+5,none⟩=some ↑CN:=hdc 5 _ rfl;have d6:wt.cell? ⟨Du,t*7+6,none⟩=some ↑Ln:=hdc 6 _ rfl;clear hdc hm hem hdl;go_wp2_with fail
     refine(LA.out _).mono ?_;rintro e bZ ⟨anE,rfl,Te,mH⟩;obtain⟨AA,AB,Ao⟩:=Te.form;obtain⟨el,hel⟩:=ai em.length;rw [hel]at Ao;subst Ao;clear hel d0 d1 d2 d3 d4 d5 d6 LA;obtain⟨P,hP,gK,g8⟩:=zj.out.i.sO;obtain⟨pa,pc,Tf⟩:=hP.form;injection Tf with hv1 kf Hj;subst hv1;subst kf;subst Hj;have gD:=Below.aI bZ (.cells #[.slice AA el AB] 37);have Ic:=af (mH.trans (gD.mono mH.size));have g6:=af ((hP.below mH).below gD);have uH:Hid (∀(j:Nat) (h:Hd) (m:aF),P[j]? =some h→(M++oA.take t)[j]? =some m→cZ.Row _ w.heap.size (.slice h.a h.n h.c) (fL m)):=af fun j h m hp hm=>((g8 j h m hp hm).below mH).below gD;have gq:=af gK;have abk:=af ((Te.below gD).base zj.out.i.aJ.size);have zk:Hid (av (bZ.alloc (.cells #[.slice AA el AB] 37)) bZ.heap.size 37 (Ez.cells ⟨AA,el,AB⟩).toArray):=af (av.new _ _ _);have iD:Hid (w.heap.size≤(bZ.alloc (.cells #[.slice AA el AB] 37)).heap.size):=af (Nat.le_trans zj.out.i.aJ.size Ic.out.size)
     have l9:Hid (P.length+1≤1000000):=af (by
      rw [gK,List.length_append];have h1:=jf.out;have h2:=List.length_take_le t oA;omega)
     clear hP gK g8 Te mH gD
     go_wp2_with (first
      |(at_builtin;go_loud (refine Ez.push rfl (.tmp 73) (.tmp 75) rfl w.heap.size (.slice a1 P.length c1) P rfl g6.out bZ.heap.size ⟨AA,el,AB⟩ rfl zk.out.lt zk.out.gH l9.out iD.out ?_)))
     intro v' bW jV gC _;obtain⟨a5,b8,hM⟩:=jV.form;obtain⟨qi,LB⟩:=ai ((P++ [(⟨AA,el,AB⟩:Hd)]).length);rw [LB]at hM;clear LB;subst hM
     have xM:Hid (Oo w bW p aR cB pm ps kD S' E' (.slice a4 lT dH) (dz p S) (.slice a5 qi b8) (M++oA.take (t+1)) (.slice a3 pJ c3) V (.slice a2 n2 c2) Q bE (.slice aa qy ac) (dz p S') (.slice ↑Du qZ j9) oA):=af (by
      obtain⟨i1,cN⟩:=zj.out.i.msg (m:=⟨y0,y1,fI,lF,qb,CN,Ln⟩) Ic.out g6.out gq.out uH.out (by rw [akB.out];exact abk.out) jV gC;have bT:∀g,(Value.slice a1 P.length c1).ownBlock=some g→ck _ g 37:=fun g hg=>eo g6.out g hg;have b1:=zj.out.bb.below Ic.out;rw [dN.out,←List.append_assoc];exact⟨i1,b1.keeps cN (fun e=>b1.aE.ne (bT _ e) (by decide) rfl),(zj.out.vb.below Ic.out).keep cN (fun g hg e=>hg.ne (bT _ e) (by decide) rfl) (fun g hg e=>hg.ne (bT _ e) (by decide) rfl),(zj.out.dd.below Ic.out).keep cN (fun g hg e=>hg.ne (bT _ e) (by decide) rfl)⟩)
     clear jV gC g6 uH gq abk zk iD l9 Ic zj;go_wp2_with fail
     go_roundw
     case rel=>exact⟨t+1,a5,qi,b8,by go_num,htd,rfl,xM.out⟩
     case measure=>simp [RowKit.intOf];omega
    ·have abl:t=qZ:=by omega
     have xM:Hid (Oo w wt p aR cB pm ps kD S' E' (.slice a4 lT dH) (dz p S) (.slice a1 n1 c1) (M++oA) (.slice a3 pJ c3) V (.slice a2 n2 c2) Q bE (.slice aa qy ac) (dz p S') (.slice da qZ j9) oA):=af (by
      have h1:oA.take t=oA:=by rw [abl,←FJ.out,List.take_length]
      have:=zj.out
      rwa [h1]at this)
     obtain⟨wO,Rg⟩:=ai (mi+(qZ:Int):Int);obtain⟨m2,hm2⟩:=ai (ml+qZ:Nat);have hN:=af hm2;have abm:Hid (wO=(m2:Int)):=af (by have:=F6.out;omega);have anF:0≤wO∧wO≤600000:=by omega
     clear abl zj hm2;have kb:wt.cell? ↑bE=some (.slice aa qy ac):=xM.out.bb.cell 0;have yq:wt.cell? ↑cB=some (.slice a4 lT dH):=xM.out.i.ba.cell 0;have AO:wt.frozen? ↑cB=false:=xM.out.i.ba.frozen 0;go_upto_region 20 with(fail)
     clear Rg;have Ov:Hid (nZ w _ p aR cB pm ps kD S' E' (.slice aa qy ac) (dz p S') (.slice a1 n1 c1) (M++oA) (.slice a3 pJ c3) V (.slice a2 n2 c2) Q):=af (xM.out.i.put xM.out.vb);have abn:=af (xM.out.bb.keeps (ct wt cB 0 (.slice aa qy ac)) aky.out);have abo:=af (xM.out.vb.keep (ct wt cB 0 (.slice aa qy ac)) (fun g hg e=>hg.ne xM.out.i.ba.aE (by decide) e) (fun g hg e=>hg.ne xM.out.i.ba.aE (by decide) e));clear kb yq AO xM;generalize wt.setCell ↑cB (.slice aa qy ac)=p9 at*;have kb:p9.cell? ↑bE=some (.slice aa qy ac):=abn.out.cell 0;obtain⟨P,hP,gK,g8⟩:=Ov.out.fh;obtain⟨pa,pc,Tf⟩:=hP.form;injection Tf with hv1 kf Hj;subst hv1;subst kf;subst Hj;have gD:=Below.aI p9 (.cells #[.slice aa qy ac] 54);have B0:=af gD;have g6:=af (hP.below gD);have uH:Hid (∀(j:Nat) (h:Hd) (m:bG),P[j]? =some h→V[j]? =some m→cg eJ bK _ w.heap.size (.slice h.a h.n h.c) m):=af fun j h m hp hm=>(g8 j h m hp hm).below gD;have gq:=af gK;have abp:=af (abo.out.below gD);have zk:Hid (av (p9.alloc (.cells #[.slice aa qy ac] 54)) p9.heap.size 54 (zR.cells ⟨aa,qy,ac⟩).toArray):=af (av.new _ _ _);have iD:Hid (w.heap.size≤(p9.alloc (.cells #[.slice aa qy ac] 54)).heap.size):=af (Nat.le_trans Ov.out.aJ.size gD.size);have l9:Hid (P.length+1≤1000000):=af (by rw [gK,Ly.out];omega);clear hP gK g8 gD
     go_wp2_with (first
      |(at_builtin;go_loud (refine zR.push rfl (.tmp 82) (.tmp 84) rfl w.heap.size (.slice a3 P.length c3) P rfl g6.out p9.heap.size ⟨aa,qy,ac⟩ rfl zk.out.lt zk.out.gH l9.out iD.out ?_)))
     intro v' bW jV gC LC;obtain⟨a5,b8,hM⟩:=jV.form;obtain⟨qi,LB⟩:=ai ((P++ [(⟨aa,qy,ac⟩:Hd)]).length);rw [LB]at hM;clear LB;subst hM
     have Ow:=af (Ov.out.view B0.out g6.out gq.out uH.out abp.out jV gC (by
      rcases LC with h|h
      ·exact .inl h
      ·exact .inr (by rw [h];simp)))
     clear jV gC LC g6 uH gq zk iD l9 B0 Ov abo abp abn kb;go_upto_region 21 with(fail)
     have gD:=Below.aI bW (.cells #[↑wO] 2);have B0:=af gD;have abq:=af (Ow.out.xL.below gD);have tL:Hid (Q.length+1≤1000000):=af (by have:=gG.out.len;have:=Ly.out;omega);have zk:Hid (av (bW.alloc (.cells #[↑wO] 2)) bW.heap.size 2 (e8.cells wO).toArray):=af (av.new _ _ _);have iD:Hid (w.heap.size≤(bW.alloc (.cells #[↑wO] 2)).heap.size):=af (Nat.le_trans Ow.out.aJ.size gD.size);clear gD
     go_wp2_with (first
      |(at_builtin;go_loud (refine e8.push rfl (.tmp 86) (.tmp 88) rfl w.heap.size (.slice a2 n2 c2) Q rfl abq.out bW.heap.size wO rfl zk.out.lt zk.out.gH tL.out iD.out ?_)))
     intro v' AE Tg Ki abr;obtain⟨a6,fJ,Gu⟩:=Tg.form;obtain⟨E2,abt⟩:=ai ((Q++ [wO]).length);rw [abt]at Gu;clear abt;subst Gu
     have akC:=af (Ow.out.seq B0.out Tg Ki (by
      rcases abr with h|h
      ·exact .inl h
      ·exact .inr (by rw [h];simp)))
     have lR:Hid (Bm (countP p).toNat (M++oA) (V++ [dz p S']) (Q++ [wO])):=af (by
      have h1:=gG.out.next zF.out (XN ec.out Ap.out.1) (QU ec.out Ap.out.1) (QV Ap.out.1) (by rw [CS];exact Ap.out.1.len) (by have:=c8.out;omega) (by have:=jf.out;omega);rw [jf.out,PJ.out]at h1;have h2:((M++oA).length:Int)=wO:=by rw [List.length_append,jf.out,FJ.out,abm.out,←hN.out]
      rw [h2]at h1;exact h1)
     have akD:Hid ((M++oA).length=m2):=af (by rw [List.length_append,jf.out,FJ.out];exact hN.out);have akE:Hid ((V++ [dz p S']).length=k+1+1):=af (by rw [List.length_append,Ly.out];rfl)
     have akF:Hid ((V++ [dz p S'])[(V++ [dz p S']).length-1]? =some (dz p S')):=af (by
      rw [show(V++ [dz p S']).length-1=V.length by rw [List.length_append];rfl,List.getElem?_append_right (Nat.le_refl _),Nat.sub_self];rfl)
     have akG:m2≤(k+1)*2142:=by have:=hN.out;omega
     clear Tg Ki abr abq tL zk iD B0 Ow;go_wp2_with fail
     go_roundw
     case rel=>exact⟨k+1,m2,wO,S',E',M++oA,V++ [dz p S'],Q++ [wO],a1,n1,c1,a6,E2,fJ,a5,qi,b8,aa,qy,ac,by go_num,jF,by omega,rfl,abm,rfl,rfl,rfl,akD,akG,akE,af Ap.out.2,abg,abf,akF,lR,akC.out⟩
     case measure=>simp [RowKit.intOf];omega
  ·have wG:Hid (M.length≤60000∧V.length≤26):=af (by have:=jf.out;have:=Ly.out;omega)
   have abu:(k:Int)<(n:Int)→¬(k:Int)<25:=fun h=>by omega
   by_cases jF:k<n
   ·have abd:(k:Int)<(n:Int):=by omega
    have aku:¬(k:Int)<25:=by omega
    clear hlt abu;go_wp2_with fail
    go_ret3
    exact⟨_,_,_,rfl,M,V,Q,gG.out,wG.out.1,wG.out.2,wN.out.sO,wN.out.fh,wN.out.xL,wN.out.aJ⟩
   ·have abd:¬(k:Int)<(n:Int):=by omega
    clear hlt abu;go_wp2_with fail
    go_ret3
    exact⟨_,_,_,rfl,M,V,Q,gG.out,wG.out.1,wG.out.2,wN.out.sO,wN.out.fh,wN.out.xL,wN.out.aJ⟩
end
end Go.Proofs.YtmaijkoopjocdaaGreat
