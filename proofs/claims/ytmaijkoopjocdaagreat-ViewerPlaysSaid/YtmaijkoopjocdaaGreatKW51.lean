import Derived.Test.YtmaijkoopjocdaaGreatKW49
import Derived.Test.YtmaijkoopjocdaaGreatKW50
import Derived.Test.YtmaijkoopjocdaaGreatKW48
import Derived.Test.YtmaijkoopjocdaaGreatKW47
import Derived.Test.YtmaijkoopjocdaaGreatKW31
set_option maxRecDepth 100000
set_option maxHeartbeats 64000000
namespace Go.Proofs.YtmaijkoopjocdaaGreat
open Go.RowKit Go.Lib
section
variable {W w w':World} {pm ps pb:Nat} {p:Prod} {Q:List Nat} {S S':List (List aC)} {E:List Int}
theorem UH (h:eF W w pm ps p Q S E) (hz:cR p=0) (hS:ei p S) (c:ed) (hc:yg S.length c) (hE:E.length<=90000):
 Calls Tryz.prog 29 #[.pointer ↑pm,.agg c.cells] w fun e w'=>∃v,e= .returned v∧gy W w w' pm ps p Q (mq p S E c).1 (mq p S E c).2:=by
 by_cases hk:c.kind=1
 ·exact UI h hz hS c hc hE hk
 cases hf:gR c.id 0 S with
 |none=>exact UJ h hz hS c hc hE hk hf
 |some A=>
  obtain⟨i,x⟩:=A;have hne:gR c.id 0 S≠none:=by rw [hf];simp
  have hone:∀(P:Nat->aC->Prop),P i x->∀(j:Nat) (y:aC),gR c.id 0 S=some (j,y)->P j y:=fun P hp j y he=>by rw [hf]at he;injection he with he;injection he with h1 h2;rw [<-h1,<-h2];exact hp
  have hkk:=hc.kind;by_cases h2:c.kind=2∨(c.kind=3∧x.aq<=c.aq)
  ·exact UK h hz hS c hc hE hk hne (hone (fun _ x=>c.kind=2∨(c.kind=3∧x.aq<=c.aq)) h2)
  by_cases h3:c.kind=3
  ·exact UN h hz hS c hc hE hk hne (hone (fun _ x=>c.kind=3∧c.aq<x.aq) ⟨h3,bh⟩)
  have h4:c.kind=4:=bh;by_cases h5:eW p i c.ap≠0∨(c.ap=x.ap∧c.aq<=x.aq)
  ·exact UO h hz hS c hc hE hk hne (hone (fun i x=>c.kind=4∧(eW p i c.ap≠0∨(c.ap=x.ap∧c.aq<=x.aq))) ⟨h4,h5⟩)
  exact UQ h hz hS c hc hE hk hne (hone (fun i x=>c.kind=4∧eW p i c.ap=0∧¬(c.ap=x.ap∧c.aq<=x.aq)) ⟨h4,by refine Decidable.byContradiction fun h6=>h5 (.inl h6),fun h6=>h5 (.inr h6)⟩)
end
theorem y6.back {F:Nat->Prop} {w w':World} {pm g:Nat} (hk:aK F w w') (hl:pm<w.heap.size) (hn:¬F pm) (h:y6 w' pm g):y6 w pm g:=by obtain⟨a,n,c,h1,h2⟩:=h;refine⟨a,n,c,?_,h2⟩;unfold World.cell? at h1⊢;rw [show(⟨pm,12,none⟩:Addr).block=pm from rfl]at h1⊢;rw [hk.block pm hl hn]at h1;exact h1
section
variable {W w w':World} {pm ps:Nat} {p:Prod} {Q:List Nat} {S:List (List aC)} {E:List Int}
theorem eF.Hg {jJ:World} (h:eF W w pm ps p Q S E) (hb:Below ↑jJ jJ W) (hp:gM jJ p):eF jJ w pm ps p Q S E:=by obtain⟨a,c,h1,h2⟩:=h.box;exact⟨⟨a,c,h1,h2.base hb.size⟩,h.cr.Hg hb hp,Nat.le_trans hb.size h.base⟩
theorem eF.akq {F:Nat->Prop} (h:eF W w pm ps p Q S E) (hk:aK F w w') (hF:∀g,F g->ck w g 2) (hm:∀g,F g->¬y6 w pm g) (hb:∀g,F g->W.heap.size<=g):eF W w' pm ps p Q S E:=by obtain⟨a,c,h1,h2⟩:=h.box;exact⟨⟨a,c,h1.keeps hk (fun e=>h1.aE.ne (hF _ e) b9 rfl),h2.Bd hk (fun g hg e=>hm g e ⟨a,E.length,c,h1.cell 12,hg⟩)⟩,h.cr.qT hk hF (Nat.le_refl _) hb b9,h.base⟩
end
structure nZ (W w:World) (p:Prod) (aR cB pm ps:Nat) (kD:List Nat) (S:List (List aC)) (E:List Int) (va:Value) (A:bG) (vm:Value) (M:List aF) (m4:Value) (V:List bG) (lJ:Value) (Q:List Int):Prop where
 ek:av w aR 25 p.cells
 ba:av w cB 54 #[va]
 la:cg eJ bK w ↑W va A
 gN:eF W w pm ps p kD S E
 sO:mQ w ↑W vm M
 fh:oL w ↑W m4 V
 xL:e8.Row w ↑W lJ Q
 aJ:Below ↑W W w
 jP:∀g,lJ.ownBlock=some g->¬y6 w pm g
 cJ:∀g,m4.ownBlock=some g->g≠cB
 tK:W.heap.size<=cB
section
variable {W w w':World} {p:Prod} {aR cB pm ps:Nat} {kD:List Nat} {S S':List (List aC)} {E E':List Int} {va vb:Value} {A B:bG} {vm BG m4 Om lJ On:Value} {M:List aF} {V:List bG} {Q:List Int}
theorem oL.row {w:World} {B:Nat} {v:Value} {V:List bG} (h:oL w B v V):∃P:List Hd,zR.Row w B v P:=by obtain⟨P,h1,_⟩:=h;exact⟨P,h1⟩
theorem nZ.below (h:nZ W w p aR cB pm ps kD S E va A vm M m4 V lJ Q) (hb:Below ↑w w w'):nZ W w' p aR cB pm ps kD S E va A vm M m4 V lJ Q:=
 ⟨h.ek.below hb,h.ba.below hb,h.la.below hb,h.gN.below hb,h.sO.below hb,h.fh.below hb,h.xL.below hb,h.aJ.trans (hb.mono h.aJ.size),
   fun g hg e=>h.jP g hg (e.back (F:=fun _=>False) (Below.keeps hb) h.gN.aE.lt (fun x=>x)),h.cJ,h.tK⟩
theorem nZ.J9 (h:nZ W w p aR cB pm ps kD S E va A vm M m4 V lJ Q) (hd:gy W w w' pm ps p kD S' E'):nZ W w' p aR cB pm ps kD S' E' va A vm M m4 V lJ Q:=by
 have hk:=hd.k;have hq:∀g,g∈kD->ck w g 181∧W.heap.size<=g:=fun g hg=>h.gN.cr.py hg;have hne:∀{g:Nat} {t:TypeId},ck w g t->t≠181->t≠76->t≠2->¬(g∈kD∨g=pm∨y6 w pm g):=by
  intro g t ht h1 h2 h3 e;rcases e with e|e|e
  ·exact ht.ne (hq g e).1 h1 rfl
  ·exact ht.ne h.gN.aE h2 e
  exact ht.ne (h.gN.sO e).1 h3 rfl
 have H:∀g,(g∈kD∨g=pm∨y6 w pm g)->W.heap.size<=g:=fun g e=>by
  rcases e with e|e|e
  ·exact(hq g e).2
  ·rw [e];exact h.gN.base
  exact(h.gN.sO e).2
 obtain⟨G,F⟩:=h.fh.row;obtain⟨PM,B,C,D⟩:=h.sO;refine⟨h.ek.keeps hk (hne h.ek.aE b9 b9 b9),h.ba.keeps hk (hne h.ba.aE b9 b9 b9),h.la.keep hk (fun g hg=>hne hg b9 b9 b9) (fun g hg=>hne hg b9 b9 b9),hd.gN,
  (show mQ w ↑W vm M from⟨PM,B,C,D⟩).keep hk (fun g hg=>hne (eo B g hg) b9 b9 b9) (fun g hg=>hne hg b9 b9 b9),
  h.fh.keep hk (fun g hg=>hne (eo F g hg) b9 b9 b9) (fun g hg=>hne hg b9 b9 b9) (fun g hg=>hne hg b9 b9 b9),
  h.xL.Bd hk (fun g hg e=>?_),h.aJ.trans (hk.below H h.aJ.size),fun g hg e=>?_,h.cJ,h.tK⟩
 ·have ht:ck w g 2:=eo h.xL g hg;rcases e with e|e|e
  ·exact ht.ne (hq g e).1 b9 rfl
  ·exact ht.ne h.gN.aE b9 e
  exact h.jP g hg e
 rcases hd.o g e with h1|h1
 ·exact h.jP g hg h1
 have:=ki h.xL g hg;omega
theorem nZ.msg {wb B:World} {P:List Hd} {x:Hd} {m:aF} (h:nZ W w p aR cB pm ps kD S E va A vm M m4 V lJ Q) (hb:Below ↑w w wb) (hP:Ez.Row wb ↑W vm P) (hl:P.length=M.length)
 (ho:∀(j:Nat) (h:Hd) (m:aF),P[j]? =some h->M[j]? =some m->cZ.Row wb ↑W (.slice h.a h.n h.c) (fL m)) (h1:cZ.Row wb ↑W (.slice x.a x.n x.c) (fL m))
 (hr:Ez.Row B ↑W BG (P++ [x])) (hg:wb.grownBy B vm.ownBlock):nZ W B p aR cB pm ps kD S E va A BG (M++ [m]) m4 V lJ Q∧aK (fun g=>vm.ownBlock=some g) wb B:=by
 have hk:=fK hg;have C:∀g,vm.ownBlock=some g->ck wb g 37:=fun g hg=>eo hP g hg;have D:∀g,vm.ownBlock=some g->W.heap.size<=g:=cS hP;have i1:=h.below hb;have hne:∀{g:Nat} {t:TypeId},ck wb g t->37≠t->¬vm.ownBlock=some g:=fun hg hn e=>hg.ne (C _ e) (Ne.symm hn) rfl;obtain⟨H,G⟩:=i1.fh.row;have F:∀{v:Value} {L:List Int},cZ.Row wb ↑W v L->cZ.Row B ↑W v L:=fun hh=>hh.keep hk (fun g hg=>hne hg b9);exact⟨⟨i1.ek.keeps hk (hne i1.ek.aE b9),i1.ba.keeps hk (hne i1.ba.aE b9),i1.la.keep hk (fun g hg=>hne hg b9) (fun g hg=>hne hg b9),
  i1.gN.qT hk C (Nat.le_refl _) D b9,mQ.snoc hr hl (fun j h m hp hm=>F (ho j h m hp hm)) (F h1),
  i1.fh.keep hk (fun g hg=>hne (eo G g hg) b9) (fun g hg=>hne hg b9) (fun g hg=>hne hg b9),
  i1.xL.keep hk (fun g hg=>hne hg b9),i1.aJ.trans (hk.below D i1.aJ.size),fun g hg e=>i1.jP g hg (e.back hk i1.gN.aE.lt (hne i1.gN.aE b9)),i1.cJ,i1.tK⟩,hk⟩
theorem nZ.put (h:nZ W w p aR cB pm ps kD S E va A vm M m4 V lJ Q) (hv:cg eJ bK w ↑W vb B):nZ W (w.setCell ↑cB vb) p aR cB pm ps kD S E vb B vm M m4 V lJ Q:=by
 have hk:=ct w cB 0 vb;have hne:∀{g:Nat} {t:TypeId},ck w g t->54≠t->¬g=cB:=fun hg hn e=>hg.ne h.ba.aE (Ne.symm hn) e;obtain⟨PM,C,D,F⟩:=h.sO;have hb:=h.ba.aW 0 vb;simp only [List.setIfInBounds_toArray,List.set_cons_zero]at hb;exact⟨h.ek.keeps hk (hne h.ek.aE b9),hb,hv.keep hk (fun g hg=>hne hg b9) (fun g hg=>hne hg b9),
  h.gN.qT (t:=54) hk (fun g e=>by have e2:g=cB:=e;rw [e2];exact h.ba.aE) (Nat.le_refl _) (fun g e=>by have e2:g=cB:=e;rw [e2];exact h.tK) b9,
  (show mQ w ↑W vm M from⟨PM,C,D,F⟩).keep hk (fun g hg=>hne (eo C g hg) b9) (fun g hg=>hne hg b9),
  h.fh.keep hk (fun g hg e=>h.cJ g hg e) (fun g hg=>hne hg b9) (fun g hg=>hne hg b9),
  h.xL.keep hk (fun g hg=>hne hg b9),h.aJ.setCell (p:=⟨cB,0,none⟩) h.tK _,fun g hg e=>h.jP g hg (e.back hk h.gN.aE.lt (hne h.gN.aE b9)),h.cJ,h.tK⟩
theorem nZ.view {wb B:World} {P:List Hd} {x:Hd} {X:bG} (h:nZ W w p aR cB pm ps kD S E va A vm M m4 V lJ Q) (hb:Below ↑w w wb) (hP:zR.Row wb ↑W m4 P) (hl:P.length=V.length)
 (ho:∀(j:Nat) (h:Hd) (m:bG),P[j]? =some h->V[j]? =some m->cg eJ bK wb ↑W (.slice h.a h.n h.c) m) (h1:cg eJ bK wb ↑W (.slice x.a x.n x.c) X)
 (hr:zR.Row B ↑W Om (P++ [x])) (hg:wb.grownBy B m4.ownBlock) (J:Om.ownBlock=m4.ownBlock∨Om.ownBlock=some ↑wb):nZ W B p aR cB pm ps kD S E va A vm M Om (V++ [X]) lJ Q:=by
 have hk:=fK hg;have D:∀g,m4.ownBlock=some g->ck wb g 54:=fun g hg=>eo hP g hg;have F:∀g,m4.ownBlock=some g->W.heap.size<=g:=cS hP;have i1:=h.below hb;have hne:∀{g:Nat} {t:TypeId},ck wb g t->54≠t->¬m4.ownBlock=some g:=fun hg hn e=>hg.ne (D _ e) (Ne.symm hn) rfl;obtain⟨PM,G,H,I⟩:=i1.sO;have C:∀{v:Value} {L:bG},cg eJ bK wb ↑W v L->cg eJ bK B ↑W v L:=fun hh=>hh.keep hk (fun g hg=>hne hg b9) (fun g hg=>hne hg b9);exact⟨i1.ek.keeps hk (hne i1.ek.aE b9),i1.ba.keeps hk (fun e=>i1.cJ _ e rfl),C i1.la,
  i1.gN.qT hk D (Nat.le_refl _) F b9,
  (show mQ wb ↑W vm M from⟨PM,G,H,I⟩).keep hk (fun g hg=>hne (eo G g hg) b9) (fun g hg=>hne hg b9),
  oL.snoc hr hl (fun j h m hp hm=>C (ho j h m hp hm)) (C h1),
  i1.xL.keep hk (fun g hg=>hne hg b9),i1.aJ.trans (hk.below F i1.aJ.size),fun g hg e=>i1.jP g hg (e.back hk i1.gN.aE.lt (hne i1.gN.aE b9)),
  fun g hg=>by
   rcases J with ho|ho
   ·rw [ho]at hg;exact i1.cJ g hg
   rw [ho]at hg;injection hg with hg;intro e;have:=i1.ba.lt;omega,i1.tK⟩
theorem nZ.seq {wb B:World} {x:Int} (h:nZ W w p aR cB pm ps kD S E va A vm M m4 V lJ Q) (hb:Below ↑w w wb) (hr:e8.Row B ↑W On (Q++ [x])) (hg:wb.grownBy B lJ.ownBlock) (K:On.ownBlock=lJ.ownBlock∨On.ownBlock=some ↑wb):nZ W B p aR cB pm ps kD S E va A vm M m4 V On (Q++ [x]):=by
 have hk:=fK hg;have i1:=h.below hb;have C:∀g,lJ.ownBlock=some g->ck wb g 2:=fun g hg=>eo i1.xL g hg;have D:∀g,lJ.ownBlock=some g->W.heap.size<=g:=cS i1.xL;have hne:∀{g:Nat} {t:TypeId},ck wb g t->2≠t->¬lJ.ownBlock=some g:=fun hg hn e=>hg.ne (C _ e) (Ne.symm hn) rfl;obtain⟨PM,F,G,H⟩:=i1.sO;obtain⟨J,I⟩:=i1.fh.row;exact⟨i1.ek.keeps hk (hne i1.ek.aE b9),i1.ba.keeps hk (hne i1.ba.aE b9),i1.la.keep hk (fun g hg=>hne hg b9) (fun g hg=>hne hg b9),
  i1.gN.akq hk C (fun g hg=>i1.jP g hg) D,
  (show mQ wb ↑W vm M from⟨PM,F,G,H⟩).keep hk (fun g hg=>hne (eo F g hg) b9) (fun g hg=>hne hg b9),
  i1.fh.keep hk (fun g hg=>hne (eo I g hg) b9) (fun g hg=>hne hg b9) (fun g hg=>hne hg b9),
  hr,i1.aJ.trans (hk.below D i1.aJ.size),fun g hg e=>by
    have e1:=e.back hk i1.gN.aE.lt (hne i1.gN.aE b9);rcases K with ho|ho
    ·rw [ho]at hg;exact i1.jP g hg e1
    rw [ho]at hg;injection hg with hg;have:=(i1.gN.sO e1).1.lt;omega,i1.cJ,i1.tK⟩
structure Oo (W w:World) (p:Prod) (aR cB pm ps:Nat) (kD:List Nat) (S:List (List aC)) (E:List Int) (va:Value) (A:bG) (vm:Value) (M:List aF) (m4:Value) (V:List bG) (lJ:Value) (Q:List Int) (bE:Nat) (vb:Value) (B:bG) (vd:Value) (oA:List aF):Prop where
 i:nZ W w p aR cB pm ps kD S E va A vm M m4 V lJ Q
 bb:av w bE 54 #[vb]
 vb:cg eJ bK w ↑W vb B
 dd:hH.Row w ↑W vd oA
theorem akr (p:Prod) (w:World) (hp:gM w p) (hz:cR p=0) (ht:1<=p.tick∧p.tick<=10) {la:Option Addr} {lc:Nat} {BZ:List ed} (hrd:Qm.fR w la BZ) (hcs:∀c∈BZ,E3 c):
 Calls Tryz.prog 9 #[p.agg,.slice la BZ.length lc] w fun e w'=>∃vm m4 lJ,e= .returned (.tuple #[vm,m4,lJ])∧∃M V Q,Bm (countP p).toNat M V Q∧M.length<=60000∧V.length<=26∧mQ w' ↑w vm M∧oL w' ↑w m4 V∧e8.Row w' ↑w lJ Q∧Below ↑w w w':=by
 unfold Prod.agg Prod.cells;have hb1:Below ↑w w (w.alloc (.cells ↑p 25)):=Below.aI _ _;have I:av (w.alloc (.cells ↑p 25)) ↑w 25 p.cells:=av.new _ _ _;obtain⟨n,hn⟩:=ai BZ.length;rw [hn];have aks:=af hn;have dx:=af hp;have W:=af hz;have bP:=af ht;have om:=af hrd;have kG:=af hcs;have hcb:=BA p;have c8:Ei ((countP p).toNat<=21):=af bh;clear hn hp hz ht hrd hcs hcb;go_enter Tryz.func9,Tryz.ntmps9;go_upto_region 1 with(fail);obtain⟨aR,nT⟩:=ai w.heap.size;have fE:=af hb1;have jU:=af I;rw [nT]at jU⊢;clear nT hb1 I;generalize (w.alloc (.cells ↑p 25))=w0 at*;have wM:=agy p w0 (dx.o.below fE.o);unfold Prod.agg Prod.cells at wM;have wM:=af wM;obtain⟨jh,p1,p2,p3,y8,y9,za,zb,ze,zf,zg⟩:=PC.oQ jU.o;go_wp2_with fail;refine wM.o.mono ?_;rintro e w1 ⟨pm,ps,kD,rfl,hmb⟩;have jG:=af (hmb.Hg fE.o dx.o);have tN:=af (jU.o.below hmb.cr.aJ);have Z:=af (fE.o.trans (hmb.cr.aJ.mono fE.o.size));clear hmb wM jU jh p1 p2 p3 y8 y9 za zb ze zf zg;go_upto_region 2 with(fail);have b:=af (ei.new p);have nC:Ei (∀wx,Below ↑w1 w1 wx->Calls Tryz.prog 28 #[p.agg,.pointer ↑ps] wx fun e w'=>∃v',e= .returned (.agg #[v'])∧cg eJ bK w' wx.heap.size v' (dz p (List.replicate (countP p).toNat []))∧Below wx.heap.size wx w'):=af fun wx I=>XW ((jG.o.below I).cr) W.o b.o;unfold Prod.agg Prod.cells at nC;have N:Ei (∀wx,Below ↑w1 w1 wx->↑(wx,aR,p)∧wx.cell? ↑(pm,11)=some (.pointer ↑ps)):=af fun wx I=>by obtain⟨_,_,hmb,_⟩:=(jG.o.below I).box;exact⟨PC.oQ (tN.o.below I),hmb.cell 11⟩
 go_cut [8] (fun u wx=>∃(ge:Nat) (aa:Option Addr) (ac:Nat),u= .pointer ↑ge∧av wx ge 54 #[.slice aa (dz p (List.replicate (countP p).toNat [])).length ac]∧cg eJ bK wx ↑w1 (.slice aa (dz p (List.replicate (countP p).toNat [])).length ac) (dz p (List.replicate (countP p).toNat []))∧Below ↑w1 w1 wx∧w1.heap.size<=ge)
 case first=>
  have J:Ei (Below ↑w1 w1 w1.drew):=af (Below.refl ↑w1 w1).drew;refine cP (S:=fun w'=>↑(w',aR,p)∧w'.cell? ⟨pm,11,none⟩=some (.pointer ↑ps)) (N.o _ J.o) fun hHeld=>?_;refine eX [0,1,2,3,4] ?_;generalize w1.drew=wd at*;refine lZ 5 6 (fun K hK=>?_) fun K hK=>?_
  ·as_aux_lemma=>go_simp;go_at_call 28;refine(nC.o _ J.o).mono ?_;rintro e w2 ⟨vl,rfl,H,hb2⟩;obtain⟨aa,ac,hvl⟩:=H.form;subst hvl;have C:=ag J hb2;refine hK.out _ _ (N.o _ C.o) (fun hHeld=>?_);clear hK K;refine aU 6 fun K hK=>?_;go_simp;have hba:=Below.aI w2 (.cells #[.slice none 0 0] 54);have T:=ag C hba;have A:Ei (av (w2.alloc (.cells #[.slice none 0 0] 54)) ↑w2 54 #[.slice none 0 0]):=af (av.new _ _ _);have e5:=af ((H.below hba).base J.o.size);refine hK.out _ _ (N.o _ T.o) (fun hHeld=>?_);obtain⟨ge,hge⟩:=ai w2.heap.size;have r:Ei (w1.heap.size<=ge):=af (by rw [<-hge];exact C.o.size);rw [hge]at A⊢;clear hK K hba hge H hb2;generalize w2.alloc (.cells #[.slice none 0 0] 54)=w3 at*;have k0:=A.o.GC;have z0:w3.frozen? ↑ge=false:=A.o.frozen 0;refine dY 7 fun K hK=>?_;go_simp;refine hK.out _ _ ?_;have U:=A.o.aW 0 (.slice aa (dz p (List.replicate (countP p).toNat [])).length ac);simp only [List.setIfInBounds_toArray,List.set_cons_zero]at U;have G:=ct w3 ge 0 (.slice aa (dz p (List.replicate (countP p).toNat [])).length ac);have hv1:=e5.o.keep G (fun g hg e=>hg.ne A.o.aE b9 e) (fun g hg e=>hg.ne A.o.aE b9 e);have hb1:=T.o.trans (G.below (B:=w1.heap.size) (fun k hk=>by have e:k=ge:=hk;rw [e];exact r.o) T.o.size);have cm:=af U;have wF:=af hv1;have Z:=af hb1;clear hK K hHeld k0 z0 U G hv1 hb1;go_wp2_with fail;go_meet;exact⟨ge,aa,ac,rfl,cm.o,wF.o,Z.o,r.o⟩
  as_aux_lemma=>
  go_simp;have hba:=Below.aI wd (.cells #[.slice none 0 0] 54);have C:=ag J hba;have Lx:Ei (av (wd.alloc (.cells #[.slice none 0 0] 54)) ↑wd 54 #[.slice none 0 0]):=af (av.new _ _ _);refine hK.out _ _ (N.o _ C.o) (fun hHeld=>?_);obtain⟨ge,hge⟩:=ai wd.heap.size;have r:Ei (w1.heap.size<=ge):=af (by rw [<-hge];exact J.o.size);rw [hge]at Lx⊢;clear hK K hba hge;generalize wd.alloc (.cells #[.slice none 0 0] 54)=w2 at*;refine aU 5 fun K hK=>?_;go_simp;go_at_call 28;refine(nC.o _ C.o).mono ?_;rintro e w3 ⟨vl,rfl,H,hb3⟩;obtain⟨aa,ac,hvl⟩:=H.form;subst hvl;have T:=ag C hb3;have A:=af (Lx.o.below hb3);have e5:=af (H.base C.o.size);refine hK.out _ _ (N.o _ T.o) (fun hHeld=>?_);clear hK K H hb3;have k0:=A.o.GC;have z0:w3.frozen? ↑ge=false:=A.o.frozen 0;refine dY 7 fun K hK=>?_;go_simp;refine hK.out _ _ ?_;have U:=A.o.aW 0 (.slice aa (dz p (List.replicate (countP p).toNat [])).length ac);simp only [List.setIfInBounds_toArray,List.set_cons_zero]at U;have G:=ct w3 ge 0 (.slice aa (dz p (List.replicate (countP p).toNat [])).length ac);have hv1:=e5.o.keep G (fun g hg e=>hg.ne A.o.aE b9 e) (fun g hg e=>hg.ne A.o.aE b9 e);have hb1:=T.o.trans (G.below (B:=w1.heap.size) (fun k hk=>by have e:k=ge:=hk;rw [e];exact r.o) T.o.size);have cm:=af U;have wF:=af hv1;have Z:=af hb1;clear hK K hHeld k0 z0 U G hv1 hb1;go_wp2_with fail;go_meet;exact⟨ge,aa,ac,rfl,cm.o,wF.o,Z.o,r.o⟩
 case rest=>
 obtain⟨cB,aa,ac,rfl,Cr,H,hbc,jz⟩:=hcut;have hN:=af (jG.o.below hbc);have xx:=af (tN.o.below hbc);have C:=ag Z hbc;have dG:=af Cr;have yM:=af (H.base Z.o.size);have qF:Ei (w.heap.size<=cB):=af (Nat.le_trans Z.o.size jz);have iu:Ei ((dz p (List.replicate (countP p).toNat [])).length=(countP p).toNat):=af (by rw [CS,List.length_replicate]);obtain⟨an,BH⟩:=ai ((dz p (List.replicate (countP p).toNat [])).length);rw [BH]at dG yM;clear Cr H hbc jz nC N jG tN Z BH;generalize wc=w2 at*;have yq:=dG.o.GC;go_upto_region 5 with(fail);have s1:=ak;have hba:=Below.aI w2 (.cells #[.slice aa an ac] 54);have aP:Below ↑w2 w2 ((w2.alloc (.cells #[.slice aa an ac] 54)).alloc (.cells #[↑()] 2)):=hba.alloc (by rw [s1];omega) _;have BF:zR.Row (w2.alloc (.cells #[.slice aa an ac] 54)) ↑w2 (.slice ↑w2.heap.size 1 1) [⟨aa,an,ac⟩]:=bl.Row.CG zR (L:= [⟨aa,an,ac⟩]) (av.new _ _ _) cU;have mC:e8.Row ((w2.alloc (.cells #[.slice aa an ac] 54)).alloc (.cells #[↑()] 2)) (w2.heap.size+1) (.slice (some ⟨w2.heap.size+1,0,none⟩) 1 1) [0]:=by have h1:=av.new (w2.alloc (.cells #[.slice aa an ac] 54)) 2 #[↑()];rw [s1]at h1;exact bl.Row.CG e8 (L:= [0]) h1 cU
 have Oq:Ei (nZ w ((w2.alloc (.cells #[.slice aa an ac] 54)).alloc (.cells #[↑()] 2)) p aR cB pm ps kD (List.replicate (countP p).toNat []) [] (.slice aa an ac) (dz p (List.replicate (countP p).toNat [])) (.slice none 0 0) [] (.slice ↑w2.heap.size 1 1) [dz p (List.replicate (countP p).toNat [])] (.slice (some ⟨w2.heap.size+1,0,none⟩) 1 1) [0]):=af
  ⟨xx.o.below aP,dG.o.below aP,yM.o.below aP,hN.o.below aP,mQ.nil _ _,
   oL.snoc (P:= []) (V:= []) ((BF.below (Below.aI _ _)).base C.o.size) rfl (fun j h m hp=>(by simp at hp)) (yM.o.below aP),
   mC.base (Nat.le_trans C.o.size (Nat.le_succ _)),C.o.trans (aP.mono C.o.size),
   fun g hg e=>by have e1:=((hN.o.below aP).sO e).1;have e2:=e.back (F:=fun _=>False) (Below.keeps aP) hN.o.aE.lt (fun x=>x);have bJ:=(hN.o.sO e2).1.lt;have cV:some (w2.heap.size+1)=some g:=hg;injection cV with cV;omega,
   fun g hg e=>by have cV:some w2.heap.size=some g:=hg;injection cV with cV;have:=dG.o.lt;omega,qF.o⟩
 obtain⟨dU,dy⟩:=ai (w2.heap.size+1);obtain⟨aM,fC⟩:=ai w2.heap.size;rw [dy]at Oq;try rw [dy]
 rw [show(Value.slice ↑w2.heap.size 1 1)= .slice ↑aM 1 1 by rw [fC]]at Oq⊢;clear dy fC hba aP BF mC yq s1 hN xx C dG yM;generalize (w2.alloc (.cells #[.slice aa an ac] 54)).alloc (.cells #[↑()] 2)=w3 at*;go_wp2_with fail;go_loopw [13,12,11,10,9] (fun i iB Ta fP akt w'=>∃(k ml:Nat) (mi:Int) (S:List (List aC)) (E:List Int) (M:List aF) (V:List bG) (Q:List Int) (a1:Option Addr) (n1 c1:Nat) (a2:Option Addr) (n2 c2:Nat) (a3:Option Addr) (pJ c3:Nat) (a4:Option Addr) (lT dH:Nat),
  i=↑k∧k<=n∧k<=25∧iB=↑mi∧Ei (mi=(ml:Int))∧Ta= .slice a1 n1 c1∧fP= .slice a2 n2 c2∧akt= .slice a3 pJ c3∧Ei (M.length=ml)∧ml<=k*2142∧Ei (V.length=k+1)∧Ei (E.length<=k)∧Ei (ei p S)∧Ei (ia k S)∧Ei (V[V.length-1]? =some (dz p S))∧Ei (Bm (countP p).toNat M V Q)∧nZ w w' p aR cB pm ps kD S E (.slice a4 lT dH) (dz p S) (.slice a1 n1 c1) M (.slice a3 pJ c3) V (.slice a2 n2 c2) Q) (fun i _ _ _ _ _=>n-(RowKit.intOf i).toNat)
 case atStart=>exact⟨0,0,0,_,_,_,_,_,_,_,_,_,_,_,_,_,_,_,_,_,rfl,Nat.zero_le _,Nat.zero_le _,rfl,af rfl,rfl,rfl,rfl,af rfl,Nat.zero_le _,af rfl,af (Nat.le_refl _),b,af (ia.new _),af rfl,af (by rw [Z7 W.o];exact Bm.start _),Oq.o⟩
 clear Oq b iu;obtain⟨k,ml,mi,S,E,M,V,Q,a1,n1,c1,a2,n2,c2,a3,pJ,c3,a4,lT,dH,rfl,hkn,anx,rfl,F6,rfl,rfl,rfl,jf,VQ,Ly,EC,b,Ax,zF,gG,hI⟩:=hrel;obtain⟨ax,rfl⟩:=aj wr;have X:=af hI;clear hI;have anz:ml<=53550:=bh;have anA:0<=mi∧mi<=53550:=by have:=F6.o;omega
 by_cases hlt:k<n∧k<25
 ·obtain⟨jF,Cf⟩:=hlt;have tX:(k:Int)<(n:Int):=bh;have Iq:(k:Int)<25:=bh;obtain⟨zh,jy⟩:=GB BZ k (by rw [aks.o];exact jF);have Ck:=af (kG.o zh (List.mem_of_getElem? jy));obtain⟨lb,lo,hla,hlb,hlc⟩:=om.o k zh jy;subst hla;have Ot:Ei (∀wx,Below ↑w w wx->Calls Tryz.prog 30 #[p.agg,.agg zh.cells,↑k] wx fun e w'=>e= .returned (.agg (Dt p zh k).cells)∧Below wx.heap.size wx w'):=af fun wx I=>akv p wx (dx.o.below I) W.o bP.o zh Ck.o k bh;have HV:Ei (yg S.length (Dt p zh k)):=af (by
   have h1:(countP p).toNat=S.length:=b.o.len.symm;rw [<-h1];refine akw ?_ bP.o zh bh;have h2:countP p=nR p.months.length:=if_pos W.o;have h3:=pI W.o;have h4:=yN p.months.length h3.2;omega)
  obtain⟨tc,qz⟩:=ai (Dt p zh k);rw [qz]at Ot HV;clear qz;obtain⟨S',E',IW⟩:∃x y,mq p S E tc=(x,y):=⟨_,_,rfl⟩;have Dj:Ei (∀wx,eF w wx pm ps p kD S E->Calls Tryz.prog 29 #[.pointer ↑pm,.agg tc.cells] wx fun e w'=>∃v,e= .returned v∧gy w wx w' pm ps p kD S' E'):=af fun wx hm=>by have:=UH hm W.o b.o tc HV.o (by have:=EC.o;omega);rwa [IW]at this
  have EG:Ei (ia (k+1) S'):=af (by have h1:=Ax.o.J9 (p:=p) (E:=E) tc;rw [IW]at h1;exact h1);have Ap:Ei (ei p S'∧E'.length<=k+1):=af (by have h1:=b.o.J9 (E:=E) W.o tc HV.o;rw [IW]at h1;exact⟨h1.1,by have h2:=h1.2;have h3:=EC.o;dsimp only at h2;omega⟩);clear IW jy;have N:Ei (∀wx,Below ↑ax ax wx->↑(wx,aR,p)∧iI wx lb (lo+k*9) zh.list):=af fun wx I=>⟨PC.oQ (X.o.ek.below I),hlc.below (X.o.aJ.trans (I.mono X.o.aJ.size)) hlb⟩;clear hlc hlb;obtain⟨x0,x1,aZ,cl,cw,eK,gF,g5,k5⟩:=zh;have vR:Ei (∀wx,iI wx lb (lo+k*9) (ed.list ⟨x0,x1,aZ,cl,cw,eK,gF,g5,k5⟩)->wx.cell? ↑(lb,lo+k*9)=↑x0∧wx.cell? ↑(lb,lo+k*9+1)=↑x1∧wx.cell? ↑(lb,lo+k*9+2)=↑aZ∧wx.cell? ↑(lb,lo+k*9+3)=↑cl∧wx.cell? ↑(lb,lo+k*9+4)=↑cw∧wx.cell? ↑(lb,lo+k*9+5)=↑eK∧wx.cell? ↑(lb,lo+k*9+6)=↑gF∧wx.cell? ↑(lb,lo+k*9+7)=↑g5∧wx.cell? ↑(lb,lo+k*9+8)=some (.string k5)):=af fun wx h=>⟨h 0 _ rfl,h 1 _ rfl,h 2 _ rfl,h 3 _ rfl,h 4 _ rfl,h 5 _ rfl,h 6 _ rfl,h 7 _ rfl,h 8 _ rfl⟩;unfold Prod.agg Prod.cells ed.cells at Ot;unfold ed.cells at Dj;go_upto_region 10 with(fail);go_cut [] (fun wx=>nZ w wx p aR cB pm ps kD S' E' (.slice a4 lT dH) (dz p S) (.slice a1 n1 c1) M (.slice a3 pJ c3) V (.slice a2 n2 c2) Q)
  case first=>have J:Ei (Below ↑ax ax ax.drew):=af (Below.refl ↑ax ax).drew;have hs0:=N.o _ J.o;have hc0:=vR.o _ hs0.2;refine cP (S:=fun w'=>↑(w',aR,p)∧w'.cell? ⟨lb,lo+k*9,none⟩=↑x0∧w'.cell? ⟨lb,lo+k*9+1,none⟩=↑x1∧w'.cell? ⟨lb,lo+k*9+2,none⟩=↑aZ∧w'.cell? ⟨lb,lo+k*9+3,none⟩=↑cl∧w'.cell? ⟨lb,lo+k*9+4,none⟩=↑cw∧w'.cell? ⟨lb,lo+k*9+5,none⟩=↑eK∧w'.cell? ⟨lb,lo+k*9+6,none⟩=↑gF∧w'.cell? ⟨lb,lo+k*9+7,none⟩=↑g5∧w'.cell? ⟨lb,lo+k*9+8,none⟩=some (.string k5)) ⟨hs0.1,hc0⟩ fun hHeld=>?_;clear hs0 hc0;refine eX [0,1,2,3,4,5,6] ?_;have s:=af (X.o.below J.o);generalize ax.drew=wd at*;refine aU 7 fun K hK=>?_;go_simp;go_at_call 30;refine(Ot.o _ s.o.aJ).mono ?_;rintro e D ⟨rfl,cx⟩;have rQ:=af (s.o.below cx);have hs1:=N.o _ (ag J cx).o;refine hK.out _ _ ⟨hs1.1,vR.o _ hs1.2⟩ (fun hHeld=>?_);clear hK K hs1 cx;refine dY 8 fun K hK=>?_;go_simp;go_at_call 29;refine(Dj.o _ rQ.o.gN).mono ?_;rintro e aN ⟨v,rfl,Cj⟩;have akx:=af (rQ.o.J9 Cj);clear Cj;refine hK.out _ _ ?_;clear hK K hHeld;go_wp2_with fail;go_meet;exact akx.o
  case rest=>
  have s:=af hcut;clear hcut X N vR Ot Dj Ck HV;generalize wc=D at*;have EN:=af Ap.o.1;go_upto_region 11 with(fail);have nC:Ei (∀wx,Below ↑D D wx->Calls Tryz.prog 28 #[p.agg,.pointer ↑ps] wx fun e w'=>∃v',e= .returned (.agg #[v'])∧cg eJ bK w' wx.heap.size v' (dz p S')∧Below wx.heap.size wx w'):=af fun wx I=>XW ((s.o.gN.below I).cr) W.o EN.o;unfold Prod.agg Prod.cells at nC;have N:Ei (∀wx,Below ↑D D wx->↑(wx,aR,p)∧wx.cell? ↑(pm,11)=some (.pointer ↑ps)):=af fun wx I=>by obtain⟨_,_,hmb,_⟩:=(s.o.gN.below I).box;exact⟨PC.oQ (s.o.ek.below I),hmb.cell 11⟩
  go_cut [14] (fun u wx=>∃(ge:Nat) (aa:Option Addr) (ac:Nat),u= .pointer ↑ge∧av wx ge 54 #[.slice aa (dz p S').length ac]∧cg eJ bK wx ↑D (.slice aa (dz p S').length ac) (dz p S')∧Below ↑D D wx∧D.heap.size<=ge)
  case first=>
   have J:Ei (Below ↑D D D.drew):=af (Below.refl ↑D D).drew;refine cP (S:=fun w'=>↑(w',aR,p)∧w'.cell? ⟨pm,11,none⟩=some (.pointer ↑ps)) (N.o _ J.o) fun hHeld=>?_;refine eX [0,1,2,3,4] ?_;generalize D.drew=wd at*;refine lZ 5 6 (fun K hK=>?_) fun K hK=>?_
   ·as_aux_lemma=>go_simp;go_at_call 28;refine(nC.o _ J.o).mono ?_;rintro e w2 ⟨vl,rfl,H,hb2⟩;obtain⟨aa,ac,hvl⟩:=H.form;subst hvl;have C:=ag J hb2;refine hK.out _ _ (N.o _ C.o) (fun hHeld=>?_);clear hK K;refine aU 6 fun K hK=>?_;go_simp;have hba:=Below.aI w2 (.cells #[.slice none 0 0] 54);have T:=ag C hba;have A:Ei (av (w2.alloc (.cells #[.slice none 0 0] 54)) ↑w2 54 #[.slice none 0 0]):=af (av.new _ _ _);have e5:=af ((H.below hba).base J.o.size);refine hK.out _ _ (N.o _ T.o) (fun hHeld=>?_);obtain⟨ge,hge⟩:=ai w2.heap.size;have r:Ei (D.heap.size<=ge):=af (by rw [<-hge];exact C.o.size);rw [hge]at A⊢;clear hK K hba hge H hb2;generalize w2.alloc (.cells #[.slice none 0 0] 54)=w3 at*;have k0:=A.o.GC;have z0:w3.frozen? ↑ge=false:=A.o.frozen 0;refine dY 7 fun K hK=>?_;go_simp;refine hK.out _ _ ?_;have U:=A.o.aW 0 (.slice aa (dz p S').length ac);simp only [List.setIfInBounds_toArray,List.set_cons_zero]at U;have G:=ct w3 ge 0 (.slice aa (dz p S').length ac);have hv1:=e5.o.keep G (fun g hg e=>hg.ne A.o.aE b9 e) (fun g hg e=>hg.ne A.o.aE b9 e);have hb1:=T.o.trans (G.below (B:=D.heap.size) (fun k hk=>by have e:k=ge:=hk;rw [e];exact r.o) T.o.size);have cm:=af U;have wF:=af hv1;have Z:=af hb1;clear hK K hHeld k0 z0 U G hv1 hb1;go_wp2_with fail;go_meet;exact⟨ge,aa,ac,rfl,cm.o,wF.o,Z.o,r.o⟩
   as_aux_lemma=>
   go_simp;have hba:=Below.aI wd (.cells #[.slice none 0 0] 54);have C:=ag J hba;have Lx:Ei (av (wd.alloc (.cells #[.slice none 0 0] 54)) ↑wd 54 #[.slice none 0 0]):=af (av.new _ _ _);refine hK.out _ _ (N.o _ C.o) (fun hHeld=>?_);obtain⟨ge,hge⟩:=ai wd.heap.size;have r:Ei (D.heap.size<=ge):=af (by rw [<-hge];exact J.o.size);rw [hge]at Lx⊢;clear hK K hba hge;generalize wd.alloc (.cells #[.slice none 0 0] 54)=w2 at*;refine aU 5 fun K hK=>?_;go_simp;go_at_call 28;refine(nC.o _ C.o).mono ?_;rintro e w3 ⟨vl,rfl,H,hb3⟩;obtain⟨aa,ac,hvl⟩:=H.form;subst hvl;have T:=ag C hb3;have A:=af (Lx.o.below hb3);have e5:=af (H.base C.o.size);refine hK.out _ _ (N.o _ T.o) (fun hHeld=>?_);clear hK K H hb3;have k0:=A.o.GC;have z0:w3.frozen? ↑ge=false:=A.o.frozen 0;refine dY 7 fun K hK=>?_;go_simp;refine hK.out _ _ ?_;have U:=A.o.aW 0 (.slice aa (dz p S').length ac);simp only [List.setIfInBounds_toArray,List.set_cons_zero]at U;have G:=ct w3 ge 0 (.slice aa (dz p S').length ac);have hv1:=e5.o.keep G (fun g hg e=>hg.ne A.o.aE b9 e) (fun g hg e=>hg.ne A.o.aE b9 e);have hb1:=T.o.trans (G.below (B:=D.heap.size) (fun k hk=>by have e:k=ge:=hk;rw [e];exact r.o) T.o.size);have cm:=af U;have wF:=af hv1;have Z:=af hb1;clear hK K hHeld k0 z0 U G hv1 hb1;go_wp2_with fail;go_meet;exact⟨ge,aa,ac,rfl,cm.o,wF.o,Z.o,r.o⟩
  case rest=>
  obtain⟨bE,aa,ac,rfl,fT,hvb,hbc,jz⟩:=hcut;have rQ:=af (s.o.below hbc);have oB:=af fT;have Ou:=af (hvb.base s.o.aJ.size);have aky:Ei (¬bE=cB):=af (by have:=s.o.ba.lt;omega);have dO:Ei (w.heap.size<=bE):=af (Nat.le_trans s.o.aJ.size jz);obtain⟨R,Tb⟩:=ai ((dz p S').length);have ML:=af Tb;rw [Tb]at oB Ou;clear fT hvb hbc jz nC N s Tb;generalize wc=aN at*;have yq:=rQ.o.ba.GC;have kb:=oB.o.GC;have EQ:Ei (lT=(dz p S).length):=af (by obtain⟨_,_,h⟩:=rQ.o.la.form;injection h);have uL:Ei ((dz p S).length=(dz p S').length∧(dz p S).length<=40):=af (by have h1:=CS p S;have h2:=CS p S';have h3:=b.o.len;have h4:=Ap.o.1.len;have h5:=c8.o;omega);have Tc:Ei (Calls Tryz.prog 31 #[.agg #[.slice a4 lT dH],.agg #[.slice aa R ac],↑mi] aN fun e w'=>∃v,e= .returned v∧hH.Row w' ↑aN v (qK (dz p S) (dz p S') ml)∧Below ↑aN aN w'):=af (by rw [EQ.o,<-ML.o,F6.o];have h1:=rQ.o.la;rw [EQ.o]at h1;have h2:=Ou.o;rw [<-ML.o]at h2;exact SI h1 h2 uL.o.1 uL.o.2 (QV b.o) (QV Ap.o.1) bh bh);obtain⟨oA,hdf⟩:=ai (qK (dz p S) (dz p S') (ml:Int));rw [hdf]at Tc;have PJ:=af hdf;have Ec:Ei (oA.length<=2142):=af (by
   have h1:=U1 ((Ax.o.more (bh:k<=25)).look (p:=p)) ((EG.o.more (bh:k+1<=25)).look (p:=p)) (ml:Int);rw [hdf]at h1;have h2:(dz p S).length<=21:=by have:=CS p S;have:=b.o.len;have:=c8.o;omega
   have h3:(dz p S).length*(4*25+2)<=21*102:=Nat.mul_le_mul h2 (Nat.le_refl _);omega)
  have akz:Ei (∀m∈oA,(0<=m.inst∧m.inst<=255)∧(m.side=1∨m.side=2)):=af fun m hm=>by
   rw [<-hdf]at hm;have h2:(dz p S).length<=21:=by have:=CS p S;have:=b.o.len;have:=c8.o;omega
   have h3:=Ec.o;rw [<-hdf]at h3;have h4:=U0 (q:=(ml:Int)) bh uL.o.1 (XN W.o Ap.o.1) (QU W.o b.o) (QU W.o Ap.o.1) hm bh bh;exact⟨⟨h4.1.i0,by have:=h4.1.i1;omega⟩,h4.1.sd⟩
  clear hdf;go_wp2_with fail;refine Tc.o.mono ?_;rintro e bf ⟨vd,rfl,Td,jn⟩;obtain⟨da,j9,Fe⟩:=Td.form;obtain⟨d,hdn⟩:=ai oA.length;rw [hdn]at Fe;subst Fe;have FJ:=af hdn;have anB:d<=2142:=by have:=Ec.o;omega
  have ES:Ei (Oo w bf p aR cB pm ps kD S' E' (.slice a4 lT dH) (dz p S) (.slice a1 n1 c1) (M) (.slice a3 pJ c3) V (.slice a2 n2 c2) Q bE (.slice aa R ac) (dz p S') (.slice da d j9) oA):=af ⟨rQ.o.below jn,oB.o.below jn,Ou.o.below jn,Td.base rQ.o.aJ.size⟩;clear Td jn hdn yq kb rQ oB Ou Tc;go_wp2_with fail;go_loopw [16,11] (fun i Ta w'=>∃(t:Nat) (a1:Option Addr) (n1 c1:Nat),i=↑t∧t<=d∧Ta= .slice a1 n1 c1∧Oo w w' p aR cB pm ps kD S' E' (.slice a4 lT dH) (dz p S) (.slice a1 n1 c1) (M++oA.take t) (.slice a3 pJ c3) V (.slice a2 n2 c2) Q bE (.slice aa R ac) (dz p S') (.slice da d j9) oA) (fun i _ _=>d-(RowKit.intOf i).toNat)
  case atStart=>exact⟨0,a1,n1,c1,rfl,Nat.zero_le _,rfl,by rw [List.take_zero,List.append_nil];exact ES.o⟩
  clear ES;obtain⟨t,a1,n1,c1,rfl,ht,rfl,ET⟩:=hrel;obtain⟨wt,rfl⟩:=aj wr;have z:=af ET;clear ET;by_cases htd:t<d
  ·have anC:(t:Int)<(d:Int):=by omega
   obtain⟨m,hm⟩:=GB oA t (by rw [FJ.o];exact htd);have dN:=af (kH hm);have r8:=af (akz.o m (List.mem_of_getElem? hm));obtain⟨Du,anD,akA,hdl,hdc⟩:=z.o.dd.at_ t m hm;injection akA with hd1 D8 WB;subst hd1;clear D8 WB;have LA:Ei (∀wx,Calls Tryz.prog 32 #[m.agg] wx fun e w'=>∃v,e= .returned (.tuple #[v,↑()])∧cZ.Row w' wx.heap.size v (fL m)∧Below wx.heap.size wx w'):=af fun wx=>QG m wx r8.o.1 r8.o.2;obtain⟨em,hem⟩:=ai (fL m);have akB:=af hem;rw [hem]at LA;obtain⟨y0,y1,fI,lF,qb,CN,Ln⟩:=m;unfold aF.agg at LA;dsimp only at LA;have d0:wt.cell? ↑(Du,t*7)=↑y0:=hdc 0 _ rfl;have d1:wt.cell? ↑(Du,t*7+1)=↑y1:=hdc 1 _ rfl;have d2:wt.cell? ↑(Du,t*7+2)=↑fI:=hdc 2 _ rfl;have d3:wt.cell? ↑(Du,t*7+3)=↑lF:=hdc 3 _ rfl;have d4:wt.cell? ↑(Du,t*7+4)=↑qb:=hdc 4 _ rfl;have d5:wt.cell? ↑(Du,t*7+5)=↑CN:=hdc 5 _ rfl;have d6:wt.cell? ↑(Du,t*7+6)=↑Ln:=hdc 6 _ rfl;clear hdc hm hem hdl;go_wp2_with fail;refine(LA.o _).mono ?_;rintro e bZ ⟨anE,rfl,Te,mH⟩;obtain⟨AA,AB,Ao⟩:=Te.form;obtain⟨el,hel⟩:=ai em.length;rw [hel]at Ao;subst Ao;clear hel d0 d1 d2 d3 d4 d5 d6 LA;obtain⟨P,hP,gK,g8⟩:=z.o.i.sO;obtain⟨pa,pc,Tf⟩:=hP.form;injection Tf with hv1 kf Hj;subst hv1;subst kf;subst Hj;have O:=Below.aI bZ (.cells #[.slice AA el AB] 37);have Ic:=af (mH.trans (O.mono mH.size));have g6:=af ((hP.below mH).below O);have uH:Ei (∀(j:Nat) (h:Hd) (m:aF),P[j]? =some h->(M++oA.take t)[j]? =some m->cZ.Row _ ↑w (.slice h.a h.n h.c) (fL m)):=af fun j h m hp hm=>((g8 j h m hp hm).below mH).below O;have gq:=af gK;have EW:=af ((Te.below O).base z.o.i.aJ.size);have f:Ei (av (bZ.alloc (.cells #[.slice AA el AB] 37)) ↑bZ 37 (Ez.cells ⟨AA,el,AB⟩).toArray):=af (av.new _ _ _);have iD:Ei (w.heap.size<=(bZ.alloc (.cells #[.slice AA el AB] 37)).heap.size):=af (Nat.le_trans z.o.i.aJ.size Ic.o.size);have l9:Ei (P.length+1<=1000000):=af (by rw [gK,List.length_append];have h1:=jf.o;have h2:=List.length_take_le t oA;omega);clear hP gK g8 Te mH O;go_wp2_with (first
    |(at_builtin;go_loud (refine Ez.push rfl (.tmp 73) (.tmp 75) rfl ↑w (.slice a1 P.length c1) P rfl g6.o ↑bZ ⟨AA,el,AB⟩ rfl f.o.lt f.o.gH l9.o iD.o ?_)))
   intro v' bW jV gC _;obtain⟨a5,b8,hM⟩:=jV.form;obtain⟨qi,LB⟩:=ai ((P++ [(⟨AA,el,AB⟩:Hd)]).length);rw [LB]at hM;clear LB;subst hM;have l:Ei (Oo w bW p aR cB pm ps kD S' E' (.slice a4 lT dH) (dz p S) (.slice a5 qi b8) (M++oA.take (t+1)) (.slice a3 pJ c3) V (.slice a2 n2 c2) Q bE (.slice aa R ac) (dz p S') (.slice ↑Du d j9) oA):=af (by obtain⟨i1,G⟩:=z.o.i.msg (m:=⟨y0,y1,fI,lF,qb,CN,Ln⟩) Ic.o g6.o gq.o uH.o (by rw [akB.o];exact EW.o) jV gC;have bT:∀g,(Value.slice a1 P.length c1).ownBlock=some g->ck _ g 37:=fun g hg=>eo g6.o g hg;have b1:=z.o.bb.below Ic.o;rw [dN.o,<-List.append_assoc];exact⟨i1,b1.keeps G (fun e=>b1.aE.ne (bT _ e) b9 rfl),(z.o.vb.below Ic.o).keep G (fun g hg e=>hg.ne (bT _ e) b9 rfl) (fun g hg e=>hg.ne (bT _ e) b9 rfl),(z.o.dd.below Ic.o).keep G (fun g hg e=>hg.ne (bT _ e) b9 rfl)⟩);clear jV gC g6 uH gq EW f iD l9 Ic z;go_wp2_with fail;go_roundw
   case rel=>exact⟨t+1,a5,qi,b8,dR,htd,rfl,l.o⟩
   exact Ej
  have E0:t=d:=bh;have l:Ei (Oo w wt p aR cB pm ps kD S' E' (.slice a4 lT dH) (dz p S) (.slice a1 n1 c1) (M++oA) (.slice a3 pJ c3) V (.slice a2 n2 c2) Q bE (.slice aa R ac) (dz p S') (.slice da d j9) oA):=af (by
   have h1:oA.take t=oA:=by rw [E0,<-FJ.o,List.take_length]
   have:=z.o;rwa [h1]at this)
  obtain⟨Y,Rg⟩:=ai (mi+(d:Int):Int);obtain⟨m2,hm2⟩:=ai (ml+d:Nat);have hN:=af hm2;have E1:Ei (Y=(m2:Int)):=af (by have:=F6.o;omega);have anF:0<=Y∧Y<=600000:=bh;clear E0 z hm2;have kb:=l.o.bb.GC;have yq:=l.o.i.ba.GC;have AO:wt.frozen? ↑cB=false:=l.o.i.ba.frozen 0;go_upto_region 20 with(fail);clear Rg;have Ov:Ei (nZ w _ p aR cB pm ps kD S' E' (.slice aa R ac) (dz p S') (.slice a1 n1 c1) (M++oA) (.slice a3 pJ c3) V (.slice a2 n2 c2) Q):=af (l.o.i.put l.o.vb);have E9:=af (l.o.bb.keeps (ct wt cB 0 (.slice aa R ac)) aky.o);have Fa:=af (l.o.vb.keep (ct wt cB 0 (.slice aa R ac)) (fun g hg e=>hg.ne l.o.i.ba.aE b9 e) (fun g hg e=>hg.ne l.o.i.ba.aE b9 e));clear kb yq AO l;generalize wt.setCell ↑cB (.slice aa R ac)=p9 at*;have kb:=E9.o.GC;obtain⟨P,hP,gK,g8⟩:=Ov.o.fh;obtain⟨pa,pc,Tf⟩:=hP.form;injection Tf with hv1 kf Hj;subst hv1;subst kf;subst Hj;have O:=Below.aI p9 (.cells #[.slice aa R ac] 54);have B0:=af O;have g6:=af (hP.below O);have uH:Ei (∀(j:Nat) (h:Hd) (m:bG),P[j]? =some h->V[j]? =some m->cg eJ bK _ ↑w (.slice h.a h.n h.c) m):=af fun j h m hp hm=>(g8 j h m hp hm).below O;have gq:=af gK;have Ff:=af (Fa.o.below O);have f:Ei (av (p9.alloc (.cells #[.slice aa R ac] 54)) ↑p9 54 (zR.cells ⟨aa,R,ac⟩).toArray):=af (av.new _ _ _);have iD:Ei (w.heap.size<=(p9.alloc (.cells #[.slice aa R ac] 54)).heap.size):=af (Nat.le_trans Ov.o.aJ.size O.size);have l9:Ei (P.length+1<=1000000):=af (by rw [gK,Ly.o];omega);clear hP gK g8 O;go_wp2_with (first
   |(at_builtin;go_loud (refine zR.push rfl (.tmp 82) (.tmp 84) rfl ↑w (.slice a3 P.length c3) P rfl g6.o ↑p9 ⟨aa,R,ac⟩ rfl f.o.lt f.o.gH l9.o iD.o ?_)))
  intro v' bW jV gC LC;obtain⟨a5,b8,hM⟩:=jV.form;obtain⟨qi,LB⟩:=ai ((P++ [(⟨aa,R,ac⟩:Hd)]).length);rw [LB]at hM;clear LB;subst hM;have Ow:=af (Ov.o.view B0.o g6.o gq.o uH.o Ff.o jV gC (by
   rcases LC with h|h
   ·exact .inl h
   exact .inr (by rw [h];simp)))
  clear jV gC LC g6 uH gq f iD l9 B0 Ov Fa Ff E9 kb;go_upto_region 21 with(fail);have O:=Below.aI bW (.cells #[↑Y] 2);have B0:=af O;have Fg:=af (Ow.o.xL.below O);have tL:Ei (Q.length+1<=1000000):=af (by have:=gG.o.len;have:=Ly.o;omega);have f:Ei (av (bW.alloc (.cells #[↑Y] 2)) ↑bW 2 (e8.cells Y).toArray):=af (av.new _ _ _);have iD:Ei (w.heap.size<=(bW.alloc (.cells #[↑Y] 2)).heap.size):=af (Nat.le_trans Ow.o.aJ.size O.size);clear O;go_wp2_with (first
   |(at_builtin;go_loud (refine e8.push rfl (.tmp 86) (.tmp 88) rfl ↑w (.slice a2 n2 c2) Q rfl Fg.o ↑bW Y rfl f.o.lt f.o.gH tL.o iD.o ?_)))
  intro v' AE Tg Ki Fh;obtain⟨a6,fJ,Gu⟩:=Tg.form;obtain⟨E2,FG⟩:=ai ((Q++ [Y]).length);rw [FG]at Gu;clear FG;subst Gu;have akC:=af (Ow.o.seq B0.o Tg Ki (by
   rcases Fh with h|h
   ·exact .inl h
   exact .inr (by rw [h];simp)))
  have lR:Ei (Bm (countP p).toNat (M++oA) (V++ [dz p S']) (Q++ [Y])):=af (by
   have h1:=gG.o.next zF.o (XN W.o Ap.o.1) (QU W.o Ap.o.1) (QV Ap.o.1) (by rw [CS];exact Ap.o.1.len) (by have:=c8.o;omega) (by have:=jf.o;omega);rw [jf.o,PJ.o]at h1;have h2:((M++oA).length:Int)=Y:=by rw [List.length_append,jf.o,FJ.o,E1.o,<-hN.o]
   rw [h2]at h1;exact h1)
  have akD:Ei ((M++oA).length=m2):=af (by rw [List.length_append,jf.o,FJ.o];exact hN.o);have akE:Ei ((V++ [dz p S']).length=k+1+1):=af (by rw [List.length_append,Ly.o];rfl);have akF:Ei ((V++ [dz p S'])[(V++ [dz p S']).length-1]? =some (dz p S')):=af (by rw [show(V++ [dz p S']).length-1=V.length by rw [List.length_append];rfl,List.getElem?_append_right (Nat.le_refl _),Nat.sub_self];rfl);have akG:m2<=(k+1)*2142:=by have:=hN.o;omega
  clear Tg Ki Fh Fg tL f iD B0 Ow;go_wp2_with fail;go_roundw
  case rel=>exact⟨k+1,m2,Y,S',E',M++oA,V++ [dz p S'],Q++ [Y],a1,n1,c1,a6,E2,fJ,a5,qi,b8,aa,R,ac,dR,jF,bh,rfl,E1,rfl,rfl,rfl,akD,akG,akE,af Ap.o.2,EN,EG,akF,lR,akC.o⟩
  exact Ej
 have wG:Ei (M.length<=60000∧V.length<=26):=af (by have:=jf.o;have:=Ly.o;omega);have q3:(k:Int)<(n:Int)->¬(k:Int)<25:=fun h=>bh;by_cases jF:k<n
 ·have tX:(k:Int)<(n:Int):=by omega
  have Iq:¬(k:Int)<25:=bh;clear hlt q3;go_wp2_with fail;go_ret3;exact⟨_,_,_,rfl,M,V,Q,gG.o,wG.o.1,wG.o.2,X.o.sO,X.o.fh,X.o.xL,X.o.aJ⟩
 have tX:¬(k:Int)<(n:Int):=bh;clear hlt q3;go_wp2_with fail;go_ret3;exact⟨_,_,_,rfl,M,V,Q,gG.o,wG.o.1,wG.o.2,X.o.sO,X.o.fh,X.o.xL,X.o.aJ⟩
end
end Go.Proofs.YtmaijkoopjocdaaGreat
