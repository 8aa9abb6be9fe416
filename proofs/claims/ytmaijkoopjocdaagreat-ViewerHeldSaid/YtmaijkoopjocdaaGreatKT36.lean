import Derived.Test.YtmaijkoopjocdaaGreatKT35
set_option maxRecDepth 100000
set_option maxHeartbeats 64000000
namespace Go.Proofs.YtmaijkoopjocdaaGreat
open Go.RowKit Go.Lib
structure dB where
 kind:Int
 id:Int
 inst:Int
 side:Int
 ag:Int
 ah:Int
 least:Int
 time:Int
 label:ByteArray
def dB.cells (c:dB):Array Value:=#[.int .i64 c.kind,.int .i64 c.id,.int .i64 c.inst,.int .i64 c.side,.int .i64 c.ag,.int .i64 c.ah,.int .i64 c.least,.int .i64 c.time,.string c.label]
theorem PB {p:Prod} {S:List (List ay)} (hS:dJ p S) (i:Nat) (side ag q:Int):(nA p S i side ag q).2.length≤250:=by
 unfold nA;dsimp only;exact Nat.le_trans (K7 _ _ _ _) (by rw [K4];exact Nat.le_trans (HI _ _ _) (K2 (hS.at_ i) _ _).1)
theorem adK {p:Prod} {S:List (List ay)} (hS:dJ p S) {i:Nat} {side ag ah:Int} {r:List (List ay)×mq} (h:sy p S i side ag ah=some r):r.2.qD.length≤500:=by
 unfold sy at h;split at h
 ·injection h with h
  subst h;exact Nat.le_trans (PB hS _ _ _ _) (by omega)
 ·split at h
  ·cases h
  ·injection h with h
   subst h;unfold Im;dsimp only;rw [List.length_append];have h1:=PB hS (mr p S i side).1.i0.toNat (mr p S i side).1.s0 (zy (dF S) (mr p S i side).1.i0 (mr p S i side).1.s0) (uz ah (mr p S i side).1.ah);have h2:=PB (hS.qD (mr p S i side).1.i0.toNat (mr p S i side).1.s0 (zy (dF S) (mr p S i side).1.i0 (mr p S i side).1.s0) (uz ah (mr p S i side).1.ah)) (mr p S i side).1.i1.toNat (mr p S i side).1.s1 (zy (dF S) (mr p S i side).1.i1 (mr p S i side).1.s1) (uz ah (mr p S i side).1.ah);omega
theorem V7 {p:Prod} {i:Nat} {side ag:Int} (hz:cz p=0):∀(f:Nat) (S:List (List ay)) (ah:Int),dJ p S→0≤ah→(((gl p i side ag f S ah).2.1.length:Int)≤ah∧∀t∈(gl p i side ag f S ah).2.1,t.qD.length≤500)
 |0,S,ah,hS,h0=>⟨h0,fun t ht=>by cases ht⟩
 |f+1,S,ah,hS,h0=>by
  unfold gl;split
  ·exact⟨h0,fun t ht=>by cases ht⟩
  ·cases hr:sy p S i side ag ah with
   |none=>exact⟨h0,fun t ht=>by cases ht⟩
   |some r=>
    obtain⟨h1,h2,h3⟩:=Sz hz hS (by omega) hr;obtain⟨g1,g2⟩:=V7 (i:=i) (side:=side) (ag:=ag) hz f r.1 (ah-r.2.ah) h1 (by omega);refine⟨by dsimp only;rw [List.length_cons];omega,fun t ht=>?_⟩;rcases List.mem_cons.1 ht with rfl|h4
    ·exact adK hS hr
    ·exact g2 t h4
def Io (p:Prod) (S:List (List ay)) (i:Nat) (c:dB):Int:=(gl p i c.side c.ag c.ah.toNat S c.ah).2.2
def qh (p:Prod) (S:List (List ay)) (i:Nat) (c:dB):List (List ay):=
 if 0<Io p S i c∧c.time=1 then(ve p (gl p i c.side c.ag c.ah.toNat S c.ah).1 i c.id c.side c.ag (Io p S i c)).1 else(gl p i c.side c.ag c.ah.toNat S c.ah).1
theorem M5 {p:Prod} {S:List (List ay)} (h:dJ p S):tot S≤100000:=by
 have h1:∀S:List (List ay),(∀L∈S,L.length≤250)→tot S≤250*S.length:=fun S=>by
  induction S with
  |nil=>intro _;exact Nat.le_refl _
  |cons L t ih=>
   intro hh;have h2:=hh L (List.mem_cons_self ..);have h3:=ih fun K hK=>hh K (List.mem_cons_of_mem _ hK);unfold tot at h3⊢;rw [List.map_cons,List.sum_cons,List.length_cons];omega
 have h2:=h1 S fun L hL=>(h.each L hL).len;have h3:=h.le;omega
theorem SO.at_ {w:World} {B n:Nat} {a:Option Addr} {c:Nat} {T:List mq} (h:SO w B (.slice a n c) T) {k:Nat} {t:mq} (hk:T[k]? =some t):∃g fa nW,a=some ⟨g,0,none⟩∧w.cell? ⟨g,k*4,none⟩=some (.int .i64 t.ag)∧w.cell? ⟨g,k*4+1,none⟩=some (.int .i64 t.ah)∧w.cell? ⟨g,k*4+2,none⟩=some (.bool t.imp)∧w.cell? ⟨g,k*4+3,none⟩=some (.slice fa t.qD.length nW)∧pg.Row w B (.slice fa t.qD.length nW) t.qD:=by
 obtain⟨H,h1,h2,h3⟩:=h;have hl:=dc hk;obtain⟨x,hx⟩:∃x,H[k]? =some x:=⟨_,List.getElem?_eq_getElem (by omega)⟩;obtain⟨g,cap,e1,_,hc⟩:=h1.at_ k x hx;injection e1 with e1;obtain⟨o1,o2,bx,dr⟩:=h3 k x t hx hk;obtain⟨fa,nW,e2⟩:=dr.form;injection e2 with e2 bE cw;refine⟨g,x.a,x.c,e1,?_,?_,?_,?_,?_⟩
 ·rw [←o1];exact hc 0 _ rfl
 ·rw [←o2];exact hc 1 _ rfl
 ·rw [←bx];exact hc 2 _ rfl
 ·rw [←bE];exact hc 3 _ rfl
 ·rw [←bE];exact dr
section
variable {W w w':World} {pm ps pb:Nat} {p:Prod} {Q:List Nat} {S S':List (List ay)} {E:List Int}
structure wS (W w w':World) (pm ps:Nat) (p:Prod) (Q:List Nat) (S:List (List ay)) (E:List Int) (aO:Nat) (c:dB) (v:Value) (T:List mq):Prop where
 gi:ed W w' pm ps p Q S E
 k:aD (fun g=>g∈Q) w w'
 g:aj w' aO 80 c.cells
 so:SO w' w.heap.size v T
theorem wS.below {aO:Nat} {c:dB} {v:Value} {T:List mq} {w2:World} (h:wS W w w' pm ps p Q S E aO c v T) (hb:Below w'.heap.size w' w2):wS W w w2 pm ps p Q S E aO c v T:=
 ⟨h.gi.below hb,h.k.trans (Below.keeps hb),h.g.below hb,h.so.below hb⟩
theorem wS.grown {aO:Nat} {c:dB} {v:Value} {T:List mq} {w2:World} {F:Nat→Prop} (h:wS W w w' pm ps p Q S E aO c v T) (hk:aD F w' w2) (hF:∀g,F g→bV w' g 143) (hW:W.heap.size≤w.heap.size) (hb:∀g,F g→w.heap.size≤g):wS W w w2 pm ps p Q S E aO c v T:=
 ⟨h.gi.pR hk hF hW hb,h.k.step hk (fun x hx e=>absurd (hb x e) (by omega)),h.g.keeps hk (fun e=>h.g.aC.ne (hF _ e) (by decide) rfl),h.so.keep hk (fun g hg e=>hg.ne (hF _ e) (by decide) rfl) (fun g hg e=>hg.ne (hF _ e) (by decide) rfl)⟩
theorem wS.told {aO:Nat} {c:dB} {v:Value} {T:List mq} {wx:World} (h:wS W w wx pm ps p Q S E aO c v T) {B:Nat} {F:List oA} {a:Option Addr} {n cc:Nat} (hF:pg.Row wx B (.slice a n cc) F) (hn:F.length=n) (hl:n≤100000) (inst sp gS:Int) (qF:Bool) (b6 r1 r2 fV gq gu gT gU:Int):
 Calls Tryz.prog 112 #[.pointer (some ⟨pm,0,none⟩),.int .i64 inst,.agg #[.int .i64 sp,.int .i64 gS,.bool qF,.slice a n cc],.agg #[.int .i64 b6,.int .i64 r1,.int .i64 r2,.int .i64 fV,.int .i64 gq,.int .i64 gu,.int .i64 gT,.int .i64 gU]] wx fun e w'=>∃v L,e= .returned v∧nk.Row w' wx.heap.size v L∧L.length≤3∧Below wx.heap.size wx w':=by
 obtain⟨yQ,yR,h1,_⟩:=h.gi.box;exact adL h1 (h.gi.bZ.pv.below h.gi.bZ.aF) hF.sl hn hl inst sp gS qF b6 r1 r2 fV gq gu gT gU
theorem Sq (h:ed W w pm ps p Q S E) (hz:cz p=0) (hS:dJ p S) (c:dB) {i:Nat} (jS:c.inst=i) (hi:i<S.length) (gf:c.side=1∨c.side=2) (mG:1≤c.ah) (hq1:c.ah≤100):
 Calls Tryz.prog 70 #[.pointer (some ⟨pm,0,none⟩),.agg c.cells] w fun e w'=>∃v L,e= .returned v∧nk.Row w' w.heap.size v L∧L.length≤160000∧ed W w' pm ps p Q (qh p S i c) E∧aD (fun g=>g∈Q) w w':=by
 have hb0:=Below.aA w (.cells #[.int .i64 c.kind,.int .i64 c.id,.int .i64 c.inst,.int .i64 c.side,.int .i64 c.ag,.int .i64 c.ah,.int .i64 c.least,.int .i64 c.time,.string c.label] 80);have e3:=af hb0;have ie:=af (h.below hb0);have eW:Hid (aj (w.alloc (.cells #[.int .i64 c.kind,.int .i64 c.id,.int .i64 c.inst,.int .i64 c.side,.int .i64 c.ag,.int .i64 c.ah,.int .i64 c.least,.int .i64 c.time,.string c.label] 80)) w.heap.size 80 c.cells):=af (aj.new _ _ _);have dI:=af hz;have aq:=af hS;have kV:=af (Gw (i:=i) (side:=c.side) (ag:=c.ag) hz c.ah.toNat S c.ah hS (by omega));have jP:=af (V7 (i:=i) (side:=c.side) (ag:=c.ag) hz c.ah.toNat S c.ah hS (by omega));have kY:=af fun w (h:ek W w ps p Q S)=>Nm h hz hS hi c.side c.ag c.ah gf mG (by omega);have PD:=af h.bZ.aF.size;obtain⟨cg,hRS⟩:∃X,qh p S i c=X:=⟨_,rfl⟩;rw [hRS];have pq:=af hRS;have PE:Hid (Io p S i c=(gl p i c.side c.ag c.ah.toNat S c.ah).2.2):=af rfl;have b9:Hid (qh p S i c=if 0<Io p S i c∧c.time=1 then(ve p (gl p i c.side c.ag c.ah.toNat S c.ah).1 i c.id c.side c.ag (Io p S i c)).1 else(gl p i c.side c.ag c.ah.toNat S c.ah).1):=af rfl;rw [pq.out]at b9;obtain⟨R,hR⟩:∃R,gl p i c.side c.ag c.ah.toNat S c.ah=R:=⟨_,rfl⟩;simp only [hR]at kV jP kY PE b9;rw [PE.out]at b9;obtain⟨qB,T,ql⟩:=R;dsimp only at kV jP kY b9;have adM:=af hi;have aiO:=af gf;clear h hz hS hb0 hRS hR PE hi gf;unfold dB.cells at eW⊢;rw [jS]at eW e3 ie⊢;have Gt:=af jS;clear jS;go_enter Tryz.func70,Tryz.ntmps70
 go_upto_region 1 with(fail)
 obtain⟨aO,bU⟩:∃g,w.heap.size=g:=⟨_,rfl⟩;rw [bU]at eW⊢;clear bU;generalize w.alloc (.cells _ 80)=w1 at*;have a1:=eW.out.cell 1;have a2:=eW.out.cell 2;have a3:=eW.out.cell 3;have a4:=eW.out.cell 4;have a5:=eW.out.cell 5;have hba:=Below.aA w1 (.cells #[.int .i64 1,.int .i64 c.id,.int .i64 i,.int .i64 c.side,.int .i64 c.ag,.int .i64 c.ah,.int .i64 c.ah,.int .i64 0] 143);have e6:Hid (nk.Row (w1.alloc (.cells #[.int .i64 1,.int .i64 c.id,.int .i64 i,.int .i64 c.side,.int .i64 c.ag,.int .i64 c.ah,.int .i64 c.ah,.int .i64 0] 143)) w.heap.size (.slice (some ⟨w1.heap.size,0,none⟩) 1 1) [⟨1,c.id,i,c.side,c.ag,c.ah,c.ah,0⟩]):=af ((aY.Row.AY nk (L:= [⟨1,c.id,i,c.side,c.ag,c.ah,c.ah,0⟩]) (aj.new w1 143 _) (by simp)).base e3.out.size);have aT:=af (e3.out.trans (hba.mono e3.out.size));have gH:=af (ie.out.below hba);have ef:=af (eW.out.below hba);clear hba e3 ie;go_upto_region 2 with(fail)
 obtain⟨bg,fW⟩:∃g,w1.heap.size=g:=⟨_,rfl⟩;rw [fW]at e6⊢;clear fW a1 a2 a3 a4 a5 eW;generalize w1.alloc (.cells _ 143)=w2 at*;have hd:=(Below.refl w2.heap.size w2).drew;have bf:=af (gH.out.below hd);have bQ:=af (ef.out.below hd);have ij:=af (e6.out.below hd);have cr:=af (aT.out.trans (hd.mono aT.out.size));obtain⟨yQ,yR,hmb,_⟩:=bf.out.box;have dg:w2.drew.cell? ⟨pm,11,none⟩=some (.pointer (some ⟨ps,0,none⟩)):=hmb.cell 11;have a2:=bQ.out.cell 2;have a3:=bQ.out.cell 3;have a4:=bQ.out.cell 4;have a5:=bQ.out.cell 5
 have v7:∀wv,ed W wv pm ps p Q S E→wv.cell? ⟨pm,11,none⟩=some (.pointer (some ⟨ps,0,none⟩)):=fun wv hv=>by
  obtain⟨_,_,h1,_⟩:=hv.box;exact h1.cell 11
 clear hd hmb gH ef e6 aT;refine cF (S:=fun w'=>w'.cell? ⟨pm,11,none⟩=some (.pointer (some ⟨ps,0,none⟩))∧w'.cell? ⟨aO,2,none⟩=some (.int .i64 i)∧w'.cell? ⟨aO,3,none⟩=some (.int .i64 c.side)∧w'.cell? ⟨aO,4,none⟩=some (.int .i64 c.ag)∧w'.cell? ⟨aO,5,none⟩=some (.int .i64 c.ah)) (by kernel_rfl) ⟨dg,a2,a3,a4,a5⟩ (fun hHeld=>?_);refine ai 0 ?_;refine ai 1 ?_;refine ai 2 ?_;refine ai 3 ?_;refine ai 4 ?_;refine ai 5 ?_;refine ai 6 ?_;refine ai 7 ?_;refine ai 8 ?_;refine ai 9 ?_;refine ai 10 ?_;refine ai 11 ?_;clear dg a2 a3 a4 a5 v7;generalize w2.drew=w3 at*;have vO:=kY.out _ bf.out.bZ;refine aR 12 fun K hK=>?_;go_simp;go_at_call 110
 refine vO.mono ?_;rintro e av ⟨Py,rfl,AG,Ip,jB⟩;have sB:∀g,g∈Q→bV w3 g 181:=fun g hg=>(bf.out.bZ.ow hg).1;have yb:=bQ.out.keeps jB (fun e=>bQ.out.aC.ne (sB _ e) (by decide) rfl);have V8:=ij.out.keep jB (fun g hg e=>hg.ne (sB _ e) (by decide) rfl);have PF:=bf.out.turn Ip jB;have V9:aD (fun g=>g∈Q) w av:=(Below.keeps cr.out).trans jB;obtain⟨ta,tc,oy⟩:=AG.form;obtain⟨tn,htn⟩:∃n,T.length=n:=⟨_,rfl⟩;rw [htn]at oy;subst oy;have Wa:wS W w av pm ps p Q qB E aO c (.slice ta tn tc) T:=⟨PF,V9,by unfold dB.cells;rw [Gt.out];exact yb,AG.base cr.out.size⟩
 have v7:av.cell? ⟨pm,11,none⟩=some (.pointer (some ⟨ps,0,none⟩)):=by
  obtain⟨_,_,h1,_⟩:=PF.box;exact h1.cell 11
 refine hK.out _ _ ⟨v7,yb.cell 2,yb.cell 3,yb.cell 4,yb.cell 5⟩ (fun hHeld=>?_);clear hK K;refine gx _ _ _ _ ?_;refine eB 13 ?_;refine eB 14 ?_;refine eB 15 ?_;refine eB 16 ?_;refine eB 17 ?_;refine wpAnyH_done (by kernel_rfl) ?_ _;have yl:=af Wa;have Wb:=af V8;have ym:=af htn;have htb:(tn:Int)≤100:=by rw [←htn];have:=jP.out.1;omega
 have a5:=yb.cell 5;clear hHeld AG Ip jB sB yb V8 PF V9 Wa v7 bf bQ ij cr vO kY htn;go_wp2_with fail
 clear a5;go_loopw [5,8,9] (fun v y j w'=>∃(k:Nat) (z:Int) (L:List vh),j= .int .i64 k∧k≤tn∧y= .int .i64 z∧nk.Row w' w.heap.size v L∧L.length≤1+k*1503∧wS W w w' pm ps p Q qB E aO c (.slice ta tn tc) T) (fun _ _ j _=>tn-(RowKit.intOf j).toNat)
 case atStart=>exact⟨0,c.ah,_,rfl,Nat.zero_le _,rfl,Wb.out,by simp,yl.out⟩
 case round=>
  clear yl Wb;obtain⟨k,z,L,rfl,hk,rfl,hrow,hlen,hI⟩:=hrel;obtain⟨ak,rfl⟩:∃bk:World,bk=wr:=⟨_,rfl⟩;have cM:=af hrow;have jT:=af hI;have cX:=af hlen;clear hrow hI hlen;obtain⟨adN,adO,hov⟩:=cM.out.form;obtain⟨on,hon⟩:∃n,L.length=n:=⟨_,rfl⟩;rw [hon]at hov cX;subst hov;have Iq:=af hon;clear hon;by_cases hlt:k<tn
  ·have hlt':(k:Int)<(tn:Int):=by omega
   obtain⟨t,k7⟩:∃t,T[k]? =some t:=⟨_,List.getElem?_eq_getElem (by rw [ym.out];exact hlt)⟩;have hfl:=jP.out.2 t (List.mem_of_getElem? k7);obtain⟨gt,fa,nW,PG,s0,s1,s2,mL,hfr⟩:=jT.out.so.at_ k7;subst PG;obtain⟨tp,zz,ti,F⟩:=t;dsimp only at hfl s0 s1 s2 mL hfr;obtain⟨fn,hfn⟩:∃n,F.length=n:=⟨_,rfl⟩;rw [hfn]at hfl mL hfr;have pQ:=af hfn;have hba:=Below.aA ak (.cells #[.int .i64 tp,.int .i64 zz,.bool ti,.slice fa fn nW] 206);have kx:Hid (aj (ak.alloc (.cells #[.int .i64 tp,.int .i64 zz,.bool ti,.slice fa fn nW] 206)) ak.heap.size 206 #[.int .i64 tp,.int .i64 zz,.bool ti,.slice fa fn nW]):=af (aj.new _ _ _);have jx:=af (cM.out.below hba);have wT:=af (jT.out.below hba);have jY:=af (hfr.below hba);clear hba hfr k7 cM jT hfn;go_upto_region 8 with(fail)
   clear s0 s1 s2 mL;obtain⟨Fp,Ir⟩:∃g,ak.heap.size=g:=⟨_,rfl⟩;rw [Ir]at kx⊢;clear Ir;generalize ak.alloc (.cells _ 206)=wa at*;have s1:wa.cell? ⟨Fp,1,none⟩=some (.int .i64 zz):=kx.out.cell 1;go_upto_region 9 with(fail)
   obtain⟨z2,dG⟩:∃y,wrap64 (z-zz)=y:=⟨_,rfl⟩;rw [dG];clear s1 dG;go_wp2_with fail
   go_loopw [5,11] (fun v j w'=>∃(m:Nat) (lD:List vh),j= .int .i64 m∧m≤fn∧nk.Row w' w.heap.size v lD∧lD.length≤1+k*1503+3*m∧wS W w w' pm ps p Q qB E aO c (.slice (some ⟨gt,0,none⟩) tn tc) T∧aj w' Fp 206 #[.int .i64 tp,.int .i64 zz,.bool ti,.slice fa fn nW]∧pg.Row w' w.heap.size (.slice fa fn nW) F) (fun _ j _=>fn-(RowKit.intOf j).toNat)
   case atStart=>exact⟨0,L,rfl,Nat.zero_le _,jx.out,by rw [Iq.out];exact cX.out,wT.out,kx.out,jY.out⟩
   case round=>
    clear jx wT kx jY;obtain⟨m,lD,rfl,hm,hrow,hlen,hI,hst,hF⟩:=hrel;obtain⟨wy,rfl⟩:∃bk:World,bk=wr:=⟨_,rfl⟩;obtain⟨q3,MM,hov⟩:=hrow.form;obtain⟨qn,hon⟩:∃n,lD.length=n:=⟨_,rfl⟩;rw [hon]at hov hlen;subst hov;have oc:=af hon;have vg:=af hlen;have zb:qn≤160000:=by have h1:k*1503≤100*1503:=Nat.mul_le_mul_right _ (by omega);omega
    clear hon hlen;by_cases Wc:m<fn
    ·have aiP:(m:Int)<(fn:Int):=by omega
     obtain⟨f,Bd⟩:∃f,F[m]? =some f:=⟨_,List.getElem?_eq_getElem (by rw [pQ.out];exact Wc)⟩;obtain⟨Db,aiQ,e1,_,hc⟩:=hF.at_ m f Bd;injection e1 with e1 e2 bE;clear e2;subst e1;subst bE;obtain⟨f0,f1,f2,f3,f4,f5⟩:=f;have d0:wy.cell? ⟨Db,m*6,none⟩=some (.int .i64 f0):=hc 0 _ rfl;have d1:wy.cell? ⟨Db,m*6+1,none⟩=some (.int .i64 f1):=hc 1 _ rfl;have d2:wy.cell? ⟨Db,m*6+2,none⟩=some (.int .i64 f2):=hc 2 _ rfl;have d3:wy.cell? ⟨Db,m*6+3,none⟩=some (.int .i64 f3):=hc 3 _ rfl;have d4:wy.cell? ⟨Db,m*6+4,none⟩=some (.int .i64 f4):=hc 4 _ rfl;have d5:wy.cell? ⟨Db,m*6+5,none⟩=some (.int .i64 f5):=hc 5 _ rfl;have mL:wy.cell? ⟨Fp,3,none⟩=some (.slice (some ⟨Db,0,none⟩) fn nW):=hst.cell 3;have hba:=Below.aA wy (.cells #[.int .i64 f0,.int .i64 f1,.int .i64 f2,.int .i64 f3,.int .i64 f4,.int .i64 f5] 208);have vk:Hid (aj (wy.alloc (.cells #[.int .i64 f0,.int .i64 f1,.int .i64 f2,.int .i64 f3,.int .i64 f4,.int .i64 f5] 208)) wy.heap.size 208 #[.int .i64 f0,.int .i64 f1,.int .i64 f2,.int .i64 f3,.int .i64 f4,.int .i64 f5]):=af (aj.new _ _ _);have nM:=af (hrow.below hba);have wU:=af (hI.below hba);have uA:=af (hst.below hba);have yo:=af (hF.below hba);clear hba hc Bd hrow hI hst hF;go_upto_region 13 with(fail)
     clear d0 d1 d2 d3 d4 d5 mL;obtain⟨aiR,Wd⟩:∃g,wy.heap.size=g:=⟨_,rfl⟩;rw [Wd]at vk⊢;clear Wd;generalize wy.alloc (.cells _ 208)=wb at*;have d0:=vk.out.cell 0;have d1:=vk.out.cell 1;have d2:=vk.out.cell 2;have d3:=vk.out.cell 3;have d4:=vk.out.cell 4;have d5:=vk.out.cell 5;have a2:wb.cell? ⟨aO,2,none⟩=some (.int .i64 c.inst):=wU.out.g.cell 2;have s0:=uA.out.cell 0;have s1:=uA.out.cell 1;have s2:=uA.out.cell 2;have mL:=uA.out.cell 3;have uf:=wU.out.told yo.out pQ.out (by omega) c.inst tp zz ti 3 f0 f1 f2 f3 f4 f5 0;go_wp2_with fail
     refine uf.mono ?_;rintro e wc ⟨v9,M,rfl,Dc,hml,fR⟩;have fL:=af (nM.out.below fR);have yl:=af (wU.out.below fR);have Dd:=af (uA.out.below fR);have Iu:=af (yo.out.below fR);have iI:=af hml;obtain⟨ma,mc,hmv,Iv,Iw⟩:=Dc.rd
     have Ix:∀ad,ma=some ad→∃b off,ad=⟨b,off,none⟩:=fun ad h=>by
      obtain⟨a9,kT,dU,h9,_⟩:=Dc.sl;rw [hmv]at dU;injection dU with dU;exact h9.2.1 ad (by rw [←dU];exact h)
     subst hmv;have Iy:=af Iw;have Iz:=af Iv;have rA:=af Ix;clear a2 s0 s1 s2 mL d0 d1 d2 d3 d4 d5 Dc hml fR uf Iv Iw Ix nM wU uA yo
     go_wp2_with (first
      |(at_builtin;go_loud (refine nk.vN rfl (.tmp 71) (.tmp 89) rfl w.heap.size (.slice q3 qn MM) lD rfl fL.out ma mc M rfl Iz.out Iy.out rA.out (by rw [oc.out];have:=iI.out;omega) yl.out.k.size ?_)))
     intro v' aK bO cB ez;have fS:=fe cB;have bI:=dR fL.out;have dO:=cx fL.out;have Fq:=af (yl.out.grown fS bI PD.out dO);have Wf:=af (Dd.out.keeps fS (fun e=>Dd.out.aC.ne (bI _ e) (by decide) rfl));have Fs:=af (Iu.out.keep fS (fun g hg e=>hg.ne (bI _ e) (by decide) rfl));have ld:=af bO;clear bO cB ez fS bI dO fL yl Dd Iu Iy Iz rA;go_wp2_with fail
     go_roundw
     case rel=>exact⟨m+1,_,by go_num,Wc,ld.out,by rw [List.length_append,oc.out];have h1:=iI.out;have h2:=vg.out;omega,Fq.out,Wf.out,Fs.out⟩
     case measure=>simp [RowKit.intOf];omega
    ·have adP:m=fn:=by omega
     subst adP;have nM:=af hrow;have wU:=af hI;have uA:=af hst;have yo:=af hF;have mL:wy.cell? ⟨Fp,3,none⟩=some (.slice fa m nW):=hst.cell 3;clear hrow hI hst hF;go_upto_region 14 with(fail)
     clear mL;obtain⟨wb,rfl⟩:∃bk:World,bk=wy:=⟨_,rfl⟩;have d1:wb.cell? ⟨aO,1,none⟩=some (.int .i64 c.id):=wU.out.g.cell 1;have d3:wb.cell? ⟨aO,3,none⟩=some (.int .i64 c.side):=wU.out.g.cell 3;have a2:wb.cell? ⟨aO,2,none⟩=some (.int .i64 c.inst):=wU.out.g.cell 2;have s0:=uA.out.cell 0;have s1:=uA.out.cell 1;have s2:=uA.out.cell 2;have mL:=uA.out.cell 3;have uf:=wU.out.told yo.out pQ.out (by omega) c.inst tp zz ti 3 c.id c.inst c.side tp zz z2 0;go_wp2_with fail
     refine uf.mono ?_;rintro e wc ⟨v9,M,rfl,Dc,hml,fR⟩;have fL:=af (nM.out.below fR);have yl:=af (wU.out.below fR);have Dd:=af (uA.out.below fR);have Iu:=af (yo.out.below fR);have iI:=af hml;obtain⟨ma,mc,hmv,Iv,Iw⟩:=Dc.rd
     have Ix:∀ad,ma=some ad→∃b off,ad=⟨b,off,none⟩:=fun ad h=>by
      obtain⟨a9,kT,dU,h9,_⟩:=Dc.sl;rw [hmv]at dU;injection dU with dU;exact h9.2.1 ad (by rw [←dU];exact h)
     subst hmv;have Iy:=af Iw;have Iz:=af Iv;have rA:=af Ix;clear a2 s0 s1 s2 mL d1 d3 Dc hml fR uf Iv Iw Ix nM wU uA yo
     go_wp2_with (first
      |(at_builtin;go_loud (refine nk.vN rfl (.tmp 91) (.tmp 108) rfl w.heap.size (.slice q3 qn MM) lD rfl fL.out ma mc M rfl Iz.out Iy.out rA.out (by rw [oc.out];have:=iI.out;omega) yl.out.k.size ?_)))
     intro v' aK bO cB ez;have fS:=fe cB;have bI:=dR fL.out;have dO:=cx fL.out;have Fq:=af (yl.out.grown fS bI PD.out dO);have Wf:=af (Dd.out.keeps fS (fun e=>Dd.out.aC.ne (bI _ e) (by decide) rfl));have Fs:=af (Iu.out.keep fS (fun g hg e=>hg.ne (bI _ e) (by decide) rfl));have ld:=af bO;clear bO cB ez fS bI dO fL yl Dd Iu Iy Iz rA;go_wp2_with fail
     go_roundw
     case rel=>exact⟨k+1,z2,_,by go_num,hlt,rfl,ld.out,by rw [List.length_append,oc.out];have h1:=iI.out;have h2:=vg.out;omega,Fq.out⟩
     case measure=>simp [RowKit.intOf];omega
  ·have hkn:¬(k:Int)<(tn:Int):=by omega
   have De:Hid (on≤150301):=af (by have h1:k*1503≤100*1503:=Nat.mul_le_mul_right _ (by omega);have:=cX.out;omega);have a7:ak.cell? ⟨aO,7,none⟩=some (.int .i64 c.time):=jT.out.g.cell 7;by_cases hlf:0<ql
   ·by_cases tP:c.time=1
    ·have jw:(c.time==1)=true:=by rw [tP];rfl
     have oW:(c.time !=1)=false:=by rw [tP];rfl
     rw [if_pos ⟨hlf,tP⟩]at b9;clear tP;go_upto_region 16 with(fail)
     clear a7;have hd:=(Below.refl ak.heap.size ak).drew;have wV:=af (jT.out.below hd);have gA:=af (cM.out.below hd);clear hd jT cM
     have dg:ak.drew.cell? ⟨pm,11,none⟩=some (.pointer (some ⟨ps,0,none⟩)):=by
      obtain⟨_,_,h1,_⟩:=wV.out.gi.box;exact h1.cell 11
     have a1:ak.drew.cell? ⟨aO,1,none⟩=some (.int .i64 c.id):=wV.out.g.cell 1;have a2:ak.drew.cell? ⟨aO,2,none⟩=some (.int .i64 i):=by rw [←Gt.out];exact wV.out.g.cell 2
     have a3:ak.drew.cell? ⟨aO,3,none⟩=some (.int .i64 c.side):=wV.out.g.cell 3;have a4:ak.drew.cell? ⟨aO,4,none⟩=some (.int .i64 c.ag):=wV.out.g.cell 4;refine cF (S:=fun w'=>w'.cell? ⟨pm,11,none⟩=some (.pointer (some ⟨ps,0,none⟩))∧w'.cell? ⟨aO,1,none⟩=some (.int .i64 c.id)∧w'.cell? ⟨aO,2,none⟩=some (.int .i64 i)∧w'.cell? ⟨aO,3,none⟩=some (.int .i64 c.side)∧w'.cell? ⟨aO,4,none⟩=some (.int .i64 c.ag)) (by kernel_rfl) ⟨dg,a1,a2,a3,a4⟩ (fun hHeld=>?_);refine ai 0 ?_;refine ai 1 ?_;refine ai 2 ?_;refine ai 3 ?_;refine ai 4 ?_;refine ai 5 ?_;refine ai 6 ?_;refine ai 7 ?_;refine ai 8 ?_;refine ai 9 ?_;refine ai 10 ?_;refine ai 11 ?_;refine ai 12 ?_;clear dg a1 a2 a3 a4;generalize ak.drew=wd at*;have LO:=kV.out.1;have had:=adQ wV.out.gi.bZ (by have:=LO.le;omega) (fun L hL=>(LO.each L hL).len) (M5 LO) (i:=i) (by rw [LO.len,←aq.out.len];exact adM.out) c.id c.side c.ag ql;refine cO 13 fun K hK=>?_;go_simp;go_at_call 113
     refine had.mono ?_;rintro e fy ⟨rfl,hsb,wW⟩;refine hK.out _ _ ?_;clear hK K had;have PI:∀g,g∈Q→bV wd g 181:=fun g hg=>(wV.out.gi.bZ.ow hg).1;have K1:=af (wV.out.gi.turn hsb wW);have E5:Hid (aD (fun g=>g∈Q) w fy):=af (wV.out.k.trans wW);have zg:=af (gA.out.keep wW (fun g hg e=>hg.ne (PI _ e) (by decide) rfl));have a7:fy.cell? ⟨aO,7,none⟩=some (.int .i64 c.time):=(wV.out.g.keeps wW (fun e=>wV.out.g.aC.ne (PI _ e) (by decide) rfl)).cell 7;clear hsb wW PI hHeld;go_wp2_with fail
     go_ret;exact⟨_,rfl,L,zg.out,by rw [Iq.out];have:=De.out;omega,by rw [b9.out];exact K1.out,E5.out⟩
    ·have jw:(c.time==1)=false:=by rw [beq_eq_false_iff_ne];exact tP
     have oW:(c.time !=1)=true:=by rw [bne_iff_ne];exact tP
     rw [if_neg (fun hh=>tP hh.2)]at b9;clear tP;have a1:ak.cell? ⟨aO,1,none⟩=some (.int .i64 c.id):=jT.out.g.cell 1;have a2:ak.cell? ⟨aO,2,none⟩=some (.int .i64 c.inst):=jT.out.g.cell 2;have a3:ak.cell? ⟨aO,3,none⟩=some (.int .i64 c.side):=jT.out.g.cell 3;have a4:ak.cell? ⟨aO,4,none⟩=some (.int .i64 c.ag):=jT.out.g.cell 4;have hba:=Below.aA ak (.cells #[.int .i64 4,.int .i64 c.id,.int .i64 c.inst,.int .i64 c.side,.int .i64 c.ag,.int .i64 ql,.int .i64 0,.int .i64 0] 143);have HN:Hid (aj (ak.alloc (.cells #[.int .i64 4,.int .i64 c.id,.int .i64 c.inst,.int .i64 c.side,.int .i64 c.ag,.int .i64 ql,.int .i64 0,.int .i64 0] 143)) ak.heap.size 143 (⟨4,c.id,c.inst,c.side,c.ag,ql,0,0⟩:vh).cells.toArray):=af (aj.new _ _ _);have jx:=af (cM.out.below hba);have wT:=af (jT.out.below hba);clear hba cM jT
     go_wp2_with (first
      |(at_builtin;go_loud (refine nk.push rfl (.tmp 138) (.tmp 149) rfl w.heap.size _ L rfl jx.out ak.heap.size ⟨4,c.id,c.inst,c.side,c.ag,ql,0,0⟩ rfl HN.out.lt HN.out.fU (by rw [Iq.out];have:=De.out;omega) wT.out.k.size ?_)))
     intro v' aK bO cB ez;have fS:=fe cB;have bI:=dR jx.out;have dO:=cx jx.out;have Fq:=af (wT.out.grown fS bI PD.out dO);have ld:=af bO;clear bO cB ez fS bI dO jx wT a1 a2 a3 a4 a7 HN;go_wp2_with fail
     go_ret;exact⟨_,_,rfl,ld.out,by rw [List.length_append,Iq.out];have:=De.out;simp only [List.length_cons,List.length_nil];omega,by rw [b9.out];exact Fq.out.gi,Fq.out.k⟩
   ·rw [if_neg (fun hh=>hlf hh.1)]at b9
    go_wp2_with fail
    go_ret;exact⟨_,rfl,L,cM.out,by rw [Iq.out];have:=De.out;omega,by rw [b9.out];exact jT.out.gi,jT.out.k⟩
end
section
variable {W w w':World} {pm ps pb:Nat} {p:Prod} {Q:List Nat} {S S':List (List ay)} {E:List Int}
theorem aao (h:ed W w pm ps p Q S E) (hl:E.length≤100000) (id:Int):
 Calls Tryz.prog 104 #[.pointer (some ⟨pm,0,none⟩),.int .i64 id] w fun e w'=>e= .returned (.bool (E.any (fun x=>x==id)))∧w=w':=by
 obtain⟨a,c,hb,hr⟩:=h.box;obtain⟨n,hn⟩:∃n,E.length=n:=⟨_,rfl⟩;rw [hn]at hb hr;have cM:=af hr;have HN:=af hn;have hnb:n≤100000:=by omega
 have M9:w.cell? ⟨pm,12,none⟩=some (.slice a n c):=hb.cell 12;obtain⟨bb,aJ⟩:∃b,E.any (fun x=>x==id)=b:=⟨_,rfl⟩;rw [aJ];have bu:=af aJ;clear h hb hr hn hl aJ;go_enter Tryz.func104,Tryz.ntmps104
 go_wp2_with fail
 go_loopw [5] (fun i w'=>∃k:Nat,i= .int .i64 k∧k≤n∧(E.take k).any (fun x=>x==id)=false∧w=w') (fun i _=>n-(RowKit.intOf i).toNat)
 case atStart=>exact⟨0,rfl,Nat.zero_le _,rfl,rfl⟩
 case round=>
  obtain⟨k,rfl,hk,JA,rfl⟩:=hrel;have cG:=af JA;clear JA;by_cases hlt:k<n
  ·have hlt':(k:Int)<(n:Int):=by omega
   obtain⟨x,hx⟩:∃x,E[k]? =some x:=⟨_,List.getElem?_eq_getElem (by rw [HN.out];exact hlt)⟩;obtain⟨b,off,rfl,c0⟩:=pT cM.out.sl hx;have bK:=af (YB (f:=fun x=>x==id) hx);have bA:=af hx;clear hx;by_cases he:x=id
   ·have he':(x==id)=true:=by rw [he];exact beq_self_eq_true _
    have bD:Hid (bb=true):=af (by rw [←bu.out,List.any_eq_true];exact⟨x,List.mem_of_getElem? bA.out,he'⟩);clear he;go_wp2_with fail
    go_ret;exact⟨by rw [bD.out];rfl,by trivial⟩
   ·have he':(x==id)=false:=by rw [beq_eq_false_iff_ne];exact he
    rw [he',cG.out]at bK;go_wp2_with fail
    go_roundw
    case rel=>exact⟨k+1,by go_num,hlt,by rw [bK.out];rfl,by trivial⟩
    case measure=>simp [RowKit.intOf];omega
  ·have hkn:k=n:=by omega
   have bD:Hid (bb=false):=af (by have:=cG.out;rw [hkn,←HN.out,List.take_length]at this;rw [←bu.out];exact this);clear hkn;go_wp2_with fail
   go_ret;exact⟨by rw [bD.out];rfl,by trivial⟩
def xj (w:World) (pm g:Nat):Prop:=∃a n c,w.cell? ⟨pm,12,none⟩=some (.slice a n c)∧(Value.slice a n c).ownBlock=some g
structure fQ (W w w':World) (pm ps:Nat) (p:Prod) (Q:List Nat) (S:List (List ay)) (E:List Int):Prop where
 gi:ed W w' pm ps p Q S E
 k:aD (fun g=>g∈Q∨g=pm∨xj w pm g) w w'
 o:∀g,xj w' pm g→xj w pm g∨w.heap.size≤g
theorem ed.aC (h:ed W w pm ps p Q S E):bV w pm 76:=by
 obtain⟨a,c,h1,_⟩:=h.box;exact h1.aC
theorem ed.q9 (h:ed W w pm ps p Q S E) {g:Nat} (hg:xj w pm g):bV w g 2∧W.heap.size≤g:=by
 obtain⟨a,c,h1,h2⟩:=h.box;obtain⟨a',n',c',h3,h4⟩:=hg;rw [h1.cell 12]at h3;injection h3 with h3;rw [←h3]at h4;exact⟨dR h2 g h4,cx h2 g h4⟩
theorem fQ.qi (h:ed W w pm ps p Q S E) {mI:List (List ay)} (h2:ed W w' pm ps p Q mI E) (hk:aD (fun g=>g∈Q) w w'):fQ W w w' pm ps p Q mI E:=by
 refine⟨h2,hk.more fun g hg=> .inl hg,fun g hg=> .inl ?_⟩;obtain⟨a,c,h1,_⟩:=h.box;have hq:∀g,g∈Q→bV w g 181:=fun g hg=>(h.bZ.ow hg).1;have h3:=h1.keeps hk (fun e=>h1.aC.ne (hq _ e) (by decide) rfl);obtain⟨a',n',c',h4,h5⟩:=hg;rw [h3.cell 12]at h4;exact⟨a',n',c',by rw [h1.cell 12];exact h4,h5⟩
theorem fQ.below (h:fQ W w w' pm ps p Q S E) {w2:World} (hb:Below w'.heap.size w' w2):fQ W w w2 pm ps p Q S E:=by
 refine⟨h.gi.below hb,h.k.trans (Below.keeps hb),fun g hg=>h.o g ?_⟩;obtain⟨a,n,c,h1,h2⟩:=hg;have h3:w2.cell? ⟨pm,12,none⟩=w'.cell? ⟨pm,12,none⟩:=hb.cell (p:=⟨pm,12,none⟩) h.gi.aC.lt;exact⟨a,n,c,by rw [←h3];exact h1,h2⟩
theorem fQ.trans {mI:List (List ay)} {Zp:List Int} {w1 w2:World} (h:fQ W w w1 pm ps p Q S E) (h2:fQ W w1 w2 pm ps p Q mI Zp) (hb:w.heap.size≤w1.heap.size):fQ W w w2 pm ps p Q mI Zp:=by
 refine⟨h2.gi,h.k.step h2.k (fun x hx e=>?_),fun g hg=>?_⟩
 ·rcases e with e|e|e
  ·exact .inl e
  ·exact .inr (.inl e)
  ·rcases h.o x e with h3|h3
   ·exact .inr (.inr h3)
   ·omega
 ·rcases h2.o g hg with h3|h3
  ·exact h.o g h3
  ·exact .inr (by omega)
theorem fQ.more {au:World} {a:Option Addr} {c:Nat} {v':Value} {E':List Int} (hm:ed W w pm ps p Q S E) (aP:aj w pm 76 (Fu p ps (.slice a E.length c))) (yV:eJ.Row w W.heap.size (.slice a E.length c) E) {w1:World} (hb1:Below w.heap.size w w1)
 (hr:eJ.Row au W.heap.size v' E') (hg:w1.grownBy au (Value.slice a E.length c).ownBlock) (ho:v'.ownBlock=(Value.slice a E.length c).ownBlock∨v'.ownBlock=some w1.heap.size):
 fQ W w (au.setCell ⟨pm,12,none⟩ v') pm ps p Q S E'∧au.cell? ⟨pm,12,none⟩=some (.slice a E.length c)∧au.frozen? ⟨pm,12,none⟩=false:=by
 have hk:=fe hg;have Jk:=hm.below hb1;have Jv:=aP.below hb1;have yz:=yV.below hb1;have bI:=dR yz;have dO:=cx yz;have hne:∀{g:Nat} {t':TypeId},bV w1 g t'→2≠t'→¬(Value.slice a E.length c).ownBlock=some g:=fun hg hn e=>hg.ne (bI _ e) (Ne.symm hn) rfl;have vC:=Jv.keeps hk (hne Jv.aC (by decide));have ahG:=Jk.bZ.pR hk bI (Nat.le_refl _) dO;have iJ:=bS au pm 12 v';obtain⟨a',c',dl⟩:=hr.form;have By:=vC.aQ 12 v';have ahH:=ahG.pR (t:=76) (B:=W.heap.size) iJ (fun g e=>by have e2:g=pm:=e;rw [e2];exact vC.aC) (Nat.le_refl _) (fun g e=>by have e2:g=pm:=e;rw [e2];exact hm.base) (by decide);have bO:=hr.keep iJ (fun g hg e=>hg.ne vC.aC (by decide) e);unfold Fu at By;simp only [List.setIfInBounds_toArray,List.set_cons_zero,List.set_cons_succ]at By;have hcell:(au.setCell ⟨pm,12,none⟩ v').cell? ⟨pm,12,none⟩=some v':=By.cell 12;refine⟨⟨⟨⟨a',c',?_,?_⟩,ahH,hm.base⟩,?_,fun g nR=>?_⟩,vC.cell 12,vC.frozen 12⟩
 ·rw [←dl];exact By
 ·rw [←dl];exact bO
 ·refine(((Below.keeps hb1).step hk (fun x hx e=>?_)).step iJ (fun x hx e=>?_))
  ·exact .inr (.inr ⟨a,E.length,c,aP.cell 12,e⟩)
  ·exact .inr (.inl e)
 ·obtain⟨a2,n2,c2,h3,h4⟩:=nR
  rw [hcell]at h3;injection h3 with h3;rw [←h3]at h4;rcases ho with ho|ho
  ·exact .inl ⟨a,E.length,c,aP.cell 12,by rw [←ho];exact h4⟩
  ·rw [ho]at h4
   injection h4 with h4;exact .inr (by rw [←h4];exact hb1.size)
end
end Go.Proofs.YtmaijkoopjocdaaGreat
