import Derived.Test.YtmaijkoopjocdaaGreatKT14
set_option maxRecDepth 100000
set_option maxHeartbeats 64000000
namespace Go.Proofs.YtmaijkoopjocdaaGreat
open Go.RowKit Go.Lib
structure fq (W w:World) (pv n:Nat) (hv:Value) (s:jn):Prop where
 box:∃(a:Option Addr) (c:Nat),aj w pv 90 #[.int .i64 n,.slice a s.V.length c,.int .i64 s.seq,hv]∧cl ei bL w W.heap.size (.slice a s.V.length c) s.V
 held:gb.Row w W.heap.size hv s.H
 base:W.heap.size≤pv
 aF:Below W.heap.size W w
def yf (pv:Nat) (hv:Value) (g:Nat):Prop:=g=pv∨hv.ownBlock=some g
section
variable {W w w':World} {pv n:Nat} {hv:Value} {s:jn}
theorem fq.keep {F:Nat→Prop} (h:fq W w pv n hv s) (hk:aD F w w') (hp:¬F pv) (hh:∀g,hv.ownBlock=some g→¬F g) (hy:∀g,bV w g ei.t→¬F g) (hz:∀g,bV w g bL.t→¬F g) (hF:∀g,F g→W.heap.size≤g):fq W w' pv n hv s:=by
 obtain⟨⟨a,c,h1,h2⟩,h3,h4,h5⟩:=h;exact⟨⟨a,c,h1.keeps hk hp,h2.keep hk hy hz⟩,h3.zk hk hh,h4,h5.trans (hk.below hF h5.size)⟩
theorem fq.below (h:fq W w pv n hv s) (hb:Below w.heap.size w w'):fq W w' pv n hv s:=
 h.keep (F:=fun _=>False) (Below.keeps hb) (fun x=>x) (fun _ _ x=>x) (fun _ _ x=>x) (fun _ _ x=>x) (fun _ x=>x.elim)
theorem fq.Xq (h:fq W w pv n hv s) (q:Int):fq W (w.setCell ⟨pv,2,none⟩ (.int .i64 q)) pv n hv ⟨s.V,q,s.H⟩:=by
 obtain⟨⟨a,c,h1,h2⟩,h3,h4,h5⟩:=h;have hk:=bS w pv 2 (.int .i64 q);have hb:=h1.aQ 2 (.int .i64 q);simp only [List.setIfInBounds_toArray,List.set_cons_zero,List.set_cons_succ]at hb;exact⟨⟨a,c,hb,h2.keep hk (fun g hg e=>hg.ne h1.aC (by decide) e) (fun g hg e=>hg.ne h1.aC (by decide) e)⟩,h3.keep hk (fun g hg e=>hg.ne h1.aC (by decide) e),h4,h5.setCell (p:=⟨pv,2,none⟩) h4 _⟩
theorem fq.Xr {V:bP} {a:Option Addr} {c:Nat} (h:fq W w pv n hv s) (jq:cl ei bL w W.heap.size (.slice a V.length c) V):fq W (w.setCell ⟨pv,1,none⟩ (.slice a V.length c)) pv n hv ⟨V,s.seq,s.H⟩:=by
 obtain⟨⟨a0,c0,h1,h2⟩,h3,h4,h5⟩:=h;have hk:=bS w pv 1 (.slice a V.length c);have hb:=h1.aQ 1 (.slice a V.length c);simp only [List.setIfInBounds_toArray,List.set_cons_zero,List.set_cons_succ]at hb;exact⟨⟨a,c,hb,jq.keep hk (fun g hg e=>hg.ne h1.aC (by decide) e) (fun g hg e=>hg.ne h1.aC (by decide) e)⟩,h3.keep hk (fun g hg e=>hg.ne h1.aC (by decide) e),h4,h5.setCell (p:=⟨pv,1,none⟩) h4 _⟩
theorem fq.OG {H:List aB} {dl:Value} (h:fq W w pv n hv s) (hr:gb.Row w W.heap.size dl H):fq W (w.setCell ⟨pv,3,none⟩ dl) pv n dl ⟨s.V,s.seq,H⟩:=by
 obtain⟨⟨a,c,h1,h2⟩,h3,h4,h5⟩:=h;have hk:=bS w pv 3 dl;have hb:=h1.aQ 3 dl;simp only [List.setIfInBounds_toArray,List.set_cons_zero,List.set_cons_succ]at hb;exact⟨⟨a,c,hb,h2.keep hk (fun g hg e=>hg.ne h1.aC (by decide) e) (fun g hg e=>hg.ne h1.aC (by decide) e)⟩,hr.keep hk (fun g hg e=>hg.ne h1.aC (by decide) e),h4,h5.setCell (p:=⟨pv,3,none⟩) h4 _⟩
theorem fq.ahw {H:List aB} {dl:Value} (h:fq W w pv n hv s) (hk:aD (fun g=>hv.ownBlock=some g) w w') (hr:gb.Row w' W.heap.size dl H):fq W (w'.setCell ⟨pv,3,none⟩ dl) pv n dl ⟨s.V,s.seq,H⟩:=by
 obtain⟨⟨a,c,h1,h2⟩,h3,h4,h5⟩:=h;have ht:∀g,hv.ownBlock=some g→bV w g gb.t:=dR h3;have hb1:=h1.keeps hk (fun e=>(ht pv e).ne h1.aC (by decide) rfl);have hv1:=h2.keep hk (fun g hg e=>hg.ne (ht g e) (by decide) rfl) (fun g hg e=>hg.ne (ht g e) (by decide) rfl);have nI:=bS w' pv 3 dl;have hb:=hb1.aQ 3 dl;simp only [List.setIfInBounds_toArray,List.set_cons_zero,List.set_cons_succ]at hb;exact⟨⟨a,c,hb,hv1.keep nI (fun g hg e=>hg.ne hb1.aC (by decide) e) (fun g hg e=>hg.ne hb1.aC (by decide) e)⟩,hr.keep nI (fun g hg e=>hg.ne hb1.aC (by decide) e),h4,(h5.trans (hk.below (cx h3) h5.size)).setCell (p:=⟨pv,3,none⟩) h4 _⟩
theorem UJ (h:fq W w pv n hv s) (hl:s.V.length≤255) {K:Nat} (hK:g7 s.V K) (nc:K≤800000) (nh:yO s.V) {m:aB} (hf:yP s.V.length m):
 Calls Tryz.prog 39 #[.pointer (some ⟨pv,0,none⟩),m.agg] w fun e w'=>e= .returned (.tuple #[])∧fq W w' pv n hv ⟨fO m s.V,m.seq,s.H⟩∧aD (fun g=>g=pv) w w':=by
 have hba:=Below.aA w (.cells m.cells.toArray 86);have c4:aj (w.alloc (.cells m.cells.toArray 86)) w.heap.size 86 m.cells.toArray:=aj.new _ _ _;have cP:=af hba;have H1:=af (h.below hba);have b7:=af c4;obtain⟨⟨a,c,hb,fh⟩,_,_,_⟩:=h.below hba;have kR:=af (Z9 (fh.below (Below.bT _ 1)) hl hK nc nh hf);have oL:Hid ((fO m s.V).length=s.V.length):=af (A2 m s.V);have c1:=hb.cell 1;have aE:=af hb;have ahU:=h.aF;have kZ:=af h.base;have kJ:=af h.aF;clear hba c4 hb fh h hf nh hK ahU;unfold aB.cells at cP H1 b7 kR aE c1;unfold aB.agg at kR⊢;go_enter Tryz.func39,Tryz.ntmps39
 go_upto_region 1 with(fail)
 obtain⟨ap,c4⟩:∃ap,w.heap.size=ap:=⟨_,rfl⟩;have bB:=af (Nat.le_of_eq c4);rw [c4]at b7⊢;obtain⟨w1,hw1⟩:∃w1,w.alloc (.cells #[.int .i64 m.seq,.int .i64 m.inst,.int .i64 m.side,.int .i64 m.ag,.int .i64 m.ah,.int .i64 m.count,.bool m.imp] 86)=w1:=⟨_,rfl⟩;rw [hw1]at cP H1 b7 kR aE c1⊢;clear c4 hw1;go_cut [12] (fun _ wx=>fq W wx pv n hv ⟨fO m s.V,s.seq,s.H⟩∧aj wx ap 86 #[.int .i64 m.seq,.int .i64 m.inst,.int .i64 m.side,.int .i64 m.ag,.int .i64 m.ah,.int .i64 m.count,.bool m.imp]∧aD (fun g=>g=pv) w wx)
 case first=>
  have m0:w1.cell? ⟨ap,0,none⟩=some (.int .i64 m.seq):=b7.out.cell 0;have m1:w1.cell? ⟨ap,1,none⟩=some (.int .i64 m.inst):=b7.out.cell 1;have m2:w1.cell? ⟨ap,2,none⟩=some (.int .i64 m.side):=b7.out.cell 2;have eH:w1.cell? ⟨ap,3,none⟩=some (.int .i64 m.ag):=b7.out.cell 3;have dQ:w1.cell? ⟨ap,4,none⟩=some (.int .i64 m.ah):=b7.out.cell 4;have eP:w1.cell? ⟨ap,5,none⟩=some (.int .i64 m.count):=b7.out.cell 5;have dH:w1.cell? ⟨ap,6,none⟩=some (.bool m.imp):=b7.out.cell 6;have b1:w1.cell? ⟨pv,1,none⟩=some (.slice a s.V.length c):=c1
  have tY:Hid (∀(w2:World) (a2:Option Addr) (c2:Nat),cl ei bL w2 w1.heap.size (.slice a2 (fO m s.V).length c2) (fO m s.V)→Below w1.heap.size w1 w2→fq W (w2.setCell ⟨pv,1,none⟩ (.slice a2 (fO m s.V).length c2)) pv n hv ⟨fO m s.V,s.seq,s.H⟩∧aj (w2.setCell ⟨pv,1,none⟩ (.slice a2 (fO m s.V).length c2)) ap 86 #[.int .i64 m.seq,.int .i64 m.inst,.int .i64 m.side,.int .i64 m.ag,.int .i64 m.ah,.int .i64 m.count,.bool m.imp]∧aD (fun g=>g=pv) w (w2.setCell ⟨pv,1,none⟩ (.slice a2 (fO m s.V).length c2))∧w2.cell? ⟨pv,1,none⟩=some (.slice a s.V.length c)∧w2.frozen? ⟨pv,1,none⟩=false):=af (by
   intro w2 a2 c2 fh hb;have hb2:=aE.out.below hb;refine⟨(H1.out.below hb).Xr (fh.base H1.out.aF.size),(b7.out.below hb).cm (p:=⟨pv,1,none⟩) ((b7.out.below hb).aC.ne hb2.aC (by decide)) _,((Below.keeps (cP.out.trans (hb.mono cP.out.size))).trans (bS w2 pv 1 _)),hb2.cell 1,hb2.frozen 1⟩)
  refine cF (S:=fun _=>True) (by kernel_rfl) True.intro (fun hHeld=>?_);refine ai 0 ?_;refine ai 1 ?_;refine ai 2 ?_;refine ai 3 ?_;refine jW 4 5 (fun K hK=>?_) fun K hK=>?_
  ·go_simp
   refine hK.out _ _ True.intro (fun hHeld=>?_);clear hK K;refine aR 5 fun K hK=>?_;go_simp;refine hK.out _ _ True.intro (fun hHeld=>?_);clear hK K;refine aR 6 fun K hK=>?_;go_simp;refine kR.out.mono ?_;rintro e w2 ⟨v',rfl,fh,hb⟩;obtain⟨a2,c2,rfl⟩:=fh.form;have hb2:Below w1.heap.size w1 w2:=(Below.bT w1 1).trans hb;obtain⟨zB,zC,JY,k1,pH⟩:=tY.out w2 a2 c2 fh hb2;have dV:=af zB;have j5:=af zC;have qX:=af JY;refine hK.out _ _ True.intro (fun hHeld=>?_);clear hK K fh hb hb2 zB zC JY kR;refine ai 7 ?_;refine ai 8 ?_;refine ai 10 ?_;refine ai 11 ?_;refine jW 9 12 (fun K hK=>?_) fun K hK=>?_
   ·go_simp
    refine hK.out _ _ True.intro (fun hHeld=>?_);clear hK K;refine cO 12 fun K hK=>?_;go_simp;refine hK.out _ _ ?_;clear hK K hHeld k1 pH;go_wp2_with fail
    go_meet;exact⟨dV.out,j5.out,qX.out⟩
   ·go_simp
    refine hK.out _ _ True.intro (fun hHeld=>?_);clear hK K;refine cO 9 fun K hK=>?_;go_simp;refine hK.out _ _ ?_;clear hK K hHeld k1 pH;go_wp2_with fail
    go_meet;exact⟨dV.out,j5.out,qX.out⟩
  ·go_simp
   refine hK.out _ _ True.intro (fun hHeld=>?_);clear hK K;refine aR 4 fun K hK=>?_;go_simp;refine hK.out _ _ True.intro (fun hHeld=>?_);clear hK K;refine aR 6 fun K hK=>?_;go_simp;refine kR.out.mono ?_;rintro e w2 ⟨v',rfl,fh,hb⟩;obtain⟨a2,c2,rfl⟩:=fh.form;have hb2:Below w1.heap.size w1 w2:=(Below.bT w1 1).trans hb;obtain⟨zB,zC,JY,k1,pH⟩:=tY.out w2 a2 c2 fh hb2;have dV:=af zB;have j5:=af zC;have qX:=af JY;refine hK.out _ _ True.intro (fun hHeld=>?_);clear hK K fh hb hb2 zB zC JY kR;refine ai 7 ?_;refine ai 8 ?_;refine ai 10 ?_;refine ai 11 ?_;refine jW 9 12 (fun K hK=>?_) fun K hK=>?_
   ·go_simp
    refine hK.out _ _ True.intro (fun hHeld=>?_);clear hK K;refine cO 12 fun K hK=>?_;go_simp;refine hK.out _ _ ?_;clear hK K hHeld k1 pH;go_wp2_with fail
    go_meet;exact⟨dV.out,j5.out,qX.out⟩
   ·go_simp
    refine hK.out _ _ True.intro (fun hHeld=>?_);clear hK K;refine cO 9 fun K hK=>?_;go_simp;refine hK.out _ _ ?_;clear hK K hHeld k1 pH;go_wp2_with fail
    go_meet;exact⟨dV.out,j5.out,qX.out⟩
 case rest=>
 obtain⟨hv1,dz,cJ⟩:=hcut;obtain⟨wx,rfl⟩:∃bk:World,bk=wc:=⟨_,rfl⟩;obtain⟨a3,c3,aP,_⟩:=hv1.box;have m0:wx.cell? ⟨ap,0,none⟩=some (.int .i64 m.seq):=dz.cell 0;have k2:wx.cell? ⟨pv,2,none⟩=some (.int .i64 s.seq):=aP.cell 2;have pH:wx.frozen? ⟨pv,2,none⟩=false:=aP.frozen 2;have cn:=af (hv1.Xq m.seq);have eY:=af (cJ.trans (bS wx pv 2 (.int .i64 m.seq)));clear hv1 dz cJ aP kR H1 aE b7 cP c1;go_wp2_with fail
 go_end0
 exact⟨by trivial,cn.out,eY.out⟩
end
section
variable {W w w':World} {pv n:Nat} {hv:Value} {s:jn}
theorem UG {B g cap:Nat} {x:aB} {t:List aB} (h:gb.Row w B (.slice (some ⟨g,0,none⟩) (t.length+1) cap) (x::t)):
 gb.e8 w (.slice (if cap=1 then some (⟨g,0,none⟩:Addr)else some ⟨g,7,none⟩) t.length (cap-1)) t:=by
 obtain⟨a,c,he,ho,hrd⟩:=h.sl;injection he with e1 _ bE;subst e1;subst bE;have hc:t.length+1≤cap:=ho.2.2;refine⟨if cap=1 then some (⟨g,0,none⟩:Addr)else some ⟨g,7,none⟩,cap-1,rfl,⟨fun h=>(by split at h<;>cases h),fun ad h=>?_,by omega⟩,fun j e hj=>?_⟩
 ·split at h<;>(injection h with h;subst h;exact⟨_,_,rfl⟩)
 ·have hjl:=dc hj
  rw [if_neg (by omega)];obtain⟨b,off,h1,h2,h3⟩:=hrd (j+1) e hj;have e1:g=b∧0=off:=by injection h1 with h1;injection h1 with x y;exact⟨x,y⟩
  obtain⟨rfl,rfl⟩:=e1;refine⟨g,7,rfl,h2,?_⟩;rw [show 7+j*gb.m=0+(j+1)*gb.m by show 7+j*7=0+(j+1)*7;omega];exact h3
structure HK (W w wr:World) (pv n:Nat) (hv:Value) (s:jn) (k:Nat) (dl:Value) (V:bP) (q:Int) (H:List aB):Prop where
 uj:fq W wr pv n dl ⟨V,q,H⟩
 kK:aD (fun g=>g=pv) w wr
 own:∀g,dl.ownBlock=some g→hv.ownBlock=some g∨w.heap.size≤g
 eg:oB H V q=oB s.H s.V s.seq
 len:H.length≤k
 vl:V.length=s.V.length
 oq:yO V
 sz:∃j,g7 V j∧j+H.length≤700000
 HL:∀m∈H,zj s.V.length m
 q0:0≤q
 q1:q≤9223372036854775807
theorem HK.OD {wr wx:World} {k:Nat} {dl:Value} {V:bP} {q:Int} {H:List aB} (h:HK W w wr pv n hv s k dl V q H) (hb:Below wr.heap.size wr wx):HK W w wx pv n hv s k dl V q H:=
 ⟨h.uj.below hb,h.kK.trans (Below.keeps hb),h.own,h.eg,h.len,h.vl,h.oq,h.sz,h.HL,h.q0,h.q1⟩
theorem ach (h:fq W w pv n hv s) (hl:s.V.length≤255) (hsz:∃j,g7 s.V j∧j+s.H.length≤700000) (nh:yO s.V) (UH:∀m∈s.H,zj s.V.length m) (mG:0≤s.seq) (hq1:s.seq≤9223372036854775807):
 Calls Tryz.prog 40 #[.pointer (some ⟨pv,0,none⟩)] w fun e w'=>e= .returned (.tuple #[])∧∃dl,fq W w' pv n dl (oB s.H s.V s.seq)∧aD (fun g=>g=pv) w w'∧∀g,dl.ownBlock=some g→hv.ownBlock=some g∨w.heap.size≤g:=by
 have UI:Hid (HK W w w pv n hv s s.H.length hv s.V s.seq s.H):=af ⟨h,aD.refl _ _,fun g hg=> .inl hg,rfl,Nat.le_refl _,rfl,nh,hsz,UH,mG,hq1⟩;clear h hsz nh UH mG hq1;go_enter Tryz.func40,Tryz.ntmps40
 go_wp2_with fail
 go_loopg [] s.H.length (fun k wr=>∃(dl:Value) (V:bP) (q:Int) (H:List aB),HK W w wr pv n hv s k dl V q H)
 case atStart=>exact⟨_,_,_,_,UI.out⟩
 case round=>
  clear UI;obtain⟨hv1,V,q,H,hF⟩:=hrel;obtain⟨ak,rfl⟩:∃bk:World,bk=wr:=⟨_,rfl⟩;have dV:=af hF;obtain⟨a,c,aP,_⟩:=hF.uj.box;obtain⟨jC,ch,iN⟩:=hF.uj.held.form;subst iN;have jD:=af aP;have mG:=hF.q0;have hq1:=hF.q1;have k2:ak.cell? ⟨pv,2,none⟩=some (.int .i64 q):=aP.cell 2;cases H with
  |nil=>
   have e7:ak.cell? ⟨pv,3,none⟩=some (.slice jC 0 ch):=aP.cell 3;clear aP hF;go_wp2_with fail
   go_quiet (fail)
   go_wp2_with fail
   go_end0
   refine⟨by trivial,_,?_,dV.out.kK.trans (Below.keeps (Below.bT _ _)),dV.out.own⟩;rw [←dV.out.eg];exact dV.out.uj.below (Below.bT _ _)
  |cons m t=>
   have e7:ak.cell? ⟨pv,3,none⟩=some (.slice jC (t.length+1) ch):=aP.cell 3;obtain⟨g,cap,he,_,hcs⟩:=hF.uj.held.at_ 0 m rfl;injection he with ej _ fu;subst ej;subst fu
   have A1:gL ak g 0 [.int .i64 m.seq,.int .i64 m.inst,.int .i64 m.side,.int .i64 m.ag,.int .i64 m.ah,.int .i64 m.count,.bool m.imp]:=by
    have:gL ak g (0*gb.m) m.cells:=hcs
    rwa [Nat.zero_mul]at this
   have c0:ak.cell? ⟨g,0,none⟩=some (.int .i64 m.seq):=A1 0 _ rfl;have c1:ak.cell? ⟨g,1,none⟩=some (.int .i64 m.inst):=by simpa using A1 1 _ rfl
   have c2:ak.cell? ⟨g,2,none⟩=some (.int .i64 m.side):=by simpa using A1 2 _ rfl
   have c3:ak.cell? ⟨g,3,none⟩=some (.int .i64 m.ag):=by simpa using A1 3 _ rfl
   have dn:ak.cell? ⟨g,4,none⟩=some (.int .i64 m.ah):=by simpa using A1 4 _ rfl
   have cj:ak.cell? ⟨g,5,none⟩=some (.int .i64 m.count):=by simpa using A1 5 _ rfl
   have fE:ak.cell? ⟨g,6,none⟩=some (.bool m.imp):=by simpa using A1 6 _ rfl
   have hm:=hF.HL m (by simp);have hs1:=hm.s1;have ic:=hm.o.seq.2;have y1:IntKind.i64.wrap (m.seq-1)=m.seq-1:=IntWalk.i64_in _ (by omega);have hpos:(0:Int)<(t.length:Int)+1:=by omega
   have aiD:t.length+1≤700000:=by obtain⟨j,_,hj2⟩:=hF.sz;rw [List.length_cons]at hj2;omega
   have cA:=af hm;clear aP hF hcs A1 hm;by_cases hle:m.seq-1≤q
   ·go_wp2_with fail
    go_quiet (fail)
    obtain⟨ap,c4⟩:∃ap,ak.heap.size=ap:=⟨_,rfl⟩;have qc:(ak.drewN nq).heap.size=ap:=c4;go_upto_region 2 with(fail)
    have dA:Below ak.heap.size ak ((ak.drewN nq).alloc (.cells #[.int .i64 m.seq,.int .i64 m.inst,.int .i64 m.side,.int .i64 m.ag,.int .i64 m.ah,.int .i64 m.count,.bool m.imp] 86)):=(Below.bT ak nq).trans ((Below.aA (ak.drewN nq) _).mono (Nat.le_refl _));have j5:=af (dV.out.OD dA);have fj:aj ((ak.drewN nq).alloc (.cells #[.int .i64 m.seq,.int .i64 m.inst,.int .i64 m.side,.int .i64 m.ag,.int .i64 m.ah,.int .i64 m.count,.bool m.imp] 86)) ak.heap.size 86 #[.int .i64 m.seq,.int .i64 m.inst,.int .i64 m.side,.int .i64 m.ag,.int .i64 m.ah,.int .i64 m.count,.bool m.imp]:=aj.new (ak.drewN nq) _ _;rw [c4]at fj;have cE:=af fj;clear dA fj c4 qc c0 c1 c2 c3 dn cj fE k2 e7;generalize (ak.drewN nq).alloc (.cells #[.int .i64 m.seq,.int .i64 m.inst,.int .i64 m.side,.int .i64 m.ag,.int .i64 m.ah,.int .i64 m.count,.bool m.imp] 86)=au at*;obtain⟨a5,cj,di,_⟩:=j5.out.uj.box;have k2:au.cell? ⟨pv,2,none⟩=some (.int .i64 q):=di.cell 2;have m0:au.cell? ⟨ap,0,none⟩=some (.int .i64 m.seq):=cE.out.cell 0;clear di;by_cases heq:m.seq-1=q
    ·have aci:(m.seq-1==q)=true:=by simpa using heq
     have HM:Hid (oB (m::t) V q=oB t (fO m V) m.seq):=af (by conv=>{lhs;unfold oB};rw [if_pos hle,if_pos heq]);clear hle;go_quiet (fail)
     have qX:=af (j5.out.OD (Below.bT au nq));have ea:=af (cE.out.below (Below.bT au nq));generalize au.drewN nq=aK at*;clear k2 m0 heq;obtain⟨jj,rN,hj2⟩:=dV.out.sz;rw [List.length_cons]at hj2;have ua:=UJ qX.out.uj (by have:=dV.out.vl;dsimp only;omega) rN (by omega) dV.out.oq (m:=m) (by have h1:=dV.out.vl;have h2:=cA.out.f;rw [←h1]at h2;exact h2);unfold aB.agg at ua;have HO:=af ua;have m0:aK.cell? ⟨ap,0,none⟩=some (.int .i64 m.seq):=ea.out.cell 0;have m1:aK.cell? ⟨ap,1,none⟩=some (.int .i64 m.inst):=ea.out.cell 1;have m2:aK.cell? ⟨ap,2,none⟩=some (.int .i64 m.side):=ea.out.cell 2;have eH:aK.cell? ⟨ap,3,none⟩=some (.int .i64 m.ag):=ea.out.cell 3;have dQ:aK.cell? ⟨ap,4,none⟩=some (.int .i64 m.ah):=ea.out.cell 4;have eP:aK.cell? ⟨ap,5,none⟩=some (.int .i64 m.count):=ea.out.cell 5;have dH:aK.cell? ⟨ap,6,none⟩=some (.bool m.imp):=ea.out.cell 6;clear ua rN hj2;go_wp2_with fail
     refine HO.out.mono ?_;rintro e bw ⟨rfl,pU,jI⟩;have mj:=af pU;have HP:=af (qX.out.kK.trans jI);clear pU jI HO m0 m1 m2 eH dQ eP dH;have aP:=(mj.out).box;obtain⟨a9,kT,fR,_⟩:=aP;have e7:bw.cell? ⟨pv,3,none⟩=some (.slice (some ⟨g,0,none⟩) (t.length+1) ch):=fR.cell 3;have pH:∀u:World,Below bw.heap.size bw u→u.cell? ⟨pv,3,none⟩=some (.slice (some ⟨g,0,none⟩) (t.length+1) ch)∧u.frozen? ⟨pv,3,none⟩=false:=fun u hu=>⟨(fR.below hu).cell 3,(fR.below hu).frozen 3⟩;have CQ:=af pH;obtain⟨off,hoff⟩:∃off,(if ch=1 then some (⟨g,0,none⟩:Addr)else some ⟨g,7,none⟩)=some ⟨g,off,none⟩:=by by_cases h:ch=1;exact⟨0,if_pos h⟩;exact⟨7,if_neg h⟩
     have htl:=UG (mj.out).held;rw [hoff]at htl;have jt:=af (Sg htl (by omega));have dM:1≤t.length+1:=by omega
     have z2:1≤ch:=by have:=htl.choose_spec.choose_spec.2.1.2.2;have h2:=(mj.out).held;obtain⟨_,_,e,o,_⟩:=h2.sl;injection e with _ _ bE;rw [bE];have:=o.2.2;rw [List.length_cons]at this;omega
     have z3:(1:Int)≤(t.length:Int)+1:=by omega
     have z4:t.length+1-1=t.length:=by omega
     clear fR htl pH;go_wp2_with fail
     refine jt.out.mono ?_;rintro e bG ⟨v9,rfl,je,aJ⟩;obtain⟨a8,iC,rfl⟩:=je.form;have HQ:=(mj.out).below aJ;have OE:=af (HQ.OG (je.base (B':=W.heap.size) (mj.out).aF.size));have sM:=af ((HP.out).trans ((Below.keeps aJ).trans (bS bG pv 3 (.slice a8 t.length iC))));have wA:Hid (∀g,(Value.slice a8 t.length iC).ownBlock=some g→hv.ownBlock=some g∨w.heap.size≤g):=af fun g hg=> .inr (Nat.le_trans (HP.out).size (cx je g hg));have Fa:=(CQ.out bG aJ).1;have f9:=(CQ.out bG aJ).2;clear je aJ HQ jt e7 hoff CQ dM z2 z3 z4;go_wp2_with fail
     go_roundg (gk-1)
     case measure=>have:=dV.out.len;rw [List.length_cons]at this;omega
     case rel=>
      refine⟨_,fO m V,m.seq,t,OE.out,sM.out,wA.out,by rw [←dV.out.eg,HM.out],by have:=dV.out.len;rw [List.length_cons]at this;omega,by rw [A2];exact dV.out.vl,Lb cA.out.f.sd dV.out.oq,by obtain⟨j,h1,h2⟩:=dV.out.sz;rw [List.length_cons]at h2;exact⟨j+1,Fb h1,by omega⟩,fun x hx=>dV.out.HL x (List.mem_cons_of_mem _ hx),by have:=cA.out.s1;omega,cA.out.o.seq.2⟩
    ·have aci:(m.seq-1==q)=false:=by rw [beq_eq_false_iff_ne];exact heq
     have HM:Hid (oB (m::t) V q=oB t V q):=af (by conv=>{lhs;unfold oB};rw [if_pos hle,if_neg heq]);clear hle heq;go_quiet (fail)
     have qX:=af (j5.out.OD (Below.bT au nq));generalize au.drewN nq=aK at*;clear k2 m0;have aP:=(qX.out.uj).box;obtain⟨a9,kT,fR,_⟩:=aP;have e7:aK.cell? ⟨pv,3,none⟩=some (.slice (some ⟨g,0,none⟩) (t.length+1) ch):=fR.cell 3;have pH:∀u:World,Below aK.heap.size aK u→u.cell? ⟨pv,3,none⟩=some (.slice (some ⟨g,0,none⟩) (t.length+1) ch)∧u.frozen? ⟨pv,3,none⟩=false:=fun u hu=>⟨(fR.below hu).cell 3,(fR.below hu).frozen 3⟩;have CQ:=af pH;obtain⟨off,hoff⟩:∃off,(if ch=1 then some (⟨g,0,none⟩:Addr)else some ⟨g,7,none⟩)=some ⟨g,off,none⟩:=by by_cases h:ch=1;exact⟨0,if_pos h⟩;exact⟨7,if_neg h⟩
     have htl:=UG (qX.out.uj).held;rw [hoff]at htl;have jt:=af (Sg htl (by omega));have dM:1≤t.length+1:=by omega
     have z2:1≤ch:=by have:=htl.choose_spec.choose_spec.2.1.2.2;have h2:=(qX.out.uj).held;obtain⟨_,_,e,o,_⟩:=h2.sl;injection e with _ _ bE;rw [bE];have:=o.2.2;rw [List.length_cons]at this;omega
     have z3:(1:Int)≤(t.length:Int)+1:=by omega
     have z4:t.length+1-1=t.length:=by omega
     clear fR htl pH;go_wp2_with fail
     refine jt.out.mono ?_;rintro e bG ⟨v9,rfl,je,aJ⟩;obtain⟨a8,iC,rfl⟩:=je.form;have HQ:=(qX.out.uj).below aJ;have OE:=af (HQ.OG (je.base (B':=W.heap.size) (qX.out.uj).aF.size));have sM:=af ((qX.out.kK).trans ((Below.keeps aJ).trans (bS bG pv 3 (.slice a8 t.length iC))));have wA:Hid (∀g,(Value.slice a8 t.length iC).ownBlock=some g→hv.ownBlock=some g∨w.heap.size≤g):=af fun g hg=> .inr (Nat.le_trans (qX.out.kK).size (cx je g hg));have Fa:=(CQ.out bG aJ).1;have f9:=(CQ.out bG aJ).2;clear je aJ HQ jt e7 hoff CQ dM z2 z3 z4;go_wp2_with fail
     go_roundg (gk-1)
     case measure=>have:=dV.out.len;rw [List.length_cons]at this;omega
     case rel=>
      refine⟨_,V,q,t,OE.out,sM.out,wA.out,by rw [←dV.out.eg,HM.out],by have:=dV.out.len;rw [List.length_cons]at this;omega,dV.out.vl,dV.out.oq,by obtain⟨j,h1,h2⟩:=dV.out.sz;rw [List.length_cons]at h2;exact⟨j,h1,by omega⟩,fun x hx=>dV.out.HL x (List.mem_cons_of_mem _ hx),dV.out.q0,dV.out.q1⟩
   ·have HM:Hid (oB (m::t) V q=⟨V,q,m::t⟩):=af (by unfold oB;rw [if_neg hle])
    go_wp2_with fail
    go_quiet (fail)
    go_wp2_with fail
    go_end0
    refine⟨by trivial,_,?_,dV.out.kK.trans (Below.keeps (Below.bT _ _)),dV.out.own⟩;rw [←dV.out.eg,HM.out];exact dV.out.uj.below (Below.bT _ _)
end
theorem ahl {W w:World} {pv n:Nat} {hv:Value} {s:jn} (h:fq W w pv n hv s) {v:Value} {b:List Int} (hsl:e9.e8 w v b) (hl:b.length≤900000) (hok:∀z∈b,isByte z) (hd:ol b=none):
 Calls Tryz.prog 11 #[.pointer (some ⟨pv,0,none⟩),v] w fun e w'=>e= .returned (.int .i64 (12))∧∃dl,fq W w' pv n dl s∧aD (yf pv hv) w w'∧∀g,dl.ownBlock=some g→hv.ownBlock=some g∨w.heap.size≤g:=by
 have hdec:=B4 hsl hl hok;rw [hd]at hdec;unfold Av at hdec;simp only [Option.getD_none,Option.isSome_none,Bool.false_eq_true,if_false]at hdec;unfold aB.cells B3 at hdec;dsimp only at hdec;have pF:=af hdec;have H0:=af h;clear hdec h hsl hl hok hd;go_enter Tryz.func11,Tryz.ntmps11
 go_wp2_with fail
 refine pF.out.mono ?_;rintro e w1 ⟨rfl,hb⟩;have bD:=af hb;obtain⟨ap,c4⟩:∃ap,w1.heap.size=ap:=⟨_,rfl⟩;clear hb;go_wp2_with fail
 go_ret;have hba:=bD.out.trans ((Below.aA w1 (.cells #[.int .i64 0,.int .i64 0,.int .i64 0,.int .i64 0,.int .i64 0,.int .i64 0,.bool false] 86)).mono bD.out.size);exact⟨by trivial,hv,H0.out.below hba,Below.keeps hba,fun g hg=> .inl hg⟩
theorem ahm {W w:World} {pv n:Nat} {hv:Value} {s:jn} (h:fq W w pv n hv s) {cc:Nat} (hk:qC n cc s) (kj:u9 s.H) {v:Value} {b:List Int} (hsl:e9.e8 w v b) (hl:b.length≤900000) (hok:∀z∈b,isByte z) {q ii sd p t c:Int} {im:Bool} (hd:ol b=some ⟨q,ii,sd,p,t,c,im⟩) (hq:q<1):
 Calls Tryz.prog 11 #[.pointer (some ⟨pv,0,none⟩),v] w fun e w'=>e= .returned (.int .i64 (12))∧∃dl,fq W w' pv n dl s∧aD (yf pv hv) w w'∧∀g,dl.ownBlock=some g→hv.ownBlock=some g∨w.heap.size≤g:=by
 have hdec:=B4 hsl hl hok;rw [hd]at hdec;unfold Av at hdec;simp only [Option.getD_some,Option.isSome_some,if_true]at hdec;unfold aB.cells at hdec;dsimp only at hdec;have hmo:=(DY hok hd).1;have s4:=af hmo;have pF:=af hdec;have H0:=af h;have dX:=af hk;have Ab:=af kj;have hlv:=hk.len;clear hdec h hk hsl hl hok hd hmo kj;go_enter Tryz.func11,Tryz.ntmps11
 go_wp2_with fail
 refine pF.out.mono ?_;rintro e w1 ⟨rfl,hb⟩;have bD:=af hb;obtain⟨ap,c4⟩:∃ap,w1.heap.size=ap:=⟨_,rfl⟩;go_upto_region 2 with(fail)
 have hba:=Below.aA w1 (.cells #[.int .i64 q,.int .i64 ii,.int .i64 sd,.int .i64 p,.int .i64 t,.int .i64 c,.bool im] 86);have fj:aj (w1.alloc (.cells #[.int .i64 q,.int .i64 ii,.int .i64 sd,.int .i64 p,.int .i64 t,.int .i64 c,.bool im] 86)) w1.heap.size 86 #[.int .i64 q,.int .i64 ii,.int .i64 sd,.int .i64 p,.int .i64 t,.int .i64 c,.bool im]:=aj.new w1 _ _;rw [c4]at fj;have cE:=af fj;have bB:Hid (w.heap.size≤ap):=af (by rw [←c4];exact hb.size);have aT:=af (hb.trans (hba.mono hb.size));clear hb hba fj c4 bD pF;generalize w1.alloc (.cells #[.int .i64 q,.int .i64 ii,.int .i64 sd,.int .i64 p,.int .i64 t,.int .i64 c,.bool im] 86)=w2 at*;have p4:=af (H0.out.below aT.out);obtain⟨a2,c2,aP,_⟩:=H0.out.below aT.out |>.box;have jD:=af aP;have m0:w2.cell? ⟨ap,0,none⟩=some (.int .i64 q):=cE.out.cell 0;have m1:w2.cell? ⟨ap,1,none⟩=some (.int .i64 ii):=cE.out.cell 1;have m2:w2.cell? ⟨ap,2,none⟩=some (.int .i64 sd):=cE.out.cell 2;have eH:w2.cell? ⟨ap,3,none⟩=some (.int .i64 p):=cE.out.cell 3;have dQ:w2.cell? ⟨ap,4,none⟩=some (.int .i64 t):=cE.out.cell 4;have eP:w2.cell? ⟨ap,5,none⟩=some (.int .i64 c):=cE.out.cell 5;have dH:w2.cell? ⟨ap,6,none⟩=some (.bool im):=cE.out.cell 6;have k0:w2.cell? ⟨pv,0,none⟩=some (.int .i64 n):=aP.cell 0;clear aP;have hq2:decide (q<1)=true:=decide_eq_true hq;clear hq;go_wp2_with fail
 go_quiet (fail)
 go_wp2_with fail
 go_ret;have hba:=aT.out.trans ((Below.bT w2 nq).mono aT.out.size);exact⟨by trivial,hv,H0.out.below hba,Below.keeps hba,fun g hg=> .inl hg⟩
theorem ahn {W w:World} {pv n:Nat} {hv:Value} {s:jn} (h:fq W w pv n hv s) {cc:Nat} (hk:qC n cc s) (kj:u9 s.H) {v:Value} {b:List Int} (hsl:e9.e8 w v b) (hl:b.length≤900000) (hok:∀z∈b,isByte z) {q ii sd p t c:Int} {im:Bool} (hd:ol b=some ⟨q,ii,sd,p,t,c,im⟩) (hq:¬q<1) (hf:ng n ⟨q,ii,sd,p,t,c,im⟩≠0):
 Calls Tryz.prog 11 #[.pointer (some ⟨pv,0,none⟩),v] w fun e w'=>e= .returned (.int .i64 (12))∧∃dl,fq W w' pv n dl s∧aD (yf pv hv) w w'∧∀g,dl.ownBlock=some g→hv.ownBlock=some g∨w.heap.size≤g:=by
 have hdec:=B4 hsl hl hok;rw [hd]at hdec;unfold Av at hdec;simp only [Option.getD_some,Option.isSome_some,if_true]at hdec;unfold aB.cells at hdec;dsimp only at hdec;have hmo:=(DY hok hd).1;have s4:=af hmo;have pF:=af hdec;have H0:=af h;have dX:=af hk;have Ab:=af kj;have hlv:=hk.len;have cn:=af hf;clear hf hdec h hk hsl hl hok hd hmo kj;go_enter Tryz.func11,Tryz.ntmps11
 go_wp2_with fail
 refine pF.out.mono ?_;rintro e w1 ⟨rfl,hb⟩;have bD:=af hb;obtain⟨ap,c4⟩:∃ap,w1.heap.size=ap:=⟨_,rfl⟩;go_upto_region 2 with(fail)
 have hba:=Below.aA w1 (.cells #[.int .i64 q,.int .i64 ii,.int .i64 sd,.int .i64 p,.int .i64 t,.int .i64 c,.bool im] 86);have fj:aj (w1.alloc (.cells #[.int .i64 q,.int .i64 ii,.int .i64 sd,.int .i64 p,.int .i64 t,.int .i64 c,.bool im] 86)) w1.heap.size 86 #[.int .i64 q,.int .i64 ii,.int .i64 sd,.int .i64 p,.int .i64 t,.int .i64 c,.bool im]:=aj.new w1 _ _;rw [c4]at fj;have cE:=af fj;have bB:Hid (w.heap.size≤ap):=af (by rw [←c4];exact hb.size);have aT:=af (hb.trans (hba.mono hb.size));clear hb hba fj c4 bD pF;generalize w1.alloc (.cells #[.int .i64 q,.int .i64 ii,.int .i64 sd,.int .i64 p,.int .i64 t,.int .i64 c,.bool im] 86)=w2 at*;have p4:=af (H0.out.below aT.out);obtain⟨a2,c2,aP,_⟩:=H0.out.below aT.out |>.box;have jD:=af aP;have m0:w2.cell? ⟨ap,0,none⟩=some (.int .i64 q):=cE.out.cell 0;have m1:w2.cell? ⟨ap,1,none⟩=some (.int .i64 ii):=cE.out.cell 1;have m2:w2.cell? ⟨ap,2,none⟩=some (.int .i64 sd):=cE.out.cell 2;have eH:w2.cell? ⟨ap,3,none⟩=some (.int .i64 p):=cE.out.cell 3;have dQ:w2.cell? ⟨ap,4,none⟩=some (.int .i64 t):=cE.out.cell 4;have eP:w2.cell? ⟨ap,5,none⟩=some (.int .i64 c):=cE.out.cell 5;have dH:w2.cell? ⟨ap,6,none⟩=some (.bool im):=cE.out.cell 6;have k0:w2.cell? ⟨pv,0,none⟩=some (.int .i64 n):=aP.cell 0;clear aP;have hq2:decide (q<1)=false:=decide_eq_false (by omega);have dP:=vK n ⟨q,ii,sd,p,t,c,im⟩ w2.drew;unfold aB.agg at dP;dsimp only at dP;obtain⟨fv,jZ⟩:∃fv,ng n ⟨q,ii,sd,p,t,c,im⟩=fv:=⟨_,rfl⟩;rw [jZ]at dP;have s8:=af dP;have Ac:=af jZ;clear dP jZ;go_upto_region 4 with(fail)
 have hS:w2.cell? ⟨ap,0,none⟩=some (.int .i64 q)∧w2.cell? ⟨ap,1,none⟩=some (.int .i64 ii)∧w2.cell? ⟨ap,2,none⟩=some (.int .i64 sd)∧w2.cell? ⟨ap,3,none⟩=some (.int .i64 p)∧w2.cell? ⟨ap,4,none⟩=some (.int .i64 t)∧w2.cell? ⟨ap,5,none⟩=some (.int .i64 c)∧w2.cell? ⟨ap,6,none⟩=some (.bool im)∧w2.cell? ⟨pv,0,none⟩=some (.int .i64 n):=⟨m0,m1,m2,eH,dQ,eP,dH,k0⟩;refine cF (S:=fun w2=>w2.cell? ⟨ap,0,none⟩=some (.int .i64 q)∧w2.cell? ⟨ap,1,none⟩=some (.int .i64 ii)∧w2.cell? ⟨ap,2,none⟩=some (.int .i64 sd)∧w2.cell? ⟨ap,3,none⟩=some (.int .i64 p)∧w2.cell? ⟨ap,4,none⟩=some (.int .i64 t)∧w2.cell? ⟨ap,5,none⟩=some (.int .i64 c)∧w2.cell? ⟨ap,6,none⟩=some (.bool im)∧w2.cell? ⟨pv,0,none⟩=some (.int .i64 n)) (by kernel_rfl) hS (fun hHeld=>?_);refine ai 0 ?_;refine ai 1 ?_;refine ai 2 ?_;refine ai 3 ?_;refine ai 4 ?_;refine ai 5 ?_;refine ai 6 ?_;refine ai 7 ?_;refine ai 8 ?_;refine aR 9 fun K hK=>?_;go_simp;refine s8.out.mono ?_;rintro e w3 ⟨rfl,hb⟩;have hb3:=(Below.bT w2 1).trans hb;have mo:=af (p4.out.below hb3);have aN:=af (aT.out.trans (hb3.mono aT.out.size));have ea:=af (cE.out.below hb3);have lZ:=af (jD.out.below hb3);refine hK.out _ _ ⟨ea.out.cell 0,ea.out.cell 1,ea.out.cell 2,ea.out.cell 3,ea.out.cell 4,ea.out.cell 5,ea.out.cell 6,lZ.out.cell 0⟩ (fun hHeld=>?_);clear hK K hb hb3 hS s8 p4 aT cE jD m0 m1 m2 eH dQ eP dH k0;refine ai 10 ?_;refine cO 11 fun K hK=>?_;go_simp;refine hK.out _ _ ?_;clear hK K hHeld hq2;have hfn:(fv !=0)=true:=by rw [←Ac.out];simpa using cn.out
 go_wp2_with fail
 go_ret;exact⟨by trivial,hv,mo.out,Below.keeps aN.out,fun g hg=> .inl hg⟩
end Go.Proofs.YtmaijkoopjocdaaGreat
