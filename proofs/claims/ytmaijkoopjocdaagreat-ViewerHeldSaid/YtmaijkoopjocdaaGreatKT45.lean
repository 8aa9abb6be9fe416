import Derived.Test.YtmaijkoopjocdaaGreatKT37
set_option maxRecDepth 100000
set_option maxHeartbeats 64000000
namespace Go.Proofs.YtmaijkoopjocdaaGreat
open Go.RowKit Go.Lib
section
variable {W w w':World} {pm ps pb:Nat} {p:Prod} {Q:List Nat} {S S':List (List ay)} {E:List Int}
theorem abW (h:ed W w pm ps p Q S E) (hz:cz p=0) (hS:dJ p S) (c:dB) (hc:wm S.length c) (hE:E.length≤90000) (qv:c.kind≠1) (hfind:gp c.id 0 S≠none) (iB:∀(i:Nat) (x:ay),gp c.id 0 S=some (i,x)→c.kind=4∧(eA p i c.ag≠0∨(c.ag=x.ag∧c.ah≤x.ah))):
 Calls Tryz.prog 29 #[.pointer (some ⟨pm,0,none⟩),.agg c.cells] w fun e w'=>∃v,e= .returned v∧fQ W w w' pm ps p Q (lC p S E c).1 (lC p S E c).2:=by
 have hb0:=Below.aA w (.cells c.cells 80);have bD:=af hb0;have ie:=af h;have iT:=af (h.below hb0);have bY:Hid (aj (w.alloc (.cells c.cells 80)) w.heap.size 80 c.cells):=af (aj.new _ _ _);have cH:=af fun w=>E1 c hc (by have:=hS.le;omega) w;have dI:=af hz;have aq:=af hS;have bH:=af hE;have aU:=af hc;have gG:=af fun(wv:World) (hv:ed W wv pm ps p Q S E) (i:Nat) (jS:c.inst=i) (hi:i<S.length) (gf:c.side=1∨c.side=2) (iR:c.least≤c.ah)=>Eb hv hz hS c jS hi gf hc.ah.1 hc.ah.2 iR hE;obtain⟨R,hR⟩:∃R,lC p S E c=R:=⟨_,rfl⟩;have b9:Hid (R=if c.kind=1 then qN p S E c.inst.toNat c
 else match gp c.id 0 S with
  |none=>(S,E)
  |some (i,x)=>
   if c.kind=2∨(c.kind=3∧x.ah≤c.ah)then((fA S c.id x.ah).1,E)
   else if c.kind=3 then((fA S c.id c.ah).1,E)
   else if eA p i c.ag≠0 then(S,E)
   else if c.ag=x.ag∧c.ah≤x.ah then(if c.ah<x.ah then((fA S c.id (x.ah-c.ah)).1,E)else(S,E))
   else if rB p (fA S c.id x.ah).1 i x.side c.ag c.ah=true then(S,E)
   else(qh p (fA S c.id x.ah).1 i ⟨0,c.id,i,x.side,c.ag,c.ah,0,1,⟨#[]⟩⟩,E)):=af (by rw [←hR];rfl)
 rw [hR];have wo:=af qv;have pQ:=af hfind;have CH:=af iB;clear h hz hS hE hb0 hR hc qv hfind iB gG;obtain⟨kd,id,inst,side,ag,ah,least,time,label⟩:=c;unfold dB.cells at*;dsimp only at*;go_enter Tryz.func29,Tryz.ntmps29
 go_upto_region 1 with(fail)
 obtain⟨aO,bU⟩:∃g,w.heap.size=g:=⟨_,rfl⟩;rw [bU]at bY⊢;clear bU;generalize w.alloc (.cells _ 80)=w1 at*;have c0:=bY.out.cell 0;have c1:=bY.out.cell 1;have c2:=bY.out.cell 2;have c3:=bY.out.cell 3;have dn:=bY.out.cell 4;have cj:=bY.out.cell 5;have fE:=bY.out.cell 6;have gP:=bY.out.cell 7;have iC:=bY.out.cell 8;have h6:=cH.out w1;go_wp2_with fail
 refine h6.mono ?_;rintro e w2 ⟨rfl,hb2⟩;have aT:=af (bD.out.trans (hb2.mono bD.out.size));have gH:=af (iT.out.below hb2);have ef:=af (bY.out.below hb2);clear c0 c1 c2 c3 dn cj fE gP iC h6 hb2 cH iT bY bD;have c0:=ef.out.cell 0;have cJ:¬kd=1:=wo.out;have uZ:(kd==1)=false:=by rw [beq_eq_false_iff_ne];exact cJ
 rw [if_neg cJ]at b9;have mW:kd=2∨kd=3∨kd=4:=by have:=aU.out.kind;dsimp only at this;omega
 go_upto_region 6 with(fail)
 clear c0 uZ;obtain⟨mb,sJ⟩:∃f,gp id 0 S=f:=⟨_,rfl⟩
 obtain⟨fi,o0,o1,o2,bx,dr,fb,jZ,pO⟩:∃(fi o0 o1 o2 bx:Int) (dr fb:Bool),u0 mb= .tuple #[.int .i64 fi,.agg #[.int .i64 o0,.int .i64 o1,.int .i64 o2,.int .i64 bx,.bool dr],.bool fb]∧((mb=none∧fb=false)∨∃(i:Nat),mb=some (i,⟨o0,o1,o2,bx,dr⟩)∧fb=true∧fi=i):=by
  cases mb with
  |none=>exact⟨0,0,0,0,0,false,false,rfl,.inl ⟨rfl,rfl⟩⟩
  |some qu=>
   obtain⟨i,x0,x1,bl,dK,ew⟩:=qu;exact⟨i,x0,x1,bl,dK,ew,true,rfl,.inr ⟨i,rfl,rfl,rfl⟩⟩
 have za:=af pO;have k5:=af sJ;clear pO sJ;go_cut [6,7,8] (fun u v b wx=>u= .int .i64 fi∧b= .bool fb∧(∃aI:Nat,v= .pointer (some ⟨aI,0,none⟩)∧aj wx aI 139 #[.int .i64 o0,.int .i64 o1,.int .i64 o2,.int .i64 bx,.bool dr])∧Below w2.heap.size w2 wx)
 case first=>
  have hd:=(Below.refl w2.heap.size w2).drew;have bf:=af (gH.out.below hd);have bQ:=af (ef.out.below hd);have dD:=af hd
  have iU:∀wv,ed W wv pm ps p Q S E→wv.cell? ⟨pm,11,none⟩=some (.pointer (some ⟨ps,0,none⟩)):=fun wv hv=>by
   obtain⟨_,_,h1,_⟩:=hv.box;exact h1.cell 11
  have g4:=af iU;have dg:=iU _ bf.out;have c1:w2.drew.cell? ⟨aO,1,none⟩=some (.int .i64 id):=bQ.out.cell 1;clear hd iU;refine cF (S:=(fun w'=>w'.cell? ⟨pm,11,none⟩=some (.pointer (some ⟨ps,0,none⟩))∧w'.cell? ⟨aO,1,none⟩=some (.int .i64 id))) (by kernel_rfl) ⟨dg,c1⟩ (fun hHeld=>?_);refine ai 0 ?_;refine ai 1 ?_;refine ai 2 ?_;refine ai 3 ?_;refine ai 4 ?_;refine ai 5 ?_;clear dg c1;generalize w2.drew=av at*
  have sK:Hid (∀wv,ed W wv pm ps p Q S E→Calls Tryz.prog 65 #[.pointer (some ⟨ps,0,none⟩),.int .i64 id] wv fun e w'=>e= .returned (.tuple #[.int .i64 fi,.agg #[.int .i64 o0,.int .i64 o1,.int .i64 o2,.int .i64 bx,.bool dr],.bool fb])∧Below wv.heap.size wv w'):=af fun wv hv=>by
   have:=CI hv.bZ (by have:=aq.out.le;omega) (fun L hL=>(aq.out.each L hL).len) id;rw [k5.out,jZ]at this;exact this
  refine jW 6 11 (fun K hK=>?_) fun K hK=>?_
  ·go_simp
   go_at_call 65
   refine(sK.out _ bf.out).mono ?_;rintro e wa ⟨rfl,hba⟩;have cP:=af hba;refine hK.out _ _ ⟨g4.out _ (bf.out.below hba),(bQ.out.below hba).cell 1⟩ (fun hHeld=>?_);clear hK K hba;refine ai 7 ?_;refine ai 8 ?_;refine ai 9 ?_;refine ai 10 ?_;refine aR 11 fun K hK=>?_;go_simp;have aJ:=Below.aA wa (.cells #[.int .i64 0,.int .i64 0,.int .i64 0,.int .i64 0,.bool false] 139);have cq:aj (wa.alloc (.cells #[.int .i64 0,.int .i64 0,.int .i64 0,.int .i64 0,.bool false] 139)) wa.heap.size 139 #[.int .i64 0,.int .i64 0,.int .i64 0,.int .i64 0,.bool false]:=aj.new _ _ _;have bu:=af (cP.out.trans (aJ.mono cP.out.size));refine hK.out _ _ ⟨g4.out _ (bf.out.below bu.out),(bQ.out.below bu.out).cell 1⟩ (fun hHeld=>?_);clear hK K aJ;obtain⟨aI,dY⟩:∃g,wa.heap.size=g:=⟨_,rfl⟩;have bB:Hid (av.heap.size≤aI):=af (by rw [←dY];exact cP.out.size);rw [dY]at cq⊢;clear dY;generalize wa.alloc (.cells #[.int .i64 0,.int .i64 0,.int .i64 0,.int .i64 0,.bool false] 139)=wb at*;refine ai 12 ?_;have e0:=cq.cell 0;have e1:=cq.cell 1;have e2:=cq.cell 2;have bE:=cq.cell 3;have cw:=cq.cell 4;have k6:=cq.frozen;have j0:=cq.rL (.int .i64 o0) (.int .i64 o1) (.int .i64 o2) (.int .i64 bx) (.bool dr);have c7:=af (((((bu.out.setCell (p:=⟨aI,0,none⟩) bB.out (.int .i64 o0)).setCell (p:=⟨aI,1,none⟩) bB.out (.int .i64 o1)).setCell (p:=⟨aI,2,none⟩) bB.out (.int .i64 o2)).setCell (p:=⟨aI,3,none⟩) bB.out (.int .i64 bx)).setCell (p:=⟨aI,4,none⟩) bB.out (.bool dr));have o7:=af j0;clear cq j0;refine aR 13 fun K hK=>?_;go_simp;clear e0 e1 e2 bE cw k6;refine hK.out _ _ ⟨g4.out _ (bf.out.below c7.out),(bQ.out.below c7.out).cell 1⟩ (fun hHeld=>?_);clear hK K;generalize (((((wb.setCell ⟨aI,0,none⟩ (.int .i64 o0)).setCell ⟨aI,1,none⟩ (.int .i64 o1)).setCell ⟨aI,2,none⟩ (.int .i64 o2)).setCell ⟨aI,3,none⟩ (.int .i64 bx)).setCell ⟨aI,4,none⟩ (.bool dr))=wf at*;refine gx _ _ _ _ ?_;refine eB 14 ?_;refine wpAnyH_done (by kernel_rfl) ?_ _;clear hHeld;have kJ:=af (dD.out.trans (c7.out.mono dD.out.size));go_wp2_with fail
   go_meet;exact⟨by trivial,by trivial,⟨aI,rfl,o7.out⟩,kJ.out⟩
  ·go_simp
   have aJ:=Below.aA av (.cells #[.int .i64 0,.int .i64 0,.int .i64 0,.int .i64 0,.bool false] 139);have o8:aj (av.alloc (.cells #[.int .i64 0,.int .i64 0,.int .i64 0,.int .i64 0,.bool false] 139)) av.heap.size 139 #[.int .i64 0,.int .i64 0,.int .i64 0,.int .i64 0,.bool false]:=aj.new _ _ _;have cP:=af aJ;refine hK.out _ _ ⟨g4.out _ (bf.out.below aJ),(bQ.out.below aJ).cell 1⟩ (fun hHeld=>?_);clear hK K aJ;obtain⟨aI,dY⟩:∃g,av.heap.size=g:=⟨_,rfl⟩;have bB:Hid (av.heap.size≤aI):=af (by rw [←dY];exact Nat.le_refl _);rw [dY]at o8⊢;clear dY;generalize av.alloc (.cells #[.int .i64 0,.int .i64 0,.int .i64 0,.int .i64 0,.bool false] 139)=wa at*;refine aR 6 fun K hK=>?_;go_simp;go_at_call 65
   refine(sK.out _ (bf.out.below cP.out)).mono ?_;rintro e wb ⟨rfl,aJ⟩;have bu:=af (cP.out.trans (aJ.mono cP.out.size));have cq:=o8.below aJ;refine hK.out _ _ ⟨g4.out _ (bf.out.below bu.out),(bQ.out.below bu.out).cell 1⟩ (fun hHeld=>?_);clear hK K aJ o8;refine ai 7 ?_;refine ai 8 ?_;refine ai 9 ?_;refine ai 10 ?_;refine ai 12 ?_;have e0:=cq.cell 0;have e1:=cq.cell 1;have e2:=cq.cell 2;have bE:=cq.cell 3;have cw:=cq.cell 4;have k6:=cq.frozen;have j0:=cq.rL (.int .i64 o0) (.int .i64 o1) (.int .i64 o2) (.int .i64 bx) (.bool dr);have c7:=af (((((bu.out.setCell (p:=⟨aI,0,none⟩) bB.out (.int .i64 o0)).setCell (p:=⟨aI,1,none⟩) bB.out (.int .i64 o1)).setCell (p:=⟨aI,2,none⟩) bB.out (.int .i64 o2)).setCell (p:=⟨aI,3,none⟩) bB.out (.int .i64 bx)).setCell (p:=⟨aI,4,none⟩) bB.out (.bool dr));have o7:=af j0;clear cq j0;refine aR 13 fun K hK=>?_;go_simp;clear e0 e1 e2 bE cw k6;refine hK.out _ _ ⟨g4.out _ (bf.out.below c7.out),(bQ.out.below c7.out).cell 1⟩ (fun hHeld=>?_);clear hK K;generalize (((((wb.setCell ⟨aI,0,none⟩ (.int .i64 o0)).setCell ⟨aI,1,none⟩ (.int .i64 o1)).setCell ⟨aI,2,none⟩ (.int .i64 o2)).setCell ⟨aI,3,none⟩ (.int .i64 bx)).setCell ⟨aI,4,none⟩ (.bool dr))=wf at*;refine gx _ _ _ _ ?_;refine eB 14 ?_;refine wpAnyH_done (by kernel_rfl) ?_ _;clear hHeld;have kJ:=af (dD.out.trans (c7.out.mono dD.out.size));go_wp2_with fail
   go_meet;exact⟨by trivial,by trivial,⟨aI,rfl,o7.out⟩,kJ.out⟩
 case rest=>
 obtain⟨rfl,rfl,⟨aI,rfl,sL⟩,dA⟩:=hcut;have aN:=af (aT.out.trans (dA.mono aT.out.size));have ix:=af (gH.out.below dA);have eW:=af (ef.out.below dA);have mg:=af sL;clear dA sL gH ef aT;generalize wc=w3 at*;rw [k5.out]at b9;rcases za.out with⟨rfl,rfl⟩|⟨i,rfl,rfl,rfl⟩
 ·exact absurd k5.out pQ.out
 ·dsimp only at b9
  obtain⟨hil,hxs,hx0,hx1⟩:=KZ aq.out k5.out;dsimp only at hxs hx0 hx1;have c1:=eW.out.cell 1;have e1:=mg.out.cell 1;have e2:=mg.out.cell 2;have bE:=mg.out.cell 3;have hba:=Below.aA w3 (.cells #[.int .i64 4,.int .i64 id,.int .i64 i,.int .i64 o1,.int .i64 o2,.int .i64 bx,.int .i64 0,.int .i64 0] 143);have mh:Hid (aj (w3.alloc (.cells #[.int .i64 4,.int .i64 id,.int .i64 i,.int .i64 o1,.int .i64 o2,.int .i64 bx,.int .i64 0,.int .i64 0] 143)) w3.heap.size 143 #[.int .i64 4,.int .i64 id,.int .i64 i,.int .i64 o1,.int .i64 o2,.int .i64 bx,.int .i64 0,.int .i64 0]):=af (aj.new _ _ _);have lT:=af (ix.out.below hba);have gI:=af (eW.out.below hba);have jN:=af (mg.out.below hba);have jl:=af (aN.out.trans (hba.mono aN.out.size));clear hba ix eW mg aN;go_upto_region 10 with(fail)
  obtain⟨c8,gJ⟩:∃g,w3.heap.size=g:=⟨_,rfl⟩;rw [gJ]at mh⊢;clear gJ c1 e1 e2 bE;generalize w3.alloc (.cells _ 143)=av at*;have c0:=gI.out.cell 0;have cj:=gI.out.cell 5;have bE:=jN.out.cell 3;have iB:=CH.out i _ k5.out;dsimp only at iB;have tW:=af iB;clear iB;obtain⟨cb,hcb⟩:∃b:Bool,decide (kd=2∨(kd=3∧bx≤ah))=b:=⟨_,rfl⟩;have kS:=af hcb;clear hcb;have wq:=aU.out.ah;dsimp only at wq;obtain⟨AW,zb⟩:=wq;go_cut [51] (fun v wx=>v= .bool cb∧av=wx)
  case first=>
   rcases mW with rfl|rfl|rfl
   ·have gy:Hid (cb=true):=af (by rw [←kS.out];simp)
    go_wp2_with fail
    go_meet;exact⟨by rw [gy.out],by trivial⟩
   ·have gy:Hid (cb=decide (bx≤ah)):=af (by rw [←kS.out];simp)
    go_wp2_with fail
    go_meet;exact⟨by rw [gy.out],by trivial⟩
   ·have gy:Hid (cb=false):=af (by rw [←kS.out];simp)
    go_wp2_with fail
    go_meet;exact⟨by rw [gy.out],by trivial⟩
  case rest=>
  obtain⟨rfl,rfl⟩:=hcut;clear c0 cj bE;obtain⟨jB,Hu⟩:=tW.out;have o9:¬(kd=2∨(kd=3∧bx≤ah)):=by omega
  obtain rfl:cb=false:=by rw [←kS.out];exact decide_eq_false o9
  rw [if_neg o9,if_neg (by omega)]at b9;have c0:av.cell? ⟨aO,0,none⟩=some (.int .i64 4):=by rw [←jB];exact gI.out.cell 0
  have E2:=af Hu;clear o9 mW Hu jB;go_upto_region 16 with(fail)
  clear c0;have hd:=(Below.refl av.heap.size av).drew;have bf:=af (lT.out.below hd);have bQ:=af (gI.out.below hd);have ij:=af (jN.out.below hd);have gA:=af (mh.out.below hd);have cr:=af (jl.out.trans (hd.mono jl.out.size));clear hd lT gI jN mh jl
  have sr:Hid (∀wv,ed W wv pm ps p Q S E→(wv.cell? ⟨pm,0,none⟩=some (.string p.code)∧wv.cell? ⟨pm,1,none⟩=some (.slice p.ma p.months.length p.mc)∧wv.cell? ⟨pm,2,none⟩=some (.int .i64 p.tick)∧wv.cell? ⟨pm,3,none⟩=some (.int .i64 p.low)∧wv.cell? ⟨pm,4,none⟩=some (.int .i64 p.high)∧wv.cell? ⟨pm,5,none⟩=some (.int .i64 p.wide)∧wv.cell? ⟨pm,6,none⟩=some (.int .i64 p.rule)∧wv.cell? ⟨pm,7,none⟩=some (.int .i64 p.top)∧wv.cell? ⟨pm,8,none⟩=some (.int .i64 p.least)∧wv.cell? ⟨pm,9,none⟩=some (.int .i64 p.part)∧wv.cell? ⟨pm,10,none⟩=some (.slice p.sa p.settle.length p.sc))∧wv.cell? ⟨pm,11,none⟩=some (.pointer (some ⟨ps,0,none⟩))):=af fun wv hv=>by
   obtain⟨_,_,hmb,_⟩:=hv.box;exact⟨⟨hmb.cell 0,hmb.cell 1,hmb.cell 2,hmb.cell 3,hmb.cell 4,hmb.cell 5,hmb.cell 6,hmb.cell 7,hmb.cell 8,hmb.cell 9,hmb.cell 10⟩,hmb.cell 11⟩
  have hH:=(sr.out _ bf.out).1;have d4:av.drew.cell? ⟨aO,4,none⟩=some (.int .i64 ag):=bQ.out.cell 4;have lm:=BV p i ag av.drew (bf.out.bZ.pv.below bf.out.bZ.aF);obtain⟨pr,wz⟩:∃x,eA p i ag=x:=⟨_,rfl⟩;rw [wz]at lm b9 E2;unfold Prod.agg Prod.cells at lm;have jU:=af lm;clear lm wz;refine cF (S:=fun w'=>(w'.cell? ⟨pm,0,none⟩=some (.string p.code)∧w'.cell? ⟨pm,1,none⟩=some (.slice p.ma p.months.length p.mc)∧w'.cell? ⟨pm,2,none⟩=some (.int .i64 p.tick)∧w'.cell? ⟨pm,3,none⟩=some (.int .i64 p.low)∧w'.cell? ⟨pm,4,none⟩=some (.int .i64 p.high)∧w'.cell? ⟨pm,5,none⟩=some (.int .i64 p.wide)∧w'.cell? ⟨pm,6,none⟩=some (.int .i64 p.rule)∧w'.cell? ⟨pm,7,none⟩=some (.int .i64 p.top)∧w'.cell? ⟨pm,8,none⟩=some (.int .i64 p.least)∧w'.cell? ⟨pm,9,none⟩=some (.int .i64 p.part)∧w'.cell? ⟨pm,10,none⟩=some (.slice p.sa p.settle.length p.sc))∧w'.cell? ⟨aO,4,none⟩=some (.int .i64 ag)) (by kernel_rfl) ⟨hH,d4⟩ (fun hHeld=>?_);refine ai 0 ?_;refine ai 1 ?_;refine ai 2 ?_;refine ai 3 ?_;refine ai 4 ?_;refine ai 5 ?_;refine ai 6 ?_;clear hH d4;generalize av.drew=au at*;refine aR 7 fun K hK=>?_;go_simp;go_at_call 67
  refine jU.out.mono ?_;rintro e aK ⟨rfl,bF⟩;have lT:=af (bf.out.below bF);have gI:=af (bQ.out.below bF);have jN:=af (ij.out.below bF);have mh:=af (gA.out.below bF);have jl:=af (cr.out.trans (bF.mono cr.out.size));refine hK.out _ _ ⟨(sr.out _ lT.out).1,gI.out.cell 4⟩ (fun hHeld=>?_);clear hK K bF jU bf bQ ij gA cr;refine gx _ _ _ _ ?_;refine eB 8 ?_;refine wpAnyH_done (by kernel_rfl) ?_ _;clear hHeld;by_cases su:pr=0
  ·subst su
   obtain⟨g9,abY⟩:ag=o2∧ah≤bx:=by
    rcases E2.out with h|h
    ·exact absurd rfl h
    ·exact h
   rw [if_neg (fun h=>h rfl),if_pos ⟨g9,abY⟩]at b9;have ze:(ag==o2)=true:=by rw [g9];exact beq_self_eq_true _
   have d4:=gI.out.cell 4;have d5:=gI.out.cell 5;have e2:=jN.out.cell 2;have bE:=jN.out.cell 3;clear g9;by_cases hlt:ah<bx
   ·rw [if_pos hlt]at b9
    go_upto_region 21 with(fail)
    clear d4 d5 e2 bE ze;have hd:=(Below.refl aK.heap.size aK).drew;have bf:=af (lT.out.below hd);have bQ:=af (gI.out.below hd);have ij:=af (jN.out.below hd);have gA:=af (mh.out.below hd);have cr:=af (jl.out.trans (hd.mono jl.out.size));clear hd lT gI jN mh jl
    have dg:aK.drew.cell? ⟨pm,11,none⟩=some (.pointer (some ⟨ps,0,none⟩)):=by
     obtain⟨_,_,h1,_⟩:=bf.out.box;exact h1.cell 11
    have wu:aK.drew.cell? ⟨aO,1,none⟩=some (.int .i64 id):=bQ.out.cell 1;have AX:aK.drew.cell? ⟨aI,3,none⟩=some (.int .i64 bx):=ij.out.cell 3;have Hv:aK.drew.cell? ⟨aO,5,none⟩=some (.int .i64 ah):=bQ.out.cell 5;refine cF (S:=fun w'=>w'.cell? ⟨pm,11,none⟩=some (.pointer (some ⟨ps,0,none⟩))∧w'.cell? ⟨aO,1,none⟩=some (.int .i64 id)∧w'.cell? ⟨aI,3,none⟩=some (.int .i64 bx)∧w'.cell? ⟨aO,5,none⟩=some (.int .i64 ah)) (by kernel_rfl) ⟨dg,wu,AX,Hv⟩ (fun hHeld=>?_);refine ai 0 ?_;refine ai 1 ?_;refine ai 2 ?_;refine ai 3 ?_;refine ai 4 ?_;refine ai 5 ?_;refine ai 6 ?_;refine ai 7 ?_;refine ai 8 ?_;refine ai 9 ?_;refine ai 10 ?_;rw [show IntKind.i64.wrap (bx-ah)=bx-ah from IntWalk.i64_in _ (by omega)];clear dg wu AX Hv;generalize aK.drew=wd at*;have k7:=Ht bf.out.bZ (by have:=aq.out.le;omega) (fun L hL=>⟨(aq.out.each L hL).len,(aq.out.each L hL).nd,(aq.out.each L hL).ah⟩) id (bx-ah);refine cO 11 fun K hK=>?_;go_simp;go_at_call 66
    refine k7.mono ?_;rintro e wt ⟨rfl,hsb,j3⟩;refine hK.out _ _ ?_;clear hK K k7 hHeld;have mX:∀g,g∈Q→bV wd g 181:=fun g hg=>(bf.out.bZ.ow hg).1;have x3:=af (bf.out.turn hsb j3);have gw:=af (bQ.out.keeps j3 (fun e=>bQ.out.aC.ne (mX _ e) (by decide) rfl));have rM:=af (ij.out.keeps j3 (fun e=>ij.out.aC.ne (mX _ e) (by decide) rfl));have tX:=af (gA.out.keeps j3 (fun e=>gA.out.aC.ne (mX _ e) (by decide) rfl));have x4:Hid (aD (fun g=>g∈Q) w wt):=af ((Below.keeps cr.out).trans j3);clear hsb j3 mX bf bQ ij gA cr;have d1:=gw.out.cell 1;have d5:=gw.out.cell 5;have e1:=rM.out.cell 1;have e2:=rM.out.cell 2;have bE:=rM.out.cell 3;go_wp2_with fail
    go_ret;have er:=Below.aA wt (.cells #[.int .i64 5,.int .i64 id,.int .i64 i,.int .i64 o1,.int .i64 o2,.int .i64 (bx-ah),.int .i64 ah,.int .i64 0] 143);have hN:fQ W w (wt.alloc (.cells #[.int .i64 5,.int .i64 id,.int .i64 i,.int .i64 o1,.int .i64 o2,.int .i64 (bx-ah),.int .i64 ah,.int .i64 0] 143)) pm ps p Q R.1 R.2:=by rw [b9.out];exact fQ.qi ie.out (x3.out.below er) (x4.out.trans (Below.keeps er))
    first|exact hN|exact⟨_,rfl,hN⟩|exact⟨⟨_,rfl⟩,hN⟩|exact⟨⟨_,rfl⟩,hN⟩
   ·rw [if_neg hlt]at b9
    go_upto_region 22 with(fail)
    clear d4 d5 e2 bE ze;have x3:=lT;have gw:=gI;have rM:=jN;have x4:Hid (aD (fun g=>g∈Q) w aK):=af (Below.keeps jl.out);obtain⟨wt,rfl⟩:∃bk:World,bk=aK:=⟨_,rfl⟩;have d1:=gw.out.cell 1;have d5:=gw.out.cell 5;have e1:=rM.out.cell 1;have e2:=rM.out.cell 2;have bE:=rM.out.cell 3;go_wp2_with fail
    go_ret;have er:=Below.aA wt (.cells #[.int .i64 5,.int .i64 id,.int .i64 i,.int .i64 o1,.int .i64 o2,.int .i64 (bx-ah),.int .i64 ah,.int .i64 0] 143);have hN:fQ W w (wt.alloc (.cells #[.int .i64 5,.int .i64 id,.int .i64 i,.int .i64 o1,.int .i64 o2,.int .i64 (bx-ah),.int .i64 ah,.int .i64 0] 143)) pm ps p Q R.1 R.2:=by rw [b9.out];exact fQ.qi ie.out (x3.out.below er) (x4.out.trans (Below.keeps er))
    first|exact hN|exact⟨_,rfl,hN⟩|exact⟨⟨_,rfl⟩,hN⟩|exact⟨⟨_,rfl⟩,hN⟩
  ·rw [if_pos su]at b9
   have c1:=gI.out.cell 1;have kv:=Ap id pr aK;go_wp2_with fail
   refine kv.mono ?_;rintro e wn ⟨v,rfl,_,bR⟩;have iG:=af (jl.out.trans (bR.mono jl.out.size));clear c1 kv bR;go_wp2_with fail
   go_ret;exact⟨_,rfl,by rw [b9.out];exact fQ.qi ie.out (ie.out.below iG.out) (Below.keeps iG.out)⟩
end
end Go.Proofs.YtmaijkoopjocdaaGreat
