import Derived.Test.YtmaijkoopjocdaaGreatKT36
set_option maxRecDepth 100000
set_option maxHeartbeats 64000000
namespace Go.Proofs.YtmaijkoopjocdaaGreat
open Go.RowKit Go.Lib
def tv (c:dB):Int:=if c.time=3 then c.ah else c.least
def qN (p:Prod) (S:List (List ay)) (E:List Int) (i:Nat) (c:dB):List (List ay)×List Int:=
 if eA p i c.ag≠0 then(S,E)else if E.any (fun x=>x==c.id)=true then(S,E)else if 250≤tot S then(S,E)
 else if 0<tv c∧BU p S i c.side c.ag (tv c)<tv c then(S,E)
 else if c.time=1∧rB p S i c.side c.ag c.ah=true then(S,E)else(qh p S i c,E++ [c.id])
section
variable {W w w':World} {pm ps pb:Nat} {p:Prod} {Q:List Nat} {S S':List (List ay)} {E:List Int}
theorem Eb (h:ed W w pm ps p Q S E) (hz:cz p=0) (hS:dJ p S) (c:dB) {i:Nat} (jS:c.inst=i) (hi:i<S.length) (gf:c.side=1∨c.side=2) (mG:1≤c.ah) (hq1:c.ah≤100) (iR:c.least≤c.ah) (hE:E.length≤90000):
 Calls Tryz.prog 64 #[.pointer (some ⟨pm,0,none⟩),.agg c.cells] w fun e w'=>∃v,e= .returned v∧∃L,nk.Row w' w.heap.size v L∧L.length≤160000∧fQ W w w' pm ps p Q (qN p S E i c).1 (qN p S E i c).2:=by
 have hb0:=Below.aA w (.cells #[.int .i64 c.kind,.int .i64 c.id,.int .i64 i,.int .i64 c.side,.int .i64 c.ag,.int .i64 c.ah,.int .i64 c.least,.int .i64 c.time,.string c.label] 80);have bD:=af hb0;have ie:=af h;have iT:=af (h.below hb0);have bY:Hid (aj (w.alloc (.cells #[.int .i64 c.kind,.int .i64 c.id,.int .i64 i,.int .i64 c.side,.int .i64 c.ag,.int .i64 c.ah,.int .i64 c.least,.int .i64 c.time,.string c.label] 80)) w.heap.size 80 #[.int .i64 c.kind,.int .i64 c.id,.int .i64 i,.int .i64 c.side,.int .i64 c.ag,.int .i64 c.ah,.int .i64 c.least,.int .i64 c.time,.string c.label]):=af (aj.new _ _ _);have dI:=af hz;have aq:=af hS;have jT:=af hi;have qO:=af gf;have bH:=af hE;have Sh:tv c≤100∧(0<tv c→1≤tv c):=by unfold tv;split<;>omega
 obtain⟨R,hR⟩:∃R,qN p S E i c=R:=⟨_,rfl⟩;have b9:Hid (R=if eA p i c.ag≠0 then(S,E)else if E.any (fun x=>x==c.id)=true then(S,E)else if 250≤tot S then(S,E)else if 0<tv c∧BU p S i c.side c.ag (tv c)<tv c then(S,E)else if c.time=1∧rB p S i c.side c.ag c.ah=true then(S,E)else(qh p S i c,E++ [c.id])):=af (by rw [←hR];rfl);rw [hR];have Gt:=af jS;clear h hz hS hi gf hE hb0 hR;unfold dB.cells;rw [jS];clear jS;go_enter Tryz.func64,Tryz.ntmps64
 go_upto_region 1 with(fail)
 obtain⟨aO,bU⟩:∃g,w.heap.size=g:=⟨_,rfl⟩;rw [bU]at bY⊢;clear bU;generalize w.alloc (.cells _ 80)=w1 at*;have hd:=(Below.refl w1.heap.size w1).drew;have dD:=af hd;have bf:=af (iT.out.below hd);have bQ:=af (bY.out.below hd);obtain⟨yQ,yR,hmb,_⟩:=bf.out.box;have hH:(w1.drew.cell? ⟨pm,0,none⟩=some (.string p.code)∧w1.drew.cell? ⟨pm,1,none⟩=some (.slice p.ma p.months.length p.mc)∧w1.drew.cell? ⟨pm,2,none⟩=some (.int .i64 p.tick)∧w1.drew.cell? ⟨pm,3,none⟩=some (.int .i64 p.low)∧w1.drew.cell? ⟨pm,4,none⟩=some (.int .i64 p.high)∧w1.drew.cell? ⟨pm,5,none⟩=some (.int .i64 p.wide)∧w1.drew.cell? ⟨pm,6,none⟩=some (.int .i64 p.rule)∧w1.drew.cell? ⟨pm,7,none⟩=some (.int .i64 p.top)∧w1.drew.cell? ⟨pm,8,none⟩=some (.int .i64 p.least)∧w1.drew.cell? ⟨pm,9,none⟩=some (.int .i64 p.part)∧w1.drew.cell? ⟨pm,10,none⟩=some (.slice p.sa p.settle.length p.sc)):=⟨hmb.cell 0,hmb.cell 1,hmb.cell 2,hmb.cell 3,hmb.cell 4,hmb.cell 5,hmb.cell 6,hmb.cell 7,hmb.cell 8,hmb.cell 9,hmb.cell 10⟩
 have sr:Hid (∀wv,ed W wv pm ps p Q S E→(wv.cell? ⟨pm,0,none⟩=some (.string p.code)∧wv.cell? ⟨pm,1,none⟩=some (.slice p.ma p.months.length p.mc)∧wv.cell? ⟨pm,2,none⟩=some (.int .i64 p.tick)∧wv.cell? ⟨pm,3,none⟩=some (.int .i64 p.low)∧wv.cell? ⟨pm,4,none⟩=some (.int .i64 p.high)∧wv.cell? ⟨pm,5,none⟩=some (.int .i64 p.wide)∧wv.cell? ⟨pm,6,none⟩=some (.int .i64 p.rule)∧wv.cell? ⟨pm,7,none⟩=some (.int .i64 p.top)∧wv.cell? ⟨pm,8,none⟩=some (.int .i64 p.least)∧wv.cell? ⟨pm,9,none⟩=some (.int .i64 p.part)∧wv.cell? ⟨pm,10,none⟩=some (.slice p.sa p.settle.length p.sc))∧wv.cell? ⟨pm,11,none⟩=some (.pointer (some ⟨ps,0,none⟩))):=af fun wv hv=>by
  obtain⟨_,_,hmb,_⟩:=hv.box;exact⟨⟨hmb.cell 0,hmb.cell 1,hmb.cell 2,hmb.cell 3,hmb.cell 4,hmb.cell 5,hmb.cell 6,hmb.cell 7,hmb.cell 8,hmb.cell 9,hmb.cell 10⟩,hmb.cell 11⟩
 have a2:w1.drew.cell? ⟨aO,2,none⟩=some (.int .i64 i):=bQ.out.cell 2;have a4:w1.drew.cell? ⟨aO,4,none⟩=some (.int .i64 c.ag):=bQ.out.cell 4;have jU:=BV p i c.ag w1.drew (bf.out.bZ.pv.below bf.out.bZ.aF);obtain⟨pr,lm⟩:∃x,eA p i c.ag=x:=⟨_,rfl⟩;rw [lm]at jU b9;unfold Prod.agg Prod.cells at jU;have jU:=af jU;clear hmb hd lm;refine cF (S:=fun w'=>(w'.cell? ⟨pm,0,none⟩=some (.string p.code)∧w'.cell? ⟨pm,1,none⟩=some (.slice p.ma p.months.length p.mc)∧w'.cell? ⟨pm,2,none⟩=some (.int .i64 p.tick)∧w'.cell? ⟨pm,3,none⟩=some (.int .i64 p.low)∧w'.cell? ⟨pm,4,none⟩=some (.int .i64 p.high)∧w'.cell? ⟨pm,5,none⟩=some (.int .i64 p.wide)∧w'.cell? ⟨pm,6,none⟩=some (.int .i64 p.rule)∧w'.cell? ⟨pm,7,none⟩=some (.int .i64 p.top)∧w'.cell? ⟨pm,8,none⟩=some (.int .i64 p.least)∧w'.cell? ⟨pm,9,none⟩=some (.int .i64 p.part)∧w'.cell? ⟨pm,10,none⟩=some (.slice p.sa p.settle.length p.sc))∧w'.cell? ⟨aO,2,none⟩=some (.int .i64 i)∧w'.cell? ⟨aO,4,none⟩=some (.int .i64 c.ag)) (by kernel_rfl) ⟨hH,a2,a4⟩ (fun hHeld=>?_);refine ai 0 ?_;refine ai 1 ?_;refine ai 2 ?_;refine ai 3 ?_;refine ai 4 ?_;refine ai 5 ?_;refine ai 6 ?_;refine ai 7 ?_;clear hH a2 a4;generalize w1.drew=w2 at*;refine aR 8 fun K hK=>?_;go_simp;go_at_call 67
 refine jU.out.mono ?_;rintro e w3 ⟨rfl,hb3⟩;have aN:Hid (Below w1.heap.size w1 w3):=af (dD.out.trans (hb3.mono dD.out.size));have ix:=af (iT.out.below aN.out);have eW:=af (bY.out.below aN.out);refine hK.out _ _ ⟨(sr.out _ ix.out).1,eW.out.cell 2,eW.out.cell 4⟩ (fun hHeld=>?_);clear hK K hb3 jU bf bQ dD;refine gx _ _ _ _ ?_;refine eB 9 ?_;refine wpAnyH_done (by kernel_rfl) ?_ _;clear hHeld;by_cases su:pr=0
 ·subst su
  rw [if_neg (fun h=>h rfl)]at b9;have M4:=aao ix.out (by have:=bH.out;omega) c.id;obtain⟨us,Si⟩:∃b,E.any (fun x=>x==c.id)=b:=⟨_,rfl⟩;rw [Si]at M4 b9;have a1:w3.cell? ⟨aO,1,none⟩=some (.int .i64 c.id):=eW.out.cell 1;clear Si;go_wp2_with fail
  refine M4.mono ?_;rintro e av ⟨rfl,rfl⟩;clear M4 a1;cases us with
  |true=>
   rw [if_pos rfl]at b9;have a1:w3.cell? ⟨aO,1,none⟩=some (.int .i64 c.id):=(bY.out.below aN.out).cell 1;have kv:=Ap c.id 25 w3;go_wp2_with fail
   refine kv.mono ?_;rintro e wn ⟨v,rfl,hr,bR⟩;have kY:=af (hr.base (Nat.le_trans bD.out.size aN.out.size));have iG:=af (bD.out.trans ((aN.out.trans (bR.mono aN.out.size)).mono bD.out.size));clear a1 kv hr bR;go_wp2_with fail
   go_ret;exact⟨_,rfl,_,kY.out,by simp,by rw [b9.out];exact fQ.qi ie.out (ie.out.below iG.out) (Below.keeps iG.out)⟩
  |false=>
   rw [if_neg (by simp)]at b9;have nr:=Sj ix.out.bZ (by have:=aq.out.le;omega) (M5 aq.out);obtain⟨tt,BW⟩:∃n,tot S=n:=⟨_,rfl⟩;rw [BW]at nr b9;have htb:tt≤100000:=by rw [←BW];exact M5 aq.out
   have dg:=(sr.out _ ix.out).2;clear BW;go_wp2_with fail
   refine nr.mono ?_;rintro e av ⟨rfl,rfl⟩;clear nr dg;by_cases hfull:250≤tt
   ·have M6:(250:Int)≤(tt:Int):=by omega
    rw [if_pos hfull]at b9;have a1:w3.cell? ⟨aO,1,none⟩=some (.int .i64 c.id):=(bY.out.below aN.out).cell 1;have kv:=Ap c.id 13 w3;go_wp2_with fail
    refine kv.mono ?_;rintro e wn ⟨v,rfl,hr,bR⟩;have kY:=af (hr.base (Nat.le_trans bD.out.size aN.out.size));have iG:=af (bD.out.trans ((aN.out.trans (bR.mono aN.out.size)).mono bD.out.size));clear a1 kv hr bR;go_wp2_with fail
    go_ret;exact⟨_,rfl,_,kY.out,by simp,by rw [b9.out];exact fQ.qi ie.out (ie.out.below iG.out) (Below.keeps iG.out)⟩
   ·have M6:¬(250:Int)≤(tt:Int):=by omega
    rw [if_neg hfull]at b9;obtain⟨nd,M7⟩:∃x,tv c=x:=⟨_,rfl⟩;rw [M7]at b9 Sh;have Sk:=af M7;have a6:w3.cell? ⟨aO,6,none⟩=some (.int .i64 c.least):=eW.out.cell 6;have a7:w3.cell? ⟨aO,7,none⟩=some (.int .i64 c.time):=eW.out.cell 7;have a5:w3.cell? ⟨aO,5,none⟩=some (.int .i64 c.ah):=eW.out.cell 5;clear M7;go_upto_if 42 with(fail)
    go_cut [6] (fun v wx=>v= .int .i64 nd∧w3=wx)
    case first=>
     by_cases ht:c.time=3
     ·have ht':(c.time==3)=true:=by rw [ht];rfl
      have gy:Hid (nd=c.ah):=af (by rw [←Sk.out];unfold tv;rw [if_pos ht]);clear ht;go_wp2_with fail
      go_meet;exact⟨by rw [gy.out],by trivial⟩
     ·have ht':(c.time==3)=false:=by rw [beq_eq_false_iff_ne];exact ht
      have gy:Hid (nd=c.least):=af (by rw [←Sk.out];unfold tv;rw [if_neg ht]);clear ht;go_wp2_with fail
      go_meet;exact⟨by rw [gy.out],by trivial⟩
    case rest=>
    obtain⟨rfl,rfl⟩:=hcut;clear a5 a6 a7;obtain⟨b1,Sl⟩:∃b:Bool,decide (0<nd∧BU p S i c.side c.ag nd<nd)=b:=⟨_,rfl⟩;have Ec:=af Sl;clear Sl;go_upto_region 11 with(fail)
    go_cut [62] (fun v wx=>v= .bool b1∧Below w3.heap.size w3 wx)
    case first=>
     have hd:=(Below.refl w3.heap.size w3).drew;have bf:=af (ix.out.below hd);have bQ:=af (eW.out.below hd);have dg:=(sr.out _ bf.out).2;have a2:w3.drew.cell? ⟨aO,2,none⟩=some (.int .i64 i):=bQ.out.cell 2;have a3:w3.drew.cell? ⟨aO,3,none⟩=some (.int .i64 c.side):=bQ.out.cell 3;have a4:w3.drew.cell? ⟨aO,4,none⟩=some (.int .i64 c.ag):=bQ.out.cell 4;have dD:=af hd;clear hd;refine cF (S:=fun w'=>w'.cell? ⟨pm,11,none⟩=some (.pointer (some ⟨ps,0,none⟩))∧w'.cell? ⟨aO,2,none⟩=some (.int .i64 i)∧w'.cell? ⟨aO,3,none⟩=some (.int .i64 c.side)∧w'.cell? ⟨aO,4,none⟩=some (.int .i64 c.ag)) (by kernel_rfl) ⟨dg,a2,a3,a4⟩ (fun hHeld=>?_);clear dg a2 a3 a4;by_cases hn0:0<nd
     ·skip
      refine ai 0 ?_;refine ai 1 ?_;refine ai 2 ?_;refine ai 3 ?_;refine ai 4 ?_;refine ai 5 ?_;refine ai 6 ?_;refine ai 7 ?_;refine ai 8 ?_;refine ai 9 ?_;refine ai 10 ?_;refine ai 11 ?_;refine ai 12 ?_;refine ai 13 ?_;refine ai 15 ?_;generalize w3.drew=au at*;have gG:=aap bf.out.bZ dI.out aq.out jT.out c.side c.ag nd qO.out (by omega) (by omega);obtain⟨aZ,hcv⟩:∃x,BU p S i c.side c.ag nd=x:=⟨_,rfl⟩;rw [hcv]at gG Ec;clear hcv;refine aR 14 fun K hK=>?_;go_simp;go_at_call 106
      refine gG.mono ?_;rintro e aK ⟨rfl,bF⟩;have M8:=af (bf.out.below bF);have rC:=af (bQ.out.below bF);have cC:=af (dD.out.trans (bF.mono dD.out.size));refine hK.out _ _ ⟨(sr.out _ M8.out).2,rC.out.cell 2,rC.out.cell 3,rC.out.cell 4⟩ (fun hHeld=>?_);clear hK K bF gG;have gy:Hid (decide (aZ<nd)=b1):=af (by rw [←Ec.out];simp [hn0]);refine gx _ _ _ _ ?_;refine eB 16 ?_;refine eB 17 ?_;refine wpAnyH_done (by kernel_rfl) ?_ _;clear hHeld;go_wp2_with fail
      go_meet;exact⟨by rw [←gy.out],cC.out⟩
     ·have gy:Hid (b1=false):=af (by rw [←Ec.out,decide_eq_false_iff_not];exact fun hh=>hn0 hh.1)
      refine ai 0 ?_;refine ai 1 ?_;refine ai 2 ?_;refine dS 3 ?_;refine dS 4 ?_;refine dS 5 ?_;refine dS 6 ?_;refine dS 7 ?_;refine dS 8 ?_;refine dS 9 ?_;refine dS 10 ?_;refine dS 11 ?_;refine dS 12 ?_;refine dS 13 ?_;refine dS 14 ?_;refine dS 15 ?_;refine dS 16 ?_;refine gx _ _ _ _ ?_;refine eB 17 ?_;refine wpAnyH_done (by kernel_rfl) ?_ _;clear hHeld;go_wp2_with fail
      go_meet;exact⟨by rw [gy.out],dD.out⟩
    case rest=>
    obtain⟨rfl,dA⟩:=hcut;have cD:Hid (Below w1.heap.size w1 wc):=af (aN.out.trans (dA.mono aN.out.size));have qP:=af (ix.out.below dA);have sw:=af (eW.out.below dA);clear dA ix eW aN;generalize wc=au at*;cases b1 with
    |true=>
     have mH:=Ec.out;rw [decide_eq_true_eq]at mH;rw [if_pos mH]at b9;clear mH;have a1:au.cell? ⟨aO,1,none⟩=some (.int .i64 c.id):=(bY.out.below cD.out).cell 1;have kv:=Ap c.id 28 au;go_wp2_with fail
     refine kv.mono ?_;rintro e wn ⟨v,rfl,hr,bR⟩;have kY:=af (hr.base (Nat.le_trans bD.out.size cD.out.size));have iG:=af (bD.out.trans ((cD.out.trans (bR.mono cD.out.size)).mono bD.out.size));clear a1 kv hr bR;go_wp2_with fail
     go_ret;exact⟨_,rfl,_,kY.out,by simp,by rw [b9.out];exact fQ.qi ie.out (ie.out.below iG.out) (Below.keeps iG.out)⟩
    |false=>
     have mH:=Ec.out;rw [decide_eq_false_iff_not]at mH;rw [if_neg mH]at b9;clear mH Ec;obtain⟨b2,Sm⟩:∃b:Bool,decide (c.time=1∧rB p S i c.side c.ag c.ah=true)=b:=⟨_,rfl⟩;have Gu:=af Sm;clear Sm;go_upto_region 13 with(fail)
     go_cut [87] (fun v wx=>v= .bool b2∧Below au.heap.size au wx)
     case first=>
      have hd:=(Below.refl au.heap.size au).drew;have bf:=af (qP.out.below hd);have bQ:=af (sw.out.below hd);have hH:=sr.out _ bf.out;have a2:au.drew.cell? ⟨aO,2,none⟩=some (.int .i64 i):=bQ.out.cell 2;have a3:au.drew.cell? ⟨aO,3,none⟩=some (.int .i64 c.side):=bQ.out.cell 3;have a4:au.drew.cell? ⟨aO,4,none⟩=some (.int .i64 c.ag):=bQ.out.cell 4;have a5:au.drew.cell? ⟨aO,5,none⟩=some (.int .i64 c.ah):=bQ.out.cell 5;have a7:au.drew.cell? ⟨aO,7,none⟩=some (.int .i64 c.time):=bQ.out.cell 7;have dD:=af hd;clear hd;refine cF (S:=fun w'=>((w'.cell? ⟨pm,0,none⟩=some (.string p.code)∧w'.cell? ⟨pm,1,none⟩=some (.slice p.ma p.months.length p.mc)∧w'.cell? ⟨pm,2,none⟩=some (.int .i64 p.tick)∧w'.cell? ⟨pm,3,none⟩=some (.int .i64 p.low)∧w'.cell? ⟨pm,4,none⟩=some (.int .i64 p.high)∧w'.cell? ⟨pm,5,none⟩=some (.int .i64 p.wide)∧w'.cell? ⟨pm,6,none⟩=some (.int .i64 p.rule)∧w'.cell? ⟨pm,7,none⟩=some (.int .i64 p.top)∧w'.cell? ⟨pm,8,none⟩=some (.int .i64 p.least)∧w'.cell? ⟨pm,9,none⟩=some (.int .i64 p.part)∧w'.cell? ⟨pm,10,none⟩=some (.slice p.sa p.settle.length p.sc))∧w'.cell? ⟨pm,11,none⟩=some (.pointer (some ⟨ps,0,none⟩)))∧w'.cell? ⟨aO,2,none⟩=some (.int .i64 i)∧w'.cell? ⟨aO,3,none⟩=some (.int .i64 c.side)∧w'.cell? ⟨aO,4,none⟩=some (.int .i64 c.ag)∧w'.cell? ⟨aO,5,none⟩=some (.int .i64 c.ah)∧w'.cell? ⟨aO,7,none⟩=some (.int .i64 c.time)) (by kernel_rfl) ⟨hH,a2,a3,a4,a5,a7⟩ (fun hHeld=>?_);clear hH a2 a3 a4 a5 a7;by_cases jw:c.time=1
      ·have ht':(c.time==1)=true:=by rw [jw];rfl
       have gy:Hid (rB p S i c.side c.ag c.ah=b2):=af (by rw [←Gu.out,jw];simp);clear jw;refine ai 0 ?_;refine ai 1 ?_;refine ai 2 ?_;refine ai 3 ?_;refine ai 4 ?_;refine ai 5 ?_;refine ai 6 ?_;refine ai 7 ?_;refine ai 8 ?_;refine ai 9 ?_;refine ai 10 ?_;refine ai 11 ?_;refine ai 12 ?_;refine ai 13 ?_;refine ai 14 ?_;refine ai 15 ?_;refine ai 16 ?_;refine ai 17 ?_;refine ai 18 ?_;refine ai 19 ?_;generalize au.drew=aK at*;have kx:=Sn bf.out.bZ dI.out aq.out jT.out c.side c.ag c.ah qO.out mG (by omega);rw [gy.out]at kx;unfold Prod.agg Prod.cells at kx;refine aR 20 fun K hK=>?_;go_simp;go_at_call 69
       refine kx.mono ?_;rintro e bw ⟨rfl,kz⟩;have aaq:=af (bf.out.below kz);have n9:=af (bQ.out.below kz);have fw:=af (dD.out.trans (kz.mono dD.out.size));refine hK.out _ _ ⟨sr.out _ aaq.out,n9.out.cell 2,n9.out.cell 3,n9.out.cell 4,n9.out.cell 5,n9.out.cell 7⟩ (fun hHeld=>?_);clear hK K kz kx;refine gx _ _ _ _ ?_;refine eB 21 ?_;refine wpAnyH_done (by kernel_rfl) ?_ _;clear hHeld;go_wp2_with fail
       go_meet;exact⟨by trivial,fw.out⟩
      ·have ht':(c.time==1)=false:=by rw [beq_eq_false_iff_ne];exact jw
       have gy:Hid (b2=false):=af (by rw [←Gu.out,decide_eq_false_iff_not];exact fun hh=>jw hh.1);clear jw;refine ai 0 ?_;refine ai 1 ?_;refine ai 2 ?_;refine ai 3 ?_;refine dS 4 ?_;refine dS 5 ?_;refine dS 6 ?_;refine dS 7 ?_;refine dS 8 ?_;refine dS 9 ?_;refine dS 10 ?_;refine dS 11 ?_;refine dS 12 ?_;refine dS 13 ?_;refine dS 14 ?_;refine dS 15 ?_;refine dS 16 ?_;refine dS 17 ?_;refine dS 18 ?_;refine dS 19 ?_;refine dS 20 ?_;refine gx _ _ _ _ ?_;refine eB 21 ?_;refine wpAnyH_done (by kernel_rfl) ?_ _;clear hHeld;go_wp2_with fail
       go_meet;exact⟨by rw [gy.out],dD.out⟩
     case rest=>
     obtain⟨rfl,dA⟩:=hcut;have ig:Hid (Below w1.heap.size w1 wc):=af (cD.out.trans (dA.mono cD.out.size));have Aq:=af (qP.out.below dA);have xM:=af (sw.out.below dA);clear dA qP sw cD;generalize wc=bW at*;cases b2 with
     |true=>
      have mH:=Gu.out;rw [decide_eq_true_eq]at mH;rw [if_pos mH]at b9;clear mH;have a1:bW.cell? ⟨aO,1,none⟩=some (.int .i64 c.id):=(bY.out.below ig.out).cell 1;have kv:=Ap c.id 23 bW;go_wp2_with fail
      refine kv.mono ?_;rintro e wn ⟨v,rfl,hr,bR⟩;have kY:=af (hr.base (Nat.le_trans bD.out.size ig.out.size));have iG:=af (bD.out.trans ((ig.out.trans (bR.mono ig.out.size)).mono bD.out.size));clear a1 kv hr bR;go_wp2_with fail
      go_ret;exact⟨_,rfl,_,kY.out,by simp,by rw [b9.out];exact fQ.qi ie.out (ie.out.below iG.out) (Below.keeps iG.out)⟩
     |false=>
      have mH:=Gu.out;rw [decide_eq_false_iff_not]at mH;rw [if_neg mH]at b9;clear mH Gu;obtain⟨sa,sc,aP,hrw⟩:=Aq.out.box;obtain⟨sn,tq⟩:∃n,E.length=n:=⟨_,rfl⟩;have hd:=(Below.refl bW.heap.size bW).drew;have M9:bW.drew.cell? ⟨pm,12,none⟩=some (.slice sa sn sc):=by rw [←tq];exact(aP.below hd).cell 12
      have a1:bW.drew.cell? ⟨aO,1,none⟩=some (.int .i64 c.id):=(xM.out.below hd).cell 1;have bf:=af (Aq.out.below hd);have bQ:=af (xM.out.below hd);have jf:=af (aP.below hd);have iH:=af (hrw.below hd);have cr:=af (ig.out.trans (hd.mono ig.out.size));have l6:=af tq;clear aP hrw hd tq Aq xM ig;go_upto_region 15 with(fail)
      refine cF (S:=fun w'=>w'.cell? ⟨pm,12,none⟩=some (.slice sa sn sc)∧w'.cell? ⟨aO,1,none⟩=some (.int .i64 c.id)) (by kernel_rfl) ⟨M9,a1⟩ (fun hHeld=>?_);refine ai 0 ?_;refine ai 1 ?_;refine ai 2 ?_;refine ai 3 ?_;refine ai 4 ?_;refine ai 5 ?_;refine ai 6 ?_;clear M9 a1;generalize bW.drew=bG at*;refine aR 7 fun K hK=>?_;go_simp;have hba:=Below.aA bG (.cells #[.int .i64 c.id] 2);have gR:aj (bG.alloc (.cells #[.int .i64 c.id] 2)) bG.heap.size 2 (kC c.id).toArray:=aj.new _ _ _;have Ka:=bQ.out.below hba;have So:=jf.out.below hba;have Kb:=iH.out.below hba;have aar:=bf.out.below hba;refine hK.out _ _ ⟨by rw [←l6.out];exact So.cell 12,Ka.cell 1⟩ (fun hHeld=>?_);clear hK K;have cP:=af hba;clear hba So aar;generalize bG.alloc (.cells #[.int .i64 c.id] 2)=yS at*;rw [l6.out]at Kb;refine aR 8 fun K hK=>?_;refine eJ.step rfl (.tmp 95) (.tmp 98) rfl W.heap.size _ E rfl Kb bG.heap.size c.id rfl gR.lt gR.fU (by have:=bH.out;omega) (Nat.le_trans (ed.base bf.out) (Nat.le_trans (Nat.le_of_lt bf.out.aC.lt) cP.out.size)) ?_;intro v' BX yT xN BZ;have iU:=fe xN;have bI:=dR Kb;have Na:=Ka.keeps iU (fun e=>Ka.aC.ne (bI _ e) (by decide) rfl);obtain⟨va,vc,dl⟩:=yT.form;obtain⟨vn,rD⟩:∃n,(E++ [c.id]).length=n:=⟨_,rfl⟩;rw [rD]at dl;subst dl;rw [←l6.out]at xN BZ;obtain⟨Ar,Nb,aas⟩:=fQ.more bf.out jf.out iH.out cP.out yT xN BZ;rw [l6.out]at Nb
      have Sp:=Na.keeps (bS BX pm 12 (.slice va vn vc)) (fun e=>by
       have e2:aO=pm:=e;have h1:=bf.out.aC;have h2:=bQ.out.aC;exact h2.ne h1 (by decide) e2)
      refine hK.out _ _ ⟨Nb,Na.cell 1⟩ (fun hHeld=>?_);clear hK K;have Nc:=af Ar;have yU:=af Sp;refine ai 9 ?_;refine ai 10 ?_;clear hHeld Ar Sp Na Ka iU bI yT xN BZ gR Kb;refine cO 11 fun K hK=>?_;go_simp;refine hK.out _ _ ?_;clear hK K Nb aas;generalize BX.setCell ⟨pm,12,none⟩ (.slice va vn vc)=aat at*;have a0:=yU.out.cell 0;have a1:=yU.out.cell 1;have a2:=yU.out.cell 2;have a3:=yU.out.cell 3;have a4:=yU.out.cell 4;have a5:=yU.out.cell 5;have a6:=yU.out.cell 6;have a7:=yU.out.cell 7;have a8:=yU.out.cell 8;have vO:=Sq Nc.out.gi dI.out aq.out c Gt.out jT.out qO.out mG hq1;unfold dB.cells at vO;rw [Gt.out]at vO;go_wp2_with fail
      refine vO.mono ?_;rintro e ah8 ⟨v,L,rfl,hr,hl,hmb,Sr⟩;have Ss:w.heap.size≤bG.heap.size:=Nat.le_trans bD.out.size cr.out.size;have Sv:=fQ.qi ie.out bf.out (Below.keeps (bD.out.trans (cr.out.mono bD.out.size)));have Nd:=Sv.trans Nc.out Ss;have Nf:w.heap.size≤aat.heap.size:=Nd.k.size;have aau:=af (Nd.trans (fQ.qi Nc.out.gi hmb Sr) Nf);have xO:=af (hr.base Nf);clear a0 a1 a2 a3 a4 a5 a6 a7 a8 vO hr hmb Sr Sv Nd Ss Nf;go_wp2_with fail
      go_ret;exact⟨_,rfl,L,xO.out,hl,by rw [b9.out];exact aau.out⟩
 ·rw [if_pos su]at b9
  have a1:w3.cell? ⟨aO,1,none⟩=some (.int .i64 c.id):=(bY.out.below aN.out).cell 1;have kv:=Ap c.id pr w3;go_wp2_with fail
  refine kv.mono ?_;rintro e wn ⟨v,rfl,hr,bR⟩;have kY:=af (hr.base (Nat.le_trans bD.out.size aN.out.size));have iG:=af (bD.out.trans ((aN.out.trans (bR.mono aN.out.size)).mono bD.out.size));clear a1 kv hr bR;go_wp2_with fail
  go_ret;exact⟨_,rfl,_,kY.out,by simp,by rw [b9.out];exact fQ.qi ie.out (ie.out.below iG.out) (Below.keeps iG.out)⟩
end
structure wm (n:Nat) (c:dB):Prop where
 kind:1≤c.kind∧c.kind≤4
 id:1≤c.id∧c.id≤1000
 ah:1≤c.ah∧c.ah≤100
 ag: -2000000≤c.ag∧c.ag≤2000000
 label:c.label=⟨#[]⟩
 new:c.kind=1→(c.side=1∨c.side=2)∧(1≤c.time∧c.time≤3)∧(0≤c.least∧c.least≤c.ah)∧∃i:Nat,c.inst=i∧i<n
theorem E1 (c:dB) {n:Nat} (h:wm n c) (hn:n≤200) (w:World):
 Calls Tryz.prog 62 #[.agg c.cells] w fun e w'=>e= .returned (.int .i64 0)∧Below w.heap.size w w':=by
 obtain⟨kd,id,inst,side,ag,ah,least,time,label⟩:=c;obtain⟨⟨jR,cJ⟩,⟨ya,hi1⟩,⟨mG,hq1⟩,⟨su,IW⟩,hlb,hnew⟩:=h;dsimp only at*;subst hlb;have hba:=Below.aA w (.cells #[.int .i64 kd,.int .i64 id,.int .i64 inst,.int .i64 side,.int .i64 ag,.int .i64 ah,.int .i64 least,.int .i64 time,.string ⟨#[]⟩] 80);have aE:=af hba;have cv:Hid (aj (w.alloc (.cells #[.int .i64 kd,.int .i64 id,.int .i64 inst,.int .i64 side,.int .i64 ag,.int .i64 ah,.int .i64 least,.int .i64 time,.string ⟨#[]⟩] 80)) w.heap.size 80 #[.int .i64 kd,.int .i64 id,.int .i64 inst,.int .i64 side,.int .i64 ag,.int .i64 ah,.int .i64 least,.int .i64 time,.string ⟨#[]⟩]):=af (aj.new _ _ _);clear hba;unfold dB.cells;go_enter Tryz.func62,Tryz.ntmps62
 go_upto_region 1 with(fail)
 obtain⟨g,hg⟩:∃g,w.heap.size=g:=⟨_,rfl⟩;rw [hg]at cv⊢;clear hg;generalize w.alloc (.cells _ 80)=w1 at*;have c0:=cv.out.cell 0;have c1:=cv.out.cell 1;have c2:=cv.out.cell 2;have c3:=cv.out.cell 3;have dn:=cv.out.cell 4;have cj:=cv.out.cell 5;have fE:=cv.out.cell 6;have gP:=cv.out.cell 7;have iC:=cv.out.cell 8;by_cases hk:kd=1
 ·obtain⟨gf,⟨ju,jw⟩,⟨QJ,iR⟩,i,hin,hil⟩:=hnew hk
  have ajn:0≤inst:=by omega
  have Up:inst≤255:=by omega
  subst hk;clear hnew hin hil;rcases gf with rfl|rfl
  ·go_wp2_with fail
   go_ret;exact⟨by trivial,aE.out⟩
  ·go_wp2_with fail
   go_ret;exact⟨by trivial,aE.out⟩
 ·clear hnew
  have hcs:kd=2∨kd=3∨kd=4:=by omega
  rcases hcs with rfl|rfl|rfl
  ·go_wp2_with fail
   go_ret;exact⟨by trivial,aE.out⟩
  ·go_wp2_with fail
   go_ret;exact⟨by trivial,aE.out⟩
  ·go_wp2_with fail
   go_ret;exact⟨by trivial,aE.out⟩
def lC (p:Prod) (S:List (List ay)) (E:List Int) (c:dB):List (List ay)×List Int:=
 if c.kind=1 then qN p S E c.inst.toNat c
 else match gp c.id 0 S with
  |none=>(S,E)
  |some (i,x)=>
   if c.kind=2∨(c.kind=3∧x.ah≤c.ah)then((fA S c.id x.ah).1,E)
   else if c.kind=3 then((fA S c.id c.ah).1,E)
   else if eA p i c.ag≠0 then(S,E)
   else if c.ag=x.ag∧c.ah≤x.ah then(if c.ah<x.ah then((fA S c.id (x.ah-c.ah)).1,E)else(S,E))
   else if rB p (fA S c.id x.ah).1 i x.side c.ag c.ah=true then(S,E)
   else(qh p (fA S c.id x.ah).1 i ⟨0,c.id,i,x.side,c.ag,c.ah,0,1,⟨#[]⟩⟩,E)
theorem dJ.take {p:Prod} {S:List (List ay)} (h:dJ p S) (id ah:Int):dJ p (fA S id ah).1:=by
 cases hf:gp id 0 S with
 |none=>rw [Ud hf];exact h
 |some qu=>
  obtain⟨i,x⟩:=qu;obtain⟨_,L,hL,_⟩:=KY S 0 hf;rw [Nat.sub_zero]at hL;rw [Ue hf hL];exact h.set ((h.each L (List.mem_of_getElem? hL)).fill id ah)
theorem KZ {p:Prod} {S:List (List ay)} (h:dJ p S) {id:Int} {i:Nat} {x:ay} (hf:gp id 0 S=some (i,x)):i<S.length∧(x.side=1∨x.side=2)∧1≤x.ah∧x.ah≤1000000:=by
 obtain⟨_,L,hL,hfo⟩:=KY S 0 hf;rw [Nat.sub_zero]at hL
 have hm:x∈L:=by
  unfold tV at hfo;cases hx:L.find? (fun o=>o.id==id)with
  |none=>rw [hx]at hfo;cases hfo
  |some o=>
   rw [hx]at hfo;injection hfo with h1;rw [←h1];exact List.mem_of_find?_eq_some hx
 have:=(h.each L (List.mem_of_getElem? hL)).each x hm;exact⟨dc hL,this.2.1,this.1⟩
end Go.Proofs.YtmaijkoopjocdaaGreat
