import Derived.Test.YtmaijkoopjocdaaGreatKV33
import Derived.Test.YtmaijkoopjocdaaGreatKV31
set_option maxRecDepth 100000
set_option maxHeartbeats 64000000
namespace Go.Proofs.YtmaijkoopjocdaaGreat
open Go.RowKit Go.Lib
def vw (c:ed):Int:=if c.time=3 then c.aq else c.least
def r9 (p:Prod) (S:List (List aC)) (E:List Int) (i:Nat) (c:ed):List (List aC)×List Int:=
 if eW p i c.ap≠0 then(S,E)else if E.any (fun x=>x==c.id)=true then(S,E)else if 250≤tot S then(S,E)
 else if 0<vw c∧DL p S i c.side c.ap (vw c)<vw c then(S,E)
 else if c.time=1∧s4 p S i c.side c.ap c.aq=true then(S,E)else(ru p S i c,E++ [c.id])
section
variable {W w w':World} {pm ps pb:Nat} {p:Prod} {Q:List Nat} {S S':List (List aC)} {E:List Int}
theorem F8 (h:eF W w pm ps p Q S E) (hz:cR p=0) (hS:ei p S) (c:ed) {i:Nat} (n9:c.inst=i) (hi:i<S.length) (e3:c.side=1∨c.side=2) (jW:1≤c.aq) (hq1:c.aq≤100) (jF:c.least≤c.aq) (hE:E.length≤90000):
 Calls Tryz.prog 64 #[.pointer ↑pm,.agg c.cells] w fun e w'=>∃v,e= .returned v∧∃L,oa.Row w' w.heap.size v L∧L.length≤160000∧gy W w w' pm ps p Q (r9 p S E i c).1 (r9 p S E i c).2:=by
 have hb0:=Below.aI w (.cells #[↑c.kind,↑c.id,↑i,↑c.side,↑c.ap,↑c.aq,↑c.least,↑c.time,.string c.label] 80);have bA:=af hb0;have jd:=af h;have jG:=af (h.below hb0);have cm:Hid (av (w.alloc (.cells #[↑c.kind,↑c.id,↑i,↑c.side,↑c.ap,↑c.aq,↑c.least,↑c.time,.string c.label] 80)) w.heap.size 80 #[↑c.kind,↑c.id,↑i,↑c.side,↑c.ap,↑c.aq,↑c.least,↑c.time,.string c.label]):=af (av.new _ _ _);have ec:=af hz;have aD:=af hS;have iy:=af hi;have m8:=af e3;have bR:=af hE;have T9:vw c≤100∧(0<vw c→1≤vw c):=by unfold vw;split<;>omega
 obtain⟨R,hR⟩:=ai (r9 p S E i c);have cv:Hid (R=if eW p i c.ap≠0 then(S,E)else if E.any (fun x=>x==c.id)=true then(S,E)else if 250≤tot S then(S,E)else if 0<vw c∧DL p S i c.side c.ap (vw c)<vw c then(S,E)else if c.time=1∧s4 p S i c.side c.ap c.aq=true then(S,E)else(ru p S i c,E++ [c.id])):=af (by rw [←hR];rfl);rw [hR];have ID:=af n9;clear h hz hS hi e3 hE hb0 hR;unfold ed.cells;rw [n9];clear n9;go_enter Tryz.func64,Tryz.ntmps64
 go_upto_region 1 with(fail)
 obtain⟨aV,cj⟩:=ai w.heap.size;rw [cj]at cm⊢;clear cj;generalize w.alloc (.cells _ 80)=w1 at*;have hd:=(Below.refl w1.heap.size w1).drew;have dI:=af hd;have bq:=af (jG.out.below hd);have b9:=af (cm.out.below hd);obtain⟨AA,AB,hmb,_⟩:=bq.out.box;have iR:(w1.drew.cell? ↑pm=some (.string p.code)∧w1.drew.cell? ⟨pm,1,none⟩=some (.slice p.ma p.months.length p.mc)∧w1.drew.cell? ⟨pm,2,none⟩=some ↑p.tick∧w1.drew.cell? ⟨pm,3,none⟩=some ↑p.low∧w1.drew.cell? ⟨pm,4,none⟩=some ↑p.high∧w1.drew.cell? ⟨pm,5,none⟩=some ↑p.wide∧w1.drew.cell? ⟨pm,6,none⟩=some ↑p.rule∧w1.drew.cell? ⟨pm,7,none⟩=some ↑p.top∧w1.drew.cell? ⟨pm,8,none⟩=some ↑p.least∧w1.drew.cell? ⟨pm,9,none⟩=some ↑p.part∧w1.drew.cell? ⟨pm,10,none⟩=some (.slice p.sa p.settle.length p.sc)):=⟨hmb.cell 0,hmb.cell 1,hmb.cell 2,hmb.cell 3,hmb.cell 4,hmb.cell 5,hmb.cell 6,hmb.cell 7,hmb.cell 8,hmb.cell 9,hmb.cell 10⟩
 have uo:Hid (∀wv,eF W wv pm ps p Q S E→(wv.cell? ↑pm=some (.string p.code)∧wv.cell? ⟨pm,1,none⟩=some (.slice p.ma p.months.length p.mc)∧wv.cell? ⟨pm,2,none⟩=some ↑p.tick∧wv.cell? ⟨pm,3,none⟩=some ↑p.low∧wv.cell? ⟨pm,4,none⟩=some ↑p.high∧wv.cell? ⟨pm,5,none⟩=some ↑p.wide∧wv.cell? ⟨pm,6,none⟩=some ↑p.rule∧wv.cell? ⟨pm,7,none⟩=some ↑p.top∧wv.cell? ⟨pm,8,none⟩=some ↑p.least∧wv.cell? ⟨pm,9,none⟩=some ↑p.part∧wv.cell? ⟨pm,10,none⟩=some (.slice p.sa p.settle.length p.sc))∧wv.cell? ⟨pm,11,none⟩=some (.pointer ↑ps)):=af fun wv hv=>by
  obtain⟨_,_,hmb,_⟩:=hv.box;exact⟨⟨hmb.cell 0,hmb.cell 1,hmb.cell 2,hmb.cell 3,hmb.cell 4,hmb.cell 5,hmb.cell 6,hmb.cell 7,hmb.cell 8,hmb.cell 9,hmb.cell 10⟩,hmb.cell 11⟩
 have a2:w1.drew.cell? ⟨aV,2,none⟩=some ↑i:=b9.out.cell 2;have a4:w1.drew.cell? ⟨aV,4,none⟩=some ↑c.ap:=b9.out.cell 4;have kQ:=DM p i c.ap w1.drew (bq.out.cr.pv.below bq.out.cr.aJ);obtain⟨pr,mo⟩:=ai (eW p i c.ap);rw [mo]at kQ cv;unfold Prod.agg Prod.cells at kQ;have kQ:=af kQ;clear hmb hd mo;refine cP (S:=fun w'=>(w'.cell? ↑pm=some (.string p.code)∧w'.cell? ⟨pm,1,none⟩=some (.slice p.ma p.months.length p.mc)∧w'.cell? ⟨pm,2,none⟩=some ↑p.tick∧w'.cell? ⟨pm,3,none⟩=some ↑p.low∧w'.cell? ⟨pm,4,none⟩=some ↑p.high∧w'.cell? ⟨pm,5,none⟩=some ↑p.wide∧w'.cell? ⟨pm,6,none⟩=some ↑p.rule∧w'.cell? ⟨pm,7,none⟩=some ↑p.top∧w'.cell? ⟨pm,8,none⟩=some ↑p.least∧w'.cell? ⟨pm,9,none⟩=some ↑p.part∧w'.cell? ⟨pm,10,none⟩=some (.slice p.sa p.settle.length p.sc))∧w'.cell? ⟨aV,2,none⟩=some ↑i∧w'.cell? ⟨aV,4,none⟩=some ↑c.ap) ⟨iR,a2,a4⟩ fun hHeld=>?_;refine au 0 ?_;refine au 1 ?_;refine au 2 ?_;refine au 3 ?_;refine au 4 ?_;refine au 5 ?_;refine au 6 ?_;refine au 7 ?_;clear iR a2 a4;generalize w1.drew=w2 at*;refine aU 8 fun K hK=>?_;go_simp;go_at_call 67
 refine kQ.out.mono ?_;rintro e w3 ⟨rfl,hb3⟩;have aQ:Hid (Below w1.heap.size w1 w3):=ag dI hb3;have jl:=af (jG.out.below aQ.out);have eA:=af (cm.out.below aQ.out);refine hK.out _ _ ⟨(uo.out _ jl.out).1,eA.out.cell 2,eA.out.cell 4⟩ (fun hHeld=>?_);clear hK K hb3 kQ bq b9 dI;refine gu _ _ _ _ ?_;refine ej 9 ?_;refine gw ?_;clear hHeld;by_cases uq:pr=0
 ·subst uq
  rw [if_neg (fun h=>h rfl)]at cv;have OX:=acW jl.out (by have:=bR.out;omega) c.id;obtain⟨us,Ua⟩:=ai (E.any (fun x=>x==c.id));rw [Ua]at OX cv;have a1:w3.cell? ⟨aV,1,none⟩=some ↑c.id:=eA.out.cell 1;clear Ua;go_wp2_with fail
  refine OX.mono ?_;rintro e az ⟨rfl,rfl⟩;clear OX a1;cases us with
  |true=>
   rw [if_pos rfl]at cv;have a1:w3.cell? ⟨aV,1,none⟩=some ↑c.id:=(cm.out.below aQ.out).cell 1;have lu:=Ch c.id 25 w3;go_wp2_with fail
   refine lu.mono ?_;rintro e wn ⟨v,rfl,hr,cn⟩;have lU:=af (hr.base (Nat.le_trans bA.out.size aQ.out.size));have je:=af (bA.out.trans ((ag aQ cn).out.mono bA.out.size));clear a1 lu hr cn;go_wp2_with fail
   go_ret;exact⟨_,rfl,_,lU.out,by simp,by rw [cv.out];exact gy.ry jd.out (jd.out.below je.out) (Below.keeps je.out)⟩
  |false=>
   rw [if_neg (by simp)]at cv;have oc:=Ub jl.out.cr (by have:=aD.out.le;omega) (OY aD.out);obtain⟨tt,DN⟩:=ai (tot S);rw [DN]at oc cv;have htb:tt≤100000:=by rw [←DN];exact OY aD.out
   have dS:=(uo.out _ jl.out).2;clear DN;go_wp2_with fail
   refine oc.mono ?_;rintro e az ⟨rfl,rfl⟩;clear oc dS;by_cases hfull:250≤tt
   ·have OZ:(250:Int)≤(tt:Int):=by omega
    rw [if_pos hfull]at cv;have a1:w3.cell? ⟨aV,1,none⟩=some ↑c.id:=(cm.out.below aQ.out).cell 1;have lu:=Ch c.id 13 w3;go_wp2_with fail
    refine lu.mono ?_;rintro e wn ⟨v,rfl,hr,cn⟩;have lU:=af (hr.base (Nat.le_trans bA.out.size aQ.out.size));have je:=af (bA.out.trans ((ag aQ cn).out.mono bA.out.size));clear a1 lu hr cn;go_wp2_with fail
    go_ret;exact⟨_,rfl,_,lU.out,by simp,by rw [cv.out];exact gy.ry jd.out (jd.out.below je.out) (Below.keeps je.out)⟩
   ·have OZ:¬(250:Int)≤(tt:Int):=by omega
    rw [if_neg hfull]at cv;obtain⟨nd,O0⟩:=ai (vw c);rw [O0]at cv T9;have Uc:=af O0;have a6:w3.cell? ⟨aV,6,none⟩=some ↑c.least:=eA.out.cell 6;have a7:w3.cell? ⟨aV,7,none⟩=some ↑c.time:=eA.out.cell 7;have a5:w3.cell? ⟨aV,5,none⟩=some ↑c.aq:=eA.out.cell 5;clear O0;go_upto_if 42 with(fail)
    go_cut [6] (fun v wx=>v=↑nd∧w3=wx)
    case first=>
     by_cases ht:c.time=3
     ·have ht':(c.time==3)=true:=by rw [ht];rfl
      have gY:Hid (nd=c.aq):=af (by rw [←Uc.out];unfold vw;rw [if_pos ht]);clear ht;go_wp2_with fail
      go_meet;exact⟨by rw [gY.out],by trivial⟩
     ·have ht':(c.time==3)=false:=by rw [beq_eq_false_iff_ne];exact ht
      have gY:Hid (nd=c.least):=af (by rw [←Uc.out];unfold vw;rw [if_neg ht]);clear ht;go_wp2_with fail
      go_meet;exact⟨by rw [gY.out],by trivial⟩
    case rest=>
    obtain⟨rfl,rfl⟩:=hcut;clear a5 a6 a7;obtain⟨b1,Ud⟩:∃b:Bool,decide (0<nd∧DL p S i c.side c.ap nd<nd)=b:=⟨_,rfl⟩;have F9:=af Ud;clear Ud;go_upto_region 11 with(fail)
    go_cut [62] (fun v wx=>v=↑b1∧Below w3.heap.size w3 wx)
    case first=>
     have hd:=(Below.refl w3.heap.size w3).drew;have bq:=af (jl.out.below hd);have b9:=af (eA.out.below hd);have dS:=(uo.out _ bq.out).2;have a2:w3.drew.cell? ⟨aV,2,none⟩=some ↑i:=b9.out.cell 2;have a3:w3.drew.cell? ⟨aV,3,none⟩=some ↑c.side:=b9.out.cell 3;have a4:w3.drew.cell? ⟨aV,4,none⟩=some ↑c.ap:=b9.out.cell 4;have dI:=af hd;clear hd;refine cP (S:=fun w'=>w'.cell? ⟨pm,11,none⟩=some (.pointer ↑ps)∧w'.cell? ⟨aV,2,none⟩=some ↑i∧w'.cell? ⟨aV,3,none⟩=some ↑c.side∧w'.cell? ⟨aV,4,none⟩=some ↑c.ap) ⟨dS,a2,a3,a4⟩ fun hHeld=>?_;clear dS a2 a3 a4;by_cases hn0:0<nd
     ·skip
      refine au 0 ?_;refine au 1 ?_;refine au 2 ?_;refine au 3 ?_;refine au 4 ?_;refine au 5 ?_;refine au 6 ?_;refine au 7 ?_;refine au 8 ?_;refine au 9 ?_;refine au 10 ?_;refine au 11 ?_;refine au 12 ?_;refine au 13 ?_;refine au 15 ?_;generalize w3.drew=aA at*;have hJ:=acX bq.out.cr ec.out aD.out iy.out c.side c.ap nd m8.out (by omega) (by omega);obtain⟨aY,hcv⟩:=ai (DL p S i c.side c.ap nd);rw [hcv]at hJ F9;clear hcv;refine aU 14 fun K hK=>?_;go_simp;go_at_call 106
      refine hJ.mono ?_;rintro e aN ⟨rfl,bI⟩;have O1:=af (bq.out.below bI);have m9:=af (b9.out.below bI);have b7:=ag dI bI;refine hK.out _ _ ⟨(uo.out _ O1.out).2,m9.out.cell 2,m9.out.cell 3,m9.out.cell 4⟩ (fun hHeld=>?_);clear hK K bI hJ;have gY:Hid (decide (aY<nd)=b1):=af (by rw [←F9.out];simp [hn0]);refine gu _ _ _ _ ?_;refine ej 16 ?_;refine ej 17 ?_;refine gw ?_;clear hHeld;go_wp2_with fail
      go_meet;exact⟨by rw [←gY.out],b7.out⟩
     ·have gY:Hid (b1=false):=af (by rw [←F9.out,decide_eq_false_iff_not];exact fun hh=>hn0 hh.1)
      refine au 0 ?_;refine au 1 ?_;refine au 2 ?_;refine c7 3 ?_;refine c7 4 ?_;refine c7 5 ?_;refine c7 6 ?_;refine c7 7 ?_;refine c7 8 ?_;refine c7 9 ?_;refine c7 10 ?_;refine c7 11 ?_;refine c7 12 ?_;refine c7 13 ?_;refine c7 14 ?_;refine c7 15 ?_;refine c7 16 ?_;refine gu _ _ _ _ ?_;refine ej 17 ?_;refine gw ?_;clear hHeld;go_wp2_with fail
      go_meet;exact⟨by rw [gY.out],dI.out⟩
    case rest=>
    obtain⟨rfl,ep⟩:=hcut;have bY:Hid (Below w1.heap.size w1 wc):=ag aQ ep;have sb:=af (jl.out.below ep);have mJ:=af (eA.out.below ep);clear ep jl eA aQ;generalize wc=aA at*;cases b1 with
    |true=>
     have lV:=F9.out;rw [decide_eq_true_eq]at lV;rw [if_pos lV]at cv;clear lV;have a1:aA.cell? ⟨aV,1,none⟩=some ↑c.id:=(cm.out.below bY.out).cell 1;have lu:=Ch c.id 28 aA;go_wp2_with fail
     refine lu.mono ?_;rintro e wn ⟨v,rfl,hr,cn⟩;have lU:=af (hr.base (Nat.le_trans bA.out.size bY.out.size));have je:=af (bA.out.trans ((ag bY cn).out.mono bA.out.size));clear a1 lu hr cn;go_wp2_with fail
     go_ret;exact⟨_,rfl,_,lU.out,by simp,by rw [cv.out];exact gy.ry jd.out (jd.out.below je.out) (Below.keeps je.out)⟩
    |false=>
     have lV:=F9.out;rw [decide_eq_false_iff_not]at lV;rw [if_neg lV]at cv;clear lV F9;obtain⟨b2,Ue⟩:∃b:Bool,decide (c.time=1∧s4 p S i c.side c.ap c.aq=true)=b:=⟨_,rfl⟩;have IE:=af Ue;clear Ue;go_upto_region 13 with(fail)
     go_cut [87] (fun v wx=>v=↑b2∧Below aA.heap.size aA wx)
     case first=>
      have hd:=(Below.refl aA.heap.size aA).drew;have bq:=af (sb.out.below hd);have b9:=af (mJ.out.below hd);have iR:=uo.out _ bq.out;have a2:aA.drew.cell? ⟨aV,2,none⟩=some ↑i:=b9.out.cell 2;have a3:aA.drew.cell? ⟨aV,3,none⟩=some ↑c.side:=b9.out.cell 3;have a4:aA.drew.cell? ⟨aV,4,none⟩=some ↑c.ap:=b9.out.cell 4;have a5:aA.drew.cell? ⟨aV,5,none⟩=some ↑c.aq:=b9.out.cell 5;have a7:aA.drew.cell? ⟨aV,7,none⟩=some ↑c.time:=b9.out.cell 7;have dI:=af hd;clear hd;refine cP (S:=fun w'=>((w'.cell? ↑pm=some (.string p.code)∧w'.cell? ⟨pm,1,none⟩=some (.slice p.ma p.months.length p.mc)∧w'.cell? ⟨pm,2,none⟩=some ↑p.tick∧w'.cell? ⟨pm,3,none⟩=some ↑p.low∧w'.cell? ⟨pm,4,none⟩=some ↑p.high∧w'.cell? ⟨pm,5,none⟩=some ↑p.wide∧w'.cell? ⟨pm,6,none⟩=some ↑p.rule∧w'.cell? ⟨pm,7,none⟩=some ↑p.top∧w'.cell? ⟨pm,8,none⟩=some ↑p.least∧w'.cell? ⟨pm,9,none⟩=some ↑p.part∧w'.cell? ⟨pm,10,none⟩=some (.slice p.sa p.settle.length p.sc))∧w'.cell? ⟨pm,11,none⟩=some (.pointer ↑ps))∧w'.cell? ⟨aV,2,none⟩=some ↑i∧w'.cell? ⟨aV,3,none⟩=some ↑c.side∧w'.cell? ⟨aV,4,none⟩=some ↑c.ap∧w'.cell? ⟨aV,5,none⟩=some ↑c.aq∧w'.cell? ⟨aV,7,none⟩=some ↑c.time) ⟨iR,a2,a3,a4,a5,a7⟩ fun hHeld=>?_;clear iR a2 a3 a4 a5 a7;by_cases jm:c.time=1
      ·have ht':(c.time==1)=true:=by rw [jm];rfl
       have gY:Hid (s4 p S i c.side c.ap c.aq=b2):=af (by rw [←IE.out,jm];simp);clear jm;refine au 0 ?_;refine au 1 ?_;refine au 2 ?_;refine au 3 ?_;refine au 4 ?_;refine au 5 ?_;refine au 6 ?_;refine au 7 ?_;refine au 8 ?_;refine au 9 ?_;refine au 10 ?_;refine au 11 ?_;refine au 12 ?_;refine au 13 ?_;refine au 14 ?_;refine au 15 ?_;refine au 16 ?_;refine au 17 ?_;refine au 18 ?_;refine au 19 ?_;generalize aA.drew=aN at*;have gG:=Uf bq.out.cr ec.out aD.out iy.out c.side c.ap c.aq m8.out jW (by omega);rw [gY.out]at gG;unfold Prod.agg Prod.cells at gG;refine aU 20 fun K hK=>?_;go_simp;go_at_call 69
       refine gG.mono ?_;rintro e bf ⟨rfl,jn⟩;have acY:=af (bq.out.below jn);have jx:=af (b9.out.below jn);have dP:=ag dI jn;refine hK.out _ _ ⟨uo.out _ acY.out,jx.out.cell 2,jx.out.cell 3,jx.out.cell 4,jx.out.cell 5,jx.out.cell 7⟩ (fun hHeld=>?_);clear hK K jn gG;refine gu _ _ _ _ ?_;refine ej 21 ?_;refine gw ?_;clear hHeld;go_wp2_with fail
       go_meet;exact⟨by trivial,dP.out⟩
      ·have ht':(c.time==1)=false:=by rw [beq_eq_false_iff_ne];exact jm
       have gY:Hid (b2=false):=af (by rw [←IE.out,decide_eq_false_iff_not];exact fun hh=>jm hh.1);clear jm;refine au 0 ?_;refine au 1 ?_;refine au 2 ?_;refine au 3 ?_;refine c7 4 ?_;refine c7 5 ?_;refine c7 6 ?_;refine c7 7 ?_;refine c7 8 ?_;refine c7 9 ?_;refine c7 10 ?_;refine c7 11 ?_;refine c7 12 ?_;refine c7 13 ?_;refine c7 14 ?_;refine c7 15 ?_;refine c7 16 ?_;refine c7 17 ?_;refine c7 18 ?_;refine c7 19 ?_;refine c7 20 ?_;refine gu _ _ _ _ ?_;refine ej 21 ?_;refine gw ?_;clear hHeld;go_wp2_with fail
       go_meet;exact⟨by rw [gY.out],dI.out⟩
     case rest=>
     obtain⟨rfl,ep⟩:=hcut;have lz:Hid (Below w1.heap.size w1 wc):=ag bY ep;have Ci:=af (sb.out.below ep);have qF:=af (mJ.out.below ep);clear ep sb mJ bY;generalize wc=bZ at*;cases b2 with
     |true=>
      have lV:=IE.out;rw [decide_eq_true_eq]at lV;rw [if_pos lV]at cv;clear lV;have a1:bZ.cell? ⟨aV,1,none⟩=some ↑c.id:=(cm.out.below lz.out).cell 1;have lu:=Ch c.id 23 bZ;go_wp2_with fail
      refine lu.mono ?_;rintro e wn ⟨v,rfl,hr,cn⟩;have lU:=af (hr.base (Nat.le_trans bA.out.size lz.out.size));have je:=af (bA.out.trans ((ag lz cn).out.mono bA.out.size));clear a1 lu hr cn;go_wp2_with fail
      go_ret;exact⟨_,rfl,_,lU.out,by simp,by rw [cv.out];exact gy.ry jd.out (jd.out.below je.out) (Below.keeps je.out)⟩
     |false=>
      have lV:=IE.out;rw [decide_eq_false_iff_not]at lV;rw [if_neg lV]at cv;clear lV IE;obtain⟨sa,sc,aT,hrw⟩:=Ci.out.box;obtain⟨sn,qC⟩:=ai E.length;have hd:=(Below.refl bZ.heap.size bZ).drew;have O2:bZ.drew.cell? ⟨pm,12,none⟩=some (.slice sa sn sc):=by rw [←qC];exact(aT.below hd).cell 12
      have a1:bZ.drew.cell? ⟨aV,1,none⟩=some ↑c.id:=(qF.out.below hd).cell 1;have bq:=af (Ci.out.below hd);have b9:=af (qF.out.below hd);have jX:=af (aT.below hd);have iz:=af (hrw.below hd);have b6:=ag lz hd;have lR:=af qC;clear aT hrw hd qC Ci qF lz;go_upto_region 15 with(fail)
      refine cP (S:=fun w'=>w'.cell? ⟨pm,12,none⟩=some (.slice sa sn sc)∧w'.cell? ⟨aV,1,none⟩=some ↑c.id) ⟨O2,a1⟩ fun hHeld=>?_;refine au 0 ?_;refine au 1 ?_;refine au 2 ?_;refine au 3 ?_;refine au 4 ?_;refine au 5 ?_;refine au 6 ?_;clear O2 a1;generalize bZ.drew=bW at*;refine aU 7 fun K hK=>?_;go_simp;have hba:=Below.aI bW (.cells #[↑c.id] 2);have iA:av (bW.alloc (.cells #[↑c.id] 2)) bW.heap.size 2 (lA c.id).toArray:=av.new _ _ _;have Mh:=b9.out.below hba;have Ug:=jX.out.below hba;have Mi:=iz.out.below hba;have acZ:=bq.out.below hba;refine hK.out _ _ ⟨by rw [←lR.out];exact Ug.cell 12,Mh.cell 1⟩ (fun hHeld=>?_);clear hK K;have cK:=af hba;clear hba Ug acZ;generalize bW.alloc (.cells #[↑c.id] 2)=AE at*;rw [lR.out]at Mi;refine aU 8 fun K hK=>?_;refine e8.step rfl (.tmp 95) (.tmp 98) rfl W.heap.size _ E rfl Mi bW.heap.size c.id rfl iA.lt iA.gH (by have:=bR.out;omega) (Nat.le_trans (eF.base bq.out) (Nat.le_trans (Nat.le_of_lt bq.out.aE.lt) cK.out.size)) ?_;intro v' Ga AF vz DP;have jH:=fK vz;have bT:=eo Mi;have O3:=Mh.keeps jH (fun e=>Mh.aE.ne (bT _ e) (by decide) rfl);obtain⟨va,vc,dF⟩:=AF.form;obtain⟨vn,s5⟩:=ai ((E++ [c.id]).length);rw [s5]at dF;subst dF;rw [←lR.out]at vz DP;obtain⟨Cj,O4,ac0⟩:=gy.more bq.out jX.out iz.out cK.out AF vz DP;rw [lR.out]at O4
      have Uh:=O3.keeps (ct Ga pm 12 (.slice va vn vc)) (fun e=>by
       have e2:aV=pm:=e;have h1:=bq.out.aE;have h2:=b9.out.aE;exact h2.ne h1 (by decide) e2)
      refine hK.out _ _ ⟨O4,O3.cell 1⟩ (fun hHeld=>?_);clear hK K;have O5:=af Cj;have AG:=af Uh;refine au 9 ?_;refine au 10 ?_;clear hHeld Cj Uh O3 Mh jH bT AF vz DP iA Mi;refine dY 11 fun K hK=>?_;go_simp;refine hK.out _ _ ?_;clear hK K O4 ac0;generalize Ga.setCell ⟨pm,12,none⟩ (.slice va vn vc)=ac1 at*;have a0:=AG.out.cell 0;have a1:=AG.out.cell 1;have a2:=AG.out.cell 2;have a3:=AG.out.cell 3;have a4:=AG.out.cell 4;have a5:=AG.out.cell 5;have a6:=AG.out.cell 6;have a7:=AG.out.cell 7;have a8:=AG.out.cell 8;have xV:=Ui O5.out.gN ec.out aD.out c ID.out iy.out m8.out jW hq1;unfold ed.cells at xV;rw [ID.out]at xV;go_wp2_with fail
      refine xV.mono ?_;rintro e alQ ⟨v,L,rfl,hr,hl,hmb,Uj⟩;have O6:w.heap.size≤bW.heap.size:=Nat.le_trans bA.out.size b6.out.size;have Uk:=gy.ry jd.out bq.out (Below.keeps (ah bA b6).out);have O7:=Uk.trans O5.out O6;have O8:w.heap.size≤ac1.heap.size:=O7.k.size;have ac2:=af (O7.trans (gy.ry O5.out.gN hmb Uj) O8);have iT:=af (hr.base O8);clear a0 a1 a2 a3 a4 a5 a6 a7 a8 xV hr hmb Uj Uk O7 O6 O8;go_wp2_with fail
      go_ret;exact⟨_,rfl,L,iT.out,hl,by rw [cv.out];exact ac2.out⟩
 ·rw [if_pos uq]at cv
  have a1:w3.cell? ⟨aV,1,none⟩=some ↑c.id:=(cm.out.below aQ.out).cell 1;have lu:=Ch c.id pr w3;go_wp2_with fail
  refine lu.mono ?_;rintro e wn ⟨v,rfl,hr,cn⟩;have lU:=af (hr.base (Nat.le_trans bA.out.size aQ.out.size));have je:=af (bA.out.trans ((ag aQ cn).out.mono bA.out.size));clear a1 lu hr cn;go_wp2_with fail
  go_ret;exact⟨_,rfl,_,lU.out,by simp,by rw [cv.out];exact gy.ry jd.out (jd.out.below je.out) (Below.keeps je.out)⟩
end
structure yg (n:Nat) (c:ed):Prop where
 kind:1≤c.kind∧c.kind≤4
 id:1≤c.id∧c.id≤1000
 aq:1≤c.aq∧c.aq≤100
 ap: -2000000≤c.ap∧c.ap≤2000000
 label:c.label=⟨#[]⟩
 new:c.kind=1→(c.side=1∨c.side=2)∧(1≤c.time∧c.time≤3)∧(0≤c.least∧c.least≤c.aq)∧∃i:Nat,c.inst=i∧i<n
theorem GJ (c:ed) {n:Nat} (h:yg n c) (hn:n≤200) (w:World):
 Calls Tryz.prog 62 #[.agg c.cells] w fun e w'=>e= .returned (.int .i64 0)∧Below w.heap.size w w':=by
 obtain⟨kd,id,inst,side,ap,aq,least,time,label⟩:=c;obtain⟨⟨iQ,cN⟩,⟨zS,hi1⟩,⟨jW,hq1⟩,⟨uq,KI⟩,hlb,hnew⟩:=h;dsimp only at*;subst hlb;have hba:=Below.aI w (.cells #[↑kd,↑id,↑inst,↑side,↑ap,↑aq,↑least,↑time,.string ⟨#[]⟩] 80);have aG:=af hba;have bU:Hid (av (w.alloc (.cells #[↑kd,↑id,↑inst,↑side,↑ap,↑aq,↑least,↑time,.string ⟨#[]⟩] 80)) w.heap.size 80 #[↑kd,↑id,↑inst,↑side,↑ap,↑aq,↑least,↑time,.string ⟨#[]⟩]):=af (av.new _ _ _);clear hba;unfold ed.cells;go_enter Tryz.func62,Tryz.ntmps62
 go_upto_region 1 with(fail)
 obtain⟨g,hg⟩:=ai w.heap.size;rw [hg]at bU⊢;clear hg;generalize w.alloc (.cells _ 80)=w1 at*;have c0:=bU.out.cell 0;have c1:=bU.out.cell 1;have c2:=bU.out.cell 2;have c3:=bU.out.cell 3;have dH:=bU.out.cell 4;have b8:=bU.out.cell 5;have fJ:=bU.out.cell 6;have gL:=bU.out.cell 7;have iC:=bU.out.cell 8;by_cases hk:kd=1
 ·obtain⟨e3,⟨ko,jm⟩,⟨Sd,jF⟩,i,hin,hil⟩:=hnew hk
  have anm:0≤inst:=by omega
  have Wb:inst≤255:=by omega
  subst hk;clear hnew hin hil;rcases e3 with rfl|rfl
  ·go_wp2_with fail
   go_ret;exact⟨by trivial,aG.out⟩
  ·go_wp2_with fail
   go_ret;exact⟨by trivial,aG.out⟩
 ·clear hnew
  have hcs:kd=2∨kd=3∨kd=4:=by omega
  rcases hcs with rfl|rfl|rfl
  ·go_wp2_with fail
   go_ret;exact⟨by trivial,aG.out⟩
  ·go_wp2_with fail
   go_ret;exact⟨by trivial,aG.out⟩
  ·go_wp2_with fail
   go_ret;exact⟨by trivial,aG.out⟩
def mq (p:Prod) (S:List (List aC)) (E:List Int) (c:ed):List (List aC)×List Int:=
 if c.kind=1 then r9 p S E c.inst.toNat c
 else match gR c.id 0 S with
  |none=>(S,E)
  |some (i,x)=>
   if c.kind=2∨(c.kind=3∧x.aq≤c.aq)then((fW S c.id x.aq).1,E)
   else if c.kind=3 then((fW S c.id c.aq).1,E)
   else if eW p i c.ap≠0 then(S,E)
   else if c.ap=x.ap∧c.aq≤x.aq then(if c.aq<x.aq then((fW S c.id (x.aq-c.aq)).1,E)else(S,E))
   else if s4 p (fW S c.id x.aq).1 i x.side c.ap c.aq=true then(S,E)
   else(ru p (fW S c.id x.aq).1 i ⟨0,c.id,i,x.side,c.ap,c.aq,0,1,⟨#[]⟩⟩,E)
theorem ei.take {p:Prod} {S:List (List aC)} (h:ei p S) (id aq:Int):ei p (fW S id aq).1:=by
 cases hf:gR id 0 S with
 |none=>rw [V0 hf];exact h
 |some rI=>
  obtain⟨i,x⟩:=rI;obtain⟨_,L,hL,_⟩:=MP S 0 hf;rw [Nat.sub_zero]at hL;rw [V1 hf hL];exact h.set ((h.each L (List.mem_of_getElem? hL)).fill id aq)
theorem MQ {p:Prod} {S:List (List aC)} (h:ei p S) {id:Int} {i:Nat} {x:aC} (hf:gR id 0 S=some (i,x)):i<S.length∧(x.side=1∨x.side=2)∧1≤x.aq∧x.aq≤1000000:=by
 obtain⟨_,L,hL,hfo⟩:=MP S 0 hf;rw [Nat.sub_zero]at hL
 have hm:x∈L:=by
  unfold vQ at hfo;cases hx:L.find? (fun o=>o.id==id)with
  |none=>rw [hx]at hfo;cases hfo
  |some o=>
   rw [hx]at hfo;injection hfo with h1;rw [←h1];exact List.mem_of_find?_eq_some hx
 have:=(h.each L (List.mem_of_getElem? hL)).each x hm;exact⟨dM hL,this.2.1,this.1⟩
end Go.Proofs.YtmaijkoopjocdaaGreat
