import Derived.Test.YtmaijkoopjocdaaGreatKT33
set_option maxRecDepth 100000
set_option maxHeartbeats 64000000
namespace Go.Proofs.YtmaijkoopjocdaaGreat
open Go.RowKit Go.Lib
theorem Gw {p:Prod} {i:Nat} {side ag:Int} (hz:cz p=0):∀(f:Nat) (S:List (List ay)) (ah:Int),dJ p S→0≤ah→dJ p (gl p i side ag f S ah).1∧0≤(gl p i side ag f S ah).2.2∧(gl p i side ag f S ah).2.2≤ah
 |0,S,ah,hS,h0=>⟨hS,h0,Int.le_refl _⟩
 |f+1,S,ah,hS,h0=>by
  unfold gl;split
  ·exact⟨hS,h0,Int.le_refl _⟩
  ·cases hr:sy p S i side ag ah with
   |none=>exact⟨hS,h0,Int.le_refl _⟩
   |some r=>
    obtain⟨h1,h2,h3⟩:=Sz hz hS (by omega) hr;obtain⟨g1,g2,aO⟩:=Gw (i:=i) (side:=side) (ag:=ag) hz f r.1 (ah-r.2.ah) h1 (by omega);exact⟨g1,g2,by dsimp only;omega⟩
def BU (p:Prod) (S:List (List ay)) (i:Nat) (side ag ah:Int):Int:=ah-(gl p i side ag ah.toNat S ah).2.2
section
variable {W w w':World} {ps pb:Nat} {p:Prod} {Q:List Nat} {S:List (List ay)}
theorem aap (h:ek W w ps p Q S) (hz:cz p=0) (hS:dJ p S) {i:Nat} (hi:i<S.length) (side ag ah:Int) (gf:side=1∨side=2) (mG:1≤ah) (hq1:ah≤1000000):
 Calls Tryz.prog 106 #[.pointer (some ⟨ps,0,none⟩),.int .i64 i,.int .i64 side,.int .i64 ag,.int .i64 ah] w fun e w'=>e= .returned (.int .i64 (BU p S i side ag ah))∧Below w.heap.size w w':=by
 have aU:=af (Nl h (by have:=hS.le;omega));have hlf:=Gw (i:=i) (side:=side) (ag:=ag) hz ah.toNat S ah hS (by omega);have kY:=af fun w fp oa (h:ek W w fp p oa S)=>Nm h hz hS hi side ag ah gf mG hq1;obtain⟨R,hR⟩:∃R,gl p i side ag ah.toNat S ah=R:=⟨_,rfl⟩;have SA:Hid (BU p S i side ag ah=ah-R.2.2):=af (by unfold BU;rw [hR]);rw [SA.out];simp only [hR]at kY hlf;obtain⟨_,g1,g2⟩:=hlf;obtain⟨mI,mJ,ql⟩:=R;dsimp only at g1 g2 kY;clear SA hR h hz hS hi gf;go_enter Tryz.func106,Tryz.ntmps106
 go_wp2_with fail
 refine aU.out.mono ?_;rintro e w2 ⟨fp,oa,rfl,Ee,B1,mK,hb2⟩;have jx:=af (kY.out _ _ _ Ee);have aT:=af hb2;have oc:=af B1;clear Ee B1 mK hb2 aU kY;go_wp2_with fail
 refine jx.out.mono ?_;rintro e w3 ⟨v3,rfl,_,_,nI⟩;have aN:=af (aT.out.trans (nI.below (B:=w.heap.size) oc.out aT.out.size));clear nI jx;go_wp2_with fail
 go_ret;exact⟨by trivial,aN.out⟩
end
def yF (p:Prod) (i:Nat) (side ag:Int) (q:cK):Bool:= !(eA p i q.ag==0)&& !cV side q.ag ag
def rB (p:Prod) (S:List (List ay)) (i:Nat) (side ag ah:Int):Bool:=
 !((gl p i side ag ah.toNat S ah).2.2==0)&&(nP p (dF (gl p i side ag ah.toNat S ah).1) i (3-side)).any (yF p i side ag)
theorem YB {α:Type} {l:List α} {k:Nat} {x:α} {f:α→Bool} (h:l[k]? =some x):(l.take (k+1)).any f=((l.take k).any f||f x):=by
 rw [lp h,List.any_append];simp
section
variable {W w w':World} {ps pb:Nat} {p:Prod} {Q:List Nat} {S:List (List ay)}
theorem Sn (h:ek W w ps p Q S) (hz:cz p=0) (hS:dJ p S) {i:Nat} (hi:i<S.length) (side ag ah:Int) (gf:side=1∨side=2) (mG:1≤ah) (hq1:ah≤1000000):
 Calls Tryz.prog 69 #[p.agg,.pointer (some ⟨ps,0,none⟩),.int .i64 i,.int .i64 side,.int .i64 ag,.int .i64 ah] w fun e w'=>e= .returned (.bool (rB p S i side ag ah))∧Below w.heap.size w w':=by
 unfold Prod.agg Prod.cells;have e3:Hid (Below w.heap.size w (w.alloc (.cells #[.string p.code,.slice p.ma p.months.length p.mc,.int .i64 p.tick,.int .i64 p.low,.int .i64 p.high,.int .i64 p.wide,.int .i64 p.rule,.int .i64 p.top,.int .i64 p.least,.int .i64 p.part,.slice p.sa p.settle.length p.sc] 25))):=af (Below.aA _ _);have jf:Hid (aj (w.alloc (.cells #[.string p.code,.slice p.ma p.months.length p.mc,.int .i64 p.tick,.int .i64 p.low,.int .i64 p.high,.int .i64 p.wide,.int .i64 p.rule,.int .i64 p.top,.int .i64 p.least,.int .i64 p.part,.slice p.sa p.settle.length p.sc] 25)) w.heap.size 25 p.cells):=af (aj.new _ _ _);have hlf:=Gw (i:=i) (side:=side) (ag:=ag) hz ah.toNat S ah hS (by omega);have aU:=af (Nl (h.below e3.out) (by have:=hS.le;omega));have kY:=af fun w fp oa (h:ek W w fp p oa S)=>Nm h hz hS hi side ag ah gf mG hq1;obtain⟨R,hR⟩:∃R,gl p i side ag ah.toNat S ah=R:=⟨_,rfl⟩;have YC:Hid (rB p S i side ag ah=(!(R.2.2==0)&&(nP p (dF R.1) i (3-side)).any (yF p i side ag))):=af (by unfold rB;rw [hR]);rw [YC.out];simp only [hR]at kY hlf;obtain⟨mI,mJ,ql⟩:=R;dsimp only at kY hlf;obtain⟨YD,g1,g2⟩:=hlf;have dX:=af YD;have qO:=af gf;dsimp only;obtain⟨rs,Rk⟩:∃b:Bool,(!(ql==0)&&(nP p (dF mI) i (3-side)).any (yF p i side ag))=b:=⟨_,rfl⟩;rw [Rk];have pq:=af Rk;clear Rk;have uQ:=af h.pv;have YE:=af h.aF;clear YC hR h hz hS hi gf YD;go_enter Tryz.func69,Tryz.ntmps69
 go_upto_region 1 with(fail)
 obtain⟨aH,m4⟩:∃g,w.heap.size=g:=⟨_,rfl⟩;have LH:=af m4;rw [m4]at jf⊢;clear m4;unfold Prod.cells at jf;generalize (w.alloc (.cells #[.string p.code,.slice p.ma p.months.length p.mc,.int .i64 p.tick,.int .i64 p.low,.int .i64 p.high,.int .i64 p.wide,.int .i64 p.rule,.int .i64 p.top,.int .i64 p.least,.int .i64 p.part,.slice p.sa p.settle.length p.sc] 25))=w1 at*;go_wp2_with fail
 refine aU.out.mono ?_;rintro e w2 ⟨fp,oa,rfl,Ee,B1,mK,hb2⟩;have jx:=af (kY.out _ _ _ Ee);have Rl:=af (jf.out.below hb2);have aT:=af (e3.out.trans (hb2.mono e3.out.size));have YF:=af fun g (hg:g∈oa)=>(Ee.ow hg).1;have oc:Hid (∀g∈oa,w.heap.size≤g):=af fun g hg=>Nat.le_trans e3.out.size (B1 g hg);clear Ee B1 mK hb2 aU kY jf e3;go_wp2_with fail
 refine jx.out.mono ?_;rintro e av ⟨v3,rfl,_,Ip,jB⟩;have bM:=af (aT.out.trans (jB.below (B:=w.heap.size) oc.out aT.out.size));have Rm:=af (Rl.out.keeps jB (fun e=>Rl.out.aC.ne (YF.out _ e) (by decide) rfl));have H4:=af Ip;clear jB Ip jx Rl aT YF oc;by_cases QJ:ql=0
 ·subst QJ
  go_wp2_with fail
  go_ret;exact⟨by rw [←pq.out];rfl,bM.out⟩
 ·have agU:(ql==0)=false:=by rw [beq_eq_false_iff_ne];exact QJ
  obtain⟨A,hA⟩:∃A,nP p (dF mI) i (3-side)=A:=⟨_,rfl⟩;have xV:Hid (A.length≤1000):=af (by rw [←hA];exact Fo);rw [hA,agU]at pq;have cG:=af hA;clear hA;go_upto_region 5 with(fail)
  go_cut [16] (fun v wx=>jE.Row wx w.heap.size v A∧Below av.heap.size av wx)
  case first=>
   have hd:=(Below.refl av.heap.size av).drew;have F1:=af (Rm.out.below hd);have H5:=af (H4.out.below hd);have lR:=af hd;clear hd;have hH:PC av.drew aH p:=PC.nV F1.out;refine cF (S:=fun w'=>w'.cell? ⟨aH,0,none⟩=some (.string p.code)∧w'.cell? ⟨aH,1,none⟩=some (.slice p.ma p.months.length p.mc)∧w'.cell? ⟨aH,2,none⟩=some (.int .i64 p.tick)∧w'.cell? ⟨aH,3,none⟩=some (.int .i64 p.low)∧w'.cell? ⟨aH,4,none⟩=some (.int .i64 p.high)∧w'.cell? ⟨aH,5,none⟩=some (.int .i64 p.wide)∧w'.cell? ⟨aH,6,none⟩=some (.int .i64 p.rule)∧w'.cell? ⟨aH,7,none⟩=some (.int .i64 p.top)∧w'.cell? ⟨aH,8,none⟩=some (.int .i64 p.least)∧w'.cell? ⟨aH,9,none⟩=some (.int .i64 p.part)∧w'.cell? ⟨aH,10,none⟩=some (.slice p.sa p.settle.length p.sc)) (by kernel_rfl) hH (fun hHeld=>?_);refine ai 0 ?_;refine ai 1 ?_;refine ai 3 ?_;refine ai 4 ?_;clear hH;generalize av.drew=au at*;refine aR 2 fun K hK=>?_;go_simp;go_at_call 58
   refine(Px H5.out (by have:=dX.out.le;omega) (fun L hL=>⟨(dX.out.each L hL).len,(dX.out.each L hL).ah⟩)).mono ?_;rintro e aK ⟨Py,rfl,sS,bF⟩;refine hK.out _ _ (PC.nV (F1.out.below bF)) (fun hHeld=>?_);clear hK K;refine aR 5 fun K hK=>?_;go_simp;go_at_call 111
   refine(Xv side qO.out aK).mono ?_;rintro e bw ⟨rfl,rfl⟩;refine hK.out _ _ (PC.nV (F1.out.below bF)) (fun hHeld=>?_);clear hK K;obtain⟨ta,tc,oy,_,hrd⟩:=sS.rd;have hall:=WS p i (3-side) ta tc (dF mI) aK ((uQ.out.below YE.out).below ((bM.out.trans (lR.out.mono bM.out.size)).trans (bF.mono (bM.out.trans (lR.out.mono bM.out.size)).size))) hrd dX.out.A9 (by rw [LK];have:=dX.out.le;omega);unfold Prod.agg Prod.cells at hall;rw [cG.out]at hall;subst oy;refine aR 6 fun K hK=>?_;go_simp;go_at_call 102
   refine hall.mono ?_;rintro e bW ⟨kN,rfl,lK,jv⟩;refine hK.out _ _ (PC.nV ((F1.out.below bF).below jv)) (fun hHeld=>?_);clear hK K;have aJ:Below av.heap.size av bW:=(lR.out.trans (bF.mono lR.out.size)).trans (jv.mono (lR.out.trans (bF.mono lR.out.size)).size);have sU:=af (lK.base (Nat.le_trans bM.out.size (Nat.le_trans lR.out.size bF.size)));have bu:=af aJ;refine gx _ _ _ _ ?_;refine eB 7 ?_;refine wpAnyH_done (by kernel_rfl) ?_ _;clear hHeld lK jv bF sS hrd hall aJ;go_wp2_with fail
   go_meet;exact⟨sU.out,bu.out⟩
  case rest=>
  obtain⟨lK,dA⟩:=hcut;have wG:=af (bM.out.trans (dA.mono bM.out.size));have F1:=af (Rm.out.below dA);have sU:=af lK;obtain⟨q3,MM,Bb⟩:=lK.form;obtain⟨n,hn⟩:∃n,A.length=n:=⟨_,rfl⟩;rw [hn]at Bb;subst Bb;have hnb:n≤1000:=by rw [←hn];exact xV.out
  have HN:=af hn;clear lK dA hn bM Rm H4;generalize wc=Mx at*;go_wp2_with fail
  go_loopw [17] (fun j w'=>∃k:Nat,j= .int .i64 k∧k≤n∧(A.take k).any (yF p i side ag)=false∧Below Mx.heap.size Mx w') (fun j _=>n-(RowKit.intOf j).toNat)
  case atStart=>exact⟨0,rfl,Nat.zero_le _,rfl,Below.refl _ _⟩
  case round=>
   obtain⟨k,rfl,hk,JA,hb⟩:=hrel;obtain⟨ak,rfl⟩:∃bk:World,bk=wr:=⟨_,rfl⟩;have Rn:=af JA;have aE:=af hb;clear JA hb;by_cases hlt:k<n
   ·have hlt':(k:Int)<(n:Int):=by omega
    obtain⟨q,hq⟩:∃q,A[k]? =some q:=⟨_,List.getElem?_eq_getElem (by rw [HN.out];exact hlt)⟩;have agV:=af hq;obtain⟨cu,agW,F2,_,yx⟩:=(sU.out.below aE.out).at_ k q hq;injection F2 with agX agY agZ;subst agX;subst agZ;clear agY yx
    have jM:Hid (∀wv,Below Mx.heap.size Mx wv→wv.cell? ⟨cu,k*6,none⟩=some (.int .i64 q.ag)):=af fun wv hb=>by
     obtain⟨g',c',he,_,hc⟩:=(sU.out.below hb).at_ k q agV.out;injection he with he;injection he with he;injection he with he;subst he;have:=hc 0 _ rfl;exact this
    have dh:=af (YB (f:=yF p i side ag) hq);clear hq;obtain⟨iw,Ro⟩:∃x,q.ag=x:=⟨_,rfl⟩;rw [Ro]at jM;have zM:Hid (yF p i side ag q=(!(eA p i iw==0)&& !cV side iw ag)):=af (by unfold yF;rw [Ro]);clear Ro;obtain⟨bb,aJ⟩:∃b,yF p i side ag q=b:=⟨_,rfl⟩;rw [aJ]at zM dh;clear aJ;go_upto_region 9 with(fail)
    go_cut [63] (fun v wx=>v= .bool bb∧Below ak.heap.size ak wx)
    case first=>
     have hd:=(Below.refl ak.heap.size ak).drew;have fH:=af (aE.out.trans (hd.mono aE.out.size));have Rp:=af ((F1.out.below aE.out).below hd);have dD:=af hd;have lm:=BV p i iw ak.drew ((uQ.out.below YE.out).below ((wG.out.trans (aE.out.mono wG.out.size)).trans (hd.mono (wG.out.trans (aE.out.mono wG.out.size)).size)));obtain⟨pr,wz⟩:∃x,eA p i iw=x:=⟨_,rfl⟩;rw [wz]at lm zM;unfold Prod.agg Prod.cells at lm;have jU:=af lm;have hH:PC ak.drew aH p:=PC.nV Rp.out;have hc0:=jM.out _ fH.out;clear hd lm wz;refine cF (S:=fun w'=>(w'.cell? ⟨aH,0,none⟩=some (.string p.code)∧w'.cell? ⟨aH,1,none⟩=some (.slice p.ma p.months.length p.mc)∧w'.cell? ⟨aH,2,none⟩=some (.int .i64 p.tick)∧w'.cell? ⟨aH,3,none⟩=some (.int .i64 p.low)∧w'.cell? ⟨aH,4,none⟩=some (.int .i64 p.high)∧w'.cell? ⟨aH,5,none⟩=some (.int .i64 p.wide)∧w'.cell? ⟨aH,6,none⟩=some (.int .i64 p.rule)∧w'.cell? ⟨aH,7,none⟩=some (.int .i64 p.top)∧w'.cell? ⟨aH,8,none⟩=some (.int .i64 p.least)∧w'.cell? ⟨aH,9,none⟩=some (.int .i64 p.part)∧w'.cell? ⟨aH,10,none⟩=some (.slice p.sa p.settle.length p.sc))∧w'.cell? ⟨cu,k*6,none⟩=some (.int .i64 iw)) (by kernel_rfl) ⟨hH,hc0⟩ (fun hHeld=>?_);refine ai 0 ?_;refine ai 1 ?_;refine ai 2 ?_;refine ai 3 ?_;refine ai 4 ?_;refine ai 5 ?_;refine ai 6 ?_;refine aR 7 fun K hK=>?_;clear hH hc0;generalize ak.drew=wd at*;go_simp;go_at_call 67
     refine jU.out.mono ?_;rintro e aK ⟨rfl,bF⟩;have cC:=af (fH.out.trans (bF.mono fH.out.size));have YG:=af (dD.out.trans (bF.mono dD.out.size));have ag0:=af (PC.nV (Rp.out.below bF));refine hK.out _ _ ⟨PC.nV (Rp.out.below bF),jM.out _ cC.out⟩ (fun hHeld=>?_);clear hK K bF jU;by_cases su:pr=0
     ·subst su
      have Rq:Hid (bb=false):=af (by rw [zM.out];rfl);refine ai 8 ?_;refine ai 9 ?_;refine dS 10 ?_;refine dS 11 ?_;refine dS 12 ?_;refine dS 13 ?_;refine dS 14 ?_;refine dS 15 ?_;refine dS 16 ?_;refine dS 17 ?_;refine dS 18 ?_;refine gx _ _ _ _ ?_;refine eB 19 ?_;refine wpAnyH_done (by kernel_rfl) ?_ _;clear hHeld;go_wp2_with fail
      go_meet;exact⟨by rw [Rq.out],YG.out⟩
     ·have IW:(pr==0)=false:=by rw [beq_eq_false_iff_ne];exact su
      have P9:(pr !=0)=true:=by rw [bne_iff_ne];exact su
      have Rq:Hid (bb= !cV side iw ag):=af (by rw [zM.out,IW];simp);refine ai 8 ?_;refine ai 9 ?_;refine ai 10 ?_;refine ai 11 ?_;refine ai 12 ?_;refine ai 13 ?_;refine ai 14 ?_;refine ai 15 ?_;refine ai 16 ?_;have kf:=Ex side iw ag aK;refine aR 17 fun K hK=>?_;go_simp;go_at_call 72
      refine kf.mono ?_;rintro e bw ⟨rfl,rfl⟩;refine hK.out _ _ ⟨ag0.out,jM.out _ cC.out⟩ (fun hHeld=>?_);clear hK K;refine ai 18 ?_;refine gx _ _ _ _ ?_;refine eB 19 ?_;refine wpAnyH_done (by kernel_rfl) ?_ _;clear hHeld;go_wp2_with fail
      go_meet;exact⟨by rw [Rq.out],YG.out⟩
    case rest=>
    obtain⟨rfl,dA⟩:=hcut;have iG:=af (aE.out.trans (dA.mono aE.out.size));have c7:=af (wG.out.trans (iG.out.mono wG.out.size));clear dA;cases bb with
    |true=>
     have FK:Hid (A.any (yF p i side ag)=true):=af (by
      rw [List.any_eq_true];have h1:=dh.out;rw [Rn.out,Bool.false_or,List.any_eq_true]at h1;obtain⟨x,hx,ag1⟩:=h1;exact⟨x,List.mem_of_mem_take hx,ag1⟩)
     go_wp2_with fail
     go_ret;exact⟨by rw [←pq.out,FK.out];rfl,c7.out⟩
    |false=>
     go_wp2_with fail
     go_roundw
     case rel=>exact⟨k+1,by go_num,hlt,by rw [dh.out,Rn.out];rfl,iG.out⟩
     case measure=>simp [RowKit.intOf];omega
   ·have hkn:k=n:=by omega
    have ag2:Hid (A.any (yF p i side ag)=false):=af (by have:=Rn.out;rwa [hkn,←HN.out,List.take_length]at this);have c7:=af (wG.out.trans (aE.out.mono wG.out.size));clear hkn;go_wp2_with fail
    go_ret;exact⟨by rw [←pq.out,ag2.out];rfl,c7.out⟩
end
structure vh where
 kind:Int
 id:Int
 inst:Int
 side:Int
 ag:Int
 ah:Int
 left:Int
 why:Int
def vh.cells (x:vh):List Value:= [.int .i64 x.kind,.int .i64 x.id,.int .i64 x.inst,.int .i64 x.side,.int .i64 x.ag,.int .i64 x.ah,.int .i64 x.left,.int .i64 x.why]
def afK:vh:=⟨0,0,0,0,0,0,0,0⟩
theorem vh.jL (x:vh):∀u∈x.cells,u.oneCell'=true:=by
 intro u hu;simp only [vh.cells,List.mem_cons,List.not_mem_nil,or_false]at hu;rcases hu with rfl|rfl|rfl|rfl|rfl|rfl|rfl|rfl<;>rfl
def nk:aY vh:=⟨vh.cells,8,fun _=>rfl,vh.jL,by omega,143,77,.agg afK.cells.toArray,64,Tryz.underlying77,by kernel_rfl,by rfl,by omega⟩
theorem aY.Row.AY {α:Type} (Y:aY α) {w:World} {g:Nat} {L:List α} (h:aj w g Y.t (L.flatMap Y.cells).toArray) (hl:L.length≤100000):Y.Row w g (.slice (some ⟨g,0,none⟩) L.length L.length) L:=by
 have hfl:(L.flatMap Y.cells).length=L.length*Y.m:=lQ Y.cells Y.m Y.len L;exact⟨hfl,.inr ⟨g,L.length,_,rfl,Nat.le_refl _,h,Nat.le_refl _,by unfold maxLen;omega,by rw [List.size_toArray,hfl],by rw [List.take_of_length_le (by rw [hfl];exact Nat.le_refl _)]⟩⟩
def Fu (p:Prod) (ps:Nat) (v:Value):Array Value:=#[.string p.code,.slice p.ma p.months.length p.mc,.int .i64 p.tick,.int .i64 p.low,.int .i64 p.high,.int .i64 p.wide,.int .i64 p.rule,.int .i64 p.top,.int .i64 p.least,.int .i64 p.part,.slice p.sa p.settle.length p.sc,.pointer (some ⟨ps,0,none⟩),v]
structure ed (W w:World) (pm ps:Nat) (p:Prod) (Q:List Nat) (S:List (List ay)) (E:List Int):Prop where
 box:∃a c,aj w pm 76 (Fu p ps (.slice a E.length c))∧eJ.Row w W.heap.size (.slice a E.length c) E
 bZ:ek W w ps p Q S
 base:W.heap.size≤pm
section
variable {W w w':World} {pm ps pb:Nat} {p:Prod} {Q:List Nat} {S S':List (List ay)} {E:List Int}
theorem ed.below (h:ed W w pm ps p Q S E) (hb:Below w.heap.size w w'):ed W w' pm ps p Q S E:=by
 obtain⟨a,c,h1,h2⟩:=h.box;exact⟨⟨a,c,h1.below hb,h2.below hb⟩,h.bZ.below hb,h.base⟩
theorem ed.turn (h:ed W w pm ps p Q S E) (hs:ek W w' ps p Q S') (hk:aD (fun g=>g∈Q) w w'):ed W w' pm ps p Q S' E:=by
 obtain⟨a,c,h1,h2⟩:=h.box;have hq:∀g,g∈Q→bV w g 181:=fun g hg=>(h.bZ.ow hg).1;exact⟨⟨a,c,h1.keeps hk (fun e=>h1.aC.ne (hq _ e) (by decide) rfl),h2.keep hk (fun g hg e=>hg.ne (hq _ e) (by decide) rfl)⟩,hs,h.base⟩
theorem ed.pR {F:Nat→Prop} {t:TypeId} {B:Nat} (h:ed W w pm ps p Q S E) (hk:aD F w w') (hF:∀g,F g→bV w g t) (hB:W.heap.size≤B) (hb:∀g,F g→B≤g) (ht:t≠76∧t≠2∧t≠129∧t≠134∧t≠181∧t≠139:=by decide):ed W w' pm ps p Q S E:=by
 obtain⟨a,c,h1,h2⟩:=h.box;have hne:∀{g:Nat} {t':TypeId},bV w g t'→t≠t'→¬F g:=fun hg hn e=>hg.ne (hF _ e) (Ne.symm hn) rfl;exact⟨⟨a,c,h1.keeps hk (hne h1.aC ht.1),h2.keep hk (fun g hg=>hne hg ht.2.1)⟩,h.bZ.pR hk hF hB hb ht.2.2,h.base⟩
theorem Ap (id why:Int) (w:World):
 Calls Tryz.prog 63 #[.int .i64 id,.int .i64 why] w fun e w'=>∃v,e= .returned v∧nk.Row w' w.heap.size v [⟨2,id,0,0,0,0,0,why⟩]∧Below w.heap.size w w':=by
 go_enter Tryz.func63,Tryz.ntmps63
 go_wp2_with fail
 go_ret;exact⟨_,rfl,aY.Row.AY nk (L:= [⟨2,id,0,0,0,0,0,why⟩]) (aj.new w 143 _) (by simp),Below.aA w _⟩
theorem afL {F:List oA} {a:Option Addr} {n c:Nat} (h:pg.e8 w (.slice a n c) F) (hn:F.length=n) (hl:n≤100000) (inst month sp gS:Int) (qF:Bool):
 Calls Tryz.prog 138 #[.int .i64 inst,.agg #[.int .i64 sp,.int .i64 gS,.bool qF,.slice a n c],.int .i64 month] w fun e w'=>∃x:Int,e= .returned (.int .i64 x)∧Below w.heap.size w w':=by
 have hba:=Below.aA w (.cells #[.int .i64 sp,.int .i64 gS,.bool qF,.slice a n c] 206);have aq:=af (h.below hba);have aE:=af hba;have cv:Hid (aj (w.alloc (.cells #[.int .i64 sp,.int .i64 gS,.bool qF,.slice a n c] 206)) w.heap.size 206 #[.int .i64 sp,.int .i64 gS,.bool qF,.slice a n c]):=af (aj.new _ _ _);have HN:=af hn;clear h hba hn;go_enter Tryz.func138,Tryz.ntmps138
 go_upto_region 1 with(fail)
 obtain⟨g,hg⟩:∃g,w.heap.size=g:=⟨_,rfl⟩;rw [hg]at cv⊢;clear hg;generalize w.alloc (.cells _ 206)=w1 at*;have c0:w1.cell? ⟨g,0,none⟩=some (.int .i64 sp):=cv.out.cell 0;have c3:w1.cell? ⟨g,3,none⟩=some (.slice a n c):=cv.out.cell 3;by_cases hm:month=inst
 ·subst hm
  go_wp2_with fail
  go_ret;first|exact⟨_,rfl,aE.out⟩|exact aE.out|exact⟨⟨_,rfl⟩,aE.out⟩
 ·have hm':(month==inst)=false:=by rw [beq_eq_false_iff_ne];exact hm
  go_wp2_with fail
  go_loopw [7] (fun i w'=>∃k:Nat,i= .int .i64 k∧k≤n∧w1=w') (fun i _=>n-(RowKit.intOf i).toNat)
  case atStart=>exact⟨0,rfl,Nat.zero_le _,rfl⟩
  case round=>
   obtain⟨k,rfl,hk,rfl⟩:=hrel;by_cases hlt:k<n
   ·have hlt':(k:Int)<(n:Int):=by omega
    obtain⟨x,hx⟩:∃x,F[k]? =some x:=⟨_,List.getElem?_eq_getElem (by rw [HN.out];exact hlt)⟩;obtain⟨b,off,c',he,_,hc⟩:=aq.out.get hx;injection he with he hne fu;clear hne;subst he;subst fu;obtain⟨f0,f1,f2,f3,f4,f5⟩:=x;have d1:w1.cell? ⟨b,off+k*6+1,none⟩=some (.int .i64 f1):=hc 1 _ rfl;have d3:w1.cell? ⟨b,off+k*6+3,none⟩=some (.int .i64 f3):=hc 3 _ rfl;clear hc hx;by_cases he:f1=month
    ·subst he
     go_wp2_with fail
     go_ret;first|exact⟨_,rfl,aE.out⟩|exact aE.out|exact⟨⟨_,rfl⟩,aE.out⟩
    ·have he':(f1==month)=false:=by rw [beq_eq_false_iff_ne];exact he
     go_wp2_with fail
     go_roundw
     case rel=>exact⟨k+1,by go_num,hlt,by trivial⟩
     case measure=>simp [RowKit.intOf];omega
   ·have hkn:¬(k:Int)<(n:Int):=by omega
    go_wp2_with fail
    go_ret;first|exact⟨_,rfl,aE.out⟩|exact aE.out|exact⟨⟨_,rfl⟩,aE.out⟩
end
end Go.Proofs.YtmaijkoopjocdaaGreat
