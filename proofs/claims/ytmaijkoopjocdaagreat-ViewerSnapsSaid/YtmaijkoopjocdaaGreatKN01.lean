import Derived.Test.YtmaijkoopjocdaaGreatKV01
import Derived.Test.YtmaijkoopjocdaaGreatKV07
import Derived.Test.YtmaijkoopjocdaaGreatKV20
import Derived.Test.YtmaijkoopjocdaaGreatKV15
import Derived.Deep.CutBlock
import Derived.Test.YtmaijkoopjocdaaGreatKV37
import Derived.Test.YtmaijkoopjocdaaGreatKV02
import Derived.Test.YtmaijkoopjocdaaGreatKV06
import Derived.Test.YtmaijkoopjocdaaGreatKV13
import Derived.Test.YtmaijkoopjocdaaGreatKV41
import Derived.Test.YtmaijkoopjocdaaGreatKV04
import Derived.Test.YtmaijkoopjocdaaGreatKV31
import Derived.Test.YtmaijkoopjocdaaGreatKV17
import Derived.Test.YtmaijkoopjocdaaGreatKV19
import Derived.Test.YtmaijkoopjocdaaGreatKV38
import Derived.Test.YtmaijkoopjocdaaGreatKV39
import Derived.Test.YtmaijkoopjocdaaGreatKV26
import Derived.Test.YtmaijkoopjocdaaGreatKV40
import Derived.Test.YtmaijkoopjocdaaGreatKV32
import Derived.Deep.DeepCutAuto
import Derived.Deep.Slices
import Derived.Deep.Fields
import Derived.ChangeSame
import Derived.OpenShut
set_option maxRecDepth 100000
set_option maxHeartbeats 64000000
namespace Go.Proofs.YtmaijkoopjocdaaGreat
open Go Go.Lib
section
variable {n:Nat} {M:List aF} {s:ig}
theorem aow (fF:Num n M) {k:Nat} {m:aF} (h:M[k]? =some m):iF n (Ab n M k) (fL m)=(0,Ab n M (k+1)):=by
 obtain⟨LR,hmo⟩:=fF k m h;have hd:pg (fL m)=some m:=Nj hmo.o hmo.f.sd
 have hn:¬(m.seq<1∨zQ n m=false):=by
  rintro(h|h)
  ·omega
  ·rw [abP hmo]at h;cases h
 unfold iF Ab;rw [hd];dsimp only;rw [if_neg hn,if_neg (by rintro(h|h);omega;cases h),if_pos (by omega),TR h];unfold jN;rw [LR];rfl
end
end Go.Proofs.YtmaijkoopjocdaaGreat
namespace Go.Proofs.YtmaijkoopjocdaaGreat
open Go.RowKit Go.Lib
theorem an7 (n:Nat) (M:List aF) {k:Nat} (h:k≤M.length):tX n M (Ab n M k):=⟨⟨k,rfl,h,rfl⟩,List.Pairwise.nil,fun m hm=>by cases hm⟩
theorem an8 {n:Nat} {M:List aF} (fF:Num n M) {k j:Nat} (hk:k≤M.length) (hj:j≤M.length) {v:bG} (hv:v=vm n M j) (hl:v.length=n) (hr:ql v=true) (hb:AQ v):
 (j<k→r4 n (Ab n M k) (lK v j)=(33,Ab n M k))∧(k≤j→r4 n (Ab n M k) (lK v j)=(0,Ab n M j)):=by
 have hs:(Ab n M k).seq=(k:Int):=rfl;rcases ala fF (an7 n M hk) hj hv hl hr hb with⟨h1,h2⟩|⟨h1,_,h2,_⟩
 ·rw [hs]at h1
  exact⟨fun _=>h2,fun h=>by omega⟩
 ·rw [hs]at h1
  refine⟨fun h=>by omega,fun _=>?_⟩;rw [h2];rfl
theorem ak6 {V:bG} {n:Nat} (q:Int) (h:fX V 250) (hl:V.length=n) (hn:n≤21):(lK V q).length≤900000:=by
 unfold lK;have h1:=ak7 q h;have h2:V.length*(52+250*48)≤21*(52+250*48):=Nat.mul_le_mul_right _ (by omega);rw [List.length_append];have h3:(r3 (rB (r0 V q))).length=4:=rfl;omega
theorem aoz (cq:Prod) (la:Option Addr) (BZ:List ed) (lc:Nat) (ta:Option Addr) (Ts:List Int) (tc:Nat) (W:World) (hx:Qv cq) (hrd:Qm.fR W la BZ) (hcs:∀c∈BZ,E3 c) (hts:rS W ta Ts):
 Calls Tryz.prog 5 #[cq.agg,.slice la BZ.length lc,.slice ta Ts.length tc] W fun e W'=>e= .returned (.bool true)∧Below W.heap.size W W':=by
 have s1:=ak;have fE:Hid (Below W.heap.size W (W.alloc (.cells #[.string cq.code,.slice cq.ma cq.months.length cq.mc,↑cq.tick,↑cq.low,↑cq.high,↑cq.wide,↑cq.rule,↑cq.top,↑cq.least,↑cq.part,.slice cq.sa cq.settle.length cq.sc] 25))):=af (Below.aI _ _);have yL:=afo cq (W.alloc (.cells #[.string cq.code,.slice cq.ma cq.months.length cq.mc,↑cq.tick,↑cq.low,↑cq.high,↑cq.wide,↑cq.rule,↑cq.top,↑cq.least,↑cq.part,.slice cq.sa cq.settle.length cq.sc] 25)) hx;unfold Prod.agg Prod.cells at yL⊢;have yL:=af yL;have om:=af hrd;have kG:=af hcs;have sJ:=af hts;obtain⟨tC,hnt⟩:=ai Ts.length;have P9:=af hnt;rw [hnt];clear hx hrd hcs hts hnt;go_enter Tryz.func5,Tryz.ntmps5
 go_upto_region 1 with(fail)
 obtain⟨g0,og⟩:=ai W.heap.size;have jU:Hid (av (W.alloc (.cells #[.string cq.code,.slice cq.ma cq.months.length cq.mc,↑cq.tick,↑cq.low,↑cq.high,↑cq.wide,↑cq.rule,↑cq.top,↑cq.least,↑cq.part,.slice cq.sa cq.settle.length cq.sc] 25)) W.heap.size 25 cq.cells):=af (av.new _ _ _);rw [og]at jU⊢;clear og;generalize (W.alloc (.cells #[.string cq.code,.slice cq.ma cq.months.length cq.mc,↑cq.tick,↑cq.low,↑cq.high,↑cq.wide,↑cq.rule,↑cq.top,↑cq.least,↑cq.part,.slice cq.sa cq.settle.length cq.sc] 25))=w0 at*;obtain⟨jh,p1,p2,p3,y8,y9,za,zb,ze,zf,zg⟩:=PC.oQ jU.out;go_wp2_with fail
 refine yL.out.mono ?_;rintro e w1 ⟨kN,ma,mc,sa,sc,hok,rfl,sD,hb1⟩;have hz:=agk kN hok ma mc sa sc;have DI:1≤(kN.prod ma mc sa sc).tick∧(kN.prod ma mc sa sc).tick≤10:=hok.tick;obtain⟨p,hp⟩:=ai (kN.prod ma mc sa sc);rw [hp]at hz DI sD⊢;have bA:=ag fE hb1;have Bo:=af sD;have ec:=af hz;have Ld:=af DI;clear hok hz DI sD hb1 hp fE yL jU jh p1 p2 p3 y8 y9 za zb ze zf zg;try unfold Prod.agg Prod.cells
 go_upto_region 2 with(fail)
 have hba:Below w1.heap.size w1 (w1.alloc (.cells #[.string p.code,.slice p.ma p.months.length p.mc,↑p.tick,↑p.low,↑p.high,↑p.wide,↑p.rule,↑p.top,↑p.least,↑p.part,.slice p.sa p.settle.length p.sc] 25)):=Below.aI _ _;have iR:PC (w1.alloc (.cells #[.string p.code,.slice p.ma p.months.length p.mc,↑p.tick,↑p.low,↑p.high,↑p.wide,↑p.rule,↑p.top,↑p.least,↑p.part,.slice p.sa p.settle.length p.sc] 25)) w1.heap.size p:=PC.new w1 p;obtain⟨aR,nT⟩:=ai w1.heap.size;have aS:=ag bA hba;have Ty:=af (Bo.out.below hba);have g6:Hid (av (w1.alloc (.cells #[.string p.code,.slice p.ma p.months.length p.mc,↑p.tick,↑p.low,↑p.high,↑p.wide,↑p.rule,↑p.top,↑p.least,↑p.part,.slice p.sa p.settle.length p.sc] 25)) w1.heap.size 25 p.cells):=af (av.new _ _ _);rw [nT]at iR g6⊢;clear nT hba Bo bA;generalize (w1.alloc (.cells #[.string p.code,.slice p.ma p.months.length p.mc,↑p.tick,↑p.low,↑p.high,↑p.wide,↑p.rule,↑p.top,↑p.least,↑p.part,.slice p.sa p.settle.length p.sc] 25))=w2 at*;have gG:=akr p w2 Ty.out ec.out Ld.out (lc:=lc) (fun j c hj=>(om.out.below aS.out) j c hj) kG.out;unfold Prod.agg Prod.cells at gG;have gG:=af gG;obtain⟨jh,p1,p2,p3,y8,y9,za,zb,ze,zf,zg⟩:=iR;go_wp2_with fail
 refine gG.out.mono ?_;rintro e w3 ⟨anQ,xv,p6,rfl,M,V,Q,hst,hml,hvl,hmo,fj,Bz,hb3⟩;have aQ:=ag aS hb3;have alb:=af (Ty.out.below hb3);have alc:=af (g6.out.below hb3);obtain⟨am,zh,gx⟩:=hmo.form;obtain⟨cJ,aY,abQ⟩:=fj.form;obtain⟨anR,akj,E8⟩:=Bz.form;obtain⟨nm,hnm⟩:=ai M.length;obtain⟨nv,OD⟩:=ai V.length;have wm:Q.length=nv:=by rw [←hst.len];exact OD
 rw [hnm]at gx;rw [OD]at abQ;rw [wm]at E8;subst gx;subst abQ;subst E8;have anS:nm≤60000:=by omega
 have anT:1≤nv∧nv≤26:=by have:=hst.one;omega
 have sq:=af hst;have uW:=af hmo;have e5:=af fj;have abR:=af Bz;have wM:=af hnm;have Tz:=af OD;have tL:=af wm;clear hst hml hvl hmo fj Bz hb3 hnm OD wm gG Ty aS g6 jh p1 p2 p3 y8 y9 za zb ze zf zg;obtain⟨N,iA⟩:=ai ((countP p).toNat);have j6:Hid (nR p.months.length=N):=af (by rw [←iA,show countP p=nR p.months.length from if_pos ec.out];rfl);have anU:Hid (1≤nR p.months.length):=af (by have h2:=pI ec.out;have h3:=yN p.months.length h2.2;omega);have c8:Hid (N≤21):=af (by have:=BA p;omega);rw [iA]at sq;clear iA;have Dg:=Xn p w3 alb.out ec.out;rw [j6.out]at Dg;unfold Prod.agg Prod.cells at Dg;have Dg:=af Dg;obtain⟨jh,p1,p2,p3,y8,y9,za,zb,ze,zf,zg⟩:=PC.oQ alc.out;go_wp2_with fail
 refine Dg.out.mono ?_;rintro e az ⟨pv,rfl,y3⟩;have abS:=af y3;have Il:Hid (Num N M):=af fun j m hj=>sq.out.ms j m hj;clear y3 Dg jh p1 p2 p3 y8 y9 za zb ze zf zg;go_wp2_with fail
 go_loopw [14,13] (fun i a w'=>∃(k aov cc:Nat) (hv:Value),i=↑k∧k≤20∧a=↑aov∧aov≤nm∧cc≤3*k∧Hid (pL N cc (Ab N M aov))∧fA w3 w' pv N hv (Ab N M aov)) (fun i _ _=>20-(RowKit.intOf i).toNat)
 case atStart=>exact⟨0,0,0,_,rfl,Nat.zero_le _,rfl,Nat.zero_le _,Nat.zero_le _,af (QH N),abS.out⟩
 case round=>
  clear abS;obtain⟨k,aov,cc,hv,rfl,hk,rfl,an9,oK,lW,y3⟩:=hrel;obtain⟨ax,rfl⟩:=aj wr;have nr:=af y3;clear y3;obtain⟨bb,aP⟩:=ai (decide (k<tC)&&decide (k<20));have bp:=af aP;clear aP;go_upto_region 8 with(fail)
  go_cut [46] (fun u wx=>u=↑bb∧ax=wx)
  case first=>
   by_cases h1:k<tC
   ·have ale:(k:Int)<(tC:Int):=by omega
    by_cases h2:k<20
    ·have JG:(k:Int)<20:=by omega
     go_wp2_with fail
     go_meet;exact⟨by rw [←bp.out,decide_eq_true h1,decide_eq_true h2];rfl,rfl⟩
    ·have JG:¬(k:Int)<20:=by omega
     go_wp2_with fail
     go_meet;exact⟨by rw [←bp.out,decide_eq_false h2,Bool.and_false],rfl⟩
   ·have ale:¬(k:Int)<(tC:Int):=by omega
    go_wp2_with fail
    go_meet;exact⟨by rw [←bp.out,decide_eq_false h1,Bool.false_and],rfl⟩
  case rest=>
  obtain⟨rfl,rfl⟩:=hcut;cases bb with
  |false=>
   go_wp2_with fail
   refine(afK ax).mono ?_;rintro e bW ⟨rfl,gD⟩;have NN:=af (aQ.out.trans ((nr.out.aJ.trans (gD.mono nr.out.aJ.size)).mono aQ.out.size));clear gD;go_wp2_with fail
   go_ret;exact⟨by trivial,NN.out⟩
  |true=>
   have g7:=bp.out;simp only [Bool.and_eq_true,decide_eq_true_eq]at g7;obtain⟨kY,aod⟩:=g7;clear bp;have an3:(k:Int)<(tC:Int):=by omega
   obtain⟨x,hx⟩:∃x,Ts[k]? =some x:=⟨_,List.getElem?_eq_getElem (by rw [P9.out];exact kY)⟩;obtain⟨yR,b,off,Q8,eU,hbc⟩:=sJ.out k x hx;subst Q8;have als:ax.cell? ⟨b,off+k,none⟩=some ↑x:=((aQ.out.trans (nr.out.aJ.mono aQ.out.size)).cell (p:=⟨b,off+k,none⟩) eU).trans hbc;have hwi:=oq x 0 ((nv:Int)-1) (by omega);have FX:=af (v8 x 0 ((nv:Int)-1) ax yR.1 yR.2 (by omega) (by omega) (by omega));obtain⟨r,hr⟩:∃r:Nat,ew x 0 ((nv:Int)-1)=r:=⟨(ew x 0 ((nv:Int)-1)).toNat,by omega⟩;rw [hr]at FX hwi;have Dq:r<nv:=by omega
   have alg:(r:Int)<(nv:Int):=by omega
   obtain⟨v,hv1⟩:∃v,V[r]? =some v:=⟨_,List.getElem?_eq_getElem (by rw [Tz.out];exact Dq)⟩;obtain⟨q,hq1⟩:∃q,Q[r]? =some q:=⟨_,List.getElem?_eq_getElem (by rw [tL.out];exact Dq)⟩;obtain⟨j,TA,LU,LV,hvl,LW,OE,LX⟩:=sq.out.at_ r v q hv1 hq1;subst TA;obtain⟨aM,alh,B5,Ao,dr,rY,q9⟩:=e5.out.get hv1;injection Ao with h1 h2 h3;clear h2;subst h1;subst h3;obtain⟨gB,yn,fH⟩:=B5;dsimp only at rY q9
   have x8:yn=N:=by
    obtain⟨_,_,he⟩:=q9.form;injection he with _ he _;rw [he];exact hvl
   rw [x8]at rY q9;obtain⟨dU,ali,EV,LY,rK⟩:=abR.out.at_ r _ hq1;injection EV with h1 h2 h3;clear h2;subst h1;subst h3;have FY:w3.cell? ⟨dU,r*1,none⟩=some ↑j:=rK 0 _ rfl;rw [Nat.mul_one]at FY;have FL:=af q9;have LZ:=af LX;have wu:Hid (∀wx,Below w3.heap.size w3 wx→wx.cell? ⟨aM,r,none⟩=some (.slice gB N fH)∧wx.cell? ⟨dU,r,none⟩=some ↑j):=af fun wx hb=>⟨(hb.cell (p:=⟨aM,r,none⟩) dr).trans rY,(hb.cell (p:=⟨dU,r,none⟩) LY).trans FY⟩;have c4:Hid (∀wx,Below ax.heap.size ax wx→wx.cell? ⟨aM,r,none⟩=some (.slice gB N fH)∧wx.cell? ⟨dU,r,none⟩=some ↑j):=af fun wx hb=>wu.out wx (nr.out.aJ.trans (hb.mono nr.out.aJ.size));clear hv1 hq1 dr rY q9 x8 rK FY LY LX;clear hx eU hbc yR hr;go_wp2_with fail
   refine FX.out.mono ?_;rintro e aN ⟨rfl,rfl⟩;clear FX als;go_upto_region 11 with(fail)
   have b6:Hid (Below ax.heap.size ax ax.drew):=af (Below.refl ax.heap.size ax).drew;refine cP (S:=fun w'=>w'.cell? ⟨aM,r,none⟩=some (.slice gB N fH)∧w'.cell? ⟨dU,r,none⟩=some ↑j) (c4.out _ b6.out) fun hHeld=>?_;refine au 0 ?_;refine au 1 ?_;refine au 2 ?_;refine au 3 ?_;refine au 4 ?_;refine au 5 ?_;refine au 6 ?_;refine au 7 ?_;refine aU 8 fun K hK=>?_;go_simp;go_at_call 20
   have TB:=aio (a:=gB) (c:=fH) (V:=v) (w:=ax.drew) (B:=w2.heap.size) (by rw [hvl];exact FL.out.below (nr.out.aJ.trans (b6.out.mono nr.out.aJ.size))) (by rw [hvl];have:=c8.out;omega) (XQ LW LZ.out (by rw [hvl];have:=c8.out;omega)) (j:Int);rw [hvl]at TB;refine TB.mono ?_;rintro e aN ⟨vb,rfl,hrb,bI⟩;obtain⟨ba,bc,Db⟩:=hrb.form;obtain⟨nb,hnb⟩:=ai ((lK v j).length);rw [hnb]at Db;subst Db;have uJ:=af hrb;have b7:=ag b6 bI;refine hK.out _ _ (c4.out _ b7.out) (fun hHeld=>?_);clear hK K hrb bI TB hnb;refine gu _ _ _ _ ?_;refine ej 9 ?_;refine ej 10 ?_;refine ej 11 ?_;refine ej 12 ?_;refine ej 13 ?_;refine gw ?_;clear hHeld;have uZ:=af (nr.out.below b7.out);obtain⟨hold,hnew⟩:=an8 Il.out (k:=aov) (j:=j) (by rw [wM.out];exact an9) LU LV hvl (XQ LW LZ.out (by rw [hvl];have:=c8.out;omega)) OE;have qC:=ajs uZ.out lW.out (by omega) uJ.out.sl (ak6 (j:Int) LZ.out hvl c8.out) (alj v j);have w9:=alk (b:=lK v j) lW.out
   obtain⟨oR,a2,hfa,hres⟩:∃(oR:Int) (a2:Nat),((j<aov∧oR=33∧a2=aov)∨(aov≤j∧oR=0∧a2=j))∧r4 N (Ab N M aov) (lK v j)=(oR,Ab N M a2):=by
    by_cases h:j<aov
    ·exact⟨33,aov,.inl ⟨h,rfl,rfl⟩,hold h⟩
    ·exact⟨0,j,.inr ⟨by omega,rfl,rfl⟩,hnew (by omega)⟩
   rw [hres]at qC w9;have lR:=af qC;have uv:=af w9;have TP:=af (show v=vm N M j from LV);have alw:=af hvl;have hjn:j≤nm:=by rw [←wM.out];exact LU
   have Nu:a2≤nm:=by omega
   clear hold hnew qC w9 hres LV hvl LW OE lW nr LU;go_wp2_with fail
   refine lR.out.mono ?_;rintro e bf ⟨rfl,pH,G7,_,_⟩;have k3:=af G7;have kq:bf.cell? ⟨dU,r,none⟩=some ↑j:=(wu.out bf G7.aJ).2;clear G7 lR c4 uZ uJ b7;go_upto_region 13 with(fail)
   go_cut [88] (fun u wx=>u= .bool false∧bf=wx)
   case first=>
    rcases hfa with⟨h1,rfl,rfl⟩|⟨h1,rfl,rfl⟩
    ·have ale:¬(a2:Int)≤(j:Int):=by omega
     go_wp2_with fail
     go_meet;exact⟨rfl,rfl⟩
    ·have ale:(aov:Int)≤(a2:Int):=by omega
     go_wp2_with fail
     go_meet;exact⟨rfl,rfl⟩
   case rest=>
   obtain⟨rfl,rfl⟩:=hcut;go_upto_if 90 with(fail)
   go_cut [13] (fun u wx=>u=↑a2∧bf=wx)
   case first=>
    rcases hfa with⟨h1,rfl,rfl⟩|⟨h1,rfl,rfl⟩
    ·go_wp2_with fail
     go_meet;exact⟨rfl,rfl⟩
    ·go_wp2_with fail
     go_meet;exact⟨rfl,rfl⟩
   case rest=>
   obtain⟨rfl,rfl⟩:=hcut;clear kq;obtain⟨c3,rq⟩:=ai (k % 3);have hmod:Int.tmod (k:Int) 3=(c3:Int):=by rw [Int.tmod_eq_emod_of_nonneg (by omega),←rq];omega
   have aoe:c3<3:=by omega
   obtain⟨tt,DN⟩:=ai (decide (c3=2)&&decide (a2<nm));have Hs:=af DN;clear DN;go_upto_region 17 with(fail)
   go_cut [103] (fun u wx=>u=↑tt∧bf=wx)
   case first=>
    by_cases h1:c3=2
    ·have ale:((c3:Int)==2)=true:=by rw [h1];rfl
     by_cases h2:a2<nm
     ·have JG:(a2:Int)<(nm:Int):=by omega
      go_wp2_with fail
      go_meet;exact⟨by rw [←Hs.out,decide_eq_true h1,decide_eq_true h2];rfl,rfl⟩
     ·have JG:¬(a2:Int)<(nm:Int):=by omega
      go_wp2_with fail
      go_meet;exact⟨by rw [←Hs.out,decide_eq_false h2,Bool.and_false],rfl⟩
    ·have ale:((c3:Int)==2)=false:=by rw [beq_eq_false_iff_ne];omega
     go_wp2_with fail
     go_meet;exact⟨by rw [←Hs.out,decide_eq_false h1,Bool.false_and],rfl⟩
   case rest=>
   obtain⟨rfl,rfl⟩:=hcut;go_upto_if 103 with(fail)
   go_cut [13] (fun u wx=>∃(a3:Nat) (tM:Value),u=↑a3∧a3≤nm∧(tt=false→a3=a2)∧fA w3 wx pv N tM (Ab N M a3)∧pL N (cc+1) (Ab N M a3))
   case first=>
    cases tt with
    |true=>
     have DN:=Hs.out;simp only [Bool.and_eq_true,decide_eq_true_eq]at DN;obtain⟨h1,h2⟩:=DN;have JG:(a2:Int)<(nm:Int):=by omega
     obtain⟨m,hm⟩:∃m,M[a2]? =some m:=⟨_,List.getElem?_eq_getElem (by rw [wM.out];exact h2)⟩;obtain⟨ay,alm,B5,hme,dr,xa,hmr⟩:=(uW.out.below k3.out.aJ).get hm;injection hme with h1 h3 h4;clear h3;subst h1;subst h4;obtain⟨j3,xn,xc⟩:=B5;dsimp only at xa hmr;have kX:=Nk k3.out uv.out List.Pairwise.nil (by have:=c8.out;omega) (by omega) hmr.sl (by rw [Nl];decide) (EO m);rw [aow Il.out hm]at kX;have dN:=af kX;have hs1:=EP (b:=fL m) (EO m) uv.out;rw [aow Il.out hm]at hs1;have L0:=af hs1;clear kX hs1 hm dr hmr;go_wp2_with fail
     refine dN.out.mono ?_;rintro e bZ ⟨rfl,tM,abY,_,_⟩;have uK:=af abY;clear abY dN xa;go_wp2_with fail
     go_meet;exact⟨a2+1,tM,by go_num,by omega,fun h=>(by cases h),uK.out,L0.out⟩
    |false=>
     go_wp2_with fail
     go_meet;exact⟨a2,pH,rfl,Nu,fun _=>rfl,k3.out,uv.out.more (Nat.le_succ cc)⟩
   case rest=>
   obtain⟨a3,tM,rfl,XT,Q8,abY,aox⟩:=hcut;obtain⟨bZ,rfl⟩:=aj wc;have uK:=af abY;have aoa:=af aox;have aob:=af Q8;clear abY aox Q8 k3 uv;go_upto_region 21 with(fail)
   go_cut [141] (fun u wx=>u= .bool false∧Below bZ.heap.size bZ wx)
   case first=>
    have tE:Hid (∀wx,Below bZ.heap.size bZ wx→wx.cell? ⟨aM,r,none⟩=some (.slice gB N fH)):=af fun wx hb=>(wu.out wx (uK.out.aJ.trans (hb.mono uK.out.aJ.size))).1;have b6:Hid (Below bZ.heap.size bZ bZ.drew):=af (Below.refl bZ.heap.size bZ).drew;refine cP (S:=fun w'=>w'.cell? ⟨aM,r,none⟩=some (.slice gB N fH)) (tE.out _ b6.out) fun hHeld=>?_;refine au 0 ?_;refine au 2 ?_;have zn:=af (uK.out.below b6.out);have sR:=Np zn.out;rw [show(Ab N M a3).seq=(a3:Int)from rfl]at sR;have Xt:=af sR;have zH:=Nn zn.out;rw [show decide ((Ab N M a3).H.length=0)=true from rfl]at zH;have aoy:=af zH;clear sR zH;generalize bZ.drew=wd at*;refine aU 1 fun K hK=>?_;go_simp;refine Xt.out.mono ?_;rintro e bW ⟨rfl,rfl⟩;refine hK.out _ _ (tE.out _ b6.out) (fun hHeld=>?_);clear hK K Xt;refine au 3 ?_;refine au 4 ?_;refine au 5 ?_;refine aU 6 fun K hK=>?_;go_simp;refine aoy.out.mono ?_;rintro e bW ⟨rfl,rfl⟩;refine hK.out _ _ (tE.out _ b6.out) (fun hHeld=>?_);clear hK K aoy;refine au 7 ?_;refine au 8 ?_;refine au 9 ?_;rcases hfa with⟨h1,rfl,rfl⟩|⟨h1,rfl,rfl⟩
    ·skip
     refine au 10 ?_;refine au 11 ?_;refine au 12 ?_;refine c7 13 ?_;refine c7 14 ?_;refine c7 15 ?_;refine au 16 ?_;refine au 17 ?_;refine c7 18 ?_;refine c7 21 ?_;refine c7 22 ?_;refine c7 23 ?_;refine c7 24 ?_;refine aU 19 fun K hK=>?_;go_simp;refine hK.out _ _ (tE.out _ b6.out) (fun hHeld=>?_);clear hK K;refine aU 20 fun K hK=>?_;go_simp;refine hK.out _ _ (tE.out _ b6.out) (fun hHeld=>?_);clear hK K;refine aU 25 fun K hK=>?_;go_simp;refine hK.out _ _ (tE.out _ b6.out) (fun hHeld=>?_);clear hK K;refine c7 26 ?_;refine gu _ _ _ _ ?_;refine ej 27 ?_;refine ej 28 ?_;refine gw ?_;clear hHeld;go_wp2_with fail
     go_meet;exact⟨rfl,b6.out⟩
    ·by_cases h2:c3=2
     ·have JG:((c3:Int)==2)=true:=by rw [h2];rfl
      have aoc:((c3:Int) !=2)=false:=by rw [bne,JG];rfl
      refine au 10 ?_;refine au 11 ?_;refine au 12 ?_;refine au 13 ?_;refine au 14 ?_;refine au 15 ?_;refine au 16 ?_;refine au 17 ?_;refine c7 18 ?_;refine c7 21 ?_;refine c7 22 ?_;refine c7 23 ?_;refine c7 24 ?_;refine aU 19 fun K hK=>?_;go_simp;refine hK.out _ _ (tE.out _ b6.out) (fun hHeld=>?_);clear hK K;refine aU 20 fun K hK=>?_;go_simp;refine hK.out _ _ (tE.out _ b6.out) (fun hHeld=>?_);clear hK K;refine aU 25 fun K hK=>?_;go_simp;refine hK.out _ _ (tE.out _ b6.out) (fun hHeld=>?_);clear hK K;refine c7 26 ?_;refine gu _ _ _ _ ?_;refine ej 27 ?_;refine ej 28 ?_;refine gw ?_;clear hHeld;go_wp2_with fail
      go_meet;exact⟨rfl,b6.out⟩
     ·have JG:((c3:Int)==2)=false:=by rw [beq_eq_false_iff_ne];omega
      have aoc:((c3:Int) !=2)=true:=by rw [bne,JG];rfl
      obtain rfl:a3=a2:=aob.out (by rw [←Hs.out,decide_eq_false h2,Bool.false_and]);refine au 10 ?_;refine au 11 ?_;refine au 12 ?_;refine au 13 ?_;refine au 14 ?_;refine au 15 ?_;refine au 16 ?_;refine au 17 ?_;refine au 18 ?_;refine au 21 ?_;refine au 22 ?_;refine au 23 ?_;refine au 24 ?_;have oY:Hid ((Ab N M a3).V.length=N):=af (by rw [show(Ab N M a3).V=vm N M a3 from rfl,←TP.out];exact alw.out);have dQ:Hid (fX (Ab N M a3).V 250):=af (by rw [show(Ab N M a3).V=vm N M a3 from rfl,←TP.out];exact LZ.out);refine aU 19 fun K hK=>?_;go_simp;go_at_call 15
      refine(Nq zn.out (by rw [oY.out];have:=c8.out;omega) dQ.out (by omega)).mono ?_;rintro e wv ⟨vu,rfl,fj,AV⟩;obtain⟨TK,uc,L2⟩:=fj.form;have TL:=af fj;rw [oY.out]at L2;subst L2;have FZ:=ag b6 AV;refine hK.out _ _ (tE.out _ FZ.out) (fun hHeld=>?_);clear hK K fj AV;refine aU 20 fun K hK=>?_;go_simp;go_at_call 17
      have hin:=Xi (a:=TK) (c:=uc) (V:=(Ab N M a3).V) (w:=wv) (B:=wd.heap.size) (by rw [oY.out];exact TL.out) (by rw [oY.out];have:=c8.out;omega) (dQ.out.more (by omega));rw [oY.out]at hin;refine hin.mono ?_;rintro e wi ⟨vi,rfl,F0,nX⟩;obtain⟨TM,zW,L3⟩:=F0.form;rw [oY.out]at L3;subst L3;have Bk:=af F0;have B6:=ag FZ nX;refine hK.out _ _ (tE.out _ B6.out) (fun hHeld=>?_);clear hK K F0 nX hin;refine aU 25 fun K hK=>?_;go_simp;go_at_call 16
      have mX:=Zn (a:=TM) (c:=zW) (b:=gB) (d:=fH) (V:=(Ab N M a3).V) (w:=wi) (p4:=wv.heap.size) (p5:=w2.heap.size) (by rw [oY.out];exact Bk.out) (by rw [oY.out];exact(show cg eJ bK wi w2.heap.size (.slice gB N fH) (Ab N M a3).V by rw [show(Ab N M a3).V=vm N M a3 from rfl,←TP.out];exact FL.out.below (uK.out.aJ.trans (B6.out.mono uK.out.aJ.size)))) (by rw [oY.out];have:=c8.out;omega) (dQ.out.more (by omega));rw [oY.out]at mX;refine mX.mono ?_;rintro e ws ⟨rfl,dw⟩;have Im:=ag B6 dw;refine hK.out _ _ (tE.out _ Im.out) (fun hHeld=>?_);clear hK K dw mX;refine gu _ _ _ _ ?_;refine ej 26 ?_;refine ej 27 ?_;refine ej 28 ?_;refine gw ?_;clear hHeld;go_wp2_with fail
      go_meet;exact⟨rfl,Im.out⟩
   case rest=>
   obtain⟨rfl,gD⟩:=hcut;have zn:=af (uK.out.below gD);clear gD uK;go_wp2_with fail
   go_roundw
   case rel=>exact⟨k+1,a3,cc+1,tM,by go_num,by omega,rfl,XT,by omega,aoa,zn.out⟩
   case measure=>simp [RowKit.intOf];omega
end Go.Proofs.YtmaijkoopjocdaaGreat
