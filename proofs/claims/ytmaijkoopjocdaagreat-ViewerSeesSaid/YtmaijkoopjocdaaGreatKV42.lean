import Derived.Test.YtmaijkoopjocdaaGreatKV40
import Derived.Test.YtmaijkoopjocdaaGreatKV41
set_option maxRecDepth 100000
set_option maxHeartbeats 64000000
namespace Go.Proofs.YtmaijkoopjocdaaGreat
open Go.RowKit Go.Lib
theorem ak6 {V:bG} {n:Nat} (q:Int) (h:fX V 250) (hl:V.length=n) (hn:n≤21):(lK V q).length≤900000:=by
 unfold lK;have h1:=ak7 q h;have h2:V.length*(52+250*48)≤21*(52+250*48):=Nat.mul_le_mul_right _ (by omega);rw [List.length_append];have h3:(r3 (rB (r0 V q))).length=4:=rfl;omega
theorem ak8 {n:Nat} {M:List aF} {s:ig} (fF:Num n M) {i:Nat} {m:aF} (hi:M[i]? =some m) (hm:m.seq≤s.seq+1):(iF n s (fL m)).2.H.length≤s.H.length:=by
 obtain⟨LR,hmo⟩:=fF i m hi;have hd:pg (fL m)=some m:=Nj hmo.o hmo.f.sd
 have hn:¬(m.seq<1∨zQ n m=false):=by
  rintro(h|h)
  ·omega
  ·rw [abP hmo]at h;cases h
 unfold iF;rw [hd];dsimp only;rw [if_neg hn];split
 ·exact Nat.le_refl _
 ·rw [if_pos (by rename_i h;have h1:¬m.seq≤s.seq:=fun h2=>h (.inl h2);omega)]
  exact LS _ _ _
theorem ak9 {n:Nat} {M:List aF} {s:ig} (fF:Num n M) (hs:tX n M s) {j:Nat} (hj:j≤M.length) {v:bG} (hv:v=vm n M j) (hl:v.length=n) (hr:ql v=true) (hb:AQ v):
 tX n M (r4 n s (lK v j)).2∧(j:Int)≤(r4 n s (lK v j)).2.seq∧(r4 n s (lK v j)).2.H.length≤s.H.length:=by
 rcases ala fF hs hj hv hl hr hb with⟨h1,h2⟩|⟨_,_,h2,h3,h4⟩
 ·rw [h2];exact⟨hs,by dsimp only;omega,Nat.le_refl _⟩
 ·exact⟨h3,h4,by rw [h2];exact LS _ _ _⟩
theorem ag8 (cq:Prod) (la:Option Addr) (BZ:List ed) (lc:Nat) (ta:Option Addr) (Ts:List Int) (tc:Nat) (z0:Int) (W:World) (hx:Qv cq) (hrd:Qm.fR W la BZ) (hcs:∀c∈BZ,E3 c) (hts:rS W ta Ts) (dm: -9223372036854775808≤z0) (hz1:z0≤9223372036854775807):
 Calls Tryz.prog 7 #[cq.agg,.slice la BZ.length lc,.slice ta Ts.length tc,↑z0] W fun e W'=>e= .returned (.bool true)∧Below W.heap.size W W':=by
 have s1:=ak;have fE:Hid (Below W.heap.size W (W.alloc (.cells #[.string cq.code,.slice cq.ma cq.months.length cq.mc,↑cq.tick,↑cq.low,↑cq.high,↑cq.wide,↑cq.rule,↑cq.top,↑cq.least,↑cq.part,.slice cq.sa cq.settle.length cq.sc] 25))):=af (Below.aI _ _);have yL:=afo cq (W.alloc (.cells #[.string cq.code,.slice cq.ma cq.months.length cq.mc,↑cq.tick,↑cq.low,↑cq.high,↑cq.wide,↑cq.rule,↑cq.top,↑cq.least,↑cq.part,.slice cq.sa cq.settle.length cq.sc] 25)) hx;unfold Prod.agg Prod.cells at yL⊢;have yL:=af yL;have om:=af hrd;have kG:=af hcs;have sJ:=af hts;obtain⟨tC,hnt⟩:=ai Ts.length;have P9:=af hnt;rw [hnt];clear hx hrd hcs hts hnt;go_enter Tryz.func7,Tryz.ntmps7
 go_upto_region 1 with(fail)
 obtain⟨g0,og⟩:=ai W.heap.size;have jU:Hid (av (W.alloc (.cells #[.string cq.code,.slice cq.ma cq.months.length cq.mc,↑cq.tick,↑cq.low,↑cq.high,↑cq.wide,↑cq.rule,↑cq.top,↑cq.least,↑cq.part,.slice cq.sa cq.settle.length cq.sc] 25)) W.heap.size 25 cq.cells):=af (av.new _ _ _);rw [og]at jU⊢;clear og;generalize (W.alloc (.cells #[.string cq.code,.slice cq.ma cq.months.length cq.mc,↑cq.tick,↑cq.low,↑cq.high,↑cq.wide,↑cq.rule,↑cq.top,↑cq.least,↑cq.part,.slice cq.sa cq.settle.length cq.sc] 25))=w0 at*;obtain⟨jh,p1,p2,p3,y8,y9,za,zb,ze,zf,zg⟩:=PC.oQ jU.out;go_wp2_with fail
 refine yL.out.mono ?_;rintro e w1 ⟨kN,ma,mc,sa,sc,hok,rfl,sD,hb1⟩;have hz:=agk kN hok ma mc sa sc;have DI:1≤(kN.prod ma mc sa sc).tick∧(kN.prod ma mc sa sc).tick≤10:=hok.tick;obtain⟨p,hp⟩:=ai (kN.prod ma mc sa sc);rw [hp]at hz DI sD⊢;have bA:=ag fE hb1;have Bo:=af sD;have ec:=af hz;have Ld:=af DI;clear hok hz DI sD hb1 hp fE yL jU jh p1 p2 p3 y8 y9 za zb ze zf zg;try unfold Prod.agg Prod.cells
 go_upto_region 2 with(fail)
 have hba:Below w1.heap.size w1 (w1.alloc (.cells #[.string p.code,.slice p.ma p.months.length p.mc,↑p.tick,↑p.low,↑p.high,↑p.wide,↑p.rule,↑p.top,↑p.least,↑p.part,.slice p.sa p.settle.length p.sc] 25)):=Below.aI _ _;have iR:PC (w1.alloc (.cells #[.string p.code,.slice p.ma p.months.length p.mc,↑p.tick,↑p.low,↑p.high,↑p.wide,↑p.rule,↑p.top,↑p.least,↑p.part,.slice p.sa p.settle.length p.sc] 25)) w1.heap.size p:=PC.new w1 p;obtain⟨aR,nT⟩:=ai w1.heap.size;have aS:=ag bA hba;have Ty:=af (Bo.out.below hba);have g6:Hid (av (w1.alloc (.cells #[.string p.code,.slice p.ma p.months.length p.mc,↑p.tick,↑p.low,↑p.high,↑p.wide,↑p.rule,↑p.top,↑p.least,↑p.part,.slice p.sa p.settle.length p.sc] 25)) w1.heap.size 25 p.cells):=af (av.new _ _ _);rw [nT]at iR g6⊢;clear nT hba Bo bA;generalize (w1.alloc (.cells #[.string p.code,.slice p.ma p.months.length p.mc,↑p.tick,↑p.low,↑p.high,↑p.wide,↑p.rule,↑p.top,↑p.least,↑p.part,.slice p.sa p.settle.length p.sc] 25))=w2 at*;have gG:=akr p w2 Ty.out ec.out Ld.out (lc:=lc) (fun j c hj=>(om.out.below aS.out) j c hj) kG.out;unfold Prod.agg Prod.cells at gG;have gG:=af gG;obtain⟨jh,p1,p2,p3,y8,y9,za,zb,ze,zf,zg⟩:=iR;go_wp2_with fail
 refine gG.out.mono ?_;rintro e w3 ⟨anQ,xv,p6,rfl,M,V,Q,hst,hml,hvl,hmo,fj,Bz,hb3⟩;have aQ:=ag aS hb3;have alb:=af (Ty.out.below hb3);have alc:=af (g6.out.below hb3);obtain⟨am,zh,gx⟩:=hmo.form;obtain⟨cJ,aY,abQ⟩:=fj.form;obtain⟨anR,akj,E8⟩:=Bz.form;obtain⟨nm,hnm⟩:=ai M.length;obtain⟨nv,OD⟩:=ai V.length;have wm:Q.length=nv:=by rw [←hst.len];exact OD
 rw [hnm]at gx;rw [OD]at abQ;rw [wm]at E8;subst gx;subst abQ;subst E8;have anS:nm≤60000:=by omega
 have anT:1≤nv∧nv≤26:=by have:=hst.one;omega
 have sq:=af hst;have uW:=af hmo;have e5:=af fj;have abR:=af Bz;have wM:=af hnm;have Tz:=af OD;have tL:=af wm;clear hst hml hvl hmo fj Bz hb3 hnm OD wm gG Ty aS g6 jh p1 p2 p3 y8 y9 za zb ze zf zg;obtain⟨N,iA⟩:=ai ((countP p).toNat);have j6:Hid (nR p.months.length=N):=af (by rw [←iA,show countP p=nR p.months.length from if_pos ec.out];rfl);have anU:Hid (1≤nR p.months.length):=af (by have h2:=pI ec.out;have h3:=yN p.months.length h2.2;omega);have c8:Hid (N≤21):=af (by have:=BA p;omega);rw [iA]at sq;clear iA;have Dg:=Xn p w3 alb.out ec.out;rw [j6.out]at Dg;unfold Prod.agg Prod.cells at Dg;have Dg:=af Dg;obtain⟨jh,p1,p2,p3,y8,y9,za,zb,ze,zf,zg⟩:=PC.oQ alc.out;go_wp2_with fail
 refine Dg.out.mono ?_;rintro e az ⟨pv,rfl,y3⟩;have abS:=af y3;have Il:Hid (Num N M):=af fun j m hj=>sq.out.ms j m hj;clear y3 Dg jh p1 p2 p3 y8 y9 za zb ze zf zg;go_wp2_with fail
 go_loopw [15] (fun i w'=>∃(k cc:Nat) (hv:Value) (s:ig),i=↑k∧k≤80∧cc≤k∧Hid (tX N M s)∧Hid (pL N cc s)∧fA w3 w' pv N hv s) (fun i _=>80-(RowKit.intOf i).toNat)
 case atStart=>exact⟨0,0,_,_,rfl,Nat.zero_le _,Nat.le_refl _,af ald,af (QH N),abS.out⟩
 case round=>
  clear abS;obtain⟨k,cc,hv,s,rfl,hk,oK,hst,lW,y3⟩:=hrel;obtain⟨ax,rfl⟩:=aj wr;have nr:=af y3;clear y3;obtain⟨bb,aP⟩:=ai (decide (k<tC)&&decide (k<80)&&decide (0<nm));have bp:=af aP;clear aP;go_upto_region 7 with(fail)
  go_cut [53] (fun u wx=>u=↑bb∧ax=wx)
  case first=>
   by_cases h1:k<tC
   ·have ale:(k:Int)<(tC:Int):=by omega
    by_cases h2:k<80
    ·have JG:(k:Int)<80:=by omega
     by_cases h3:0<nm
     ·have alf:0<(nm:Int):=by omega
      go_wp2_with fail
      go_meet;exact⟨by rw [←bp.out,decide_eq_true h1,decide_eq_true h2,decide_eq_true h3];rfl,rfl⟩
     ·have alf:¬0<(nm:Int):=by omega
      go_wp2_with fail
      go_meet;exact⟨by rw [←bp.out,decide_eq_false h3,Bool.and_false],rfl⟩
    ·have JG:¬(k:Int)<80:=by omega
     go_wp2_with fail
     go_meet;exact⟨by rw [←bp.out,decide_eq_false h2,Bool.and_false,Bool.false_and],rfl⟩
   ·have ale:¬(k:Int)<(tC:Int):=by omega
    go_wp2_with fail
    go_meet;exact⟨by rw [←bp.out,decide_eq_false h1,Bool.false_and,Bool.false_and],rfl⟩
  case rest=>
  obtain⟨rfl,rfl⟩:=hcut;cases bb with
  |false=>
   clear bp;have hwi:=oq z0 0 ((nv:Int)-1) (by omega);have FX:=af (v8 z0 0 ((nv:Int)-1) ax dm hz1 (by omega) (by omega) (by omega));obtain⟨r,hr⟩:∃r:Nat,ew z0 0 ((nv:Int)-1)=r:=⟨(ew z0 0 ((nv:Int)-1)).toNat,by omega⟩;rw [hr]at FX hwi;have Dq:r<nv:=by omega
   have alg:(r:Int)<(nv:Int):=by omega
   obtain⟨v,hv1⟩:∃v,V[r]? =some v:=⟨_,List.getElem?_eq_getElem (by rw [Tz.out];exact Dq)⟩;obtain⟨q,hq1⟩:∃q,Q[r]? =some q:=⟨_,List.getElem?_eq_getElem (by rw [tL.out];exact Dq)⟩;obtain⟨j,TA,LU,LV,hvl,LW,OE,LX⟩:=sq.out.at_ r v q hv1 hq1;subst TA;obtain⟨aM,alh,B5,Ao,dr,rY,q9⟩:=e5.out.get hv1;injection Ao with h1 h2 h3;clear h2;subst h1;subst h3;obtain⟨gB,yn,fH⟩:=B5;dsimp only at rY q9
   have x8:yn=N:=by
    obtain⟨_,_,he⟩:=q9.form;injection he with _ he _;rw [he];exact hvl
   rw [x8]at rY q9;obtain⟨dU,ali,EV,LY,rK⟩:=abR.out.at_ r _ hq1;injection EV with h1 h2 h3;clear h2;subst h1;subst h3;have FY:w3.cell? ⟨dU,r*1,none⟩=some ↑j:=rK 0 _ rfl;rw [Nat.mul_one]at FY;have FL:=af q9;have LZ:=af LX;have wu:Hid (∀wx,Below w3.heap.size w3 wx→wx.cell? ⟨aM,r,none⟩=some (.slice gB N fH)∧wx.cell? ⟨dU,r,none⟩=some ↑j):=af fun wx hb=>⟨(hb.cell (p:=⟨aM,r,none⟩) dr).trans rY,(hb.cell (p:=⟨dU,r,none⟩) LY).trans FY⟩;have c4:Hid (∀wx,Below ax.heap.size ax wx→wx.cell? ⟨aM,r,none⟩=some (.slice gB N fH)∧wx.cell? ⟨dU,r,none⟩=some ↑j):=af fun wx hb=>wu.out wx (nr.out.aJ.trans (hb.mono nr.out.aJ.size));clear hv1 hq1 dr rY q9 x8 rK FY LY LX;clear hr;go_wp2_with fail
   refine FX.out.mono ?_;rintro e aN ⟨rfl,rfl⟩;clear FX;go_upto_region 18 with(fail)
   have b6:Hid (Below ax.heap.size ax ax.drew):=af (Below.refl ax.heap.size ax).drew;refine cP (S:=fun w'=>w'.cell? ⟨aM,r,none⟩=some (.slice gB N fH)∧w'.cell? ⟨dU,r,none⟩=some ↑j) (c4.out _ b6.out) fun hHeld=>?_;refine au 0 ?_;refine au 1 ?_;refine au 2 ?_;refine au 3 ?_;refine au 4 ?_;refine au 5 ?_;refine au 6 ?_;refine au 7 ?_;refine aU 8 fun K hK=>?_;go_simp;go_at_call 20
   have TB:=aio (a:=gB) (c:=fH) (V:=v) (w:=ax.drew) (B:=w2.heap.size) (by rw [hvl];exact FL.out.below (nr.out.aJ.trans (b6.out.mono nr.out.aJ.size))) (by rw [hvl];have:=c8.out;omega) (XQ LW LZ.out (by rw [hvl];have:=c8.out;omega)) (j:Int);rw [hvl]at TB;refine TB.mono ?_;rintro e aN ⟨vb,rfl,hrb,bI⟩;obtain⟨ba,bc,Db⟩:=hrb.form;obtain⟨nb,hnb⟩:=ai ((lK v j).length);rw [hnb]at Db;subst Db;have uJ:=af hrb;have b7:=ag b6 bI;refine hK.out _ _ (c4.out _ b7.out) (fun hHeld=>?_);clear hK K hrb bI TB hnb;refine gu _ _ _ _ ?_;refine ej 9 ?_;refine ej 10 ?_;refine ej 11 ?_;refine ej 12 ?_;refine ej 13 ?_;refine gw ?_;clear hHeld;have uZ:=af (nr.out.below b7.out);obtain⟨TC,TD,abT⟩:=ak9 Il.out hst.out LU LV hvl (XQ LW LZ.out (by rw [hvl];have:=c8.out;omega)) OE;have qC:=ajs uZ.out lW.out (by omega) uJ.out.sl (ak6 (j:Int) LZ.out hvl c8.out) (alj v j);have w9:=alk (b:=lK v j) lW.out;have hsl:=lW.out.hl;obtain⟨kT,E1⟩:=ai ((r4 N s (lK v j)).2);obtain⟨f3,Dx⟩:=ai ((r4 N s (lK v j)).1);rw [E1]at TC TD abT qC w9;rw [Dx]at qC;have lR:=af qC;have uv:=af w9;have iG:=af TC;have abU:=af TD;have abV:kT.H.length≤80:=by omega
   have hjn:j≤nm:=by rw [←wM.out];exact LU
   clear qC w9 LV hvl LW OE lW nr LU TC TD abT E1 Dx hst hsl;go_wp2_with fail
   refine lR.out.mono ?_;rintro e bf ⟨rfl,pH,G7,_,_⟩;have k3:=af G7;have kq:bf.cell? ⟨dU,r,none⟩=some ↑j:=(wu.out bf G7.aJ).2;have abW:Hid (kT.H.length≤80):=af abV;clear G7 lR c4 uZ uJ b7 abV;go_wp2_with fail
   clear kq;go_loopw [20] (fun i w'=>∃(t cc:Nat) (hv:Value) (s:ig),i=↑t∧t≤nm∧cc≤80+t∧Hid (tX N M s∧(t:Int)≤s.seq∧s.H.length≤80)∧Hid (pL N cc s)∧fA w3 w' pv N hv s) (fun i _=>nm-(RowKit.intOf i).toNat)
   case atStart=>exact⟨j,cc,pH,kT,rfl,hjn,by omega,af ⟨iG.out,abU.out,abW.out⟩,uv,k3.out⟩
   case round=>
    clear k3 uv abW iG abU;obtain⟨t,cc,hv,s,rfl,htn,oK,hst,lW,y3⟩:=hrel;obtain⟨wy,rfl⟩:=aj wr;have k3:=af y3;clear y3;by_cases htl:t<nm
    ·have TE:(t:Int)<(nm:Int):=by omega
     obtain⟨m,hm⟩:∃m,M[t]? =some m:=⟨_,List.getElem?_eq_getElem (by rw [wM.out];exact htl)⟩;obtain⟨ay,alm,B5,hme,dr,xa,hmr⟩:=(uW.out.below k3.out.aJ).get hm;injection hme with h1 h3 h4;clear h3;subst h1;subst h4;obtain⟨j3,xn,xc⟩:=B5;dsimp only at xa hmr;obtain⟨hs1,fD,E1⟩:=hst.out;have LR:=(Il.out t m hm).1;have kX:=Nk k3.out lW.out hs1.a (by have:=c8.out;omega) (by omega) hmr.sl (by rw [Nl];decide) (EO m);have L0:=af (EP (b:=fL m) (EO m) lW.out);have hlo:=ak8 (s:=s) Il.out hm (by omega)
     have wD:tX N M (iF N s (fL m)).2∧((t:Int)+1)≤(iF N s (fL m)).2.seq:=by
      rcases TF Il.out hs1 (by omega) hm with⟨h1,e⟩|⟨h1,_,_,h4,h5,_⟩|⟨h1,_⟩
      ·rw [e]
       refine⟨hs1,?_⟩;rcases h1 with h1|h1
       ·dsimp only;omega
       ·have:=(hs1.h m h1).2;omega
      ·exact⟨h4,by omega⟩
      ·omega
     obtain⟨s2,abX⟩:=ai ((iF N s (fL m)).2);obtain⟨mr,px⟩:=ai ((iF N s (fL m)).1);rw [abX]at kX L0 hlo wD;rw [px]at kX;have dN:=af kX;have Cx:=af wD;have aln:Hid (s2.H.length≤80):=af (by omega);clear kX hlo wD abX px hs1 fD E1 LR hm dr hmr hst lW;go_wp2_with fail
     refine dN.out.mono ?_;rintro e bZ ⟨rfl,tM,abY,_,_⟩;have uK:=af abY;clear abY dN xa k3;go_wp2_with fail
     go_roundw
     case rel=>exact⟨t+1,cc+1,tM,s2,by go_num,by omega,by omega,af ⟨Cx.out.1,by have:=Cx.out.2;omega,aln.out⟩,L0,uK.out⟩
     case measure=>simp [RowKit.intOf];omega
    ·have TE:¬(t:Int)<(nm:Int):=by omega
     obtain⟨hs1,fD,_⟩:=hst.out;obtain⟨TG,TH⟩:=alo Il.out hs1 (by rw [wM.out];omega);rw [wM.out]at TH;obtain⟨RE,En,_,abZ⟩:=hs1.q;have alp:RE=nm:=by omega
     obtain⟨v9,dZ⟩:∃v,V[nv-1]? =some v:=⟨_,List.getElem?_eq_getElem (by rw [Tz.out];omega)⟩
     have ab0:v9=s.V:=by
      obtain⟨ab1,Fj⟩:∃q,Q[nv-1]? =some q:=⟨_,List.getElem?_eq_getElem (by rw [tL.out];omega)⟩;have h1:=sq.out.last ab1 (by rw [tL.out];exact Fj);obtain⟨alq,h2,_,h3,_⟩:=sq.out.at_ (nv-1) v9 ab1 dZ Fj;have h4:alq=RE:=by have:=wM.out;omega
      rw [h3,h4,abZ];rfl
     obtain⟨_,_,_,_,OG,_,_,TI⟩:=sq.out.at_ (nv-1) v9 _ dZ (List.getElem?_eq_getElem (by rw [tL.out];omega));obtain⟨anV,anW,B5,Ao,dr,rY,q9⟩:=(e5.out.below k3.out.aJ).get dZ;injection Ao with h1 h2 h3;clear h2;injection h1 with h1;injection h1 with h1;subst h1;clear h3;obtain⟨gB,yn,fH⟩:=B5;dsimp only at rY q9
     have x8:yn=N:=by
      obtain⟨_,_,he⟩:=q9.form;injection he with _ he _;rw [he];exact OG
     rw [x8]at rY q9;rw [ab0]at q9 OG TI;have alr:=af q9;have oY:Hid (s.V.length=N):=af OG;have dQ:Hid (fX s.V 250):=af TI;obtain⟨nl,LF⟩:∃nl,nv=nl+1:=⟨nv-1,by omega⟩;rw [LF,show nl+1-1=nl from rfl]at rY;have anX:(nv:Int)-1=(nl:Int):=by omega
     have anY:IntKind.i64.wrap (nl:Int)=(nl:Int):=IntWalk.i64_in _ (by omega);have anZ:nl<nv:=by omega
     have an0:(nl:Int)<(nv:Int):=by omega
     have yU:Hid (∀wx,Below wy.heap.size wy wx→wx.cell? ⟨aM,nl,none⟩=some (.slice gB N fH)):=af fun wx hb=>(hb.cell (p:=⟨aM,nl,none⟩) dr).trans rY;clear dZ ab0 dr rY q9 x8 OG TI LF alp abZ En;go_upto_region 24 with(fail)
     have b6:Hid (Below wy.heap.size wy wy.drew):=af (Below.refl wy.heap.size wy).drew;refine cP (S:=fun w'=>w'.cell? ⟨aM,nl,none⟩=some (.slice gB N fH)) (yU.out _ b6.out) fun hHeld=>?_;refine au 0 ?_;have zn:=af (k3.out.below b6.out);have zH:=Nn zn.out;rw [TG,show decide (([]:List aF).length=0)=true from rfl]at zH;have TJ:=ak5 zn.out;rw [TG,show((([]:List aF).length:Nat):Int)=0 from rfl]at TJ;have sR:=Np zn.out;rw [TH]at sR;have L1:=af zH;have ab2:=af TJ;have ab3:=af sR;clear zH TJ sR TH TG hs1 fD hst;generalize wy.drew=wd at*;refine aU 1 fun K hK=>?_;go_simp;refine L1.out.mono ?_;rintro e fU ⟨rfl,rfl⟩;refine hK.out _ _ (yU.out _ b6.out) (fun hHeld=>?_);clear hK K L1;refine au 2 ?_;refine au 3 ?_;refine aU 4 fun K hK=>?_;go_simp;refine ab2.out.mono ?_;rintro e fU ⟨rfl,rfl⟩;refine hK.out _ _ (yU.out _ b6.out) (fun hHeld=>?_);clear hK K ab2;refine au 5 ?_;refine au 6 ?_;refine au 7 ?_;refine au 8 ?_;refine au 10 ?_;refine au 11 ?_;refine aU 9 fun K hK=>?_;go_simp;refine ab3.out.mono ?_;rintro e fU ⟨rfl,rfl⟩;refine hK.out _ _ (yU.out _ b6.out) (fun hHeld=>?_);clear hK K ab3;refine au 12 ?_;refine au 13 ?_;refine au 14 ?_;refine au 15 ?_;refine au 18 ?_;refine au 19 ?_;refine au 20 ?_;refine au 21 ?_;refine au 22 ?_;refine au 23 ?_;refine aU 16 fun K hK=>?_;go_simp;go_at_call 15
     refine(Nq zn.out (by rw [oY.out];have:=c8.out;omega) dQ.out (by omega)).mono ?_;rintro e wv ⟨vu,rfl,fj,AV⟩;obtain⟨TK,uc,L2⟩:=fj.form;have TL:=af fj;rw [oY.out]at L2;subst L2;have FZ:=ag b6 AV;refine hK.out _ _ (yU.out _ FZ.out) (fun hHeld=>?_);clear hK K fj AV;refine aU 17 fun K hK=>?_;go_simp;go_at_call 17
     have hin:=Xi (a:=TK) (c:=uc) (V:=s.V) (w:=wv) (B:=wd.heap.size) (by rw [oY.out];exact TL.out) (by rw [oY.out];have:=c8.out;omega) (dQ.out.more (by omega));rw [oY.out]at hin;refine hin.mono ?_;rintro e wi ⟨vi,rfl,F0,nX⟩;obtain⟨TM,zW,L3⟩:=F0.form;rw [oY.out]at L3;subst L3;have Bk:=af F0;have B6:=ag FZ nX;refine hK.out _ _ (yU.out _ B6.out) (fun hHeld=>?_);clear hK K F0 nX hin;refine aU 24 fun K hK=>?_;go_simp;go_at_call 16
     have mX:=Zn (a:=TM) (c:=zW) (b:=gB) (d:=fH) (V:=s.V) (w:=wi) (p4:=wv.heap.size) (p5:=w2.heap.size) (by rw [oY.out];exact Bk.out) (by rw [oY.out];exact alr.out.below B6.out) (by rw [oY.out];have:=c8.out;omega) (dQ.out.more (by omega));rw [oY.out]at mX;refine mX.mono ?_;rintro e ws ⟨rfl,dw⟩;have Im:=ag B6 dw;refine hK.out _ _ (yU.out _ Im.out) (fun hHeld=>?_);clear hK K dw mX;refine au 25 ?_;refine au 26 ?_;refine aU 27 fun K hK=>?_;go_simp;go_at_call 18
     refine(afK ws).mono ?_;rintro e an1 ⟨rfl,hbk⟩;have ab4:=ag Im hbk;refine hK.out _ _ (yU.out _ ab4.out) (fun hHeld=>?_);clear hK K hbk;refine gu _ _ _ _ ?_;refine ej 28 ?_;refine ej 29 ?_;refine gw ?_;clear hHeld;have NN:=af (aQ.out.trans ((k3.out.aJ.trans (ab4.out.mono k3.out.aJ.size)).mono aQ.out.size));go_wp2_with fail
     go_ret;exact⟨by trivial,NN.out⟩
  |true=>
   have g7:=bp.out;simp only [Bool.and_eq_true,decide_eq_true_eq]at g7;obtain⟨⟨kY,an2⟩,hm0⟩:=g7;clear bp;have an3:(k:Int)<(tC:Int):=by omega
   obtain⟨x,hx⟩:∃x,Ts[k]? =some x:=⟨_,List.getElem?_eq_getElem (by rw [P9.out];exact kY)⟩;obtain⟨yR,b,off,Q8,eU,hbc⟩:=sJ.out k x hx;subst Q8;have als:ax.cell? ⟨b,off+k,none⟩=some ↑x:=((aQ.out.trans (nr.out.aJ.mono aQ.out.size)).cell (p:=⟨b,off+k,none⟩) eU).trans hbc;have hwi:=oq x 0 ((nm:Int)-1) (by omega);have FX:=af (v8 x 0 ((nm:Int)-1) ax yR.1 yR.2 (by omega) (by omega) (by omega));obtain⟨r,hr⟩:∃r:Nat,ew x 0 ((nm:Int)-1)=r:=⟨(ew x 0 ((nm:Int)-1)).toNat,by omega⟩;rw [hr]at FX hwi;have Dq:r<nm:=by omega
   have alg:(r:Int)<(nm:Int):=by omega
   obtain⟨m,hm⟩:∃m,M[r]? =some m:=⟨_,List.getElem?_eq_getElem (by rw [wM.out];exact Dq)⟩;obtain⟨ay,alm,B5,hme,dr,xa,hmr⟩:=(uW.out.below nr.out.aJ).get hm;injection hme with h1 h2 h3;clear h2;subst h1;subst h3;obtain⟨gB,yn,fH⟩:=B5;dsimp only at xa hmr;have ab5:s.H.length<4096:=by have:=lW.out.hl;omega
   have kX:=Nk nr.out lW.out hst.out.a (by have:=c8.out;omega) (by omega) hmr.sl (by rw [Nl];decide) (EO m);have L0:=af (EP (b:=fL m) (EO m) lW.out);have OH:=(alu Il.out hst.out ab5 hm).1;obtain⟨s2,fD⟩:=ai ((iF N s (fL m)).2);rw [fD]at kX L0 OH;obtain⟨j,hj,LU,ab6⟩:=OH.q;rw [wM.out]at LU;obtain⟨mr,px⟩:=ai ((iF N s (fL m)).1);rw [px]at kX;have cA:=af OH;have dN:=af kX;have OI:=af hj;have TN:=af ab6;clear hx eU hbc yR hr hm dr hmr kX OH fD hj ab6 ab5 lW hst px;go_wp2_with fail
   refine FX.out.mono ?_;rintro e aN ⟨rfl,rfl⟩;clear FX als;go_wp2_with fail
   refine dN.out.mono ?_;rintro e aN ⟨rfl,Gu,ab7,_,_⟩;have uZ:=af ab7;clear ab7 dN xa nr;go_wp2_with fail
   go_loopw [16] (fun i w'=>∃t:Nat,i=↑t∧t≤nv∧Below aN.heap.size aN w') (fun i _=>nv-(RowKit.intOf i).toNat)
   case atStart=>exact⟨0,rfl,Nat.zero_le _,Below.refl _ _⟩
   case round=>
    obtain⟨r2,rfl,htn,g7⟩:=hrel;obtain⟨bZ,rfl⟩:=aj wr;have uK:=af (uZ.out.below g7);have nK:=af g7;clear g7;by_cases htl:r2<nv
    ·have TE:(r2:Int)<(nv:Int):=by omega
     have ab8:r2<nv:=by omega
     have an4:(r2:Int)<(nv:Int):=by omega
     obtain⟨v,hv1⟩:∃v,V[r2]? =some v:=⟨_,List.getElem?_eq_getElem (by rw [Tz.out];exact ab8)⟩;obtain⟨q,hq1⟩:∃q,Q[r2]? =some q:=⟨_,List.getElem?_eq_getElem (by rw [tL.out];exact ab8)⟩;obtain⟨j2,TA,alv,LV,hvl,LW,OE,LX⟩:=sq.out.at_ r2 v q hv1 hq1;subst TA;obtain⟨aM,alh,B5,Ao,dr,rY,q9⟩:=e5.out.get hv1;injection Ao with h1 h2 h3;clear h2;subst h1;subst h3;obtain⟨gB,yn,fH⟩:=B5;dsimp only at rY q9
     have x8:yn=N:=by
      obtain⟨_,_,he⟩:=q9.form;injection he with _ he _;rw [he];exact hvl
     rw [x8]at rY q9;obtain⟨dU,ali,EV,LY,rK⟩:=abR.out.at_ r2 _ hq1;injection EV with h1 h2 h3;clear h2;subst h1;subst h3;have FY:w3.cell? ⟨dU,r2*1,none⟩=some ↑j2:=rK 0 _ rfl;rw [Nat.mul_one]at FY;have FL:=af q9;have LZ:=af LX;have wu:Hid (∀wx,Below w3.heap.size w3 wx→wx.cell? ⟨aM,r2,none⟩=some (.slice gB N fH)∧wx.cell? ⟨dU,r2,none⟩=some ↑j2):=af fun wx hb=>⟨(hb.cell (p:=⟨aM,r2,none⟩) dr).trans rY,(hb.cell (p:=⟨dU,r2,none⟩) LY).trans FY⟩;have TP:=af (show v=vm N M j2 from LV);have alw:=af hvl;clear hv1 hq1 dr rY q9 x8 rK FY LY LX LV hvl LW OE alv;go_upto_region 13 with(fail)
     go_cut [96] (fun u wx=>u= .bool false∧Below bZ.heap.size bZ wx)
     case first=>
      have tE:Hid (∀wx,Below bZ.heap.size bZ wx→wx.cell? ⟨aM,r2,none⟩=some (.slice gB N fH)∧wx.cell? ⟨dU,r2,none⟩=some ↑j2):=af fun wx hb=>wu.out wx (uK.out.aJ.trans (hb.mono uK.out.aJ.size));have b6:Hid (Below bZ.heap.size bZ bZ.drew):=af (Below.refl bZ.heap.size bZ).drew;refine cP (S:=fun w'=>w'.cell? ⟨aM,r2,none⟩=some (.slice gB N fH)∧w'.cell? ⟨dU,r2,none⟩=some ↑j2) (tE.out _ b6.out) fun hHeld=>?_;refine au 0 ?_;have zn:=af (uK.out.below b6.out);obtain⟨bs,dw⟩:=ai (decide (s2.H.length=0));have zH:=Nn zn.out;rw [dw]at zH;have L1:=af zH;have sR:=Np zn.out;rw [OI.out]at sR;have L4:=af sR;clear zH sR dw;generalize bZ.drew=wd at*;refine aU 1 fun K hK=>?_;go_simp;refine L1.out.mono ?_;rintro e fU ⟨rfl,rfl⟩;refine hK.out _ _ (tE.out _ b6.out) (fun hHeld=>?_);clear hK K L1;refine au 2 ?_;cases bs with
      |false=>
       refine c7 3 ?_;refine c7 5 ?_;refine c7 6 ?_;refine c7 7 ?_;refine c7 8 ?_;refine aU 4 fun K hK=>?_;go_simp;refine hK.out _ _ (tE.out _ b6.out) (fun hHeld=>?_);clear hK K;refine c7 9 ?_;refine au 10 ?_;refine au 11 ?_;refine c7 12 ?_;refine c7 15 ?_;refine c7 16 ?_;refine c7 17 ?_;refine c7 18 ?_;refine aU 13 fun K hK=>?_;go_simp;refine hK.out _ _ (tE.out _ b6.out) (fun hHeld=>?_);clear hK K;refine aU 14 fun K hK=>?_;go_simp;refine hK.out _ _ (tE.out _ b6.out) (fun hHeld=>?_);clear hK K;refine aU 19 fun K hK=>?_;go_simp;refine hK.out _ _ (tE.out _ b6.out) (fun hHeld=>?_);clear hK K;refine c7 20 ?_;refine gu _ _ _ _ ?_;refine ej 21 ?_;refine gw ?_;clear hHeld;go_wp2_with fail
       go_meet;exact⟨rfl,b6.out⟩
      |true=>
       refine au 3 ?_;refine au 5 ?_;refine au 6 ?_;refine au 7 ?_;refine au 8 ?_;refine aU 4 fun K hK=>?_;go_simp;refine L4.out.mono ?_;rintro e fU ⟨rfl,rfl⟩;refine hK.out _ _ (tE.out _ b6.out) (fun hHeld=>?_);clear hK K L4;by_cases OJ:j=j2
       ·have alx:((j:Int)==(j2:Int))=true:=by rw [OJ];exact beq_self_eq_true _
        refine au 9 ?_;refine au 10 ?_;refine au 11 ?_;refine au 12 ?_;refine au 15 ?_;refine au 16 ?_;refine au 17 ?_;refine au 18 ?_;have oY:Hid (s2.V.length=N):=af (by rw [TN.out,OJ,←TP.out];exact alw.out);have dQ:Hid (fX s2.V 250):=af (by rw [TN.out,OJ,←TP.out];exact LZ.out);refine aU 13 fun K hK=>?_;go_simp;go_at_call 15
        refine(Nq zn.out (by rw [oY.out];have:=c8.out;omega) dQ.out (by omega)).mono ?_;rintro e wv ⟨vu,rfl,fj,AV⟩;obtain⟨TK,uc,L2⟩:=fj.form;have TL:=af fj;rw [oY.out]at L2;subst L2;have FZ:=ag b6 AV;refine hK.out _ _ (tE.out _ FZ.out) (fun hHeld=>?_);clear hK K fj AV;refine aU 14 fun K hK=>?_;go_simp;go_at_call 17
        have hin:=Xi (a:=TK) (c:=uc) (V:=s2.V) (w:=wv) (B:=wd.heap.size) (by rw [oY.out];exact TL.out) (by rw [oY.out];have:=c8.out;omega) (dQ.out.more (by omega));rw [oY.out]at hin;refine hin.mono ?_;rintro e wi ⟨vi,rfl,F0,nX⟩;obtain⟨TM,zW,L3⟩:=F0.form;rw [oY.out]at L3;subst L3;have Bk:=af F0;have B6:=ag FZ nX;refine hK.out _ _ (tE.out _ B6.out) (fun hHeld=>?_);clear hK K F0 nX hin;refine aU 19 fun K hK=>?_;go_simp;go_at_call 16
        have mX:=Zn (a:=TM) (c:=zW) (b:=gB) (d:=fH) (V:=s2.V) (w:=wi) (p4:=wv.heap.size) (p5:=w2.heap.size) (by rw [oY.out];exact Bk.out) (by rw [oY.out];exact(show cg eJ bK wi w2.heap.size (.slice gB N fH) s2.V by rw [TN.out,OJ,←TP.out];exact FL.out.below (uK.out.aJ.trans (B6.out.mono uK.out.aJ.size)))) (by rw [oY.out];have:=c8.out;omega) (dQ.out.more (by omega));rw [oY.out]at mX;refine mX.mono ?_;rintro e ws ⟨rfl,dw⟩;have Im:=ag B6 dw;refine hK.out _ _ (tE.out _ Im.out) (fun hHeld=>?_);clear hK K dw mX;refine au 20 ?_;refine gu _ _ _ _ ?_;refine ej 21 ?_;refine gw ?_;clear hHeld;go_wp2_with fail
        go_meet;exact⟨rfl,Im.out⟩
       ·have alx:((j:Int)==(j2:Int))=false:=by rw [beq_eq_false_iff_ne];omega
        refine au 9 ?_;refine au 10 ?_;refine au 11 ?_;refine c7 12 ?_;refine c7 15 ?_;refine c7 16 ?_;refine c7 17 ?_;refine c7 18 ?_;refine aU 13 fun K hK=>?_;go_simp;refine hK.out _ _ (tE.out _ b6.out) (fun hHeld=>?_);clear hK K;refine aU 14 fun K hK=>?_;go_simp;refine hK.out _ _ (tE.out _ b6.out) (fun hHeld=>?_);clear hK K;refine aU 19 fun K hK=>?_;go_simp;refine hK.out _ _ (tE.out _ b6.out) (fun hHeld=>?_);clear hK K;refine c7 20 ?_;refine gu _ _ _ _ ?_;refine ej 21 ?_;refine gw ?_;clear hHeld;go_wp2_with fail
        go_meet;exact⟨rfl,b6.out⟩
     case rest=>
     obtain⟨rfl,gD⟩:=hcut;have B0:=ag nK gD;clear gD uK;go_wp2_with fail
     go_roundw
     case rel=>exact⟨r2+1,by go_num,htl,B0.out⟩
     case measure=>simp [RowKit.intOf];omega
    ·have TE:¬(r2:Int)<(nv:Int):=by omega
     have sR:=Np uK.out;rw [OI.out]at sR;have L4:=af sR;have aid:¬(nm:Int)<(j:Int):=by omega
     clear sR;go_wp2_with fail
     refine L4.out.mono ?_;rintro e bW ⟨rfl,rfl⟩;clear L4;go_wp2_with fail
     go_roundw
     case rel=>exact⟨k+1,cc+1,Gu,s2,by go_num,by omega,by omega,cA,L0,uK.out⟩
     case measure=>simp [RowKit.intOf];omega
end Go.Proofs.YtmaijkoopjocdaaGreat
