import Derived.Test.YtmaijkoopjocdaaGreatKV25
import Derived.Test.YtmaijkoopjocdaaGreatKV28
set_option maxRecDepth 100000
set_option maxHeartbeats 64000000
namespace Go.Proofs.YtmaijkoopjocdaaGreat
open Go.RowKit Go.Lib
def aiH (m:Nat) (ez kZ:List (List aC)×List pG):List pG:=match m with|0=> []|1=>ez.2|_=>ez.2++kZ.2
def aiI (m:Nat) (S:List (List aC)) (ez kZ:List (List aC)×List pG):List (List aC):=match m with|0=>S|1=>ez.1|_=>kZ.1
section
variable {W w w':World} {ps pb:Nat} {p:Prod} {Q:List Nat} {S:List (List aC)}
theorem Pg (h:eH W w ps p Q S) (hz:cR p=0) (hS:ei p S) {i:Nat} (hi:i<S.length) (side ap aq:Int) (e3:side=1∨side=2) (jW:1≤aq) (hq1:aq≤1000000):
 Calls Tryz.prog 110 #[.pointer ↑ps,↑i,↑side,↑ap,↑aq] w fun e w'=>∃v,e= .returned (.tuple #[v,.int .i64 (gO p i side ap aq.toNat S aq).2.2])∧SO w' w.heap.size v (gO p i side ap aq.toNat S aq).2.1∧eH W w' ps p Q (gO p i side ap aq.toNat S aq).1∧aK (fun g=>g∈Q) w w':=by
 have H:=af h;have yp:=af hz;have dJ:=af hS;have m8:=af e3;obtain⟨n,hnn⟩:=ai Q.length;have hin:i<n:=by rw [←hnn,h.len];exact hi
 have hil:(i:Int)<(n:Int):=by omega
 have h0:¬(i:Int)<0:=by omega
 have Wb:n≤21:=by rw [←hnn,h.len];exact hS.le
 have tv:=af hnn;have iD:=af h.aJ.size;obtain⟨g,c,aT,_⟩:=h.box;have dS:=aT.cell 11;rw [hnn]at dS;have CH:w.cell? ⟨ps,11,none⟩=some (.slice g n c):=dS;have HH:=af (Zv side e3 w);obtain⟨o,ho⟩:=ai (3-side);rw [ho]at HH;have Y9:1≤o∧o≤2:=by omega
 have Sf:=af ho;obtain⟨R,hR⟩:=ai (gO p i side ap aq.toNat S aq);rw [hR];have bM:=af hR;clear h hz hS hi hnn aT dS ho hR;go_enter Tryz.func110,Tryz.ntmps110
 go_upto_region 1 with(fail)
 go_cut [50] (fun v wx=>v= .bool false∧w=wx)
 case first=>
  rcases e3 with rfl|rfl
  ·go_wp2_with fail
   go_meet;exact⟨by rw [decide_eq_false (show¬n≤i by omega),decide_eq_false (show¬aq<1 by omega),decide_eq_false (show¬1000000<aq by omega)];rfl,by trivial⟩
  ·go_wp2_with fail
   go_meet;exact⟨by rw [decide_eq_false (show¬n≤i by omega),decide_eq_false (show¬aq<1 by omega),decide_eq_false (show¬1000000<aq by omega)];rfl,by trivial⟩
 case rest=>
 obtain⟨rfl,rfl⟩:=hcut;clear e3 CH;go_wp2_with fail
 refine HH.out.mono ?_;rintro e w2 ⟨rfl,rfl⟩;clear HH;go_wp2_with fail
 go_loopw [4,12] (fun y v w'=>∃(S':List (List aC)) (T:List nt) (z:Int) (f:Nat),y=↑z∧0≤z∧z≤1000000∧(T.length:Int)+z≤1000000∧z.toNat≤f∧R=((gO p i side ap f S' z).1,T++(gO p i side ap f S' z).2.1,(gO p i side ap f S' z).2.2)∧ei p S'∧SO w' w.heap.size v T∧eH W w' ps p Q S'∧aK (fun g=>g∈Q) w w') (fun y _ _=>(RowKit.intOf y).toNat)
 case atStart=>exact⟨S,[],aq,aq.toNat,rfl,by omega,hq1,by simp;omega,Nat.le_refl _,by rw [←bM.out];rfl,dJ.out,SO.nil _ _,H.out,aK.refl _ _⟩
 case round=>
  clear dJ bM;obtain⟨S',T,z,f,rfl,dm,hz1,aiJ,HI,hR,hS,hT,hsb,hk⟩:=hrel;obtain⟨ax,rfl⟩:=aj wr;obtain⟨ags,agt,hov⟩:=hT.form;obtain⟨tn,htn⟩:=ai T.length;rw [htn]at hov aiJ;subst hov;have z6:=af htn;clear htn;have bM:=af hR;have dJ:=af hS;have bP:=af hT;have H1:=af hsb;have Fi:=af hk;clear hR hS hT hsb hk;by_cases hpos:0<z
  ·as_aux_lemma=>
   obtain⟨pb,L,hq,hs,hrb⟩:=H1.out.get (i:=i) (by rw [←H1.out.len,tv.out];exact hin);have BJ:=dJ.out.each L (List.mem_of_getElem? hs);have ie:=af hq;have aD:=af hs;have hge:S'.getD i []=L:=by rw [List.getD_eq_getElem?_getD,hs];rfl
   have bg:=af (Ru hrb BJ.len BJ.aq o);obtain⟨bo,BK⟩:=ai (jS L o);obtain⟨⟨fl,gj,lc⟩,lb⟩:=bo;have Sg:Hid (xE S' i side=(⟨fl,gj,lc⟩,lb)):=af (by unfold xE;rw [hge,Sf.out];exact BK);obtain⟨g1,c1,aT,_,q1⟩:=H1.out.ptr hq;rw [tv.out]at aT;have dS:ax.cell? ⟨ps,11,none⟩=some (.slice ↑g1 n c1):=aT.cell 11;clear hq hs hrb BJ hge aT;go_wp2_with fail
   refine bg.out.mono ?_;rintro e w2 ⟨he,hb2⟩;rw [BK]at he;simp only [aB.cells,List.toArray]at he;subst he;have hba:=Below.aI w2 (.cells #[↑fl,↑gj,↑lc] 101);have dQ:Hid (av (w2.alloc (.cells #[↑fl,↑gj,↑lc] 101)) w2.heap.size 101 #[↑fl,↑gj,↑lc]):=af (av.new _ _ _);have aS:=af (hb2.trans (hba.mono hb2.size));clear BK hb2 hba bg q1;go_upto_region 7 with(fail)
   obtain⟨aH,dr⟩:=ai w2.heap.size;rw [dr]at dQ⊢;clear dr dS;generalize w2.alloc (.cells _ 101)=w3 at*;have H3:=af (H1.out.below aS.out);have Zw:=af (Q0 H3.out (by rw [←H3.out.len,tv.out];omega) (fun L hL=>⟨(dJ.out.each L hL).len,(dJ.out.each L hL).aq⟩));go_wp2_with fail
   refine Zw.out.mono ?_;rintro e az ⟨Q1,rfl,uM,hb4⟩;obtain⟨ta,tc,pE⟩:=uM.form;have htl:(ef S').length=n:=by rw [Nx,←H3.out.len,tv.out]
   rw [htl]at pE;subst pE;have tG:=af htl;have Zx:=af uM;have H4:=af (H3.out.below hb4);have bN:=ag aS hb4;have Zy:=af (dQ.out.below hb4);obtain⟨a2,c2,iM,_⟩:=H4.out.box;obtain⟨b0,b1,b2,b3,b4,bk,bw,bn,bC,bD,bu⟩:=iM.amD;have N0:=af (Q2 p i o ta tc (ef S') az (H4.out.pv.below H4.out.aJ) (by obtain⟨a3,c3,e,_,h3⟩:=uM.rd;injection e with e1;rw [e1];exact h3) dJ.out.CT (by rw [tG.out];omega) G8);unfold Prod.agg Prod.cells at N0;rw [tG.out]at N0;clear uM hb4 htl iM Zw H3 aS dQ H1;go_wp2_with fail
   clear b0 b1 b2 b3 b4 bk bw bn bC bD bu;refine N0.out.mono ?_;rintro e aA ⟨lJ,rfl,mC,cx⟩;obtain⟨sH,xh,CU,_,hrd⟩:=mC.rd;have gi:=af (YR (mA p (ef S') i o) sH xh o aA hrd (by have h1:=List.length_filter_le (fun q=>eW p i q.ap==0) (oM p (ef S') i o);have h2:=G8 (p:=p) (L:=ef S') (i:=i) (side:=o);unfold mA;omega));subst CU;have N1:Hid (nu p S' i side=qj (mA p (ef S') i o) o):=af (by unfold nu;rw [Sf.out]);have Zz:=af (Zx.out.below cx);have H5:=af (H4.out.below cx);have bY:=ag bN cx;have ZA:=af (Zy.out.below cx);obtain⟨j4,bQ⟩:=ai (qj (mA p (ef S') i o) o);rw [bQ]at gi N1;obtain⟨⟨jk,wH,i0,s0,i1,s1⟩,ZB⟩:=j4;obtain⟨nq,ZC⟩:=ai ((mA p (ef S') i o).length);rw [ZC]at gi⊢;clear mC cx hrd N0 Zx H4 bN Zy bQ ZC;go_wp2_with fail
   refine gi.out.mono ?_;rintro e aN ⟨he,bI⟩;simp only [dg.cells,List.toArray]at he;subst he;have hba:=Below.aI aN (.cells #[↑jk,↑wH,↑i0,↑s0,↑i1,↑s1] 192);have Dc:Hid (av (aN.alloc (.cells #[↑jk,↑wH,↑i0,↑s0,↑i1,↑s1] 192)) aN.heap.size 192 #[↑jk,↑wH,↑i0,↑s0,↑i1,↑s1]):=af (av.new _ _ _);have ep:=bY.out.trans ((bI.trans (hba.mono bI.size)).mono bY.out.size);have dP:=af ep;have Dd:=af ((ZA.out.below bI).below hba);have N2:=af ((Zz.out.below bI).below hba);have s6:=af ((H5.out.below bI).below hba);have N3:=af (bP.out.below ep);have pS:Hid (aK (fun g=>g∈Q) w (aN.alloc (.cells #[↑jk,↑wH,↑i0,↑s0,↑i1,↑s1] 192))):=af (Fi.out.trans (Below.keeps ep));clear bI hba ep gi bY ZA Zz H5 Fi bP;go_upto_region 9 with(fail)
   obtain⟨dU,dy⟩:=ai aN.heap.size;rw [dy]at Dc⊢;clear dy;generalize aN.alloc (.cells _ 192)=bf at*
   have n1:dU≠aH:=by
    have h1:=Dc.out.aE;have h2:=Dd.out.aE;exact fun e=>h1.ne h2 (by decide) e
   have l0:bf.cell? ↑aH=some ↑fl:=Dd.out.cell 0;have l1:bf.cell? ⟨aH,1,none⟩=some ↑gj:=Dd.out.cell 1;have v0:bf.cell? ↑dU=some ↑jk:=Dc.out.cell 0;have v1:bf.cell? ⟨dU,1,none⟩=some ↑wH:=Dc.out.cell 1;obtain⟨rl,hrl⟩:=ai (lb&& !cT side fl ap);obtain⟨im,gp⟩:=ai (ZB&& !cT side jk ap);obtain⟨ts,hts⟩:=ai (rl&&(!im|| !cT o jk fl));have nJ:=af hrl;have kg:=af gp;have sJ:=af hts;clear hrl gp hts;go_cut [15] (fun v wx=>v=↑rl∧bf=wx)
   case first=>
    as_aux_lemma=>
    cases lb with
    |false=>
     go_wp2_with fail
     go_meet;exact⟨by rw [←nJ.out];rfl,by trivial⟩
    |true=>
     have cM:=ZD side fl ap bf;go_wp2_with fail
     refine cM.mono ?_;rintro e bZ ⟨rfl,rfl⟩;go_wp2_with fail
     go_meet;exact⟨by rw [←nJ.out];first|rfl|simp,by trivial⟩
   case rest=>
   obtain⟨rfl,rfl⟩:=hcut;go_upto_region 10 with(fail)
   go_cut [18] (fun v wx=>v=↑im∧bf=wx)
   case first=>
    as_aux_lemma=>
    cases ZB with
    |false=>
     go_wp2_with fail
     go_meet;exact⟨by rw [←kg.out];rfl,by trivial⟩
    |true=>
     have cM:=ZD side jk ap bf;go_wp2_with fail
     refine cM.mono ?_;rintro e bZ ⟨rfl,rfl⟩;go_wp2_with fail
     go_meet;exact⟨by rw [←kg.out];first|rfl|simp,by trivial⟩
   case rest=>
   obtain⟨rfl,rfl⟩:=hcut;go_upto_region 11 with(fail)
   go_cut [112] (fun v wx=>v=↑ts∧bf=wx)
   case first=>
    as_aux_lemma=>
    cases rl with
    |false=>
     go_wp2_with fail
     go_meet;exact⟨by rw [←sJ.out];rfl,by trivial⟩
    |true=>
     cases im with
     |false=>
      go_wp2_with fail
      go_meet;exact⟨by rw [←sJ.out];rfl,by trivial⟩
     |true=>
      have cM:=Gx o jk fl bf;go_wp2_with fail
      refine cM.mono ?_;rintro e bZ ⟨rfl,rfl⟩;go_wp2_with fail
      go_meet;exact⟨by rw [←sJ.out];first|rfl|simp,by trivial⟩
   case rest=>
   obtain⟨rfl,rfl⟩:=hcut;have eL:Hid (KV S' i side ap=rl):=af (by unfold KV;rw [Sg.out];exact nJ.out);have mN:Hid (HJ p S' i side ap=im):=af (by unfold HJ;rw [N1.out];exact kg.out);have qp:Hid (ur p S' i side ap z=if ts=true then some (N4 p S' i o ⟨fl,gj,lc⟩ z)else if im=false then none else some (Ke p S' ⟨jk,wH,i0,s0,i1,s1⟩ z)):=af (by unfold ur;rw [eL.out,mN.out,N1.out,Sg.out,Sf.out,sJ.out]);cases ts with
   |true=>
    as_aux_lemma=>
    have hlb:(xE S' i side).2=true:=by
     have h1:=sJ.out;simp only [Bool.and_eq_true]at h1;have h2:=eL.out;rw [h1.1]at h2;unfold KV at h2;simp only [Bool.and_eq_true]at h2;exact h2.1
    have BL:=ZE dJ.out hlb;rw [Sg.out]at BL;dsimp only at BL;rw [if_pos rfl]at qp;have hkb:=N5 (aq:=z) (x:=gj) (by omega) BL.1;obtain⟨k,hkk⟩:=ai (wz z gj);rw [hkk]at hkb;have lg:=af hkk;clear hlb hkk v0 v1 n1 Dc;obtain⟨cN,hk2,kr⟩:=hkb;go_upto_if 117 with(fail)
    go_cut [19] (fun v wx=>v=↑k∧bf=wx)
    case first=>
     as_aux_lemma=>
     by_cases hzl:z<gj
     ·have bR:Hid (k=z):=af (by rw [←lg.out];exact if_pos hzl)
      go_wp2_with fail
      go_meet;exact⟨by rw [bR.out],by trivial⟩
     ·have bR:Hid (k=gj):=af (by rw [←lg.out];exact if_neg hzl)
      go_wp2_with fail
      go_meet;exact⟨by rw [bR.out],by trivial⟩
    case rest=>
    obtain⟨rfl,rfl⟩:=hcut;clear BL;have hd:=Below.refl bf.heap.size bf |>.drew;have aiK:bf.drew.cell? ↑aH=some ↑fl:=(Dd.out.below hd).cell 0;have Bp:=af (Dd.out.below hd);have De:=af (s6.out.below hd);have GV:=af pS.out.drew;have ZF:=af (N3.out.below hd);have Df:=af (P6 De.out yp.out (by have:=dJ.out.le;omega) aD.out (dJ.out.each L (List.mem_of_getElem? aD.out)) o fl k);clear l0 l1 hd Dd s6 N3 pS N2;go_wp2_with fail
    refine cP (S:=fun w'=>w'.cell? ↑aH=some ↑fl) aiK fun hHeld=>?_;refine au 0 ?_;refine au 1 ?_;refine au 2 ?_;refine au 3 ?_;refine au 4 ?_;refine au 5 ?_;refine au 6 ?_;refine au 7 ?_;refine au 8 ?_;refine au 9 ?_;generalize bf.drew=bZ at*;refine aU 10 fun K hK=>?_;go_simp;go_at_call 136
    refine Df.out.mono ?_;rintro e bW ⟨vf,rfl,fk,ZG,lm⟩;have Fj:∀g,g∈Q→ck bZ g 181:=fun g hg=>(De.out.py hg).1;have N6:=Bp.out.keeps lm (fun e=>Bp.out.aE.ne (Fj _ e) (by decide) rfl);have KW:=ZF.out.keep lm (fun g hg e=>hg.ne (Fj _ e) (by decide) rfl) (fun g hg e=>hg.ne (Fj _ e) (by decide) rfl);have ZH:=GV.out.trans lm;obtain⟨fa,oR,rfl⟩:=fk.form;have iT:=af (fk.base GV.out.size);have yU:=af ZG;have ZI:=af KW;have uB:=af ZH;refine hK.out _ _ (N6.cell 0) (fun hHeld=>?_);clear hK K fk ZG lm Fj KW ZH Bp De GV ZF Df;obtain⟨jI,hfl⟩:=ai (vU i o fl (sx p L o fl k));obtain⟨fn,hfn⟩:=ai jI.length;rw [hfl]at iT⊢;rw [hfn]at iT⊢;have jM:=af hfl;have qR:=af hfn;clear hfl hfn;refine au 11 ?_;refine aU 12 fun K hK=>?_;refine aiL rfl 130 rfl rfl ?_;have hba:=Below.aI bW (.cells #[↑fl,↑k,.bool false,.slice fa fn oR] 206);have iA:av (bW.alloc (.cells #[↑fl,↑k,.bool false,.slice fa fn oR] 206)) bW.heap.size 206 (⟨fl,k,false,fa,fn,oR⟩:q7).cells.toArray:=av.new _ _ _;have ZJ:=af (iT.out.below hba);have N7:=af (yU.out.below hba);have aiM:=ZI.out.below hba;have HK:Hid (aK (fun g=>g∈Q) w (bW.alloc (.cells #[↑fl,↑k,.bool false,.slice fa fn oR] 206))):=af (uB.out.trans (Below.keeps hba));refine hK.out _ _ ((N6.below hba).cell 0) (fun hHeld=>?_);have Sh:=N6.below hba;clear hK K hba iT yU ZI uB N6;generalize bW.alloc (.cells _ 206)=AE at*;obtain⟨en,Fk,Fl,KX⟩:=aiM;refine aU 13 fun K hK=>?_;refine HL.step rfl (.tmp 119) (.tmp 131) rfl w.heap.size _ en rfl Fk bW.heap.size ⟨fl,k,false,fa,fn,oR⟩ rfl iA.lt iA.gH (by rw [Fl,z6.out];omega) HK.out.size ?_;intro v' Ga AF vz DP;have jH:=fK vz;have bT:=eo Fk;have dw:=cS Fk;have Si:=af (SO.push Fl KX AF jH bT ⟨rfl,rfl,rfl,ZJ.out⟩ (t:=⟨fl,k,false,jI⟩));have Sj:=af (N7.out.qT jH bT iD.out dw);have iL:Hid (aK (fun g=>g∈Q) w Ga):=af (HK.out.step jH (fun x hx e=>absurd (dw x e) (by omega)));have ZK:=Sh.keeps jH (fun e=>Sh.aE.ne (bT _ e) (by decide) rfl);refine hK.out _ _ (ZK.cell 0) (fun hHeld=>?_);clear hK K;refine gu _ _ _ _ ?_;refine ej 14 ?_;refine gw ?_;obtain⟨f',hf',nk⟩:=ZL hpos HI qp.out
    have hst:N4 p S' i o ⟨fl,gj,lc⟩ z=(S'.set i (pz L (sx p L o fl k)),⟨fl,k,false,jI⟩):=by
     unfold N4 ou;dsimp only;rw [lg.out,List.getD_eq_getElem?_getD,aD.out,Option.getD_some,jM.out]
    rw [hst]at nk;have uU:=af nk;have aiN:=af (dJ.out.set (i:=i) ((dJ.out.each L (List.mem_of_getElem? aD.out)).pz (sx p L o fl k)));generalize S'.set i (pz L (sx p L o fl k))=kR at*;have CM:tn+1=(T++ [(⟨fl,k,false,jI⟩:nt)]).length:=by rw [List.length_append,z6.out];rfl
    have Sk:=af CM;have ann:=af hf';have ZM:(z-k).toNat≤f':=by omega
    have aiO:=af ZM;clear AF vz DP jH bT dw ZK hHeld Sh ZJ N7 HK iA Fk Fl KX nk hst CM hf' ZM HI;go_wp2_with fail
    go_roundw
    case rel=>
     refine⟨kR,T++ [⟨fl,k,false,jI⟩],z-k,f',rfl,by omega,by omega,by rw [←Sk.out];omega,aiO.out,?_,aiN.out,Si.out,Sj.out,iL.out⟩;rw [bM.out,uU.out,List.append_assoc];rfl
    case measure=>simp [RowKit.intOf];omega
   |false=>
    rw [if_neg (by simp)]at qp;cases im with
    |false=>
     rw [if_pos rfl]at qp;have dI:=af (aiP (f:=f) qp.out);clear l0 l1 v0 v1 n1 Dd Dc N2 HI;go_wp2_with fail
     go_ret2
     rw [bM.out,dI.out];refine⟨_,rfl,?_,s6.out,pS.out⟩;rw [List.append_nil];exact N3.out
    |true=>
     rw [if_neg (by simp)]at qp
     as_aux_lemma=>
     have A6:(nu p S' i side).2=true:=by
      have h1:=mN.out;unfold HJ at h1;simp only [Bool.and_eq_true]at h1;exact h1.1
     have Bz:=QS yp.out dJ.out (QR A6)
     have nX:(qj (mA p (ef S') i (3-side)) (3-side)).1=⟨jk,wH,i0,s0,i1,s1⟩:=by
      have:=N1.out;unfold nu at this;rw [this]
     rw [nX]at Bz;obtain⟨nP,ZN,hq2⟩:=Bz;dsimp only at ZN hq2;obtain⟨n0,x0,e1,hx0,hs0,_,_⟩:=nP.a;obtain⟨kO,x1,e2,hx1,hs1,_,_⟩:=nP.b;dsimp only at e1 e2 hs0 hs1
     obtain⟨k0,iQ,bJ⟩:∃k:Nat,k<2∧s0=(k:Int)+1:=by
      rcases hs0 with h|h
      ·exact⟨0,by omega,by omega⟩
      ·exact⟨1,by omega,by omega⟩
     obtain⟨k1,xd,cV⟩:∃k:Nat,k<2∧s1=(k:Int)+1:=by
      rcases hs1 with h|h
      ·exact⟨0,by omega,by omega⟩
      ·exact⟨1,by omega,by omega⟩
     subst e1;subst e2;subst bJ;subst cV;have hkb:=N5 (aq:=z) (x:=wH) (by omega) ZN;obtain⟨k,hkk⟩:=ai (wz z wH);rw [hkk]at hkb;have lg:=af hkk;obtain⟨cN,hk2,kr⟩:=hkb;have hn0:n0<n:=by have:=dM hx0;rwa [tG.out]at this
     have E4:kO<n:=by have:=dM hx1;rwa [tG.out]at this
     have wU:Hid (Bq (ef S') n0 ((k0:Int)+1)=x0.ap ((k0:Int)+1)):=af (by unfold Bq;rw [Int.toNat_natCast,Bu hx0]);have zw:Hid (Bq (ef S') kO ((k1:Int)+1)=x1.ap ((k1:Int)+1)):=af (by unfold Bq;rw [Int.toNat_natCast,Bu hx1]);have jU:=af hx0;have tN:=af hx1
     have ZO:Hid (Ke p S' ⟨jk,wH,n0,(k0:Int)+1,kO,(k1:Int)+1⟩ z=((ou p (ou p S' n0 ((k0:Int)+1) (x0.ap ((k0:Int)+1)) k).1 kO ((k1:Int)+1) (x1.ap ((k1:Int)+1)) k).1,⟨jk,k,true,(ou p S' n0 ((k0:Int)+1) (x0.ap ((k0:Int)+1)) k).2++(ou p (ou p S' n0 ((k0:Int)+1) (x0.ap ((k0:Int)+1)) k).1 kO ((k1:Int)+1) (x1.ap ((k1:Int)+1)) k).2⟩)):=af (by
      unfold Ke;dsimp only;rw [lg.out,wU.out,zw.out,Int.toNat_natCast,Int.toNat_natCast])
     clear A6 nX nP hs0 hs1 hkk hx0 hx1 wU zw l0 l1;go_upto_if 144 with(fail)
     go_cut [20] (fun v wx=>v=↑k∧bf=wx)
     case first=>
      as_aux_lemma=>
      by_cases hzl:z<wH
      ·have bR:Hid (k=z):=af (by rw [←lg.out];exact if_pos hzl)
       go_wp2_with fail
       go_meet;exact⟨by rw [bR.out],by trivial⟩
      ·have bR:Hid (k=wH):=af (by rw [←lg.out];exact if_neg hzl)
       go_wp2_with fail
       go_meet;exact⟨by rw [bR.out],by trivial⟩
     case rest=>
     obtain⟨rfl,rfl⟩:=hcut;have hba:=Below.aI bf (.cells #[↑jk,↑k,.bool true,.slice none 0 0] 206);have Ai:Hid (av (bf.alloc (.cells #[↑jk,↑k,.bool true,.slice none 0 0] 206)) bf.heap.size 206 #[↑jk,↑k,.bool true,.slice none 0 0]):=af (av.new _ _ _);have ZP:=af (Dc.out.below hba);have ZQ:=af (N2.out.below hba);have De:=af (s6.out.below hba);have pT:Hid (aK (fun g=>g∈Q) bf (bf.alloc (.cells #[↑jk,↑k,.bool true,.slice none 0 0] 206))):=af (Below.keeps hba);have ZR:=af s6.out;have dc:Hid (w.heap.size≤bf.heap.size):=af pS.out.size;clear hba Dc N2 s6 Dd n1;go_upto_region 23 with(fail)
     obtain⟨gs,HM⟩:=ai bf.heap.size;have bL:=af HM;rw [HM]at Ai dc⊢;clear HM v0 v1;generalize bf.alloc (.cells _ 206)=bZ at*;obtain⟨ez,KY⟩:=ai (ou p S' n0 ((k0:Int)+1) (x0.ap ((k0:Int)+1)) k);obtain⟨kZ,KZ⟩:=ai (ou p ez.1 kO ((k1:Int)+1) (x1.ap ((k1:Int)+1)) k);rw [KY,KZ]at ZO;have CA:=af KY;have kv:=af KZ;have Sl:Hid (ei p ez.1):=af (by rw [←KY];exact dJ.out.rR _ _ _ _);have N8:Hid (ei p kZ.1):=af (by rw [←KZ];exact Sl.out.rR _ _ _ _);have ZS:Hid (ez.2.length≤250):=af (by rw [←KY];unfold ou;dsimp only;exact Nat.le_trans (MX _ _ _ _) (by rw [MV];exact Nat.le_trans (JE _ _ _) (MT (dJ.out.at_ n0) _ _).1));have ZT:Hid (kZ.2.length≤250):=af (by rw [←KZ];unfold ou;dsimp only;exact Nat.le_trans (MX _ _ _ _) (by rw [MV];exact Nat.le_trans (JE _ _ _) (MT (Sl.out.at_ kO) _ _).1));clear KY KZ;go_wp2_with fail
     go_loopw [22] (fun s w'=>∃m:Nat,s=↑m∧m≤2∧(∃a nn c,av w' gs 206 #[↑jk,↑k,.bool true,.slice a nn c]∧qg.Row w' gs (.slice a nn c) (aiH m ez kZ))∧eH W w' ps p Q (aiI m S' ez kZ)∧aK (fun g=>g∈Q) bf w'∧av w' dU 192 #[↑jk,↑wH,↑n0,.int .i64 ((k0:Int)+1),↑kO,.int .i64 ((k1:Int)+1)]∧qW.Row w' w3.heap.size (.slice ta n tc) (ef S')) (fun s _=>2-(RowKit.intOf s).toNat)
     case atStart=>exact⟨0,rfl,by omega,⟨none,0,0,Ai.out,bl.Row.nil _ _⟩,De.out,pT.out,ZP.out,ZQ.out⟩
     case round=>
      clear Ai De pT ZP ZQ;obtain⟨m,rfl,hm,⟨sa,sn,sc,HM,hfr⟩,hsb,hkp,QX,uM⟩:=hrel;obtain⟨wy,rfl⟩:=aj wr;have Ai:=af HM;have sP:=af hfr;have Aj:=af hsb;have uB:=af hkp;have BM:=af QX;have K0:=af uM;clear HM hfr hsb hkp QX uM;have jq:m=0∨m=1∨m=2:=by omega
      rcases jq with rfl|rfl|rfl
      ·as_aux_lemma=>
       have sP:=af (show qg.Row wy gs (.slice sa sn sc) ([])from sP.out);have Aj:=af (show eH W wy ps p Q (S')from Aj.out);have c2:wy.cell? ⟨dU,2,none⟩=some ↑n0:=BM.out.cell 2;have c3:wy.cell? ⟨dU,3,none⟩=some (.int .i64 ((k0:Int)+1)):=BM.out.cell 3;have hba:=Below.aI wy (.cells #[↑n0,.int .i64 ((k0:Int)+1)] 189);have fN:Hid (av (wy.alloc (.cells #[↑n0,.int .i64 ((k0:Int)+1)] 189)) wy.heap.size 189 #[↑n0,.int .i64 ((k0:Int)+1)]):=af (av.new _ _ _);have hbd:=hba.drew;have BN:=af (Ai.out.below hbd);have K1:=af (sP.out.below hbd);have Hd:=af (Aj.out.below hbd);have A8:Hid (aK (fun g=>g∈Q) bf (wy.alloc (.cells #[↑n0,.int .i64 ((k0:Int)+1)] 189)).drew):=af (uB.out.trans (Below.keeps hbd));have Fm:=af (BM.out.below hbd);have Fo:=af (K0.out.below hbd);have wI:=af (fN.out.below (Below.refl _ _).drew);clear hba hbd Ai sP Aj uB BM K0 fN;go_upto_region 27 with(fail)
       clear c2 c3;obtain⟨aL,fO⟩:=ai wy.heap.size;rw [fO]at wI⊢;clear fO;generalize Sm:wy.alloc (.cells _ 189)=bW at*;clear Sm;obtain⟨gt,aiQ,pE,_,jZ⟩:=Fo.out.at_ _ _ jU.out;injection pE with tP K2 K3;subst tP;subst K3;clear K2
       have iR:bW.drew.cell? ⟨gt,n0*6+2+k0,none⟩=some (.int .i64 (x0.ap ((k0:Int)+1))):=by
        have:=jZ (2+k0) (.int .i64 (x0.ap ((k0:Int)+1))) (by have:=x0.GZ iQ;rwa [List.getElem?_toArray]at this)
        rwa [show n0*qW.m+(2+k0)=n0*6+2+k0 by show n0*6+(2+k0)=_;omega]at this
       have sC:Hid (∀wv,qW.Row wv w3.heap.size (.slice ↑gt n tc) (ef S')→wv.cell? ⟨gt,n0*6+2+k0,none⟩=some (.int .i64 (x0.ap ((k0:Int)+1)))):=af fun wv hv=>by
        obtain⟨gt',aiR,pE,_,jZ⟩:=hv.at_ _ _ jU.out;injection pE with tP K2 K3;injection tP with tP;injection tP with tP;subst tP;have:=jZ (2+k0) (.int .i64 (x0.ap ((k0:Int)+1))) (by have:=x0.GZ iQ;rwa [List.getElem?_toArray]at this)
        rwa [show n0*qW.m+(2+k0)=n0*6+2+k0 by show n0*6+(2+k0)=_;omega]at this
       clear jZ;obtain⟨cq,hpx⟩:=ai (x0.ap ((k0:Int)+1));have aiS:=af hpx;rw [hpx]at iR sC;have Sn:Hid (ou p (S') n0 ((k0:Int)+1) cq k=ez):=af (by rw [←hpx];exact CA.out);have d3:bW.drew.cell? ⟨gs,3,none⟩=some (.slice sa sn sc):=BN.out.cell 3;have e0:bW.drew.cell? ↑aL=some ↑n0:=wI.out.cell 0;have e1:bW.drew.cell? ⟨aL,1,none⟩=some (.int .i64 ((k0:Int)+1)):=wI.out.cell 1;clear hpx;have sF:(n0:Int)<(n:Int):=by omega
       have aiT:(k0:Int)<2:=by omega
       go_wp2_with fail
       refine cP (S:=fun w'=>w'.cell? ⟨gs,3,none⟩=some (.slice sa sn sc)∧w'.cell? ↑aL=some ↑n0∧w'.cell? ⟨aL,1,none⟩=some (.int .i64 ((k0:Int)+1))∧w'.cell? ⟨gt,n0*6+2+k0,none⟩=some ↑cq) ⟨d3,e0,e1,iR⟩ fun hHeld=>?_;refine au 0 ?_;refine au 1 ?_;refine au 2 ?_;refine au 3 ?_;refine au 4 ?_;refine au 5 ?_;refine au 6 ?_;refine au 7 ?_;refine au 8 ?_;refine au 9 ?_;refine au 10 ?_;refine au 11 ?_;refine au 12 ?_;rw [show IntKind.i64.wrap (k0:Int)=(k0:Int)from IntWalk.i64_in _ (by omega)];refine au 13 ?_;refine au 14 ?_;refine au 15 ?_;refine au 16 ?_;refine au 17 ?_;generalize bW.drew=wa at*;have So:(S').length=n:=by rw [←Hd.out.len,tv.out]
       obtain⟨eX,xw⟩:∃L,(S')[n0]? =some L:=⟨_,List.getElem?_eq_getElem (by omega)⟩;have BJ:=dJ.out.each eX (List.mem_of_getElem? xw);have Df:=af (P6 Hd.out yp.out (by omega) xw BJ ((k0:Int)+1) cq k);have hgd:(S').getD n0 []=eX:=Bu xw;have BO:Hid (((S').set n0 (pz eX (sx p eX ((k0:Int)+1) cq k)),vU n0 ((k0:Int)+1) cq (sx p eX ((k0:Int)+1) cq k))=ez):=af (by rw [←Sn.out];unfold ou;rw [hgd]);clear So xw BJ hgd d3 e0 e1 iR;refine aU 18 fun K hK=>?_;go_simp;go_at_call 136
       refine Df.out.mono ?_;rintro e wb ⟨vf,rfl,fk,Fp,hkb⟩;have wJ:∀g,g∈Q→ck wa g 181:=fun g hg=>(Hd.out.py hg).1;have BP:=BN.out.keeps hkb (fun e=>BN.out.aE.ne (wJ _ e) (by decide) rfl);have yV:=wI.out.keeps hkb (fun e=>wI.out.aE.ne (wJ _ e) (by decide) rfl);have Fq:=Fm.out.keeps hkb (fun e=>Fm.out.aE.ne (wJ _ e) (by decide) rfl);have Fs:=Fo.out.keep hkb (fun g hg e=>hg.ne (wJ _ e) (by decide) rfl);have BQ:=K1.out.keep hkb (fun g hg e=>hg.ne (wJ _ e) (by decide) rfl);have Ft:=A8.out.trans hkb;have e1:=congrArg Prod.fst BO.out;have e2:=congrArg Prod.snd BO.out;dsimp only at e1 e2;rw [e1]at Fp;rw [e2]at fk;obtain⟨fa,oR,gU,K4,K5⟩:=fk.rd;obtain⟨fn,hfn⟩:=ai ez.2.length;have qR:=af hfn
       have K6:∀ad,fa=some ad→∃b off,ad=⟨b,off,none⟩:=fun ad h=>by
        obtain⟨a9,kp,dZ,h9,_⟩:=fk.sl;rw [gU]at dZ;injection dZ with dZ;exact h9.2.1 ad (by rw [←dZ];exact h)
       rw [hfn]at gU;subst gU;refine hK.out _ _ ⟨BP.cell 3,yV.cell 0,yV.cell 1,sC.out _ Fs⟩ (fun hHeld=>?_);clear hK K e1 e2 wJ fk hkb Df BO BN wI Fm Fo K1 A8 hHeld;have K7:=af Fp;clear Fp Hd;refine aU 19 fun K hK=>?_;refine qg.steps rfl (.tmp 159) (.tmp 176) rfl gs (.slice sa sn sc) ([]) rfl BQ fa fn oR ez.2 hfn rfl K4 K5 K6 (by have h1:=ZS.out;have h2:=ZT.out;(try simp only [List.length_nil]);omega) (by have:=Ft.size;rw [bL.out]at this;exact this) ?_;intro v' wc hrc we Sp;have hkc:=fK we;have bT:=eo BQ;have dw:=cS BQ;have qu:=BP.keeps hkc (fun e=>BP.aE.ne (bT _ e) (by decide) rfl);have Fu:=yV.keeps hkc (fun e=>yV.aE.ne (bT _ e) (by decide) rfl);have Fv:=Fq.keeps hkc (fun e=>Fq.aE.ne (bT _ e) (by decide) rfl);have Fw:=Fs.keep hkc (fun g hg e=>hg.ne (bT _ e) (by decide) rfl);have K8:=af (K7.out.qT hkc bT (Nat.le_trans iD.out dc.out) dw);have n5:aK (fun g=>g∈Q) bf wc:=Ft.step hkc (fun x hx e=>absurd (dw x e) (by have:=bL.out;omega));obtain⟨va,vc,dF⟩:=hrc.form;obtain⟨vn,s5⟩:=ai ((([])++ez.2).length);rw [s5]at dF;subst dF;have Dg:=af s5;refine hK.out _ _ ⟨qu.cell 3,Fu.cell 0,Fu.cell 1,sC.out _ Fw⟩ (fun hHeld=>?_);clear hK K;have f3:=qu.frozen 3;have d3:=qu.cell 3;have jY:=ct wc gs 3 (.slice va vn vc);have Fx:=qu.aW 3 (.slice va vn vc);simp only [List.setIfInBounds_toArray,List.set_cons_zero,List.set_cons_succ]at Fx;have Sq:=af Fx;have Sr:=af (Fv.keeps jY (fun e=>Fv.aE.ne qu.aE (by decide) e));have Ss:=af (Fw.keep jY (fun g hg e=>hg.ne qu.aE (by decide) e));have Sv:=af (hrc.keep jY (fun g hg e=>hg.ne qu.aE (by decide) e));have Sw:=af (K8.out.qT (t:=206) (B:=W.heap.size) jY (fun g e=>by have e2:g=gs:=e;rw [e2];exact qu.aE) (Nat.le_refl _) (fun g e=>by have e2:g=gs:=e;rw [e2];exact Nat.le_trans iD.out dc.out) (by decide));have Sx:Hid (aK (fun g=>g∈Q) bf (wc.setCell ⟨gs,3,none⟩ (.slice va vn vc))):=af (n5.step jY (fun x hx e=>absurd hx (by have e2:x=gs:=e;have:=bL.out;omega)));clear we Sp hkc bT dw BP yV Fq Fs BQ Ft Fu Fv Fw K7 K8 n5 hrc jY Fx s5 hfn K4 K5 K6;refine au 20 ?_;clear hHeld;refine dY 21 fun K hK=>?_;go_simp;refine hK.out _ _ ?_;clear hK K d3 f3;generalize wc.setCell ⟨gs,3,none⟩ (.slice va vn vc)=wd at*;clear qu;go_wp2_with fail
       go_roundw
       case rel=>exact⟨1,rfl,by omega,⟨va,vn,vc,Sq.out,Sv.out⟩,Sw.out,Sx.out,Sr.out,Ss.out⟩
       case measure=>simp [RowKit.intOf]
      ·as_aux_lemma=>
       have sP:=af (show qg.Row wy gs (.slice sa sn sc) (ez.2)from sP.out);have Aj:=af (show eH W wy ps p Q (ez.1)from Aj.out);have c2:wy.cell? ⟨dU,4,none⟩=some ↑kO:=BM.out.cell 4;have c3:wy.cell? ⟨dU,5,none⟩=some (.int .i64 ((k1:Int)+1)):=BM.out.cell 5;have hba:=Below.aI wy (.cells #[↑kO,.int .i64 ((k1:Int)+1)] 189);have fN:Hid (av (wy.alloc (.cells #[↑kO,.int .i64 ((k1:Int)+1)] 189)) wy.heap.size 189 #[↑kO,.int .i64 ((k1:Int)+1)]):=af (av.new _ _ _);have hbd:=hba.drew;have BN:=af (Ai.out.below hbd);have K1:=af (sP.out.below hbd);have Hd:=af (Aj.out.below hbd);have A8:Hid (aK (fun g=>g∈Q) bf (wy.alloc (.cells #[↑kO,.int .i64 ((k1:Int)+1)] 189)).drew):=af (uB.out.trans (Below.keeps hbd));have Fm:=af (BM.out.below hbd);have Fo:=af (K0.out.below hbd);have wI:=af (fN.out.below (Below.refl _ _).drew);clear hba hbd Ai sP Aj uB BM K0 fN;go_upto_region 27 with(fail)
       clear c2 c3;obtain⟨aL,fO⟩:=ai wy.heap.size;rw [fO]at wI⊢;clear fO;generalize Sm:wy.alloc (.cells _ 189)=bW at*;clear Sm;obtain⟨gt,aiQ,pE,_,jZ⟩:=Fo.out.at_ _ _ tN.out;injection pE with tP K2 K3;subst tP;subst K3;clear K2
       have iR:bW.drew.cell? ⟨gt,kO*6+2+k1,none⟩=some (.int .i64 (x1.ap ((k1:Int)+1))):=by
        have:=jZ (2+k1) (.int .i64 (x1.ap ((k1:Int)+1))) (by have:=x1.GZ xd;rwa [List.getElem?_toArray]at this)
        rwa [show kO*qW.m+(2+k1)=kO*6+2+k1 by show kO*6+(2+k1)=_;omega]at this
       have sC:Hid (∀wv,qW.Row wv w3.heap.size (.slice ↑gt n tc) (ef S')→wv.cell? ⟨gt,kO*6+2+k1,none⟩=some (.int .i64 (x1.ap ((k1:Int)+1)))):=af fun wv hv=>by
        obtain⟨gt',aiR,pE,_,jZ⟩:=hv.at_ _ _ tN.out;injection pE with tP K2 K3;injection tP with tP;injection tP with tP;subst tP;have:=jZ (2+k1) (.int .i64 (x1.ap ((k1:Int)+1))) (by have:=x1.GZ xd;rwa [List.getElem?_toArray]at this)
        rwa [show kO*qW.m+(2+k1)=kO*6+2+k1 by show kO*6+(2+k1)=_;omega]at this
       clear jZ;obtain⟨cq,hpx⟩:=ai (x1.ap ((k1:Int)+1));have aiS:=af hpx;rw [hpx]at iR sC;have Sn:Hid (ou p (ez.1) kO ((k1:Int)+1) cq k=kZ):=af (by rw [←hpx];exact kv.out);have d3:bW.drew.cell? ⟨gs,3,none⟩=some (.slice sa sn sc):=BN.out.cell 3;have e0:bW.drew.cell? ↑aL=some ↑kO:=wI.out.cell 0;have e1:bW.drew.cell? ⟨aL,1,none⟩=some (.int .i64 ((k1:Int)+1)):=wI.out.cell 1;clear hpx;have sF:(kO:Int)<(n:Int):=by omega
       have aiT:(k1:Int)<2:=by omega
       go_wp2_with fail
       refine cP (S:=fun w'=>w'.cell? ⟨gs,3,none⟩=some (.slice sa sn sc)∧w'.cell? ↑aL=some ↑kO∧w'.cell? ⟨aL,1,none⟩=some (.int .i64 ((k1:Int)+1))∧w'.cell? ⟨gt,kO*6+2+k1,none⟩=some ↑cq) ⟨d3,e0,e1,iR⟩ fun hHeld=>?_;refine au 0 ?_;refine au 1 ?_;refine au 2 ?_;refine au 3 ?_;refine au 4 ?_;refine au 5 ?_;refine au 6 ?_;refine au 7 ?_;refine au 8 ?_;refine au 9 ?_;refine au 10 ?_;refine au 11 ?_;refine au 12 ?_;rw [show IntKind.i64.wrap (k1:Int)=(k1:Int)from IntWalk.i64_in _ (by omega)];refine au 13 ?_;refine au 14 ?_;refine au 15 ?_;refine au 16 ?_;refine au 17 ?_;generalize bW.drew=wa at*;have So:(ez.1).length=n:=by rw [←Hd.out.len,tv.out]
       obtain⟨eX,xw⟩:∃L,(ez.1)[kO]? =some L:=⟨_,List.getElem?_eq_getElem (by omega)⟩;have BJ:=Sl.out.each eX (List.mem_of_getElem? xw);have Df:=af (P6 Hd.out yp.out (by omega) xw BJ ((k1:Int)+1) cq k);have hgd:(ez.1).getD kO []=eX:=Bu xw;have BO:Hid (((ez.1).set kO (pz eX (sx p eX ((k1:Int)+1) cq k)),vU kO ((k1:Int)+1) cq (sx p eX ((k1:Int)+1) cq k))=kZ):=af (by rw [←Sn.out];unfold ou;rw [hgd]);clear So xw BJ hgd d3 e0 e1 iR;refine aU 18 fun K hK=>?_;go_simp;go_at_call 136
       refine Df.out.mono ?_;rintro e wb ⟨vf,rfl,fk,Fp,hkb⟩;have wJ:∀g,g∈Q→ck wa g 181:=fun g hg=>(Hd.out.py hg).1;have BP:=BN.out.keeps hkb (fun e=>BN.out.aE.ne (wJ _ e) (by decide) rfl);have yV:=wI.out.keeps hkb (fun e=>wI.out.aE.ne (wJ _ e) (by decide) rfl);have Fq:=Fm.out.keeps hkb (fun e=>Fm.out.aE.ne (wJ _ e) (by decide) rfl);have Fs:=Fo.out.keep hkb (fun g hg e=>hg.ne (wJ _ e) (by decide) rfl);have BQ:=K1.out.keep hkb (fun g hg e=>hg.ne (wJ _ e) (by decide) rfl);have Ft:=A8.out.trans hkb;have e1:=congrArg Prod.fst BO.out;have e2:=congrArg Prod.snd BO.out;dsimp only at e1 e2;rw [e1]at Fp;rw [e2]at fk;obtain⟨fa,oR,gU,K4,K5⟩:=fk.rd;obtain⟨fn,hfn⟩:=ai kZ.2.length;have qR:=af hfn
       have K6:∀ad,fa=some ad→∃b off,ad=⟨b,off,none⟩:=fun ad h=>by
        obtain⟨a9,kp,dZ,h9,_⟩:=fk.sl;rw [gU]at dZ;injection dZ with dZ;exact h9.2.1 ad (by rw [←dZ];exact h)
       rw [hfn]at gU;subst gU;refine hK.out _ _ ⟨BP.cell 3,yV.cell 0,yV.cell 1,sC.out _ Fs⟩ (fun hHeld=>?_);clear hK K e1 e2 wJ fk hkb Df BO BN wI Fm Fo K1 A8 hHeld;have K7:=af Fp;clear Fp Hd;refine aU 19 fun K hK=>?_;refine qg.steps rfl (.tmp 159) (.tmp 176) rfl gs (.slice sa sn sc) (ez.2) rfl BQ fa fn oR kZ.2 hfn rfl K4 K5 K6 (by have h1:=ZS.out;have h2:=ZT.out;(try simp only [List.length_nil]);omega) (by have:=Ft.size;rw [bL.out]at this;exact this) ?_;intro v' wc hrc we Sp;have hkc:=fK we;have bT:=eo BQ;have dw:=cS BQ;have qu:=BP.keeps hkc (fun e=>BP.aE.ne (bT _ e) (by decide) rfl);have Fu:=yV.keeps hkc (fun e=>yV.aE.ne (bT _ e) (by decide) rfl);have Fv:=Fq.keeps hkc (fun e=>Fq.aE.ne (bT _ e) (by decide) rfl);have Fw:=Fs.keep hkc (fun g hg e=>hg.ne (bT _ e) (by decide) rfl);have K8:=af (K7.out.qT hkc bT (Nat.le_trans iD.out dc.out) dw);have n5:aK (fun g=>g∈Q) bf wc:=Ft.step hkc (fun x hx e=>absurd (dw x e) (by have:=bL.out;omega));obtain⟨va,vc,dF⟩:=hrc.form;obtain⟨vn,s5⟩:=ai (((ez.2)++kZ.2).length);rw [s5]at dF;subst dF;have Dg:=af s5;refine hK.out _ _ ⟨qu.cell 3,Fu.cell 0,Fu.cell 1,sC.out _ Fw⟩ (fun hHeld=>?_);clear hK K;have f3:=qu.frozen 3;have d3:=qu.cell 3;have jY:=ct wc gs 3 (.slice va vn vc);have Fx:=qu.aW 3 (.slice va vn vc);simp only [List.setIfInBounds_toArray,List.set_cons_zero,List.set_cons_succ]at Fx;have Sq:=af Fx;have Sr:=af (Fv.keeps jY (fun e=>Fv.aE.ne qu.aE (by decide) e));have Ss:=af (Fw.keep jY (fun g hg e=>hg.ne qu.aE (by decide) e));have Sv:=af (hrc.keep jY (fun g hg e=>hg.ne qu.aE (by decide) e));have Sw:=af (K8.out.qT (t:=206) (B:=W.heap.size) jY (fun g e=>by have e2:g=gs:=e;rw [e2];exact qu.aE) (Nat.le_refl _) (fun g e=>by have e2:g=gs:=e;rw [e2];exact Nat.le_trans iD.out dc.out) (by decide));have Sx:Hid (aK (fun g=>g∈Q) bf (wc.setCell ⟨gs,3,none⟩ (.slice va vn vc))):=af (n5.step jY (fun x hx e=>absurd hx (by have e2:x=gs:=e;have:=bL.out;omega)));clear we Sp hkc bT dw BP yV Fq Fs BQ Ft Fu Fv Fw K7 K8 n5 hrc jY Fx s5 hfn K4 K5 K6;refine au 20 ?_;clear hHeld;refine dY 21 fun K hK=>?_;go_simp;refine hK.out _ _ ?_;clear hK K d3 f3;generalize wc.setCell ⟨gs,3,none⟩ (.slice va vn vc)=wd at*;clear qu;go_wp2_with fail
       go_roundw
       case rel=>exact⟨2,rfl,by omega,⟨va,vn,vc,Sq.out,Sv.out⟩,Sw.out,Sx.out,Sr.out,Ss.out⟩
       case measure=>simp [RowKit.intOf]
      ·as_aux_lemma=>
       have KW:=N3.out.keep uB.out (fun g hg e=>hg.ne (ZR.out.py e).1 (by decide) rfl) (fun g hg e=>hg.ne (ZR.out.py e).1 (by decide) rfl);have K9:=Ai.out;obtain⟨y0,y1,fI,lF⟩:=K9.amw;have hba:=Below.aI wy (.cells #[↑jk,↑k,.bool true,.slice sa sn sc] 206);have c8:Hid (av (wy.alloc (.cells #[↑jk,↑k,.bool true,.slice sa sn sc] 206)) wy.heap.size 206 (⟨jk,k,true,sa,sn,sc⟩:q7).cells.toArray):=af (av.new _ _ _);have aiU:=af (((show qg.Row wy gs (.slice sa sn sc) (ez.2++kZ.2)from sP.out).base dc.out).below hba);have N7:=af ((show eH W wy ps p Q kZ.1 from Aj.out).below hba);have HK:Hid (aK (fun g=>g∈Q) w (wy.alloc (.cells #[↑jk,↑k,.bool true,.slice sa sn sc] 206))):=af ((pS.out.trans uB.out).trans (Below.keeps hba));obtain⟨en,Fk,Fl,KX⟩:=KW.below hba;have Sy:=af Fk;have aiV:Hid (en.length+1≤1000000):=af (by rw [Fl,z6.out];omega);have Gy:=af Fl;have aiW:=af KX;obtain⟨f',hf',nk⟩:=ZL hpos HI qp.out;rw [ZO.out]at nk;have uU:=af nk;have aiX:Hid ((z-k).toNat≤f'):=af (by omega);clear KW K9 hba Fk Fl KX nk hf' HI Ai sP Aj uB BM K0
       go_wp2_with (first
        |(at_builtin;go_loud (refine HL.push rfl (.tmp 179) (.tmp 181) rfl w.heap.size _ en rfl Sy.out wy.heap.size ⟨jk,k,true,sa,sn,sc⟩ rfl c8.out.lt c8.out.gH aiV.out HK.out.size ?_)))
       intro v' Ga AF vz DP;have jH:=fK vz;have bT:=eo Sy.out;have dw:=cS Sy.out;have Si:=af (SO.push Gy.out aiW.out AF jH bT ⟨rfl,rfl,rfl,aiU.out⟩ (t:=⟨jk,k,true,ez.2++kZ.2⟩));have Sj:=af (N7.out.qT jH bT iD.out dw);have iL:Hid (aK (fun g=>g∈Q) w Ga):=af (HK.out.step jH (fun x hx e=>absurd (dw x e) (by omega)));have Sk:Hid (tn+1=(T++ [(⟨jk,k,true,ez.2++kZ.2⟩:nt)]).length):=af (by rw [List.length_append,z6.out];rfl);clear AF vz DP jH bT dw y0 y1 fI lF;go_wp2_with fail
       go_roundw
       case rel=>
        refine⟨kZ.1,T++ [⟨jk,k,true,ez.2++kZ.2⟩],z-k,f',rfl,by omega,by omega,by rw [←Sk.out];omega,aiX.out,?_,N8.out,Si.out,Sj.out,iL.out⟩;rw [bM.out,uU.out,List.append_assoc];rfl
       case measure=>simp [RowKit.intOf];omega
  ·as_aux_lemma=>
   have aiY:z=0:=by omega
   have dI:=af (aiZ (p:=p) (i:=i) (side:=side) (ap:=ap) (f:=f) (S:=S') (aq:=z) (by omega));clear aiY HI;go_wp2_with fail
   go_ret2
   rw [bM.out,dI.out];refine⟨_,rfl,?_,H1.out,Fi.out⟩;rw [List.append_nil];exact bP.out
end
theorem II {p:Prod} {i:Nat} {side ap:Int} (hz:cR p=0):∀(f:Nat) (S:List (List aC)) (aq:Int),ei p S→0≤aq→ei p (gO p i side ap f S aq).1∧0≤(gO p i side ap f S aq).2.2∧(gO p i side ap f S aq).2.2≤aq
 |0,S,aq,hS,h0=>⟨hS,h0,Int.le_refl _⟩
 |f+1,S,aq,hS,h0=>by
  unfold gO;split
  ·exact⟨hS,h0,Int.le_refl _⟩
  ·cases hr:ur p S i side ap aq with
   |none=>exact⟨hS,h0,Int.le_refl _⟩
   |some r=>
    obtain⟨h1,h2,h3⟩:=Uo hz hS (by omega) hr;obtain⟨g1,g2,aV⟩:=II (i:=i) (side:=side) (ap:=ap) hz f r.1 (aq-r.2.aq) h1 (by omega);exact⟨g1,g2,by dsimp only;omega⟩
def DL (p:Prod) (S:List (List aC)) (i:Nat) (side ap aq:Int):Int:=aq-(gO p i side ap aq.toNat S aq).2.2
section
variable {W w w':World} {ps pb:Nat} {p:Prod} {Q:List Nat} {S:List (List aC)}
theorem acX (h:eH W w ps p Q S) (hz:cR p=0) (hS:ei p S) {i:Nat} (hi:i<S.length) (side ap aq:Int) (e3:side=1∨side=2) (jW:1≤aq) (hq1:aq≤1000000):
 Calls Tryz.prog 106 #[.pointer ↑ps,↑i,↑side,↑ap,↑aq] w fun e w'=>e= .returned (.int .i64 (DL p S i side ap aq))∧Below w.heap.size w w':=by
 have bg:=af (Pf h (by have:=hS.le;omega));have hlf:=II (i:=i) (side:=side) (ap:=ap) hz aq.toNat S aq hS (by omega);have lU:=af fun w fS o7 (h:eH W w fS p o7 S)=>Pg h hz hS hi side ap aq e3 jW hq1;obtain⟨R,hR⟩:=ai (gO p i side ap aq.toNat S aq);have Up:Hid (DL p S i side ap aq=aq-R.2.2):=af (by unfold DL;rw [hR]);rw [Up.out];simp only [hR]at lU hlf;obtain⟨_,g1,g2⟩:=hlf;obtain⟨kR,nE,rA⟩:=R;dsimp only at g1 g2 lU;clear Up hR h hz hS hi e3;go_enter Tryz.func106,Tryz.ntmps106
 go_wp2_with fail
 refine bg.out.mono ?_;rintro e w2 ⟨fS,o7,rfl,Gb,DR,nG,hb2⟩;have kS:=af (lU.out _ _ _ Gb);have aS:=af hb2;have o8:=af DR;clear Gb DR nG hb2 bg lU;go_wp2_with fail
 refine kS.out.mono ?_;rintro e w3 ⟨v3,rfl,_,_,kr⟩;have aQ:=af (aS.out.trans (kr.below (B:=w.heap.size) o8.out aS.out.size));clear kr kS;go_wp2_with fail
 go_ret;exact⟨by trivial,aQ.out⟩
end
end Go.Proofs.YtmaijkoopjocdaaGreat
