import Derived.Test.YtmaijkoopjocdaaGreatKT32
set_option maxRecDepth 100000
set_option maxHeartbeats 64000000
namespace Go.Proofs.YtmaijkoopjocdaaGreat
open Go.RowKit Go.Lib
def afM (m:Nat) (dV j5:List (List ay)×List oA):List oA:=match m with|0=> []|1=>dV.2|_=>dV.2++j5.2
def afN (m:Nat) (S:List (List ay)) (dV j5:List (List ay)×List oA):List (List ay):=match m with|0=>S|1=>dV.1|_=>j5.1
section
variable {W w w':World} {ps pb:Nat} {p:Prod} {Q:List Nat} {S:List (List ay)}
theorem Nm (h:ek W w ps p Q S) (hz:cz p=0) (hS:dJ p S) {i:Nat} (hi:i<S.length) (side ag ah:Int) (gf:side=1∨side=2) (mG:1≤ah) (hq1:ah≤1000000):
 Calls Tryz.prog 110 #[.pointer (some ⟨ps,0,none⟩),.int .i64 i,.int .i64 side,.int .i64 ag,.int .i64 ah] w fun e w'=>∃v,e= .returned (.tuple #[v,.int .i64 (gl p i side ag ah.toNat S ah).2.2])∧SO w' w.heap.size v (gl p i side ag ah.toNat S ah).2.1∧ek W w' ps p Q (gl p i side ag ah.toNat S ah).1∧aD (fun g=>g∈Q) w w':=by
 have H:=af h;have wC:=af hz;have dX:=af hS;have qO:=af gf;obtain⟨n,hnn⟩:∃n,Q.length=n:=⟨_,rfl⟩;have hin:i<n:=by rw [←hnn,h.len];exact hi
 have hil:(i:Int)<(n:Int):=by omega
 have h0:¬(i:Int)<0:=by omega
 have Up:n≤21:=by rw [←hnn,h.len];exact hS.le
 have wD:=af hnn;have hM:=af h.aF.size;obtain⟨g,c,aP,_⟩:=h.box;have dg:=aP.cell 11;rw [hnn]at dg;have AZ:w.cell? ⟨ps,11,none⟩=some (.slice g n c):=dg;have QL:=af (Xv side gf w);obtain⟨o,ho⟩:∃o,3-side=o:=⟨_,rfl⟩;rw [ho]at QL;have Xl:1≤o∧o≤2:=by omega
 have QM:=af ho;obtain⟨R,hR⟩:∃R,gl p i side ag ah.toNat S ah=R:=⟨_,rfl⟩;rw [hR];have cM:=af hR;clear h hz hS hi hnn aP dg ho hR;go_enter Tryz.func110,Tryz.ntmps110
 go_upto_region 1 with(fail)
 go_cut [50] (fun v wx=>v= .bool false∧w=wx)
 case first=>
  rcases gf with rfl|rfl
  ·go_wp2_with fail
   go_meet;exact⟨by rw [decide_eq_false (show¬n≤i by omega),decide_eq_false (show¬ah<1 by omega),decide_eq_false (show¬1000000<ah by omega)];rfl,by trivial⟩
  ·go_wp2_with fail
   go_meet;exact⟨by rw [decide_eq_false (show¬n≤i by omega),decide_eq_false (show¬ah<1 by omega),decide_eq_false (show¬1000000<ah by omega)];rfl,by trivial⟩
 case rest=>
 obtain⟨rfl,rfl⟩:=hcut;clear gf AZ;go_wp2_with fail
 refine QL.out.mono ?_;rintro e w2 ⟨rfl,rfl⟩;clear QL;go_wp2_with fail
 go_loopw [4,12] (fun y v w'=>∃(S':List (List ay)) (T:List mq) (z:Int) (f:Nat),y= .int .i64 z∧0≤z∧z≤1000000∧(T.length:Int)+z≤1000000∧z.toNat≤f∧R=((gl p i side ag f S' z).1,T++(gl p i side ag f S' z).2.1,(gl p i side ag f S' z).2.2)∧dJ p S'∧SO w' w.heap.size v T∧ek W w' ps p Q S'∧aD (fun g=>g∈Q) w w') (fun y _ _=>(RowKit.intOf y).toNat)
 case atStart=>exact⟨S,[],ah,ah.toNat,rfl,by omega,hq1,by simp;omega,Nat.le_refl _,by rw [←cM.out];rfl,dX.out,SO.nil _ _,H.out,aD.refl _ _⟩
 case round=>
  clear dX cM;obtain⟨S',T,z,f,rfl,cQ,hz1,afO,FM,hR,hS,hT,hsb,hk⟩:=hrel;obtain⟨ak,rfl⟩:∃bk:World,bk=wr:=⟨_,rfl⟩;obtain⟨adN,adO,hov⟩:=hT.form;obtain⟨tn,htn⟩:∃n,T.length=n:=⟨_,rfl⟩;rw [htn]at hov afO;subst hov;have ym:=af htn;clear htn;have cM:=af hR;have dX:=af hS;have bK:=af hT;have H1:=af hsb;have DA:=af hk;clear hR hS hT hsb hk;by_cases hpos:0<z
  ·as_aux_lemma=>
   obtain⟨pb,L,hq,hs,hrb⟩:=H1.out.get (i:=i) (by rw [←H1.out.len,wD.out];exact hin);have zP:=dX.out.each L (List.mem_of_getElem? hs);have gM:=af hq;have aq:=af hs;have hge:S'.getD i []=L:=by rw [List.getD_eq_getElem?_getD,hs];rfl
   have aU:=af (P6 hrb zP.len zP.ah o);obtain⟨bo,zQ⟩:∃x,ja L o=x:=⟨_,rfl⟩;obtain⟨⟨eO,fC,lc⟩,lb⟩:=bo;have QN:Hid (vz S' i side=(⟨eO,fC,lc⟩,lb)):=af (by unfold vz;rw [hge,QM.out];exact zQ);obtain⟨g1,c1,aP,_,q1⟩:=H1.out.ptr hq;rw [wD.out]at aP;have dg:ak.cell? ⟨ps,11,none⟩=some (.slice (some ⟨g1,0,none⟩) n c1):=aP.cell 11;clear hq hs hrb zP hge aP;go_wp2_with fail
   refine aU.out.mono ?_;rintro e w2 ⟨he,hb2⟩;rw [zQ]at he;simp only [ax.cells,List.toArray]at he;subst he;have hba:=Below.aA w2 (.cells #[.int .i64 eO,.int .i64 fC,.int .i64 lc] 101);have en:Hid (aj (w2.alloc (.cells #[.int .i64 eO,.int .i64 fC,.int .i64 lc] 101)) w2.heap.size 101 #[.int .i64 eO,.int .i64 fC,.int .i64 lc]):=af (aj.new _ _ _);have aT:=af (hb2.trans (hba.mono hb2.size));clear zQ hb2 hba aU q1;go_upto_region 7 with(fail)
   obtain⟨az,c6⟩:∃x,w2.heap.size=x:=⟨_,rfl⟩;rw [c6]at en⊢;clear c6 dg;generalize w2.alloc (.cells _ 101)=w3 at*;have H3:=af (H1.out.below aT.out);have Xw:=af (Px H3.out (by rw [←H3.out.len,wD.out];omega) (fun L hL=>⟨(dX.out.each L hL).len,(dX.out.each L hL).ah⟩));go_wp2_with fail
   refine Xw.out.mono ?_;rintro e av ⟨Py,rfl,sS,hb4⟩;obtain⟨ta,tc,oy⟩:=sS.form;have htl:(dF S').length=n:=by rw [LK,←H3.out.len,wD.out]
   rw [htl]at oy;subst oy;have ye:=af htl;have Xx:=af sS;have H4:=af (H3.out.below hb4);have bM:=af (aT.out.trans (hb4.mono aT.out.size));have Xy:=af (en.out.below hb4);obtain⟨a2,c2,g5,_⟩:=H4.out.box;have b0:av.cell? ⟨ps,0,none⟩=some (.string p.code):=g5.cell 0;have b1:av.cell? ⟨ps,1,none⟩=some (.slice p.ma p.months.length p.mc):=g5.cell 1;have b2:av.cell? ⟨ps,2,none⟩=some (.int .i64 p.tick):=g5.cell 2;have b3:av.cell? ⟨ps,3,none⟩=some (.int .i64 p.low):=g5.cell 3;have b4:av.cell? ⟨ps,4,none⟩=some (.int .i64 p.high):=g5.cell 4;have aW:av.cell? ⟨ps,5,none⟩=some (.int .i64 p.wide):=g5.cell 5;have bp:av.cell? ⟨ps,6,none⟩=some (.int .i64 p.rule):=g5.cell 6;have aX:av.cell? ⟨ps,7,none⟩=some (.int .i64 p.top):=g5.cell 7;have bq:av.cell? ⟨ps,8,none⟩=some (.int .i64 p.least):=g5.cell 8;have bt:av.cell? ⟨ps,9,none⟩=some (.int .i64 p.part):=g5.cell 9;have bh:av.cell? ⟨ps,10,none⟩=some (.slice p.sa p.settle.length p.sc):=g5.cell 10;have Mg:=af (Pz p i o ta tc (dF S') av (H4.out.pv.below H4.out.aF) (by obtain⟨a3,c3,e,_,h3⟩:=sS.rd;injection e with e1;rw [e1];exact h3) dX.out.A9 (by rw [ye.out];omega) Fo);unfold Prod.agg Prod.cells at Mg;rw [ye.out]at Mg;clear sS hb4 htl g5 Xw H3 aT en H1;go_wp2_with fail
   clear b0 b1 b2 b3 b4 aW bp aX bq bt bh;refine Mg.out.mono ?_;rintro e au ⟨kN,rfl,lK,di⟩;obtain⟨q3,MM,Bb,_,hrd⟩:=lK.rd;have ke:=af (W0 (lF p (dF S') i o) q3 MM o au hrd (by have h1:=List.length_filter_le (fun q=>eA p i q.ag==0) (nP p (dF S') i o);have h2:=Fo (p:=p) (L:=dF S') (i:=i) (side:=o);unfold lF;omega));subst Bb;have Mh:Hid (mr p S' i side=pp (lF p (dF S') i o) o):=af (by unfold mr;rw [QM.out]);have Xz:=af (Xx.out.below di);have H5:=af (H4.out.below di);have cD:=af (bM.out.trans (di.mono bM.out.size));have XA:=af (Xy.out.below di);obtain⟨iz,bJ⟩:∃x,pp (lF p (dF S') i o) o=x:=⟨_,rfl⟩;rw [bJ]at ke Mh;obtain⟨⟨iw,uD,i0,s0,i1,s1⟩,XB⟩:=iz;obtain⟨nq,XC⟩:∃x,(lF p (dF S') i o).length=x:=⟨_,rfl⟩;rw [XC]at ke⊢;clear lK di hrd Mg Xx H4 bM Xy bJ XC;go_wp2_with fail
   refine ke.out.mono ?_;rintro e aK ⟨he,bF⟩;simp only [cK.cells,List.toArray]at he;subst he;have hba:=Below.aA aK (.cells #[.int .i64 iw,.int .i64 uD,.int .i64 i0,.int .i64 s0,.int .i64 i1,.int .i64 s1] 192);have Bp:Hid (aj (aK.alloc (.cells #[.int .i64 iw,.int .i64 uD,.int .i64 i0,.int .i64 s0,.int .i64 i1,.int .i64 s1] 192)) aK.heap.size 192 #[.int .i64 iw,.int .i64 uD,.int .i64 i0,.int .i64 s0,.int .i64 i1,.int .i64 s1]):=af (aj.new _ _ _);have dA:=cD.out.trans ((bF.trans (hba.mono bF.size)).mono cD.out.size);have fw:=af dA;have Bq:=af ((XA.out.below bF).below hba);have Mi:=af ((Xz.out.below bF).below hba);have rE:=af ((H5.out.below bF).below hba);have Mj:=af (bK.out.below dA);have oO:Hid (aD (fun g=>g∈Q) w (aK.alloc (.cells #[.int .i64 iw,.int .i64 uD,.int .i64 i0,.int .i64 s0,.int .i64 i1,.int .i64 s1] 192))):=af (DA.out.trans (Below.keeps dA));clear bF hba dA ke cD XA Xz H5 DA bK;go_upto_region 9 with(fail)
   obtain⟨cu,cR⟩:∃x,aK.heap.size=x:=⟨_,rfl⟩;rw [cR]at Bp⊢;clear cR;generalize aK.alloc (.cells _ 192)=bw at*
   have n1:cu≠az:=by
    have h1:=Bp.out.aC;have h2:=Bq.out.aC;exact fun e=>h1.ne h2 (by decide) e
   have l0:bw.cell? ⟨az,0,none⟩=some (.int .i64 eO):=Bq.out.cell 0;have l1:bw.cell? ⟨az,1,none⟩=some (.int .i64 fC):=Bq.out.cell 1;have v0:bw.cell? ⟨cu,0,none⟩=some (.int .i64 iw):=Bp.out.cell 0;have v1:bw.cell? ⟨cu,1,none⟩=some (.int .i64 uD):=Bp.out.cell 1;obtain⟨rl,hrl⟩:∃rl,(lb&& !cV side eO ag)=rl:=⟨_,rfl⟩;obtain⟨im,eK⟩:∃im,(XB&& !cV side iw ag)=im:=⟨_,rfl⟩;obtain⟨ts,hts⟩:∃ts,(rl&&(!im|| !cV o iw eO))=ts:=⟨_,rfl⟩;have tM:=af hrl;have jr:=af eK;have q5:=af hts;clear hrl eK hts;go_cut [15] (fun v wx=>v= .bool rl∧bw=wx)
   case first=>
    as_aux_lemma=>
    cases lb with
    |false=>
     go_wp2_with fail
     go_meet;exact⟨by rw [←tM.out];rfl,by trivial⟩
    |true=>
     have cA:=XD side eO ag bw;go_wp2_with fail
     refine cA.mono ?_;rintro e bW ⟨rfl,rfl⟩;go_wp2_with fail
     go_meet;exact⟨by rw [←tM.out];first|rfl|simp,by trivial⟩
   case rest=>
   obtain⟨rfl,rfl⟩:=hcut;go_upto_region 10 with(fail)
   go_cut [18] (fun v wx=>v= .bool im∧bw=wx)
   case first=>
    as_aux_lemma=>
    cases XB with
    |false=>
     go_wp2_with fail
     go_meet;exact⟨by rw [←jr.out];rfl,by trivial⟩
    |true=>
     have cA:=XD side iw ag bw;go_wp2_with fail
     refine cA.mono ?_;rintro e bW ⟨rfl,rfl⟩;go_wp2_with fail
     go_meet;exact⟨by rw [←jr.out];first|rfl|simp,by trivial⟩
   case rest=>
   obtain⟨rfl,rfl⟩:=hcut;go_upto_region 11 with(fail)
   go_cut [112] (fun v wx=>v= .bool ts∧bw=wx)
   case first=>
    as_aux_lemma=>
    cases rl with
    |false=>
     go_wp2_with fail
     go_meet;exact⟨by rw [←q5.out];rfl,by trivial⟩
    |true=>
     cases im with
     |false=>
      go_wp2_with fail
      go_meet;exact⟨by rw [←q5.out];rfl,by trivial⟩
     |true=>
      have cA:=Ex o iw eO bw;go_wp2_with fail
      refine cA.mono ?_;rintro e bW ⟨rfl,rfl⟩;go_wp2_with fail
      go_meet;exact⟨by rw [←q5.out];first|rfl|simp,by trivial⟩
   case rest=>
   obtain⟨rfl,rfl⟩:=hcut;have eo:Hid (I5 S' i side ag=rl):=af (by unfold I5;rw [QN.out];exact tM.out);have mR:Hid (FN p S' i side ag=im):=af (by unfold FN;rw [Mh.out];exact jr.out);have pq:Hid (sy p S' i side ag z=if ts=true then some (Mk p S' i o ⟨eO,fC,lc⟩ z)else if im=false then none else some (Im p S' ⟨iw,uD,i0,s0,i1,s1⟩ z)):=af (by unfold sy;rw [eo.out,mR.out,Mh.out,QN.out,QM.out,q5.out]);cases ts with
   |true=>
    as_aux_lemma=>
    have hlb:(vz S' i side).2=true:=by
     have h1:=q5.out;simp only [Bool.and_eq_true]at h1;have h2:=eo.out;rw [h1.1]at h2;unfold I5 at h2;simp only [Bool.and_eq_true]at h2;exact h2.1
    have zR:=XE dX.out hlb;rw [QN.out]at zR;dsimp only at zR;rw [if_pos rfl]at pq;have hkb:=Ml (ah:=z) (x:=fC) (by omega) zR.1;obtain⟨k,hkk⟩:∃k,uz z fC=k:=⟨_,rfl⟩;rw [hkk]at hkb;have ko:=af hkk;clear hlb hkk v0 v1 n1 Bp;obtain⟨cJ,hk2,nI⟩:=hkb;go_upto_if 117 with(fail)
    go_cut [19] (fun v wx=>v= .int .i64 k∧bw=wx)
    case first=>
     as_aux_lemma=>
     by_cases hzl:z<fC
     ·have bH:Hid (k=z):=af (by rw [←ko.out];exact if_pos hzl)
      go_wp2_with fail
      go_meet;exact⟨by rw [bH.out],by trivial⟩
     ·have bH:Hid (k=fC):=af (by rw [←ko.out];exact if_neg hzl)
      go_wp2_with fail
      go_meet;exact⟨by rw [bH.out],by trivial⟩
    case rest=>
    obtain⟨rfl,rfl⟩:=hcut;clear zR;have hd:=Below.refl bw.heap.size bw |>.drew;have afP:bw.drew.cell? ⟨az,0,none⟩=some (.int .i64 eO):=(Bq.out.below hd).cell 0;have zx:=af (Bq.out.below hd);have Br:=af (rE.out.below hd);have E8:=af oO.out.drew;have XF:=af (Mj.out.below hd);have Bs:=af (Om Br.out wC.out (by have:=dX.out.le;omega) aq.out (dX.out.each L (List.mem_of_getElem? aq.out)) o eO k);clear l0 l1 hd Bq rE Mj oO Mi;go_wp2_with fail
    refine cF (S:=fun w'=>w'.cell? ⟨az,0,none⟩=some (.int .i64 eO)) (by kernel_rfl) afP (fun hHeld=>?_);refine ai 0 ?_;refine ai 1 ?_;refine ai 2 ?_;refine ai 3 ?_;refine ai 4 ?_;refine ai 5 ?_;refine ai 6 ?_;refine ai 7 ?_;refine ai 8 ?_;refine ai 9 ?_;generalize bw.drew=bW at*;refine aR 10 fun K hK=>?_;go_simp;go_at_call 136
    refine Bs.out.mono ?_;rintro e bG ⟨vf,rfl,gm,XG,kr⟩;have Mm:∀g,g∈Q→bV bW g 181:=fun g hg=>(Br.out.ow hg).1;have Mn:=zx.out.keeps kr (fun e=>zx.out.aC.ne (Mm _ e) (by decide) rfl);have I6:=XF.out.keep kr (fun g hg e=>hg.ne (Mm _ e) (by decide) rfl) (fun g hg e=>hg.ne (Mm _ e) (by decide) rfl);have XH:=E8.out.trans kr;obtain⟨fa,nW,rfl⟩:=gm.form;have xO:=af (gm.base E8.out.size);have XI:=af XG;have XJ:=af I6;have sM:=af XH;refine hK.out _ _ (Mn.cell 0) (fun hHeld=>?_);clear hK K gm XG kr Mm I6 XH zx Br E8 XF Bs;obtain⟨iV,hfl⟩:∃iV,tZ i o eO (qW p L o eO k)=iV:=⟨_,rfl⟩;obtain⟨fn,hfn⟩:∃fn,iV.length=fn:=⟨_,rfl⟩;rw [hfl]at xO⊢;rw [hfn]at xO⊢;have iY:=af hfl;have pQ:=af hfn;clear hfl hfn;refine ai 11 ?_;refine aR 12 fun K hK=>?_;refine afQ rfl 130 rfl rfl ?_;have hba:=Below.aA bG (.cells #[.int .i64 eO,.int .i64 k,.bool false,.slice fa fn nW] 206);have gR:aj (bG.alloc (.cells #[.int .i64 eO,.int .i64 k,.bool false,.slice fa fn nW] 206)) bG.heap.size 206 (⟨eO,k,false,fa,fn,nW⟩:p7).cells.toArray:=aj.new _ _ _;have XK:=af (xO.out.below hba);have Mp:=af (XI.out.below hba);have afR:=XJ.out.below hba;have FO:Hid (aD (fun g=>g∈Q) w (bG.alloc (.cells #[.int .i64 eO,.int .i64 k,.bool false,.slice fa fn nW] 206))):=af (sM.out.trans (Below.keeps hba));refine hK.out _ _ ((Mn.below hba).cell 0) (fun hHeld=>?_);have QO:=Mn.below hba;clear hK K hba xO XI XJ sM Mn;generalize bG.alloc (.cells _ 206)=yS at*;obtain⟨dL,DB,DC,I7⟩:=afR;refine aR 13 fun K hK=>?_;refine FP.step rfl (.tmp 119) (.tmp 131) rfl w.heap.size _ dL rfl DB bG.heap.size ⟨eO,k,false,fa,fn,nW⟩ rfl gR.lt gR.fU (by rw [DC,ym.out];omega) FO.out.size ?_;intro v' BX yT xN BZ;have iU:=fe xN;have bI:=dR DB;have dO:=cx DB;have QR:=af (SO.push DC I7 yT iU bI ⟨rfl,rfl,rfl,XK.out⟩ (t:=⟨eO,k,false,iV⟩));have QS:=af (Mp.out.pR iU bI hM.out dO);have g4:Hid (aD (fun g=>g∈Q) w BX):=af (FO.out.step iU (fun x hx e=>absurd (dO x e) (by omega)));have XL:=QO.keeps iU (fun e=>QO.aC.ne (bI _ e) (by decide) rfl);refine hK.out _ _ (XL.cell 0) (fun hHeld=>?_);clear hK K;refine gx _ _ _ _ ?_;refine eB 14 ?_;refine wpAnyH_done (by kernel_rfl) ?_ _;obtain⟨f',hf',nR⟩:=XM hpos FM pq.out
    have hst:Mk p S' i o ⟨eO,fC,lc⟩ z=(S'.set i (ox L (qW p L o eO k)),⟨eO,k,false,iV⟩):=by
     unfold Mk nA;dsimp only;rw [ko.out,List.getD_eq_getElem?_getD,aq.out,Option.getD_some,iY.out]
    rw [hst]at nR;have zS:=af nR;have afS:=af (dX.out.set (i:=i) ((dX.out.each L (List.mem_of_getElem? aq.out)).ox (qW p L o eO k)));generalize S'.set i (ox L (qW p L o eO k))=mI at*;have A4:tn+1=(T++ [(⟨eO,k,false,iV⟩:mq)]).length:=by rw [List.length_append,ym.out];rfl
    have QT:=af A4;have ajo:=af hf';have XN:(z-k).toNat≤f':=by omega
    have afT:=af XN;clear yT xN BZ iU bI dO XL hHeld QO XK Mp FO gR DB DC I7 nR hst A4 hf' XN FM;go_wp2_with fail
    go_roundw
    case rel=>
     refine⟨mI,T++ [⟨eO,k,false,iV⟩],z-k,f',rfl,by omega,by omega,by rw [←QT.out];omega,afT.out,?_,afS.out,QR.out,QS.out,g4.out⟩;rw [cM.out,zS.out,List.append_assoc];rfl
    case measure=>simp [RowKit.intOf];omega
   |false=>
    rw [if_neg (by simp)]at pq;cases im with
    |false=>
     rw [if_pos rfl]at pq;have dD:=af (afU (f:=f) pq.out);clear l0 l1 v0 v1 n1 Bq Bp Mi FM;go_wp2_with fail
     go_ret2
     rw [cM.out,dD.out];refine⟨_,rfl,?_,rE.out,oO.out⟩;rw [List.append_nil];exact Mj.out
    |true=>
     rw [if_neg (by simp)]at pq
     as_aux_lemma=>
     have zb:(mr p S' i side).2=true:=by
      have h1:=mR.out;unfold FN at h1;simp only [Bool.and_eq_true]at h1;exact h1.1
     have zK:=Pp wC.out dX.out (Po zb)
     have XO:(pp (lF p (dF S') i (3-side)) (3-side)).1=⟨iw,uD,i0,s0,i1,s1⟩:=by
      have:=Mh.out;unfold mr at this;rw [this]
     rw [XO]at zK;obtain⟨mX,XP,hq2⟩:=zK;dsimp only at XP hq2;obtain⟨n0,x0,e1,hx0,hs0,_,_⟩:=mX.a;obtain⟨jQ,x1,e2,hx1,hs1,_,_⟩:=mX.b;dsimp only at e1 e2 hs0 hs1
     obtain⟨k0,jR,bE⟩:∃k:Nat,k<2∧s0=(k:Int)+1:=by
      rcases hs0 with h|h
      ·exact⟨0,by omega,by omega⟩
      ·exact⟨1,by omega,by omega⟩
     obtain⟨k1,uZ,cw⟩:∃k:Nat,k<2∧s1=(k:Int)+1:=by
      rcases hs1 with h|h
      ·exact⟨0,by omega,by omega⟩
      ·exact⟨1,by omega,by omega⟩
     subst e1;subst e2;subst bE;subst cw;have hkb:=Ml (ah:=z) (x:=uD) (by omega) XP;obtain⟨k,hkk⟩:∃k,uz z uD=k:=⟨_,rfl⟩;rw [hkk]at hkb;have ko:=af hkk;obtain⟨cJ,hk2,nI⟩:=hkb;have hn0:n0<n:=by have:=dc hx0;rwa [ye.out]at this
     have LY:jQ<n:=by have:=dc hx1;rwa [ye.out]at this
     have uQ:Hid (zy (dF S') n0 ((k0:Int)+1)=x0.ag ((k0:Int)+1)):=af (by unfold zy;rw [Int.toNat_natCast,zD hx0]);have xL:Hid (zy (dF S') jQ ((k1:Int)+1)=x1.ag ((k1:Int)+1)):=af (by unfold zy;rw [Int.toNat_natCast,zD hx1]);have jd:=af hx0;have rX:=af hx1
     have XQ:Hid (Im p S' ⟨iw,uD,n0,(k0:Int)+1,jQ,(k1:Int)+1⟩ z=((nA p (nA p S' n0 ((k0:Int)+1) (x0.ag ((k0:Int)+1)) k).1 jQ ((k1:Int)+1) (x1.ag ((k1:Int)+1)) k).1,⟨iw,k,true,(nA p S' n0 ((k0:Int)+1) (x0.ag ((k0:Int)+1)) k).2++(nA p (nA p S' n0 ((k0:Int)+1) (x0.ag ((k0:Int)+1)) k).1 jQ ((k1:Int)+1) (x1.ag ((k1:Int)+1)) k).2⟩)):=af (by
      unfold Im;dsimp only;rw [ko.out,uQ.out,xL.out,Int.toNat_natCast,Int.toNat_natCast])
     clear zb XO mX hs0 hs1 hkk hx0 hx1 uQ xL l0 l1;go_upto_if 144 with(fail)
     go_cut [20] (fun v wx=>v= .int .i64 k∧bw=wx)
     case first=>
      as_aux_lemma=>
      by_cases hzl:z<uD
      ·have bH:Hid (k=z):=af (by rw [←ko.out];exact if_pos hzl)
       go_wp2_with fail
       go_meet;exact⟨by rw [bH.out],by trivial⟩
      ·have bH:Hid (k=uD):=af (by rw [←ko.out];exact if_neg hzl)
       go_wp2_with fail
       go_meet;exact⟨by rw [bH.out],by trivial⟩
     case rest=>
     obtain⟨rfl,rfl⟩:=hcut;have hba:=Below.aA bw (.cells #[.int .i64 iw,.int .i64 k,.bool true,.slice none 0 0] 206);have yA:Hid (aj (bw.alloc (.cells #[.int .i64 iw,.int .i64 k,.bool true,.slice none 0 0] 206)) bw.heap.size 206 #[.int .i64 iw,.int .i64 k,.bool true,.slice none 0 0]):=af (aj.new _ _ _);have XR:=af (Bp.out.below hba);have XS:=af (Mi.out.below hba);have Br:=af (rE.out.below hba);have oQ:Hid (aD (fun g=>g∈Q) bw (bw.alloc (.cells #[.int .i64 iw,.int .i64 k,.bool true,.slice none 0 0] 206))):=af (Below.keeps hba);have XT:=af rE.out;have cE:Hid (w.heap.size≤bw.heap.size):=af oO.out.size;clear hba Bp Mi rE Bq n1;go_upto_region 23 with(fail)
     obtain⟨gs,FQ⟩:∃x,bw.heap.size=x:=⟨_,rfl⟩;have bB:=af FQ;rw [FQ]at yA cE⊢;clear FQ v0 v1;generalize bw.alloc (.cells _ 206)=bW at*;obtain⟨dV,I8⟩:∃F,nA p S' n0 ((k0:Int)+1) (x0.ag ((k0:Int)+1)) k=F:=⟨_,rfl⟩;obtain⟨j5,I9⟩:∃F,nA p dV.1 jQ ((k1:Int)+1) (x1.ag ((k1:Int)+1)) k=F:=⟨_,rfl⟩;rw [I8,I9]at XQ;have AK:=af I8;have jY:=af I9;have QU:Hid (dJ p dV.1):=af (by rw [←I8];exact dX.out.qD _ _ _ _);have Mq:Hid (dJ p j5.1):=af (by rw [←I9];exact QU.out.qD _ _ _ _);have XU:Hid (dV.2.length≤250):=af (by rw [←I8];unfold nA;dsimp only;exact Nat.le_trans (K7 _ _ _ _) (by rw [K4];exact Nat.le_trans (HI _ _ _) (K2 (dX.out.at_ n0) _ _).1));have XV:Hid (j5.2.length≤250):=af (by rw [←I9];unfold nA;dsimp only;exact Nat.le_trans (K7 _ _ _ _) (by rw [K4];exact Nat.le_trans (HI _ _ _) (K2 (QU.out.at_ jQ) _ _).1));clear I8 I9;go_wp2_with fail
     go_loopw [22] (fun s w'=>∃m:Nat,s= .int .i64 m∧m≤2∧(∃a nn c,aj w' gs 206 #[.int .i64 iw,.int .i64 k,.bool true,.slice a nn c]∧pg.Row w' gs (.slice a nn c) (afM m dV j5))∧ek W w' ps p Q (afN m S' dV j5)∧aD (fun g=>g∈Q) bw w'∧aj w' cu 192 #[.int .i64 iw,.int .i64 uD,.int .i64 n0,.int .i64 ((k0:Int)+1),.int .i64 jQ,.int .i64 ((k1:Int)+1)]∧pV.Row w' w3.heap.size (.slice ta n tc) (dF S')) (fun s _=>2-(RowKit.intOf s).toNat)
     case atStart=>exact⟨0,rfl,by omega,⟨none,0,0,yA.out,aY.Row.nil _ _⟩,Br.out,oQ.out,XR.out,XS.out⟩
     case round=>
      clear yA Br oQ XR XS;obtain⟨m,rfl,hm,⟨sa,sn,sc,FQ,hfr⟩,hsb,hkp,Pt,sS⟩:=hrel;obtain⟨wy,rfl⟩:∃bk:World,bk=wr:=⟨_,rfl⟩;have yA:=af FQ;have rf:=af hfr;have yB:=af hsb;have sM:=af hkp;have zT:=af Pt;have Ja:=af sS;clear FQ hfr hsb hkp Pt sS;have iB:m=0∨m=1∨m=2:=by omega
      rcases iB with rfl|rfl|rfl
      ·as_aux_lemma=>
       have rf:=af (show pg.Row wy gs (.slice sa sn sc) ([])from rf.out);have yB:=af (show ek W wy ps p Q (S')from yB.out);have c2:wy.cell? ⟨cu,2,none⟩=some (.int .i64 n0):=zT.out.cell 2;have c3:wy.cell? ⟨cu,3,none⟩=some (.int .i64 ((k0:Int)+1)):=zT.out.cell 3;have hba:=Below.aA wy (.cells #[.int .i64 n0,.int .i64 ((k0:Int)+1)] 189);have fc:Hid (aj (wy.alloc (.cells #[.int .i64 n0,.int .i64 ((k0:Int)+1)] 189)) wy.heap.size 189 #[.int .i64 n0,.int .i64 ((k0:Int)+1)]):=af (aj.new _ _ _);have hbd:=hba.drew;have zU:=af (yA.out.below hbd);have Jb:=af (rf.out.below hbd);have Hd:=af (yB.out.below hbd);have zf:Hid (aD (fun g=>g∈Q) bw (wy.alloc (.cells #[.int .i64 n0,.int .i64 ((k0:Int)+1)] 189)).drew):=af (sM.out.trans (Below.keeps hbd));have DD:=af (zT.out.below hbd);have DE:=af (Ja.out.below hbd);have uE:=af (fc.out.below (Below.refl _ _).drew);clear hba hbd yA rf yB sM zT Ja fc;go_upto_region 27 with(fail)
       clear c2 c3;obtain⟨aM,jA⟩:∃x,wy.heap.size=x:=⟨_,rfl⟩;rw [jA]at uE⊢;clear jA;generalize QV:wy.alloc (.cells _ 189)=bG at*;clear QV;obtain⟨gt,afV,oy,_,jh⟩:=DE.out.at_ _ _ jd.out;injection oy with rY Jc Jd;subst rY;subst Jd;clear Jc
       have hH:bG.drew.cell? ⟨gt,n0*6+2+k0,none⟩=some (.int .i64 (x0.ag ((k0:Int)+1))):=by
        have:=jh (2+k0) (.int .i64 (x0.ag ((k0:Int)+1))) (by have:=x0.Fe jR;rwa [List.getElem?_toArray]at this)
        rwa [show n0*pV.m+(2+k0)=n0*6+2+k0 by show n0*6+(2+k0)=_;omega]at this
       have q2:Hid (∀wv,pV.Row wv w3.heap.size (.slice (some ⟨gt,0,none⟩) n tc) (dF S')→wv.cell? ⟨gt,n0*6+2+k0,none⟩=some (.int .i64 (x0.ag ((k0:Int)+1)))):=af fun wv hv=>by
        obtain⟨gt',afW,oy,_,jh⟩:=hv.at_ _ _ jd.out;injection oy with rY Jc Jd;injection rY with rY;injection rY with rY;subst rY;have:=jh (2+k0) (.int .i64 (x0.ag ((k0:Int)+1))) (by have:=x0.Fe jR;rwa [List.getElem?_toArray]at this)
        rwa [show n0*pV.m+(2+k0)=n0*6+2+k0 by show n0*6+(2+k0)=_;omega]at this
       clear jh;obtain⟨ct,hpx⟩:∃x,x0.ag ((k0:Int)+1)=x:=⟨_,rfl⟩;have afX:=af hpx;rw [hpx]at hH q2;have QW:Hid (nA p (S') n0 ((k0:Int)+1) ct k=dV):=af (by rw [←hpx];exact AK.out);have d3:bG.drew.cell? ⟨gs,3,none⟩=some (.slice sa sn sc):=zU.out.cell 3;have e0:bG.drew.cell? ⟨aM,0,none⟩=some (.int .i64 n0):=uE.out.cell 0;have e1:bG.drew.cell? ⟨aM,1,none⟩=some (.int .i64 ((k0:Int)+1)):=uE.out.cell 1;clear hpx;have uw:(n0:Int)<(n:Int):=by omega
       have afY:(k0:Int)<2:=by omega
       go_wp2_with fail
       refine cF (S:=fun w'=>w'.cell? ⟨gs,3,none⟩=some (.slice sa sn sc)∧w'.cell? ⟨aM,0,none⟩=some (.int .i64 n0)∧w'.cell? ⟨aM,1,none⟩=some (.int .i64 ((k0:Int)+1))∧w'.cell? ⟨gt,n0*6+2+k0,none⟩=some (.int .i64 ct)) (by kernel_rfl) ⟨d3,e0,e1,hH⟩ (fun hHeld=>?_);refine ai 0 ?_;refine ai 1 ?_;refine ai 2 ?_;refine ai 3 ?_;refine ai 4 ?_;refine ai 5 ?_;refine ai 6 ?_;refine ai 7 ?_;refine ai 8 ?_;refine ai 9 ?_;refine ai 10 ?_;refine ai 11 ?_;refine ai 12 ?_;rw [show IntKind.i64.wrap (k0:Int)=(k0:Int)from IntWalk.i64_in _ (by omega)];refine ai 13 ?_;refine ai 14 ?_;refine ai 15 ?_;refine ai 16 ?_;refine ai 17 ?_;generalize bG.drew=wa at*;have QX:(S').length=n:=by rw [←Hd.out.len,wD.out]
       obtain⟨eE,vo⟩:∃L,(S')[n0]? =some L:=⟨_,List.getElem?_eq_getElem (by omega)⟩;have zP:=dX.out.each eE (List.mem_of_getElem? vo);have Bs:=af (Om Hd.out wC.out (by omega) vo zP ((k0:Int)+1) ct k);have hgd:(S').getD n0 []=eE:=zD vo;have zV:Hid (((S').set n0 (ox eE (qW p eE ((k0:Int)+1) ct k)),tZ n0 ((k0:Int)+1) ct (qW p eE ((k0:Int)+1) ct k))=dV):=af (by rw [←QW.out];unfold nA;rw [hgd]);clear QX vo zP hgd d3 e0 e1 hH;refine aR 18 fun K hK=>?_;go_simp;go_at_call 136
       refine Bs.out.mono ?_;rintro e wb ⟨vf,rfl,gm,DF,hkb⟩;have uF:∀g,g∈Q→bV wa g 181:=fun g hg=>(Hd.out.ow hg).1;have zW:=zU.out.keeps hkb (fun e=>zU.out.aC.ne (uF _ e) (by decide) rfl);have xd:=uE.out.keeps hkb (fun e=>uE.out.aC.ne (uF _ e) (by decide) rfl);have DG:=DD.out.keeps hkb (fun e=>DD.out.aC.ne (uF _ e) (by decide) rfl);have DH:=DE.out.keep hkb (fun g hg e=>hg.ne (uF _ e) (by decide) rfl);have zX:=Jb.out.keep hkb (fun g hg e=>hg.ne (uF _ e) (by decide) rfl);have DI:=zf.out.trans hkb;have e1:=congrArg Prod.fst zV.out;have e2:=congrArg Prod.snd zV.out;dsimp only at e1 e2;rw [e1]at DF;rw [e2]at gm;obtain⟨fa,nW,iN,Je,Jf⟩:=gm.rd;obtain⟨fn,hfn⟩:∃n,dV.2.length=n:=⟨_,rfl⟩;have pQ:=af hfn
       have Jg:∀ad,fa=some ad→∃b off,ad=⟨b,off,none⟩:=fun ad h=>by
        obtain⟨a9,kT,dU,h9,_⟩:=gm.sl;rw [iN]at dU;injection dU with dU;exact h9.2.1 ad (by rw [←dU];exact h)
       rw [hfn]at iN;subst iN;refine hK.out _ _ ⟨zW.cell 3,xd.cell 0,xd.cell 1,q2.out _ DH⟩ (fun hHeld=>?_);clear hK K e1 e2 uF gm hkb Bs zV zU uE DD DE Jb zf hHeld;have Jh:=af DF;clear DF Hd;refine aR 19 fun K hK=>?_;refine pg.steps rfl (.tmp 159) (.tmp 176) rfl gs (.slice sa sn sc) ([]) rfl zX fa fn nW dV.2 hfn rfl Je Jf Jg (by have h1:=XU.out;have h2:=XV.out;(try simp only [List.length_nil]);omega) (by have:=DI.size;rw [bB.out]at this;exact this) ?_;intro v' wc hrc uq QY;have hkc:=fe uq;have bI:=dR zX;have dO:=cx zX;have px:=zW.keeps hkc (fun e=>zW.aC.ne (bI _ e) (by decide) rfl);have DJ:=xd.keeps hkc (fun e=>xd.aC.ne (bI _ e) (by decide) rfl);have DK:=DG.keeps hkc (fun e=>DG.aC.ne (bI _ e) (by decide) rfl);have DL:=DH.keep hkc (fun g hg e=>hg.ne (bI _ e) (by decide) rfl);have Ji:=af (Jh.out.pR hkc bI (Nat.le_trans hM.out cE.out) dO);have nc:aD (fun g=>g∈Q) bw wc:=DI.step hkc (fun x hx e=>absurd (dO x e) (by have:=bB.out;omega));obtain⟨va,vc,dl⟩:=hrc.form;obtain⟨vn,rD⟩:∃n,(([])++dV.2).length=n:=⟨_,rfl⟩;rw [rD]at dl;subst dl;have Bt:=af rD;refine hK.out _ _ ⟨px.cell 3,DJ.cell 0,DJ.cell 1,q2.out _ DL⟩ (fun hHeld=>?_);clear hK K;have f3:=px.frozen 3;have d3:=px.cell 3;have iJ:=bS wc gs 3 (.slice va vn vc);have DM:=px.aQ 3 (.slice va vn vc);simp only [List.setIfInBounds_toArray,List.set_cons_zero,List.set_cons_succ]at DM;have QZ:=af DM;have Q0:=af (DK.keeps iJ (fun e=>DK.aC.ne px.aC (by decide) e));have Q1:=af (DL.keep iJ (fun g hg e=>hg.ne px.aC (by decide) e));have Q2:=af (hrc.keep iJ (fun g hg e=>hg.ne px.aC (by decide) e));have Q3:=af (Ji.out.pR (t:=206) (B:=W.heap.size) iJ (fun g e=>by have e2:g=gs:=e;rw [e2];exact px.aC) (Nat.le_refl _) (fun g e=>by have e2:g=gs:=e;rw [e2];exact Nat.le_trans hM.out cE.out) (by decide));have Q4:Hid (aD (fun g=>g∈Q) bw (wc.setCell ⟨gs,3,none⟩ (.slice va vn vc))):=af (nc.step iJ (fun x hx e=>absurd hx (by have e2:x=gs:=e;have:=bB.out;omega)));clear uq QY hkc bI dO zW xd DG DH zX DI DJ DK DL Jh Ji nc hrc iJ DM rD hfn Je Jf Jg;refine ai 20 ?_;clear hHeld;refine cO 21 fun K hK=>?_;go_simp;refine hK.out _ _ ?_;clear hK K d3 f3;generalize wc.setCell ⟨gs,3,none⟩ (.slice va vn vc)=wd at*;clear px;go_wp2_with fail
       go_roundw
       case rel=>exact⟨1,rfl,by omega,⟨va,vn,vc,QZ.out,Q2.out⟩,Q3.out,Q4.out,Q0.out,Q1.out⟩
       case measure=>simp [RowKit.intOf]
      ·as_aux_lemma=>
       have rf:=af (show pg.Row wy gs (.slice sa sn sc) (dV.2)from rf.out);have yB:=af (show ek W wy ps p Q (dV.1)from yB.out);have c2:wy.cell? ⟨cu,4,none⟩=some (.int .i64 jQ):=zT.out.cell 4;have c3:wy.cell? ⟨cu,5,none⟩=some (.int .i64 ((k1:Int)+1)):=zT.out.cell 5;have hba:=Below.aA wy (.cells #[.int .i64 jQ,.int .i64 ((k1:Int)+1)] 189);have fc:Hid (aj (wy.alloc (.cells #[.int .i64 jQ,.int .i64 ((k1:Int)+1)] 189)) wy.heap.size 189 #[.int .i64 jQ,.int .i64 ((k1:Int)+1)]):=af (aj.new _ _ _);have hbd:=hba.drew;have zU:=af (yA.out.below hbd);have Jb:=af (rf.out.below hbd);have Hd:=af (yB.out.below hbd);have zf:Hid (aD (fun g=>g∈Q) bw (wy.alloc (.cells #[.int .i64 jQ,.int .i64 ((k1:Int)+1)] 189)).drew):=af (sM.out.trans (Below.keeps hbd));have DD:=af (zT.out.below hbd);have DE:=af (Ja.out.below hbd);have uE:=af (fc.out.below (Below.refl _ _).drew);clear hba hbd yA rf yB sM zT Ja fc;go_upto_region 27 with(fail)
       clear c2 c3;obtain⟨aM,jA⟩:∃x,wy.heap.size=x:=⟨_,rfl⟩;rw [jA]at uE⊢;clear jA;generalize QV:wy.alloc (.cells _ 189)=bG at*;clear QV;obtain⟨gt,afV,oy,_,jh⟩:=DE.out.at_ _ _ rX.out;injection oy with rY Jc Jd;subst rY;subst Jd;clear Jc
       have hH:bG.drew.cell? ⟨gt,jQ*6+2+k1,none⟩=some (.int .i64 (x1.ag ((k1:Int)+1))):=by
        have:=jh (2+k1) (.int .i64 (x1.ag ((k1:Int)+1))) (by have:=x1.Fe uZ;rwa [List.getElem?_toArray]at this)
        rwa [show jQ*pV.m+(2+k1)=jQ*6+2+k1 by show jQ*6+(2+k1)=_;omega]at this
       have q2:Hid (∀wv,pV.Row wv w3.heap.size (.slice (some ⟨gt,0,none⟩) n tc) (dF S')→wv.cell? ⟨gt,jQ*6+2+k1,none⟩=some (.int .i64 (x1.ag ((k1:Int)+1)))):=af fun wv hv=>by
        obtain⟨gt',afW,oy,_,jh⟩:=hv.at_ _ _ rX.out;injection oy with rY Jc Jd;injection rY with rY;injection rY with rY;subst rY;have:=jh (2+k1) (.int .i64 (x1.ag ((k1:Int)+1))) (by have:=x1.Fe uZ;rwa [List.getElem?_toArray]at this)
        rwa [show jQ*pV.m+(2+k1)=jQ*6+2+k1 by show jQ*6+(2+k1)=_;omega]at this
       clear jh;obtain⟨ct,hpx⟩:∃x,x1.ag ((k1:Int)+1)=x:=⟨_,rfl⟩;have afX:=af hpx;rw [hpx]at hH q2;have QW:Hid (nA p (dV.1) jQ ((k1:Int)+1) ct k=j5):=af (by rw [←hpx];exact jY.out);have d3:bG.drew.cell? ⟨gs,3,none⟩=some (.slice sa sn sc):=zU.out.cell 3;have e0:bG.drew.cell? ⟨aM,0,none⟩=some (.int .i64 jQ):=uE.out.cell 0;have e1:bG.drew.cell? ⟨aM,1,none⟩=some (.int .i64 ((k1:Int)+1)):=uE.out.cell 1;clear hpx;have uw:(jQ:Int)<(n:Int):=by omega
       have afY:(k1:Int)<2:=by omega
       go_wp2_with fail
       refine cF (S:=fun w'=>w'.cell? ⟨gs,3,none⟩=some (.slice sa sn sc)∧w'.cell? ⟨aM,0,none⟩=some (.int .i64 jQ)∧w'.cell? ⟨aM,1,none⟩=some (.int .i64 ((k1:Int)+1))∧w'.cell? ⟨gt,jQ*6+2+k1,none⟩=some (.int .i64 ct)) (by kernel_rfl) ⟨d3,e0,e1,hH⟩ (fun hHeld=>?_);refine ai 0 ?_;refine ai 1 ?_;refine ai 2 ?_;refine ai 3 ?_;refine ai 4 ?_;refine ai 5 ?_;refine ai 6 ?_;refine ai 7 ?_;refine ai 8 ?_;refine ai 9 ?_;refine ai 10 ?_;refine ai 11 ?_;refine ai 12 ?_;rw [show IntKind.i64.wrap (k1:Int)=(k1:Int)from IntWalk.i64_in _ (by omega)];refine ai 13 ?_;refine ai 14 ?_;refine ai 15 ?_;refine ai 16 ?_;refine ai 17 ?_;generalize bG.drew=wa at*;have QX:(dV.1).length=n:=by rw [←Hd.out.len,wD.out]
       obtain⟨eE,vo⟩:∃L,(dV.1)[jQ]? =some L:=⟨_,List.getElem?_eq_getElem (by omega)⟩;have zP:=QU.out.each eE (List.mem_of_getElem? vo);have Bs:=af (Om Hd.out wC.out (by omega) vo zP ((k1:Int)+1) ct k);have hgd:(dV.1).getD jQ []=eE:=zD vo;have zV:Hid (((dV.1).set jQ (ox eE (qW p eE ((k1:Int)+1) ct k)),tZ jQ ((k1:Int)+1) ct (qW p eE ((k1:Int)+1) ct k))=j5):=af (by rw [←QW.out];unfold nA;rw [hgd]);clear QX vo zP hgd d3 e0 e1 hH;refine aR 18 fun K hK=>?_;go_simp;go_at_call 136
       refine Bs.out.mono ?_;rintro e wb ⟨vf,rfl,gm,DF,hkb⟩;have uF:∀g,g∈Q→bV wa g 181:=fun g hg=>(Hd.out.ow hg).1;have zW:=zU.out.keeps hkb (fun e=>zU.out.aC.ne (uF _ e) (by decide) rfl);have xd:=uE.out.keeps hkb (fun e=>uE.out.aC.ne (uF _ e) (by decide) rfl);have DG:=DD.out.keeps hkb (fun e=>DD.out.aC.ne (uF _ e) (by decide) rfl);have DH:=DE.out.keep hkb (fun g hg e=>hg.ne (uF _ e) (by decide) rfl);have zX:=Jb.out.keep hkb (fun g hg e=>hg.ne (uF _ e) (by decide) rfl);have DI:=zf.out.trans hkb;have e1:=congrArg Prod.fst zV.out;have e2:=congrArg Prod.snd zV.out;dsimp only at e1 e2;rw [e1]at DF;rw [e2]at gm;obtain⟨fa,nW,iN,Je,Jf⟩:=gm.rd;obtain⟨fn,hfn⟩:∃n,j5.2.length=n:=⟨_,rfl⟩;have pQ:=af hfn
       have Jg:∀ad,fa=some ad→∃b off,ad=⟨b,off,none⟩:=fun ad h=>by
        obtain⟨a9,kT,dU,h9,_⟩:=gm.sl;rw [iN]at dU;injection dU with dU;exact h9.2.1 ad (by rw [←dU];exact h)
       rw [hfn]at iN;subst iN;refine hK.out _ _ ⟨zW.cell 3,xd.cell 0,xd.cell 1,q2.out _ DH⟩ (fun hHeld=>?_);clear hK K e1 e2 uF gm hkb Bs zV zU uE DD DE Jb zf hHeld;have Jh:=af DF;clear DF Hd;refine aR 19 fun K hK=>?_;refine pg.steps rfl (.tmp 159) (.tmp 176) rfl gs (.slice sa sn sc) (dV.2) rfl zX fa fn nW j5.2 hfn rfl Je Jf Jg (by have h1:=XU.out;have h2:=XV.out;(try simp only [List.length_nil]);omega) (by have:=DI.size;rw [bB.out]at this;exact this) ?_;intro v' wc hrc uq QY;have hkc:=fe uq;have bI:=dR zX;have dO:=cx zX;have px:=zW.keeps hkc (fun e=>zW.aC.ne (bI _ e) (by decide) rfl);have DJ:=xd.keeps hkc (fun e=>xd.aC.ne (bI _ e) (by decide) rfl);have DK:=DG.keeps hkc (fun e=>DG.aC.ne (bI _ e) (by decide) rfl);have DL:=DH.keep hkc (fun g hg e=>hg.ne (bI _ e) (by decide) rfl);have Ji:=af (Jh.out.pR hkc bI (Nat.le_trans hM.out cE.out) dO);have nc:aD (fun g=>g∈Q) bw wc:=DI.step hkc (fun x hx e=>absurd (dO x e) (by have:=bB.out;omega));obtain⟨va,vc,dl⟩:=hrc.form;obtain⟨vn,rD⟩:∃n,((dV.2)++j5.2).length=n:=⟨_,rfl⟩;rw [rD]at dl;subst dl;have Bt:=af rD;refine hK.out _ _ ⟨px.cell 3,DJ.cell 0,DJ.cell 1,q2.out _ DL⟩ (fun hHeld=>?_);clear hK K;have f3:=px.frozen 3;have d3:=px.cell 3;have iJ:=bS wc gs 3 (.slice va vn vc);have DM:=px.aQ 3 (.slice va vn vc);simp only [List.setIfInBounds_toArray,List.set_cons_zero,List.set_cons_succ]at DM;have QZ:=af DM;have Q0:=af (DK.keeps iJ (fun e=>DK.aC.ne px.aC (by decide) e));have Q1:=af (DL.keep iJ (fun g hg e=>hg.ne px.aC (by decide) e));have Q2:=af (hrc.keep iJ (fun g hg e=>hg.ne px.aC (by decide) e));have Q3:=af (Ji.out.pR (t:=206) (B:=W.heap.size) iJ (fun g e=>by have e2:g=gs:=e;rw [e2];exact px.aC) (Nat.le_refl _) (fun g e=>by have e2:g=gs:=e;rw [e2];exact Nat.le_trans hM.out cE.out) (by decide));have Q4:Hid (aD (fun g=>g∈Q) bw (wc.setCell ⟨gs,3,none⟩ (.slice va vn vc))):=af (nc.step iJ (fun x hx e=>absurd hx (by have e2:x=gs:=e;have:=bB.out;omega)));clear uq QY hkc bI dO zW xd DG DH zX DI DJ DK DL Jh Ji nc hrc iJ DM rD hfn Je Jf Jg;refine ai 20 ?_;clear hHeld;refine cO 21 fun K hK=>?_;go_simp;refine hK.out _ _ ?_;clear hK K d3 f3;generalize wc.setCell ⟨gs,3,none⟩ (.slice va vn vc)=wd at*;clear px;go_wp2_with fail
       go_roundw
       case rel=>exact⟨2,rfl,by omega,⟨va,vn,vc,QZ.out,Q2.out⟩,Q3.out,Q4.out,Q0.out,Q1.out⟩
       case measure=>simp [RowKit.intOf]
      ·as_aux_lemma=>
       have I6:=Mj.out.keep sM.out (fun g hg e=>hg.ne (XT.out.ow e).1 (by decide) rfl) (fun g hg e=>hg.ne (XT.out.ow e).1 (by decide) rfl);have Jj:=yA.out;have y0:wy.cell? ⟨gs,0,none⟩=some (.int .i64 iw):=Jj.cell 0;have y1:wy.cell? ⟨gs,1,none⟩=some (.int .i64 k):=Jj.cell 1;have dw:wy.cell? ⟨gs,2,none⟩=some (.bool true):=Jj.cell 2;have mV:wy.cell? ⟨gs,3,none⟩=some (.slice sa sn sc):=Jj.cell 3;have hba:=Below.aA wy (.cells #[.int .i64 iw,.int .i64 k,.bool true,.slice sa sn sc] 206);have dN:Hid (aj (wy.alloc (.cells #[.int .i64 iw,.int .i64 k,.bool true,.slice sa sn sc] 206)) wy.heap.size 206 (⟨iw,k,true,sa,sn,sc⟩:p7).cells.toArray):=af (aj.new _ _ _);have afZ:=af (((show pg.Row wy gs (.slice sa sn sc) (dV.2++j5.2)from rf.out).base cE.out).below hba);have Mp:=af ((show ek W wy ps p Q j5.1 from yB.out).below hba);have FO:Hid (aD (fun g=>g∈Q) w (wy.alloc (.cells #[.int .i64 iw,.int .i64 k,.bool true,.slice sa sn sc] 206))):=af ((oO.out.trans sM.out).trans (Below.keeps hba));obtain⟨dL,DB,DC,I7⟩:=I6.below hba;have Q5:=af DB;have af0:Hid (dL.length+1≤1000000):=af (by rw [DC,ym.out];omega);have Ey:=af DC;have af1:=af I7;obtain⟨f',hf',nR⟩:=XM hpos FM pq.out;rw [XQ.out]at nR;have zS:=af nR;have af2:Hid ((z-k).toNat≤f'):=af (by omega);clear I6 Jj hba DB DC I7 nR hf' FM yA rf yB sM zT Ja
       go_wp2_with (first
        |(at_builtin;go_loud (refine FP.push rfl (.tmp 179) (.tmp 181) rfl w.heap.size _ dL rfl Q5.out wy.heap.size ⟨iw,k,true,sa,sn,sc⟩ rfl dN.out.lt dN.out.fU af0.out FO.out.size ?_)))
       intro v' BX yT xN BZ;have iU:=fe xN;have bI:=dR Q5.out;have dO:=cx Q5.out;have QR:=af (SO.push Ey.out af1.out yT iU bI ⟨rfl,rfl,rfl,afZ.out⟩ (t:=⟨iw,k,true,dV.2++j5.2⟩));have QS:=af (Mp.out.pR iU bI hM.out dO);have g4:Hid (aD (fun g=>g∈Q) w BX):=af (FO.out.step iU (fun x hx e=>absurd (dO x e) (by omega)));have QT:Hid (tn+1=(T++ [(⟨iw,k,true,dV.2++j5.2⟩:mq)]).length):=af (by rw [List.length_append,ym.out];rfl);clear yT xN BZ iU bI dO y0 y1 dw mV;go_wp2_with fail
       go_roundw
       case rel=>
        refine⟨j5.1,T++ [⟨iw,k,true,dV.2++j5.2⟩],z-k,f',rfl,by omega,by omega,by rw [←QT.out];omega,af2.out,?_,Mq.out,QR.out,QS.out,g4.out⟩;rw [cM.out,zS.out,List.append_assoc];rfl
       case measure=>simp [RowKit.intOf];omega
  ·as_aux_lemma=>
   have af3:z=0:=by omega
   have dD:=af (af4 (p:=p) (i:=i) (side:=side) (ag:=ag) (f:=f) (S:=S') (ah:=z) (by omega));clear af3 FM;go_wp2_with fail
   go_ret2
   rw [cM.out,dD.out];refine⟨_,rfl,?_,H1.out,DA.out⟩;rw [List.append_nil];exact bK.out
end
end Go.Proofs.YtmaijkoopjocdaaGreat
