import Derived.Test.YtmaijkoopjocdaaGreatKT31
set_option maxRecDepth 100000
set_option maxHeartbeats 64000000
namespace Go.Proofs.YtmaijkoopjocdaaGreat
open Go.RowKit Go.Lib
theorem ab1 {w:World} {ops:Array Oper} {o:Oper} {a:Act} {K:Act→World→Prop} {Q:Exit→Act→World→Prop} {E:Prop} {f0 f1 f2 f3 f4 f5:Int} (hgd:o.guard=none) (t:Nat)
 (ho:o.op= .buildSlice 204 1 #[(0,.tmp t)]) (hx:a.tmps[t]?.getD undef= .agg #[.int .i64 f0,.int .i64 f1,.int .i64 f2,.int .i64 f3,.int .i64 f4,.int .i64 f5])
 (h:K (a.put o.dst (.slice (some ⟨w.heap.size,0,none⟩) 1 1)) (w.alloc (.cells #[.int .i64 f0,.int .i64 f1,.int .i64 f2,.int .i64 f3,.int .i64 f4,.int .i64 f5] 208))):
 if Region.wanted o (yielded ops a.tmps)=true then Oper.wp Tryz.prog o a w K Q else E:=by
 have hw:Region.wanted o (yielded ops a.tmps)=true:=by simp [Region.wanted,hgd]
 rw [if_pos hw];unfold Oper.wp execOp;simp only [ho];go_simp;exact h
section
variable {W w w':World} {ps pb:Nat} {p:Prod} {Q:List Nat} {S:List (List ay)} {L L':List ay}
theorem ek.pR {F:Nat→Prop} {t:TypeId} {B:Nat} (h:ek W w ps p Q S) (hk:aD F w w') (hF:∀g,F g→bV w g t) (hB:W.heap.size≤B) (hb:∀g,F g→B≤g) (ht:t≠129∧t≠134∧t≠181∧t≠139:=by decide):ek W w' ps p Q S:=by
 obtain⟨a,c,h1,h2⟩:=h.box;have hne:∀{g:Nat} {t':TypeId},bV w g t'→t≠t'→¬F g:=fun hg hn e=>hg.ne (hF _ e) (Ne.symm hn) rfl;refine⟨⟨a,c,h1.keeps hk (hne h1.aC ht.1),h2.keep hk (fun g hg=>hne hg ht.2.1)⟩,h.len,h.nd,fun i pb L hq hs=>?_,h.pv,h.base,h.aF.trans (hk.below (fun g e=>Nat.le_trans hB (hb g e)) h.aF.size)⟩;have hr:=h.CL i pb L hq hs;exact hr.keep hk (hne hr.aC ht.2.2.1) (fun g hg=>hne hg ht.2.2.2) (fun g e=>Nat.le_trans hB (hb g e))
theorem ab2 {α:Type} {l:List α} {i:Nat} {x:α} (h:l[i]? =some x):l.set i x=l:=by
 obtain⟨h1,h2⟩:=lq h;rw [←h2,List.set_getElem_self]
theorem ab3 {α β:Type} {l:List α} {m:List β} {k:Nat} {x:α} {y:β} (h1:l[k]? =some x) (h2:m[k]? =some y):(l.zip m)[k]? =some (x,y):=by
 rw [List.getElem?_zip_eq_some];exact⟨h1,h2⟩
theorem Om (h:ek W w ps p Q S) (hz:cz p=0) (hn:S.length≤100) {i:Nat} (hs:S[i]? =some L) (hL:jm L) (side ag q:Int):
 Calls Tryz.prog 136 #[.pointer (some ⟨ps,0,none⟩),.int .i64 i,.int .i64 side,.int .i64 ag,.int .i64 q] w fun e w'=>∃v,e= .returned v∧pg.Row w' w.heap.size v (tZ i side ag (qW p L side ag q))∧ek W w' ps p Q (S.set i (ox L (qW p L side ag q)))∧aD (fun g=>g∈Q) w w':=by
 obtain⟨hi,_⟩:=lq hs;obtain⟨pb,lD,hq,ic,hrb⟩:=h.get hi;rw [hs]at ic;injection ic with ic;subst ic;have aq:=af hs;have gM:=af hq;have H:=af h;have cX:=af hL;have cG:=af (K2 hL side ag);have aU:=af (ab4 hrb hL.len side ag);have K3:=af (K4 (p:=p) (L:=L) side ag q);have On:Hid (qW p L side ag q=(wB L side ag).zip (zh p (wB L side ag) q)):=af rfl;have zi:=af (HI p (wB L side ag) q);have wC:=af hz;have hM:=af h.aF.size;obtain⟨n,hnn⟩:∃n,Q.length=n:=⟨_,rfl⟩;have hin:i<n:=by rw [←hnn,h.len];exact hi
 have Up:n≤100:=by rw [←hnn,h.len];exact hn
 have wD:=af hnn;obtain⟨g,c,aP,_,q0⟩:=h.ptr hq;have dg:=aP.cell 11;rw [hnn]at dg;have AZ:w.cell? ⟨ps,11,none⟩=some (.slice (some ⟨g,0,none⟩) n c):=dg;generalize qW p L side ag q=Z at*;clear aP hrb hz hn hs hq h hL hnn dg;go_enter Tryz.func136,Tryz.ntmps136
 go_wp2_with fail
 refine aU.out.mono ?_;rintro e w2 ⟨v2,rfl,gv,hb2⟩;have jx:=af gv;have aT:=af hb2;have H2:=af (H.out.below hb2);obtain⟨a2,c2,g5,_⟩:=H2.out.box;have b0:w2.cell? ⟨ps,0,none⟩=some (.string p.code):=g5.cell 0;have b1:w2.cell? ⟨ps,1,none⟩=some (.slice p.ma p.months.length p.mc):=g5.cell 1;have b2:w2.cell? ⟨ps,2,none⟩=some (.int .i64 p.tick):=g5.cell 2;have b3:w2.cell? ⟨ps,3,none⟩=some (.int .i64 p.low):=g5.cell 3;have b4:w2.cell? ⟨ps,4,none⟩=some (.int .i64 p.high):=g5.cell 4;have aW:w2.cell? ⟨ps,5,none⟩=some (.int .i64 p.wide):=g5.cell 5;have bp:w2.cell? ⟨ps,6,none⟩=some (.int .i64 p.rule):=g5.cell 6;have aX:w2.cell? ⟨ps,7,none⟩=some (.int .i64 p.top):=g5.cell 7;have bq:w2.cell? ⟨ps,8,none⟩=some (.int .i64 p.least):=g5.cell 8;have bt:w2.cell? ⟨ps,9,none⟩=some (.int .i64 p.part):=g5.cell 9;have bh:w2.cell? ⟨ps,10,none⟩=some (.slice p.sa p.settle.length p.sc):=g5.cell 10;have pS:=af (ab5 gv.sl wC.out cG.out.1 cG.out.2 q);unfold Prod.agg Prod.cells at pS;obtain⟨A,hA⟩:∃A,wB L side ag=A:=⟨_,rfl⟩;obtain⟨T,hT⟩:∃T,zh p A q=T:=⟨_,rfl⟩;rw [hA]at jx pS K3 On zi cG gv;rw [hT]at pS K3 On zi;obtain⟨aa,ac,ua⟩:=gv.form;obtain⟨na,hna⟩:∃n,A.length=n:=⟨_,rfl⟩;rw [hna]at ua;subst ua;have Oo:=af hna;clear gv hb2 g5 aU AZ q0 hA hT hna;go_wp2_with fail
 clear b0 b1 b2 b3 b4 aW bp aX bq bt bh;refine pS.out.mono ?_;rintro e w3 ⟨v3,rfl,j4,hb3⟩;have aN:Hid (Below w.heap.size w w3):=af (aT.out.trans (hb3.mono aT.out.size));have H3:=af (H2.out.below hb3);have CM:=af (jx.out.below hb3);have qw:=af j4;obtain⟨ta,tc,oy⟩:=j4.form;obtain⟨ud,hnt⟩:∃n,T.length=n:=⟨_,rfl⟩;rw [hnt]at oy K3 zi;subst oy;rw [Oo.out]at zi;have aix:ud≤na:=zi.out;have aiy:ud≤250:=by have:=cG.out.1;have:=Oo.out;omega
 have Oq:=af hnt;clear j4 hb3 pS jx H2 aT hnt;go_wp2_with fail
 go_loopw [13,14] (fun v j w'=>∃k:Nat,j= .int .i64 k∧k≤ud∧pg.Row w' w.heap.size v (tZ i side ag (Z.take k))∧ek W w' ps p Q (S.set i (ox L (Z.take k)))∧aD (fun g=>g∈Q) w w'∧fX.Row w' w.heap.size (.slice aa na ac) A∧eJ.Row w' w2.heap.size (.slice ta ud tc) T) (fun _ j _=>ud-(RowKit.intOf j).toNat)
 case atStart=>exact⟨0,rfl,Nat.zero_le _,aY.Row.nil _ _,by rw [List.take_zero,show ox L []=L from rfl,ab2 aq.out];exact H3.out,Below.keeps aN.out,CM.out,qw.out⟩
 case round=>
  clear H3 CM qw;obtain⟨k,rfl,hk,hrow,hS,hK,hA,hT⟩:=hrel;obtain⟨ak,rfl⟩:∃bk:World,bk=wr:=⟨_,rfl⟩;by_cases hlt:k<ud
  ·have hlt':(k:Int)<(ud:Int):=by omega
   have aiz:(k:Int)<(na:Int):=by omega
   obtain⟨o,hok⟩:∃o,A[k]? =some o:=⟨_,List.getElem?_eq_getElem (by rw [Oo.out];omega)⟩;obtain⟨s,kD⟩:∃s,T[k]? =some s:=⟨_,List.getElem?_eq_getElem (by rw [Oq.out];exact hlt)⟩;have Uq:Z[k]? =some (o,s):=by rw [On.out];exact ab3 hok kD
   have dh:=af (lp Uq);obtain⟨K5,K6,rfl,ab6⟩:=pT hT.sl kD;obtain⟨ba,E6,aiA,Ot,_,hca⟩:=hA.sl.get hok;injection Ot with Ot hne hce;clear hne;subst Ot;subst hce;obtain⟨f0,f1,f2,f3,f4⟩:=o;have ec:=af hrow;have iF:=af hS;have eY:=af hK;have Ou:=af hA;have uf:=af hT;have iY:=af (ab7 L (Z.take k) (⟨f0,f1,f2,f3,f4⟩,s));have x6:=af (ab8 i side ag (Z.take k) (⟨f0,f1,f2,f3,f4⟩,s));have dX:=af (cX.out.ox (Z.take k));have iI:Hid ((tZ i side ag (Z.take k)).length≤250):=af (Nat.le_trans (K7 _ _ _ _) (by rw [List.length_take];omega));generalize tZ i side ag (Z.take k)=M at*;generalize ox L (Z.take k)=Lk at*;have ab9:=af hok;have acd:=af kD;clear hrow hS hK hA hT hok kD Uq;by_cases hs:0<s
   ·unfold E7 at x6
    dsimp only at iY x6;rw [if_pos hs]at iY x6
    have pI:gC W ak.drew pb Lk:=by
     obtain⟨K8,aiB,e1,e2,bE⟩:=iF.out.get (i:=i) (by rw [List.length_set];exact(lq aq.out).1);rw [gM.out]at e1;injection e1 with e1;rw [List.getElem?_set_self (lq aq.out).1]at e2;injection e2 with e2;rw [e1,e2];exact bE.below (Below.refl _ _).drew
    obtain⟨ck,iC,Ov,_,Ur⟩:=(iF.out.below (Below.refl _ _).drew).ptr gM.out;rw [wD.out]at Ov;have ug:ak.drew.cell? ⟨ps,11,none⟩=some (.slice (some ⟨ck,0,none⟩) n iC):=Ov.cell 11;have Us:=af (Ut pI dX.out.len dX.out.nd dX.out.ah f0 s);have Ow:=af (iF.out.below (Below.refl _ _).drew);have E8:=af (eY.out.drew);have CN:=af (Ou.out.below (Below.refl _ _).drew);have CO:=af (uf.out.below (Below.refl _ _).drew);have Uu:=af (ec.out.below (Below.refl _ _).drew)
    have E9:Hid (∀wv,fX.Row wv w.heap.size (.slice (some ⟨ba,E6,none⟩) na ac) A→wv.cell? ⟨ba,E6+k*5,none⟩=some (.int .i64 f0)∧wv.cell? ⟨ba,E6+k*5+3,none⟩=some (.int .i64 f3)):=af fun wv hv=>by
     obtain⟨b3,A0,c3,he,_,hc⟩:=hv.sl.get ab9.out;injection he with he _ _;injection he with he;injection he with e1 e2;subst e1;subst e2;exact⟨hc 0 _ rfl,hc 3 _ rfl⟩
    have nr:Hid (∀wv,eJ.Row wv w2.heap.size (.slice (some ⟨K5,K6,none⟩) ud tc) T→wv.cell? ⟨K5,K6+k,none⟩=some (.int .i64 s)):=af fun wv hv=>by
     obtain⟨b3,A0,he,h3⟩:=pT hv.sl acd.out;injection he with he;injection he with e1 e2;rw [e1,e2];exact h3
    have Uv:=(E9.out _ CN.out).1;have Uw:=nr.out _ CO.out;clear hca Ov pI iF eY Ou uf ec;go_wp2_with fail
    clear ab6;refine cF (S:=fun w'=>w'.cell? ⟨ps,11,none⟩=some (.slice (some ⟨ck,0,none⟩) n iC)∧w'.cell? ⟨ck,i,none⟩=some (.pointer (some ⟨pb,0,none⟩))∧w'.cell? ⟨ba,E6+k*5,none⟩=some (.int .i64 f0)∧w'.cell? ⟨K5,K6+k,none⟩=some (.int .i64 s)) (by kernel_rfl) ⟨ug,Ur,Uv,Uw⟩ (fun hHeld=>?_);refine ai 0 ?_;refine ai 1 ?_;refine ai 2 ?_;refine ai 3 ?_;refine ai 4 ?_;refine ai 5 ?_;refine ai 6 ?_;refine ai 7 ?_;refine ai 8 ?_;refine ai 9 ?_;refine ai 10 ?_;refine ai 11 ?_;refine ai 12 ?_;refine ai 13 ?_;refine ai 14 ?_;refine ai 15 ?_;refine cO 16 fun K hK=>?_;go_simp;go_at_call 108
    refine Us.out.mono ?_;rintro e av ⟨rfl,hO,jB⟩;refine hK.out _ _ ?_;clear hK K hHeld Us ug Ur Uv Uw
    have Ux:Hid (ek W av ps p Q (S.set i (oz Lk f0 s).1)):=af (by
     have:=Ow.out.Ox gM.out jB hO
     rwa [List.set_set]at this)
    have HJ:=(Ow.out.ow (List.mem_of_getElem? gM.out)).1;have x7:Hid (aD (fun g=>g∈Q) w av):=af (E8.out.trans (jB.more fun x hx=>by have e:x=pb:=hx;rw [e];exact List.mem_of_getElem? gM.out));have Uy:=af (CN.out.keep jB (fun g hg e=>hg.ne HJ (by decide) e));have Uz:=af (CO.out.keep jB (fun g hg e=>hg.ne HJ (by decide) e));have Oy:=af (Uu.out.keep jB (fun g hg e=>hg.ne HJ (by decide) e));clear HJ hO jB Ow E8 CN CO Uu;obtain⟨a1,c1,hv⟩:=Oy.out.form;obtain⟨m,hm⟩:∃m,M.length=m:=⟨_,rfl⟩;rw [hm]at hv;subst hv;have cA:=af hm;have CN:=af (Uy.out.below (Below.refl _ _).drew);have CO:=af (Uz.out.below (Below.refl _ _).drew);have Oz:=E9.out _ CN.out;have UA:=nr.out _ CO.out;clear hm;go_wp2_with fail
    refine cF (S:=fun w'=>w'.cell? ⟨ba,E6+k*5,none⟩=some (.int .i64 f0)∧w'.cell? ⟨ba,E6+k*5+3,none⟩=some (.int .i64 f3)∧w'.cell? ⟨K5,K6+k,none⟩=some (.int .i64 s)) (by kernel_rfl) ⟨Oz.1,Oz.2,UA⟩ (fun hHeld=>?_);refine ai 0 ?_;refine ai 1 ?_;refine ai 2 ?_;refine ai 3 ?_;refine ai 4 ?_;refine ai 5 ?_;refine ai 6 ?_;refine ai 7 ?_;refine ai 8 ?_;refine ai 9 ?_;refine ai 10 ?_;refine ai 11 ?_;refine ai 12 ?_;refine ai 13 ?_;refine ai 14 ?_;refine ai 15 ?_;refine ai 16 ?_;refine ai 17 ?_;refine ai 18 ?_;refine ai 19 ?_;refine ai 20 ?_;refine ai 21 ?_;refine ai 22 ?_;refine ai 23 ?_;have UB:=af (Ux.out.below (Below.refl _ _).drew);have uh:=af (x7.out.drew);have UC:=af (Oy.out.below (Below.refl _ _).drew);clear Ux x7 Oy Uy Uz Oz UA;generalize av.drew=au at*;refine aR 24 fun K hK=>?_;refine ab1 rfl 83 rfl rfl ?_;obtain⟨ql,hlf⟩:∃x,IntKind.i64.wrap (f3-s)=x:=⟨_,rfl⟩;rw [hlf]at x6⊢;clear hlf;have hba:=Below.aA au (.cells #[.int .i64 f0,.int .i64 i,.int .i64 side,.int .i64 ag,.int .i64 s,.int .i64 ql] 208);have gR:aj (au.alloc (.cells #[.int .i64 f0,.int .i64 i,.int .i64 side,.int .i64 ag,.int .i64 s,.int .i64 ql] 208)) au.heap.size 208 (⟨f0,i,side,ag,s,ql⟩:oA).cells.toArray:=aj.new _ _ _;have K9:=af (CN.out.below hba);have OA:=af (CO.out.below hba);have UD:=af (UB.out.below hba);have La:=af (UC.out.below hba);have uP:Hid (aD (fun g=>g∈Q) w (au.alloc (.cells #[.int .i64 f0,.int .i64 i,.int .i64 side,.int .i64 ag,.int .i64 s,.int .i64 ql] 208))):=af (uh.out.trans (Below.keeps hba));refine hK.out _ _ ⟨(E9.out _ K9.out).1,(E9.out _ K9.out).2,nr.out _ OA.out⟩ (fun hHeld=>?_);clear hK K hba UB uh UC CN CO;generalize au.alloc (.cells _ 208)=aK at*;refine aR 25 fun K hK=>?_;refine pg.step rfl (.tmp 60) (.tmp 84) rfl w.heap.size _ M rfl La.out au.heap.size ⟨f0,i,side,ag,s,ql⟩ rfl gR.lt gR.fU (by have:=iI.out;omega) uP.out.size ?_;intro v' bw l5 dY B2;have jI:=fe dY;have bI:=dR La.out;have dO:=cx La.out;have OB:=af (K9.out.keep jI (fun g hg e=>hg.ne (bI _ e) (by decide) rfl));have UE:=af (OA.out.keep jI (fun g hg e=>hg.ne (bI _ e) (by decide) rfl));have K0:=af (UD.out.pR jI bI hM.out dO);have oO:Hid (aD (fun g=>g∈Q) w bw):=af (uP.out.step jI (fun x hx e=>absurd (dO x e) (by omega)));have ace:=af l5;refine hK.out _ _ ⟨(E9.out _ OB.out).1,(E9.out _ OB.out).2,nr.out _ UE.out⟩ (fun hHeld=>?_);clear hK K;refine gx _ _ _ _ ?_;refine eB 26 ?_;refine wpAnyH_done (by kernel_rfl) ?_ _;clear hHeld l5 dY B2 jI bI dO gR K9 OA UD uP La;go_wp2_with fail
    go_roundw
    case rel=>exact⟨k+1,by go_num,hlt,by rw [dh.out,x6.out];exact ace.out,by rw [dh.out,iY.out];exact K0.out,oO.out,OB.out,UE.out⟩
    case measure=>simp [RowKit.intOf];omega
   ·unfold E7 at x6
    dsimp only at iY x6;rw [if_neg hs]at iY x6;rw [List.append_nil]at x6;go_wp2_with fail
    go_roundw
    case rel=>exact⟨k+1,by go_num,hlt,by rw [dh.out,x6.out];exact ec.out,by rw [dh.out,iY.out];exact iF.out,eY.out,Ou.out,uf.out⟩
    case measure=>simp [RowKit.intOf];omega
  ·have hkn:k=ud:=by omega
   have UF:Z.take k=Z:=by rw [hkn,←K3.out,List.take_length]
   rw [UF]at hrow hS;have ec:=af hrow;have iF:=af hS;have eY:=af hK;clear hkn UF hrow hS hK hA hT;go_wp2_with fail
   go_ret;exact⟨_,rfl,ec.out,iF.out,eY.out⟩
end
structure mq where
 ag:Int
 ah:Int
 imp:Bool
 qD:List oA
structure dJ (p:Prod) (S:List (List ay)):Prop where
 len:S.length=(countP p).toNat
 each:∀L∈S,jm L
theorem dJ.le {p:Prod} {S:List (List ay)} (h:dJ p S):S.length≤21:=by
 have:=(zL p).2;rw [h.len];omega
theorem dJ.count {p:Prod} {S:List (List ay)} (h:dJ p S):(S.length:Int)=countP p:=by
 have:=(zL p).1;rw [h.len];omega
theorem dJ.set {p:Prod} {S:List (List ay)} (h:dJ p S) {i:Nat} {L:List ay} (hL:jm L):dJ p (S.set i L):=
 ⟨by rw [List.length_set];exact h.len,fun K hK=>by
  rcases List.mem_or_eq_of_mem_set hK with h1|rfl
  ·exact h.each K h1
  ·exact hL⟩
theorem dJ.at_ {p:Prod} {S:List (List ay)} (h:dJ p S) (i:Nat):jm (S.getD i []):=by
 rw [List.getD_eq_getElem?_getD];cases hg:S[i]? with
 |none=>exact jm.nil
 |some L=>exact h.each L (List.mem_of_getElem? hg)
theorem dJ.qD {p:Prod} {S:List (List ay)} (h:dJ p S) (i:Nat) (side ag q:Int):dJ p (nA p S i side ag q).1:=h.set ((h.at_ i).ox _)
theorem Ij {L:List ay} (h:jm L) (s:Int):∀l∈j9 L s,1≤l.ah∧l.ah≤250000000∧1≤l.count∧l.count≤250:=fun l hl=>by
 have h1:=h.VR s l hl;have h2:=WA (S:=p6 L s) (fun o ho=>h.ah o (List.mem_filter.1 ho).1) l hl;have h3:(p6 L s).length≤L.length:=List.length_filter_le ..;have h4:=h.len;omega
theorem XW {L:List ay} {s:Int} (hs:s=1∨s=2) (hh:(RG L).has s=true):∃l∈j9 L s,ja L s=(l,true)∧(RG L).ag s=l.ag∧(RG L).ah s=l.ah:=by
 rcases PO L s with h1|⟨l,h1,h2⟩
 ·exfalso
  unfold RG cZ.has at hh;rcases hs with rfl|rfl
  ·rw [if_pos rfl,h1]at hh;cases hh
  ·rw [if_neg (by omega),h1]at hh;cases hh
 ·refine⟨l,h1,h2,?_,?_⟩
  ·unfold RG cZ.ag
   rcases hs with rfl|rfl
   ·rw [if_pos rfl,h2]
   ·rw [if_neg (by omega),h2]
  ·unfold RG cZ.ah
   rcases hs with rfl|rfl
   ·rw [if_pos rfl,h2]
   ·rw [if_neg (by omega),h2]
theorem XX {L:List ay} (h:jm L) (s:Int):(-2000000≤(ja L s).1.ag∧(ja L s).1.ag≤2000000)∧0≤(ja L s).1.ah∧(ja L s).1.ah≤250000000:=by
 rcases PO L s with h1|⟨l,h1,h2⟩
 ·rw [h1];exact⟨⟨by show(-2000000:Int)≤0;omega,by show(0:Int)≤2000000;omega⟩,by show(0:Int)≤0;omega,by show(0:Int)≤250000000;omega⟩
 ·rw [h2]
  have h3:=h.VT s l h1;have h4:=Ij h s l h1;exact⟨h3,by dsimp only;omega,by dsimp only;omega⟩
theorem af5 {L:List ay} (h:jm L):(RG L).ok:=by
 have h1:=XX h 1;have h2:=XX h 2;refine⟨?_,?_,?_,?_⟩<;>(unfold RG b8;dsimp only;omega)
theorem dJ.A9 {p:Prod} {S:List (List ay)} (h:dJ p S):∀x∈dF S,x.ok:=fun x hx=>by
 unfold dF at hx;obtain⟨L,hL,rfl⟩:=List.mem_map.1 hx;exact af5 (h.each L hL)
theorem LK (S:List (List ay)):(dF S).length=S.length:=by unfold dF;rw [List.length_map]
theorem af6 {L:List cZ} {cU sa bi bZ:Int} {less:Bool} {q:cK} (h:ph L cU sa bi bZ less=some q):
 ∃x y,L[cU.toNat]? =some x∧L[bi.toNat]? =some y∧x.has sa=true∧y.has bZ=true∧q.i0=cU∧q.s0=sa∧q.i1=bi∧q.s1=bZ∧q.ah=min (x.ah sa) (y.ah bZ):=by
 unfold ph at h;split at h
 ·rename_i x y hx hy
  split at h
  ·rename_i hh
   dsimp only at h;generalize (if less=true then pW (y.ag bZ) (x.ag sa)else qx (x.ag sa) (y.ag bZ))=r at h;split at h
   ·injection h with h
    subst h;exact⟨x,y,hx,hy,hh.1,hh.2,rfl,rfl,rfl,rfl,rfl⟩
   ·cases h
  ·cases h
 ·cases h
theorem VL {p:Prod} {L:List cZ} {i:Nat} {side:Int} {q:cK}:∀k,q∈pX p L i side k→∃m,m<k∧ph L (qy p (i:Int) ((i+1+m:Nat):Int)).1 side ((i+1+m:Nat):Int) side false=some q:=by
 intro k
 induction k with
 |zero=>intro h;cases h
 |succ k ih=>
  intro h;rw [pX,List.mem_append]at h;rcases h with h|h
  ·obtain⟨m,h1,h2⟩:=ih h
   exact⟨m,by omega,h2⟩
  ·exact⟨k,by omega,by simpa using h⟩
theorem VM {p:Prod} {L:List cZ} {i:Nat} {side:Int} {q:cK}:∀k,q∈sO p L i side k→∃m,m<k∧ph L (qy p (m:Int) (i:Int)).1 (3-side) (m:Int) side true=some q:=by
 intro k
 induction k with
 |zero=>intro h;cases h
 |succ k ih=>
  intro h;rw [sO,List.mem_append]at h;rcases h with h|h
  ·obtain⟨m,h1,h2⟩:=ih h
   exact⟨m,by omega,h2⟩
  ·exact⟨k,by omega,by simpa using h⟩
structure FR (L:List cZ) (q:cK):Prop where
 a:∃(i:Nat) (x:cZ),q.i0=(i:Int)∧L[i]? =some x∧(q.s0=1∨q.s0=2)∧x.has q.s0=true∧q.ah≤x.ah q.s0
 b:∃(i:Nat) (x:cZ),q.i1=(i:Int)∧L[i]? =some x∧(q.s1=1∨q.s1=2)∧x.has q.s1=true∧q.ah≤x.ah q.s1
 ne:q.i0≠q.i1
 q:∃x∈L,∃y∈L,∃s t,(s=1∨s=2)∧(t=1∨t=2)∧x.has s=true∧y.has t=true∧q.ah=min (x.ah s) (y.ah t)
theorem Q6 {L:List cZ} {cU bi:Nat} {sa bZ:Int} {less:Bool} {q:cK} (ha:sa=1∨sa=2) (hb:bZ=1∨bZ=2) (hne:cU≠bi) (h:ph L cU sa bi bZ less=some q):FR L q:=by
 obtain⟨x,y,h1,h2,h3,h4,h5,h6,h7,h8,h9⟩:=af6 h;rw [Int.toNat_natCast]at h1 h2;exact⟨⟨cU,x,h5,h1,by rw [h6];exact ha,by rw [h6];exact h3,by rw [h9,h6];omega⟩,⟨bi,y,h7,h2,by rw [h8];exact hb,by rw [h8];exact h4,by rw [h9,h8];omega⟩,by rw [h5,h7];omega,x,List.mem_of_getElem? h1,y,List.mem_of_getElem? h2,sa,bZ,ha,hb,h3,h4,h9⟩
theorem FR.swap {L:List cZ} {q:cK} (h:FR L q):FR L (Ff q):=⟨h.b,h.a,fun e=>h.ne e.symm,h.q⟩
theorem UK {p:Prod} {L:List cZ} {i:Nat} {side:Int} {q:cK} (hz:cz p=0) (h:q∈nP p L i side):FR L q:=by
 unfold nP at h;split at h
 ·cases h
 ·rename_i hbad
  unfold A3 at hbad;have hs:side=1∨side=2:=by omega
  have hi:(i:Int)<countP p:=by omega
  split at h
  ·rename_i hsp
   simp only [Option.mem_toList,Option.map_eq_some_iff]at h;obtain⟨q',h1,rfl⟩:=h;obtain⟨_,a,b,he,hab,hb,_⟩:=Qj hsp;rw [he]at h1;exact(Q6 (by omega) hs (by omega) h1).swap
  ·rename_i hsp
   have XY:(fB p i).2.2=false:=by rwa [Bool.not_eq_true]at hsp
   obtain⟨a,he,ha⟩:=WY (p:=p) (inst:=i) (by omega) hi XY
   have hm:i<p.months.length:=by
    have:=Xk (p:=p) (inst:=i) (by omega) hi;rw [XY,eq_comm,decide_eq_false_iff_not]at this;omega
   rw [List.mem_append,Int.toNat_natCast]at h;rcases h with h|h
   ·obtain⟨m,Jk,h⟩:=VL _ h
    obtain⟨s,hs1,ic,_⟩:=Le hz (show i<i+1+m by omega) (show i+1+m<p.months.length by omega);rw [hs1]at h;exact Q6 hs hs (by omega) h
   ·obtain⟨m,Jk,h⟩:=VM _ h
    obtain⟨s,hs1,ic,_⟩:=Le hz (show m<i by omega) hm;rw [hs1]at h;exact Q6 (by omega) hs (by omega) h
theorem Po {l:List cK} {side:Int} (h:(pp l side).2=true):(pp l side).1∈l:=by
 cases l with
 |nil=>cases h
 |cons x t=>
  show t.foldl (vq side) x∈x::t;clear h
  induction t generalizing x with
  |nil=>exact List.mem_cons_self ..
  |cons y t ih=>
   rw [List.foldl_cons];have h1:=ih (vq side x y);rcases List.mem_cons.1 h1 with h2|h2
   ·rw [h2]
    unfold vq;split<;>simp
   ·exact List.mem_cons_of_mem _ (List.mem_cons_of_mem _ h2)
theorem Pp {p:Prod} {S:List (List ay)} (hz:cz p=0) (hS:dJ p S) {i:Nat} {side:Int} {q:cK} (h:q∈lF p (dF S) i side):FR (dF S) q∧1≤q.ah∧q.ah≤250000000:=by
 unfold lF at h;have h1:=UK hz (List.mem_filter.1 h).1;refine⟨h1,?_⟩;obtain⟨x,hx,y,hy,s,t,hs,ht,h2,h3,h4⟩:=h1.q;unfold dF at hx hy;obtain⟨L,hL,rfl⟩:=List.mem_map.1 hx;obtain⟨K,hK,rfl⟩:=List.mem_map.1 hy;obtain⟨l,l1,_,_,l2⟩:=XW (L:=L) hs h2;obtain⟨k,k1,_,_,k2⟩:=XW (L:=K) ht h3;have:=Ij (hS.each L hL) s l l1;have:=Ij (hS.each K hK) t k k1;rw [h4,l2,k2];omega
theorem Fo {p:Prod} {L:List cZ} {i:Nat} {side:Int}:(nP p L i side).length≤1000:=by
 unfold nP;split
 ·simp
 ·rename_i hb
  split
  ·have:=OI ((ph L (fB p i).2.1 (3-side) (fB p i).1 side true).map Ff);omega
  ·rw [List.length_append]
   have h1:=OJ p L (i:Int).toNat side (p.months.length-((i:Int).toNat+1));have h2:=UU p L (i:Int).toNat side (i:Int).toNat;unfold A3 at hb;have hc:countP p≠0:=by omega
   have hl:=(oC (Qy hc)).2;have:=zL p;omega
def uz (ah x:Int):Int:=if ah<x then ah else x
def zy (T:List cZ) (i s:Int):Int:=(T.getD i.toNat UO).ag s
def Mk (p:Prod) (S:List (List ay)) (i:Nat) (o:Int) (l:ax) (ah:Int):List (List ay)×mq:=
 ((nA p S i o l.ag (uz ah l.ah)).1,⟨l.ag,uz ah l.ah,false,(nA p S i o l.ag (uz ah l.ah)).2⟩)
def Im (p:Prod) (S:List (List ay)) (q:cK) (ah:Int):List (List ay)×mq:=
 let k:=uz ah q.ah
 let f:=nA p S q.i0.toNat q.s0 (zy (dF S) q.i0 q.s0) k
 let g:=nA p f.1 q.i1.toNat q.s1 (zy (dF S) q.i1 q.s1) k
 (g.1,⟨q.ag,k,true,f.2++g.2⟩)
def vz (S:List (List ay)) (i:Nat) (side:Int):ax×Bool:=ja (S.getD i []) (3-side)
def mr (p:Prod) (S:List (List ay)) (i:Nat) (side:Int):cK×Bool:=pp (lF p (dF S) i (3-side)) (3-side)
def I5 (S:List (List ay)) (i:Nat) (side ag:Int):Bool:=(vz S i side).2&& !cV side (vz S i side).1.ag ag
def FN (p:Prod) (S:List (List ay)) (i:Nat) (side ag:Int):Bool:=(mr p S i side).2&& !cV side (mr p S i side).1.ag ag
def sy (p:Prod) (S:List (List ay)) (i:Nat) (side ag ah:Int):Option (List (List ay)×mq):=
 if(I5 S i side ag&&(!FN p S i side ag|| !cV (3-side) (mr p S i side).1.ag (vz S i side).1.ag))=true then some (Mk p S i (3-side) (vz S i side).1 ah)
 else if FN p S i side ag=false then none
 else some (Im p S (mr p S i side).1 ah)
def gl (p:Prod) (i:Nat) (side ag:Int):Nat→List (List ay)→Int→List (List ay)×List mq×Int
 |0,S,ah=>(S,[],ah)
 |f+1,S,ah=>if ah≤0 then(S,[],ah)else match sy p S i side ag ah with
  |none=>(S,[],ah)
  |some r=>((gl p i side ag f r.1 (ah-r.2.ah)).1,r.2::(gl p i side ag f r.1 (ah-r.2.ah)).2.1,(gl p i side ag f r.1 (ah-r.2.ah)).2.2)
theorem Ml {ah x:Int} (h1:1≤ah) (h2:1≤x):1≤uz ah x∧uz ah x≤ah∧uz ah x≤x:=by unfold uz;split<;>omega
theorem XE {p:Prod} {S:List (List ay)} (hS:dJ p S) {i:Nat} {side:Int} (h:(vz S i side).2=true):1≤(vz S i side).1.ah∧(vz S i side).1.ah≤250000000:=by
 unfold vz at*;rcases PO (S.getD i []) (3-side)with h1|⟨l,h1,h2⟩
 ·rw [h1]at h;cases h
 ·rw [h2]
  have:=Ij (hS.at_ i) _ l h1;exact⟨this.1,this.2.1⟩
theorem Sz {p:Prod} {S:List (List ay)} (hz:cz p=0) (hS:dJ p S) {i:Nat} {side ag ah:Int} (hq:1≤ah) {r:List (List ay)×mq} (h:sy p S i side ag ah=some r):
 dJ p r.1∧1≤r.2.ah∧r.2.ah≤ah:=by
 unfold sy at h;split at h
 ·rename_i hg
  injection h with h;subst h;simp only [Bool.and_eq_true]at hg
  have h1:(vz S i side).2=true:=by
   have:=hg.1;unfold I5 at this;simp only [Bool.and_eq_true]at this;exact this.1
  have h2:=XE hS h1;have h3:=Ml hq h2.1;exact⟨hS.qD _ _ _ _,h3.1,h3.2.1⟩
 ·split at h
  ·cases h
  ·rename_i hg
   injection h with h;subst h
   have h1:(mr p S i side).2=true:=by
    rw [Bool.not_eq_false]at hg;unfold FN at hg;simp only [Bool.and_eq_true]at hg;exact hg.1
   have h2:=Pp hz hS (Po h1);have h3:=Ml hq h2.2.1;exact⟨(hS.qD _ _ _ _).qD _ _ _ _,h3.1,h3.2.1⟩
theorem af4 {p:Prod} {i:Nat} {side ag:Int} {f:Nat} {S:List (List ay)} {ah:Int} (h:ah≤0):gl p i side ag f S ah=(S,[],ah):=by
 cases f with
 |zero=>rfl
 |succ f=>unfold gl;rw [if_pos h]
theorem afU {p:Prod} {i:Nat} {side ag:Int} {f:Nat} {S:List (List ay)} {ah:Int} (h:sy p S i side ag ah=none):gl p i side ag f S ah=(S,[],ah):=by
 cases f with
 |zero=>rfl
 |succ f=>
  unfold gl;rw [h];split<;>rfl
theorem XM {p:Prod} {i:Nat} {side ag:Int} {f:Nat} {S:List (List ay)} {ah:Int} {r:List (List ay)×mq} (h0:0<ah) (hf:ah.toNat≤f) (h:sy p S i side ag ah=some r):
 ∃f',f=f'+1∧gl p i side ag f S ah=((gl p i side ag f' r.1 (ah-r.2.ah)).1,r.2::(gl p i side ag f' r.1 (ah-r.2.ah)).2.1,(gl p i side ag f' r.1 (ah-r.2.ah)).2.2):=by
 cases f with
 |zero=>omega
 |succ f=>
  refine⟨f,rfl,?_⟩;rw [gl,if_neg (by omega),h]
structure p7 where
 ag:Int
 ah:Int
 imp:Bool
 a:Option Addr
 n:Nat
 c:Nat
def p7.cells (x:p7):List Value:= [.int .i64 x.ag,.int .i64 x.ah,.bool x.imp,.slice x.a x.n x.c]
def af7:p7:=⟨0,0,false,none,0,0⟩
theorem p7.jL (x:p7):∀u∈x.cells,u.oneCell'=true:=by
 intro u hu;simp only [p7.cells,List.mem_cons,List.not_mem_nil,or_false]at hu;rcases hu with rfl|rfl|rfl|rfl<;>rfl
def FP:aY p7:=⟨p7.cells,4,fun _=>rfl,p7.jL,by omega,206,200,.agg af7.cells.toArray,48,Tryz.underlying200,by kernel_rfl,by rfl,by omega⟩
structure FT (w:World) (B:Nat) (h:p7) (t:mq):Prop where
 ag:h.ag=t.ag
 ah:h.ah=t.ah
 imp:h.imp=t.imp
 row:pg.Row w B (.slice h.a h.n h.c) t.qD
def SO (w:World) (B:Nat) (v:Value) (T:List mq):Prop:=
 ∃H:List p7,FP.Row w B v H∧H.length=T.length∧∀(j:Nat) (h:p7) (t:mq),H[j]? =some h→T[j]? =some t→FT w B h t
section
variable {w w':World} {B:Nat} {v v':Value} {T:List mq} {F:Nat→Prop}
theorem FT.keep {h:p7} {t:mq} (k:FT w B h t) (hk:aD F w w') (hf:∀g,bV w g pg.t→¬F g):FT w' B h t:=⟨k.ag,k.ah,k.imp,k.row.keep hk hf⟩
theorem SO.keep (h:SO w B v T) (hk:aD F w w') (hs:∀g,bV w g FP.t→¬F g) (hf:∀g,bV w g pg.t→¬F g):SO w' B v T:=by
 obtain⟨H,h1,h2,h3⟩:=h;exact⟨H,h1.keep hk hs,h2,fun j h t a b=>(h3 j h t a b).keep hk hf⟩
theorem SO.below (h:SO w B v T) (hb:Below w.heap.size w w'):SO w' B v T:=h.keep (F:=fun _=>False) (Below.keeps hb) (fun _ _ e=>e.elim) (fun _ _ e=>e.elim)
theorem SO.base {B':Nat} (h:SO w B v T) (hB:B'≤B):SO w B' v T:=by
 obtain⟨H,h1,h2,h3⟩:=h;exact⟨H,h1.base hB,h2,fun j h t a b=>⟨(h3 j h t a b).ag,(h3 j h t a b).ah,(h3 j h t a b).imp,(h3 j h t a b).row.base hB⟩⟩
theorem SO.nil (w:World) (B:Nat):SO w B (.slice none 0 0) []:=⟨[],aY.Row.nil w B,rfl,fun j h t a=>by simp at a⟩
theorem SO.form (h:SO w B v T):∃a c,v= .slice a T.length c:=by
 obtain⟨H,h1,h2,_⟩:=h;obtain⟨a,c,e⟩:=h1.form;exact⟨a,c,by rw [e,h2]⟩
theorem SO.push {H:List p7} {h:p7} {t:mq} (h2:H.length=T.length) (h3:∀(j:Nat) (h:p7) (t:mq),H[j]? =some h→T[j]? =some t→FT w B h t)
 (hr:FP.Row w' B v' (H++ [h])) (hk:aD F w w') (hf:∀g,F g→bV w g FP.t) (ht:FT w B h t):SO w' B v' (T++ [t]):=by
 have hne:∀g,bV w g pg.t→¬F g:=fun g hg e=>hg.ne (hf g e) (by decide) rfl;refine⟨H++ [h],hr,by rw [List.length_append,List.length_append,h2];rfl,fun j h' t' a b=>?_⟩;by_cases hj:j<H.length
 ·rw [List.getElem?_append_left hj]at a
  rw [List.getElem?_append_left (by omega)]at b;exact(h3 j h' t' a b).keep hk hne
 ·rw [List.getElem?_append_right (by omega)]at a
  rw [List.getElem?_append_right (by omega),←h2]at b;have hj0:j-H.length=0:=by have:=dc a;simp at this;omega
  rw [hj0]at a b;injection a with a;injection b with b;subst a;subst b;exact ht.keep hk hne
end
theorem afQ {w:World} {ops:Array Oper} {o:Oper} {a:Act} {K:Act→World→Prop} {Q:Exit→Act→World→Prop} {E:Prop} {f0 f1:Int} {f2:Bool} {b:Option Addr} {n c:Nat} (hgd:o.guard=none) (t:Nat)
 (ho:o.op= .buildSlice 200 1 #[(0,.tmp t)]) (hx:a.tmps[t]?.getD undef= .agg #[.int .i64 f0,.int .i64 f1,.bool f2,.slice b n c])
 (h:K (a.put o.dst (.slice (some ⟨w.heap.size,0,none⟩) 1 1)) (w.alloc (.cells #[.int .i64 f0,.int .i64 f1,.bool f2,.slice b n c] 206))):
 if Region.wanted o (yielded ops a.tmps)=true then Oper.wp Tryz.prog o a w K Q else E:=by
 have hw:Region.wanted o (yielded ops a.tmps)=true:=by simp [Region.wanted,hgd]
 rw [if_pos hw];unfold Oper.wp execOp;simp only [ho];go_simp;exact h
end Go.Proofs.YtmaijkoopjocdaaGreat
