import Derived.Test.YtmaijkoopjocdaaGreatKV24
import Derived.Test.YtmaijkoopjocdaaGreatKV21
set_option maxRecDepth 100000
set_option maxHeartbeats 64000000
namespace Go.Proofs.YtmaijkoopjocdaaGreat
open Go.RowKit Go.Lib
theorem aeV {w:World} {ops:Array Oper} {o:Oper} {a:Act} {K:Act→World→Prop} {Q:Exit→Act→World→Prop} {E:Prop} {f0 f1 f2 f3 f4 f5:Int} (hgd:o.guard=none) (t:Nat)
 (ho:o.op= .buildSlice 204 1 #[(0,.tmp t)]) (hx:a.tmps[t]?.getD undef= .agg #[↑f0,↑f1,↑f2,↑f3,↑f4,↑f5])
 (h:K (a.put o.dst (.slice ↑w.heap.size 1 1)) (w.alloc (.cells #[↑f0,↑f1,↑f2,↑f3,↑f4,↑f5] 208))):
 if Region.wanted o (yielded ops a.tmps)=true then Oper.wp Tryz.prog o a w K Q else E:=by
 have hw:Region.wanted o (yielded ops a.tmps)=true:=by simp [Region.wanted,hgd]
 rw [if_pos hw];unfold Oper.wp execOp;simp only [ho];go_simp;exact h
section
variable {W w w':World} {ps pb:Nat} {p:Prod} {Q:List Nat} {S:List (List aC)} {L L':List aC}
theorem eH.qT {F:Nat→Prop} {t:TypeId} {B:Nat} (h:eH W w ps p Q S) (hk:aK F w w') (hF:∀g,F g→ck w g t) (hB:W.heap.size≤B) (hb:∀g,F g→B≤g) (ht:t≠129∧t≠134∧t≠181∧t≠139:=by decide):eH W w' ps p Q S:=by
 obtain⟨a,c,h1,h2⟩:=h.box;have hne:∀{g:Nat} {t':TypeId},ck w g t'→t≠t'→¬F g:=fun hg hn e=>hg.ne (hF _ e) (Ne.symm hn) rfl;refine⟨⟨a,c,h1.keeps hk (hne h1.aE ht.1),h2.keep hk (fun g hg=>hne hg ht.2.1)⟩,h.len,h.nd,fun i pb L hq hs=>?_,h.pv,h.base,h.aJ.trans (hk.below (fun g e=>Nat.le_trans hB (hb g e)) h.aJ.size)⟩;have hr:=h.Et i pb L hq hs;exact hr.keep hk (hne hr.aE ht.2.2.1) (fun g hg=>hne hg ht.2.2.2) (fun g e=>Nat.le_trans hB (hb g e))
theorem aeW {α:Type} {l:List α} {i:Nat} {x:α} (h:l[i]? =some x):l.set i x=l:=by
 obtain⟨h1,h2⟩:=lB h;rw [←h2,List.set_getElem_self]
theorem aeX {α β:Type} {l:List α} {m:List β} {k:Nat} {x:α} {y:β} (h1:l[k]? =some x) (h2:m[k]? =some y):(l.zip m)[k]? =some (x,y):=by
 rw [List.getElem?_zip_eq_some];exact⟨h1,h2⟩
theorem P6 (h:eH W w ps p Q S) (hz:cR p=0) (hn:S.length≤100) {i:Nat} (hs:S[i]? =some L) (hL:j8 L) (side ap q:Int):
 Calls Tryz.prog 136 #[.pointer ↑ps,↑i,↑side,↑ap,↑q] w fun e w'=>∃v,e= .returned v∧qg.Row w' w.heap.size v (vU i side ap (sx p L side ap q))∧eH W w' ps p Q (S.set i (pz L (sx p L side ap q)))∧aK (fun g=>g∈Q) w w':=by
 obtain⟨hi,_⟩:=lB hs;obtain⟨pb,mz,hq,fD,hrb⟩:=h.get hi;rw [hs]at fD;injection fD with fD;subst fD;have aD:=af hs;have ie:=af hq;have H:=af h;have c6:=af hL;have cO:=af (MT hL side ap);have bg:=af (aeY hrb hL.len side ap);have MU:=af (MV (p:=p) (L:=L) side ap q);have P7:Hid (sx p L side ap q=(yo L side ap).zip (Ba p (yo L side ap) q)):=af rfl;have Bb:=af (JE p (yo L side ap) q);have yp:=af hz;have iD:=af h.aJ.size;obtain⟨n,hnn⟩:=ai Q.length;have hin:i<n:=by rw [←hnn,h.len];exact hi
 have Wb:n≤100:=by rw [←hnn,h.len];exact hn
 have tv:=af hnn;obtain⟨g,c,aT,_,q0⟩:=h.ptr hq;have dS:=aT.cell 11;rw [hnn]at dS;have CH:w.cell? ⟨ps,11,none⟩=some (.slice ↑g n c):=dS;generalize sx p L side ap q=Z at*;clear aT hrb hz hn hs hq h hL hnn dS;go_enter Tryz.func136,Tryz.ntmps136
 go_wp2_with fail
 refine bg.out.mono ?_;rintro e w2 ⟨v2,rfl,gv,hb2⟩;have kS:=af gv;have aS:=af hb2;have H2:=af (H.out.below hb2);obtain⟨a2,c2,iM,_⟩:=H2.out.box;obtain⟨b0,b1,b2,b3,b4,bk,bw,bn,bC,bD,bu⟩:=iM.amD;have l7:=af (aeZ gv.sl yp.out cO.out.1 cO.out.2 q);unfold Prod.agg Prod.cells at l7;obtain⟨A,hA⟩:=ai (yo L side ap);obtain⟨T,hT⟩:=ai (Ba p A q);rw [hA]at kS l7 MU P7 Bb cO gv;rw [hT]at l7 MU P7 Bb;obtain⟨aa,ac,vV⟩:=gv.form;obtain⟨na,hna⟩:=ai A.length;rw [hna]at vV;subst vV;have P8:=af hna;clear gv hb2 iM bg CH q0 hA hT hna;go_wp2_with fail
 clear b0 b1 b2 b3 b4 bk bw bn bC bD bu;refine l7.out.mono ?_;rintro e w3 ⟨v3,rfl,jr,hb3⟩;have aQ:Hid (Below w.heap.size w w3):=ag aS hb3;have H3:=af (H2.out.below hb3);have Eu:=af (kS.out.below hb3);have rL:=af jr;obtain⟨ta,tc,pE⟩:=jr.form;obtain⟨tC,hnt⟩:=ai T.length;rw [hnt]at pE MU Bb;subst pE;rw [P8.out]at Bb;have ame:tC≤na:=Bb.out;have amf:tC≤250:=by have:=cO.out.1;have:=P8.out;omega
 have P9:=af hnt;clear jr hb3 l7 kS H2 aS hnt;go_wp2_with fail
 go_loopw [13,14] (fun v j w'=>∃k:Nat,j=↑k∧k≤tC∧qg.Row w' w.heap.size v (vU i side ap (Z.take k))∧eH W w' ps p Q (S.set i (pz L (Z.take k)))∧aK (fun g=>g∈Q) w w'∧gI.Row w' w.heap.size (.slice aa na ac) A∧e8.Row w' w2.heap.size (.slice ta tC tc) T) (fun _ j _=>tC-(RowKit.intOf j).toNat)
 case atStart=>exact⟨0,rfl,Nat.zero_le _,bl.Row.nil _ _,by rw [List.take_zero,show pz L []=L from rfl,aeW aD.out];exact H3.out,Below.keeps aQ.out,Eu.out,rL.out⟩
 case round=>
  clear H3 Eu rL;obtain⟨k,rfl,hk,hrow,hS,hK,hA,hT⟩:=hrel;obtain⟨ax,rfl⟩:=aj wr;by_cases hlt:k<tC
  ·have hlt':(k:Int)<(tC:Int):=by omega
   have amg:(k:Int)<(na:Int):=by omega
   obtain⟨o,hok⟩:∃o,A[k]? =some o:=⟨_,List.getElem?_eq_getElem (by rw [P8.out];omega)⟩;obtain⟨s,lW⟩:∃s,T[k]? =some s:=⟨_,List.getElem?_eq_getElem (by rw [P9.out];exact hlt)⟩;have Wc:Z[k]? =some (o,s):=by rw [P7.out];exact aeX hok lW
   have dN:=af (kH Wc);obtain⟨xg,MW,rfl,ae0⟩:=qU hT.sl lW;obtain⟨ba,GR,amh,Qa,_,hca⟩:=hA.sl.get hok;injection Qa with Qa hne hce;clear hne;subst Qa;subst hce;obtain⟨f0,f1,f2,f3,f4⟩:=o;have cY:=af hrow;have jv:=af hS;have e7:=af hK;have Qb:=af hA;have kx:=af hT;have jM:=af (ae1 L (Z.take k) (⟨f0,f1,f2,f3,f4⟩,s));have vW:=af (ae2 i side ap (Z.take k) (⟨f0,f1,f2,f3,f4⟩,s));have dJ:=af (c6.out.pz (Z.take k));have jf:Hid ((vU i side ap (Z.take k)).length≤250):=af (Nat.le_trans (MX _ _ _ _) (by rw [List.length_take];omega));generalize vU i side ap (Z.take k)=M at*;generalize pz L (Z.take k)=Lk at*;have ae3:=af hok;have ae4:=af lW;clear hrow hS hK hA hT hok lW Wc;by_cases hs:0<s
   ·unfold GU at vW
    dsimp only at jM vW;rw [if_pos hs]at jM vW
    have qB:g4 W ax.drew pb Lk:=by
     obtain⟨MY,ami,e1,e2,bJ⟩:=jv.out.get (i:=i) (by rw [List.length_set];exact(lB aD.out).1);rw [ie.out]at e1;injection e1 with e1;rw [List.getElem?_set_self (lB aD.out).1]at e2;injection e2 with e2;rw [e1,e2];exact bJ.below (Below.refl _ _).drew
    obtain⟨cB,iC,Qc,_,Wd⟩:=(jv.out.below (Below.refl _ _).drew).ptr ie.out;rw [tv.out]at Qc;have yq:ax.drew.cell? ⟨ps,11,none⟩=some (.slice ↑cB n iC):=Qc.cell 11;have Wf:=af (Wg qB dJ.out.len dJ.out.nd dJ.out.aq f0 s);have Qd:=af (jv.out.below (Below.refl _ _).drew);have GV:=af (e7.out.drew);have Ev:=af (Qb.out.below (Below.refl _ _).drew);have Ew:=af (kx.out.below (Below.refl _ _).drew);have Wh:=af (cY.out.below (Below.refl _ _).drew)
    have GX:Hid (∀wv,gI.Row wv w.heap.size (.slice (some ⟨ba,GR,none⟩) na ac) A→wv.cell? ⟨ba,GR+k*5,none⟩=some ↑f0∧wv.cell? ⟨ba,GR+k*5+3,none⟩=some ↑f3):=af fun wv hv=>by
     obtain⟨b3,CI,c3,he,_,hc⟩:=hv.sl.get ae3.out;injection he with he _ _;injection he with he;injection he with e1 e2;subst e1;subst e2;exact⟨hc 0 _ rfl,hc 3 _ rfl⟩
    have oc:Hid (∀wv,e8.Row wv w2.heap.size (.slice (some ⟨xg,MW,none⟩) tC tc) T→wv.cell? ⟨xg,MW+k,none⟩=some ↑s):=af fun wv hv=>by
     obtain⟨b3,CI,he,h3⟩:=qU hv.sl ae4.out;injection he with he;injection he with e1 e2;rw [e1,e2];exact h3
    have Wi:=(GX.out _ Ev.out).1;have Wj:=oc.out _ Ew.out;clear hca Qc qB jv e7 Qb kx cY;go_wp2_with fail
    clear ae0;refine cP (S:=fun w'=>w'.cell? ⟨ps,11,none⟩=some (.slice ↑cB n iC)∧w'.cell? ⟨cB,i,none⟩=some (.pointer ↑pb)∧w'.cell? ⟨ba,GR+k*5,none⟩=some ↑f0∧w'.cell? ⟨xg,MW+k,none⟩=some ↑s) ⟨yq,Wd,Wi,Wj⟩ fun hHeld=>?_;refine au 0 ?_;refine au 1 ?_;refine au 2 ?_;refine au 3 ?_;refine au 4 ?_;refine au 5 ?_;refine au 6 ?_;refine au 7 ?_;refine au 8 ?_;refine au 9 ?_;refine au 10 ?_;refine au 11 ?_;refine au 12 ?_;refine au 13 ?_;refine au 14 ?_;refine au 15 ?_;refine dY 16 fun K hK=>?_;go_simp;go_at_call 108
    refine Wf.out.mono ?_;rintro e az ⟨rfl,gJ,iZ⟩;refine hK.out _ _ ?_;clear hK K hHeld Wf yq Wd Wi Wj
    have Wk:Hid (eH W az ps p Q (S.set i (pF Lk f0 s).1)):=af (by
     have:=Qd.out.Qe ie.out iZ gJ
     rwa [List.set_set]at this)
    have JF:=(Qd.out.py (List.mem_of_getElem? ie.out)).1;have zP:Hid (aK (fun g=>g∈Q) w az):=af (GV.out.trans (iZ.more fun x hx=>by have e:x=pb:=hx;rw [e];exact List.mem_of_getElem? ie.out));have Wl:=af (Ev.out.keep iZ (fun g hg e=>hg.ne JF (by decide) e));have Wm:=af (Ew.out.keep iZ (fun g hg e=>hg.ne JF (by decide) e));have Qf:=af (Wh.out.keep iZ (fun g hg e=>hg.ne JF (by decide) e));clear JF gJ iZ Qd GV Ev Ew Wh;obtain⟨a1,c1,hv⟩:=Qf.out.form;obtain⟨m,hm⟩:=ai M.length;rw [hm]at hv;subst hv;have cM:=af hm;have Ev:=af (Wl.out.below (Below.refl _ _).drew);have Ew:=af (Wm.out.below (Below.refl _ _).drew);have Qg:=GX.out _ Ev.out;have Wn:=oc.out _ Ew.out;clear hm;go_wp2_with fail
    refine cP (S:=fun w'=>w'.cell? ⟨ba,GR+k*5,none⟩=some ↑f0∧w'.cell? ⟨ba,GR+k*5+3,none⟩=some ↑f3∧w'.cell? ⟨xg,MW+k,none⟩=some ↑s) ⟨Qg.1,Qg.2,Wn⟩ fun hHeld=>?_;refine au 0 ?_;refine au 1 ?_;refine au 2 ?_;refine au 3 ?_;refine au 4 ?_;refine au 5 ?_;refine au 6 ?_;refine au 7 ?_;refine au 8 ?_;refine au 9 ?_;refine au 10 ?_;refine au 11 ?_;refine au 12 ?_;refine au 13 ?_;refine au 14 ?_;refine au 15 ?_;refine au 16 ?_;refine au 17 ?_;refine au 18 ?_;refine au 19 ?_;refine au 20 ?_;refine au 21 ?_;refine au 22 ?_;refine au 23 ?_;have Wo:=af (Wk.out.below (Below.refl _ _).drew);have vX:=af (zP.out.drew);have Wp:=af (Qf.out.below (Below.refl _ _).drew);clear Wk zP Qf Wl Wm Qg Wn;generalize az.drew=aA at*;refine aU 24 fun K hK=>?_;refine aeV rfl 83 rfl rfl ?_;obtain⟨rA,hlf⟩:=ai (IntKind.i64.wrap (f3-s));rw [hlf]at vW⊢;clear hlf;have hba:=Below.aI aA (.cells #[↑f0,↑i,↑side,↑ap,↑s,↑rA] 208);have iA:av (aA.alloc (.cells #[↑f0,↑i,↑side,↑ap,↑s,↑rA] 208)) aA.heap.size 208 (⟨f0,i,side,ap,s,rA⟩:pG).cells.toArray:=av.new _ _ _;have MZ:=af (Ev.out.below hba);have Qh:=af (Ew.out.below hba);have Wq:=af (Wo.out.below hba);have M0:=af (Wp.out.below hba);have wT:Hid (aK (fun g=>g∈Q) w (aA.alloc (.cells #[↑f0,↑i,↑side,↑ap,↑s,↑rA] 208))):=af (vX.out.trans (Below.keeps hba));refine hK.out _ _ ⟨(GX.out _ MZ.out).1,(GX.out _ MZ.out).2,oc.out _ Qh.out⟩ (fun hHeld=>?_);clear hK K hba Wo vX Wp Ev Ew;generalize aA.alloc (.cells _ 208)=aN at*;refine aU 25 fun K hK=>?_;refine qg.step rfl (.tmp 60) (.tmp 84) rfl w.heap.size _ M rfl M0.out aA.heap.size ⟨f0,i,side,ap,s,rA⟩ rfl iA.lt iA.gH (by have:=jf.out;omega) wT.out.size ?_;intro v' bf lQ er DT;have kE:=fK er;have bT:=eo M0.out;have dw:=cS M0.out;have Qi:=af (MZ.out.keep kE (fun g hg e=>hg.ne (bT _ e) (by decide) rfl));have Wr:=af (Qh.out.keep kE (fun g hg e=>hg.ne (bT _ e) (by decide) rfl));have MR:=af (Wq.out.qT kE bT iD.out dw);have pS:Hid (aK (fun g=>g∈Q) w bf):=af (wT.out.step kE (fun x hx e=>absurd (dw x e) (by omega)));have ae5:=af lQ;refine hK.out _ _ ⟨(GX.out _ Qi.out).1,(GX.out _ Qi.out).2,oc.out _ Wr.out⟩ (fun hHeld=>?_);clear hK K;refine gu _ _ _ _ ?_;refine ej 26 ?_;refine gw ?_;clear hHeld lQ er DT kE bT dw iA MZ Qh Wq wT M0;go_wp2_with fail
    go_roundw
    case rel=>exact⟨k+1,by go_num,hlt,by rw [dN.out,vW.out];exact ae5.out,by rw [dN.out,jM.out];exact MR.out,pS.out,Qi.out,Wr.out⟩
    case measure=>simp [RowKit.intOf];omega
   ·unfold GU at vW
    dsimp only at jM vW;rw [if_neg hs]at jM vW;rw [List.append_nil]at vW;go_wp2_with fail
    go_roundw
    case rel=>exact⟨k+1,by go_num,hlt,by rw [dN.out,vW.out];exact cY.out,by rw [dN.out,jM.out];exact jv.out,e7.out,Qb.out,kx.out⟩
    case measure=>simp [RowKit.intOf];omega
  ·have hkn:k=tC:=by omega
   have Ws:Z.take k=Z:=by rw [hkn,←MU.out,List.take_length]
   rw [Ws]at hrow hS;have cY:=af hrow;have jv:=af hS;have e7:=af hK;clear hkn Ws hrow hS hK hA hT;go_wp2_with fail
   go_ret;exact⟨_,rfl,cY.out,jv.out,e7.out⟩
end
end Go.Proofs.YtmaijkoopjocdaaGreat
