import Derived.Test.YtmaijkoopjocdaaGreatKV09
set_option maxRecDepth 100000
set_option maxHeartbeats 64000000
namespace Go.Proofs.YtmaijkoopjocdaaGreat
open Go.RowKit Go.Lib
theorem acH {w:World} {B:Nat} {v:Value} {V:bG} (h:cg ey bS w B v V) (hl:V.length≤255) {K:Nat} (hK:fX V K) (n5:K≤800000) {q p t c:Int} {i s:Nat} (hi:i<V.length) (hs:s<2) (iH:n6 V.length ⟨q,i,(s:Int)+1,p,t,c,false⟩=0) {x0:aX×aX} (hx0:V[i]? =some x0) (n7:kF ((s:Int)+1) (c9 x0 s).lv) (tZ:(c9 x0 s).lv.findIdx? (fun y=>y.ap==p)=none) (ko:¬0<t):
 Calls Tryz.prog 83 #[.agg #[v],.agg #[↑q,↑i,.int .i64 ((s:Int)+1),↑p,↑t,↑c,.bool false]] w fun e w'=>∃v',e= .returned (.tuple #[.agg #[v'],.int .i64 0])∧cg ey bS w' w.heap.size v' (gm ⟨q,i,(s:Int)+1,p,t,c,false⟩ V)∧Below w.heap.size w w':=by
 obtain⟨a,aY,rfl⟩:=h.form;obtain⟨im,gp⟩:=ai false;have hz1:(w.alloc (.cells #[.slice a V.length aY] 43)).heap.size=w.heap.size+1:=by simp
 have eg:((w.alloc (.cells #[.slice a V.length aY] 43)).alloc (.cells #[↑q,↑i,.int .i64 ((s:Int)+1),↑p,↑t,↑c,↑im] 86)).heap.size=w.heap.size+1+1:=by simp
 have hb1:=Below.aI w (.cells #[.slice a V.length aY] 43);have hb2:=hb1.trans ((Below.aI (w.alloc (.cells #[.slice a V.length aY] 43)) (.cells #[↑q,↑i,.int .i64 ((s:Int)+1),↑p,↑t,↑c,↑im] 86)).mono hb1.size);have hb3:=hb2.trans ((Below.aI ((w.alloc (.cells #[.slice a V.length aY] 43)).alloc (.cells #[↑q,↑i,.int .i64 ((s:Int)+1),↑p,↑t,↑c,↑im] 86)) (.cells #[.slice none 0 0] 43)).mono hb2.size);have fC:av (((w.alloc (.cells #[.slice a V.length aY] 43)).alloc (.cells #[↑q,↑i,.int .i64 ((s:Int)+1),↑p,↑t,↑c,↑im] 86)).alloc (.cells #[.slice none 0 0] 43)) w.heap.size 43 #[.slice a V.length aY]:=((av.new w _ _).alloc _).alloc _
 have dL:av (((w.alloc (.cells #[.slice a V.length aY] 43)).alloc (.cells #[↑q,↑i,.int .i64 ((s:Int)+1),↑p,↑t,↑c,↑im] 86)).alloc (.cells #[.slice none 0 0] 43)) (w.heap.size+1) 86 #[↑q,↑i,.int .i64 ((s:Int)+1),↑p,↑t,↑c,↑im]:=by
  have:=(av.new (w.alloc (.cells #[.slice a V.length aY] 43)) 86 #[↑q,↑i,.int .i64 ((s:Int)+1),↑p,↑t,↑c,↑im]).alloc (.cells #[.slice none 0 0] 43)
  rwa [hz1]at this
 have fe:av (((w.alloc (.cells #[.slice a V.length aY] 43)).alloc (.cells #[↑q,↑i,.int .i64 ((s:Int)+1),↑p,↑t,↑c,↑im] 86)).alloc (.cells #[.slice none 0 0] 43)) (w.heap.size+1+1) 43 #[.slice none 0 0]:=by
  have:=av.new ((w.alloc (.cells #[.slice a V.length aY] 43)).alloc (.cells #[↑q,↑i,.int .i64 ((s:Int)+1),↑p,↑t,↑c,↑im] 86)) 43 #[.slice none 0 0]
  rwa [eg]at this
 have eu:=xQ V.length ⟨q,i,(s:Int)+1,p,t,c,im⟩ (((w.alloc (.cells #[.slice a V.length aY] 43)).alloc (.cells #[↑q,↑i,.int .i64 ((s:Int)+1),↑p,↑t,↑c,↑im] 86)).alloc (.cells #[.slice none 0 0] 43));rw [gp]at iH;rw [iH]at eu;unfold aF.agg at eu;dsimp only at eu;have e5:=af (h.below hb3);have lg:=af hK;obtain⟨x,hx⟩:∃x,V[i]? =some x:=⟨_,List.getElem?_eq_getElem hi⟩;have bz:=af hx;have kg:=af gp;have bg:=af eu;have aQ:=af hb3;have fq:=af fC;have cy:=af dL;have eL:=af fe;rw [gp];have jU:=af hx0;have ua:=af n7;have kG:=af tZ;have uk:=af ko;clear ko;clear hx0 n7 tZ h hK hx gp hz1 eg hb1 hb2 hb3 fC dL fe eu iH;go_enter Tryz.func83,Tryz.ntmps83
 go_upto_region 1 with(fail)
 obtain⟨w1,hw1⟩:=ai (((w.alloc (.cells #[.slice a V.length aY] 43)).alloc (.cells #[↑q,↑i,.int .i64 ((s:Int)+1),↑p,↑t,↑c,↑im] 86)).alloc (.cells #[.slice none 0 0] 43));obtain⟨aM,fC⟩:=ai w.heap.size;obtain⟨ay,dL⟩:=ai (w.heap.size+1);obtain⟨gr,fe⟩:=ai (w.heap.size+1+1);rw [hw1]at e5 aQ fq cy eL bg⊢;rw [fe]at eL⊢;rw [dL]at cy⊢;rw [fC]at fq⊢;have fQ:Hid (aM≠gr):=af (by omega);have zo:Hid (ay≠gr):=af (by omega);have iO:Hid (aM≠ay):=af (by omega);have jT:Hid (w.heap.size≤aM):=af (by omega);have wR:Hid (w.heap.size≤gr):=af (by omega);clear hw1 fC dL fe;have b0:w1.cell? ↑aM=some (.slice a V.length aY):=fq.out.cell 0;obtain⟨m0,m1,m2,eN,ea,eY,dV⟩:=cy.out.amz;go_wp2_with fail
 refine bg.out.mono ?_;rintro e w2 ⟨rfl,hb⟩;replace fq:=af (fq.out.below hb);replace cy:=af (cy.out.below hb);replace eL:=af (eL.out.below hb);replace e5:=af (e5.out.below hb);replace aQ:=ag aQ hb;clear hb bg b0 m0 m1 m2 eN ea eY dV;have b0:w2.cell? ↑aM=some (.slice a V.length aY):=fq.out.cell 0;go_wp2_with fail
 refine(Dz e5.out hl lg.out (by omega)).mono ?_;rintro e w3 ⟨v',rfl,⟨P,hP,gK,g8,rf⟩,hb⟩;obtain⟨bx,iP⟩:∃p,P[i]? =some p:=⟨_,List.getElem?_eq_getElem (by omega)⟩;obtain⟨go,cap,he,_,_⟩:=hP.at_ i bx iP;rw [gK]at he;subst he;have cj:=fq.out.below hb;have aP:=aQ.out.trans (hb.mono aQ.out.size);have hst:=ct w3 aM 0 (.slice ↑go V.length cap);have hW:w.heap.size≤w2.heap.size:=aQ.out.size;have dx:=af ((hP.base hW).cC cj.aE (by decide) 0 (.slice ↑go V.length cap));have e6:Hid (∀(j:Nat) (p:bB) (x:aX×aX),P[j]? =some p→V[j]? =some x→bV bS (w3.setCell ↑aM (.slice ↑go V.length cap)) w.heap.size p.s x.1∧bV bS (w3.setCell ↑aM (.slice ↑go V.length cap)) w.heap.size p.t x.2):=af fun j p x hp hx=>⟨((g8 j p x hp hx).1.base hW).cC cj.aE (by decide) 0 _,((g8 j p x hp hx).2.base hW).cC cj.aE (by decide) 0 _⟩;have gq:=af gK;have lO:=af rf;have dh:=af iP;have eV:=af ((cy.out.below hb).cC (p:=⟨aM,0,none⟩) (Ne.symm iO.out) (.slice ↑go V.length cap));have ri:=af ((eL.out.below hb).cC (p:=⟨aM,0,none⟩) (Ne.symm fQ.out) (.slice ↑go V.length cap));have ny:Hid (av (w3.setCell ↑aM (.slice ↑go V.length cap)) aM 43 #[.slice ↑go V.length cap]):=af (cj.aW 0 _);have bN:=af (aP.setCell (p:=⟨aM,0,none⟩) jT.out (.slice ↑go V.length cap));have b3:w3.cell? ↑aM=some (.slice a V.length aY):=cj.cell 0;have vo:w3.frozen? ↑aM=false:=cj.frozen 0;clear hP gK g8 rf iP cj aP hst hW hb b0 fq cy eL e5 aQ;go_upto_region 5 with(fail)
 clear b3 vo;generalize w3.setCell ↑aM (.slice ↑go V.length cap)=az at*;have b4:az.cell? ↑aM=some (.slice ↑go V.length cap):=ny.out.cell 0;obtain⟨m0,m1,m2,eN,ea,eY,dV⟩:=eV.out.amz;have y1:IntKind.i64.wrap ((s:Int)+1-1)=(s:Int):=by rw [IntWalk.i64_in _ (by omega)];omega
 have fI:(s:Int)+1-1=(s:Int):=by omega
 have hi2:(i:Int)<(V.length:Int):=by omega
 have fD:(s:Int)<2:=by omega
 go_quiet (fail)
 have bQ:=(Below.bO az nq).trans ((Below.aI (az.drewN nq) (.cells #[↑p,↑t,↑c] 47)).mono (Nat.le_refl _));obtain⟨aH,dr⟩:=ai az.heap.size
 have rj:sS w ((az.drewN nq).alloc (.cells #[↑p,↑t,↑c] 47)) aM ay gr aH go cap V P q p t c i s im:=by
  refine⟨ny.out.below bQ,eV.out.below bQ,ri.out.below bQ,?_,dx.out.below bQ,fun j p x hp hx=>⟨(e6.out j p x hp hx).1.below bQ,(e6.out j p x hp hx).2.below bQ⟩,bN.out.trans (bQ.mono bN.out.size)⟩;rw [←dr];exact av.new (az.drewN nq) _ _
 have dR:=af rj
 have DA:Hid (∀g,(bx.sh s).own=some g→g<aH):=af (by
  intro g hg;have hh:=e6.out i bx x dh.out bz.out;rw [←dr];unfold bB.sh at hg;split at hg
  ·exact ki hh.1.row g hg
  ·exact ki hh.2.row g hg)
 have Au:Hid (w.heap.size≤aH):=af (by rw [←dr];exact bN.out.size);have tY:(az.drewN nq).heap.size=aH:=dr;go_upto_region 7 with(fail)
 clear rj bQ dr tY ny eV ri dx e6 bN b4 m0 m1 m2 eN ea eY dV y1 fI;generalize (az.drewN nq).alloc (.cells #[↑p,↑t,↑c] 47)=aA at*;have gp:=kg.out;subst gp;clear kg;obtain rfl:x=x0:=by have h1:=bz.out;have h2:=jU.out;rw [h1]at h2;injection h2
 have dV:aA.cell? ⟨ay,6,none⟩=some (.bool false):=dR.out.bm.cell 6;have iq:=dR.out.oZ dh.out bz.out;obtain⟨L,hL⟩:=ai ((c9 x s).lv)
 have ud:L.length≤K:=by
  have:=lg.out x (List.mem_of_getElem? bz.out);rw [←hL];unfold c9;split
  ·exact this.1
  ·exact this.2
 obtain⟨sn,qC⟩:=ai ((bx.sh s).n);obtain⟨sa,hsa⟩:=ai ((bx.sh s).a);obtain⟨sc,hsc⟩:=ai ((bx.sh s).c);have hown:(bx.sh s).own=(Value.slice sa L.length sc).ownBlock:=by unfold eO.own;rw [iq.n,hL,hsa,hsc]
 have c0:aA.cell? ⟨go,i*10+s*5,none⟩=some (.slice sa L.length sc):=by
  have:=nB dR.out.row dh.out hs (f:=0) (u:= .slice (bx.sh s).a (bx.sh s).n (bx.sh s).c) rfl;rw [iq.n,hL,hsa,hsc]at this;exact this
 have hrow:bS.Row aA w.heap.size (.slice sa L.length sc) L:=by
  have:=iq.row;rw [iq.n,hL,hsa,hsc]at this;exact this
 have hm:(c9 x s).app ⟨q,i,(s:Int)+1,p,t,c,false⟩=⟨o3 ⟨q,i,(s:Int)+1,p,t,c,false⟩ L,(c9 x s).im,(c9 x s).has⟩:=by
  unfold aX.app;rw [if_neg (by simp),hL,F3 (by rw [←hL];exact ua.out)]
 have r8:=af hm;have kg:=af iq.im;have uf:=af iq.has;have zq:=af hown;have cY:=af hrow;have iu:=af hL;have nC:=af ud;have sV:=af hsa;have sW:=af hsc;have pV:=Ir hrow.sl (by omega) ay p dR.out.bm.lt (dR.out.bm.cell 3);have hidx:n8 (fun y=>y.ap==p) L=(-1:Int):=by unfold n8;rw [←hL,kG.out]
 rw [hidx]at pV;have ug:=af pV;have hcs:=kG.out;rw [hL]at hcs;have kj:=af hcs;clear iq hL ud qC hsa hsc hown hrow hm jU ua pV hidx hcs kG;go_upto_region 12 with(fail)
 clear dV;go_wp2_with fail
 refine ug.out.mono ?_;rintro e aN ⟨rfl,hb⟩;have eP:=af (dR.out.below hb);have pW:=af (cY.out.below hb);clear hb ug cY dR c0;have ea:aN.cell? ⟨ay,4,none⟩=some ↑t:=eP.out.bm.cell 4
 have fJ:aN.cell? ⟨go,i*10+s*5,none⟩=some (.slice sa L.length sc):=by
  have:=nB eP.out.row dh.out hs (f:=0) (u:= .slice (bx.sh s).a (bx.sh s).n (bx.sh s).c) rfl;rw [(eP.out.oZ dh.out bz.out).n,iu.out,sV.out,sW.out]at this;exact this
 have Mc:¬(0:Int)<t:=by have:=uk.out;omega
 have uh:o3 ⟨q,i,(s:Int)+1,p,t,c,false⟩ L=L:=by
  unfold o3;rw [kj.out];dsimp only;rw [if_neg (by have:=uk.out;omega)]
 have vr:=af uh;have lR:Hid ((bx.sh s).n=L.length):=af (by rw [(eP.out.oZ dh.out bz.out).n,iu.out]);have Aw:Hid ((c9 x s).app ⟨q,i,(s:Int)+1,p,t,c,false⟩=⟨L,(c9 x s).im,(c9 x s).has⟩):=af (by rw [r8.out,vr.out]);have vp:=af (eP.out.done (sh:=bx.sh s) (d:=⟨L,(c9 x s).im,(c9 x s).has⟩) (F:=fun _=>False) gq.out lO.out dh.out bz.out hs (aK.refl _ _) (fun g hg h=>h.elim) (by rw [TY dh.out];exact eP.out.row) ⟨lR.out,by rw [lR.out,sV.out,sW.out];exact pW.out,kg.out,uf.out⟩ eP.out.br.aE Aw.out (.slice ↑go V.length cap));have cH:=af (eP.out.aJ.setCell (p:=⟨gr,0,none⟩) wR.out (.slice ↑go V.length cap));have vq:Hid (av (aN.setCell ↑gr (.slice ↑go V.length cap)) gr 43 #[.slice ↑go V.length cap]):=af (eP.out.br.aW 0 _);have v0:aN.cell? ↑aM=some (.slice ↑go V.length cap):=eP.out.bv.cell 0;have cu:aN.cell? ↑gr=some (.slice none 0 0):=eP.out.br.cell 0;have sU:aN.frozen? ↑gr=false:=eP.out.br.frozen 0;clear uh;go_wp2_with fail
 clear v0 cu sU;generalize aN.setCell ↑gr (.slice ↑go V.length cap)=wf at*;have f0:wf.cell? ↑gr=some (.slice ↑go V.length cap):=vq.out.cell 0;refine bodyPost_ret (v:= .tuple #[.agg #[.slice ↑go V.length cap],.int .i64 0]) (by simp [results,Tryz.results83,go_sem,f0]) rfl ⟨_,rfl,vp.out,cH.out⟩
theorem acJ {w:World} {B:Nat} {v:Value} {V:bG} (h:cg ey bS w B v V) (hl:V.length≤255) {K:Nat} (hK:fX V K) (n5:K≤800000) {q p t c:Int} {i s:Nat} (hi:i<V.length) (hs:s<2) (iH:n6 V.length ⟨q,i,(s:Int)+1,p,t,c,false⟩=0) {x0:aX×aX} (hx0:V[i]? =some x0) (n7:kF ((s:Int)+1) (c9 x0 s).lv) (tZ:(c9 x0 s).lv.findIdx? (fun y=>y.ap==p)=none) (Iu:(c9 x0 s).lv.findIdx? (fun y=>cT ((s:Int)+1) p y.ap)=none) (ko:0<t):
 Calls Tryz.prog 83 #[.agg #[v],.agg #[↑q,↑i,.int .i64 ((s:Int)+1),↑p,↑t,↑c,.bool false]] w fun e w'=>∃v',e= .returned (.tuple #[.agg #[v'],.int .i64 0])∧cg ey bS w' w.heap.size v' (gm ⟨q,i,(s:Int)+1,p,t,c,false⟩ V)∧Below w.heap.size w w':=by
 obtain⟨a,aY,rfl⟩:=h.form;obtain⟨im,gp⟩:=ai false;have hz1:(w.alloc (.cells #[.slice a V.length aY] 43)).heap.size=w.heap.size+1:=by simp
 have eg:((w.alloc (.cells #[.slice a V.length aY] 43)).alloc (.cells #[↑q,↑i,.int .i64 ((s:Int)+1),↑p,↑t,↑c,↑im] 86)).heap.size=w.heap.size+1+1:=by simp
 have hb1:=Below.aI w (.cells #[.slice a V.length aY] 43);have hb2:=hb1.trans ((Below.aI (w.alloc (.cells #[.slice a V.length aY] 43)) (.cells #[↑q,↑i,.int .i64 ((s:Int)+1),↑p,↑t,↑c,↑im] 86)).mono hb1.size);have hb3:=hb2.trans ((Below.aI ((w.alloc (.cells #[.slice a V.length aY] 43)).alloc (.cells #[↑q,↑i,.int .i64 ((s:Int)+1),↑p,↑t,↑c,↑im] 86)) (.cells #[.slice none 0 0] 43)).mono hb2.size);have fC:av (((w.alloc (.cells #[.slice a V.length aY] 43)).alloc (.cells #[↑q,↑i,.int .i64 ((s:Int)+1),↑p,↑t,↑c,↑im] 86)).alloc (.cells #[.slice none 0 0] 43)) w.heap.size 43 #[.slice a V.length aY]:=((av.new w _ _).alloc _).alloc _
 have dL:av (((w.alloc (.cells #[.slice a V.length aY] 43)).alloc (.cells #[↑q,↑i,.int .i64 ((s:Int)+1),↑p,↑t,↑c,↑im] 86)).alloc (.cells #[.slice none 0 0] 43)) (w.heap.size+1) 86 #[↑q,↑i,.int .i64 ((s:Int)+1),↑p,↑t,↑c,↑im]:=by
  have:=(av.new (w.alloc (.cells #[.slice a V.length aY] 43)) 86 #[↑q,↑i,.int .i64 ((s:Int)+1),↑p,↑t,↑c,↑im]).alloc (.cells #[.slice none 0 0] 43)
  rwa [hz1]at this
 have fe:av (((w.alloc (.cells #[.slice a V.length aY] 43)).alloc (.cells #[↑q,↑i,.int .i64 ((s:Int)+1),↑p,↑t,↑c,↑im] 86)).alloc (.cells #[.slice none 0 0] 43)) (w.heap.size+1+1) 43 #[.slice none 0 0]:=by
  have:=av.new ((w.alloc (.cells #[.slice a V.length aY] 43)).alloc (.cells #[↑q,↑i,.int .i64 ((s:Int)+1),↑p,↑t,↑c,↑im] 86)) 43 #[.slice none 0 0]
  rwa [eg]at this
 have eu:=xQ V.length ⟨q,i,(s:Int)+1,p,t,c,im⟩ (((w.alloc (.cells #[.slice a V.length aY] 43)).alloc (.cells #[↑q,↑i,.int .i64 ((s:Int)+1),↑p,↑t,↑c,↑im] 86)).alloc (.cells #[.slice none 0 0] 43));rw [gp]at iH;rw [iH]at eu;unfold aF.agg at eu;dsimp only at eu;have e5:=af (h.below hb3);have lg:=af hK;obtain⟨x,hx⟩:∃x,V[i]? =some x:=⟨_,List.getElem?_eq_getElem hi⟩;have bz:=af hx;have kg:=af gp;have bg:=af eu;have aQ:=af hb3;have fq:=af fC;have cy:=af dL;have eL:=af fe;rw [gp];have jU:=af hx0;have ua:=af n7;have kG:=af tZ;have uk:=af ko;have gW:=af Iu;clear ko Iu;clear hx0 n7 tZ h hK hx gp hz1 eg hb1 hb2 hb3 fC dL fe eu iH;go_enter Tryz.func83,Tryz.ntmps83
 go_upto_region 1 with(fail)
 obtain⟨w1,hw1⟩:=ai (((w.alloc (.cells #[.slice a V.length aY] 43)).alloc (.cells #[↑q,↑i,.int .i64 ((s:Int)+1),↑p,↑t,↑c,↑im] 86)).alloc (.cells #[.slice none 0 0] 43));obtain⟨aM,fC⟩:=ai w.heap.size;obtain⟨ay,dL⟩:=ai (w.heap.size+1);obtain⟨gr,fe⟩:=ai (w.heap.size+1+1);rw [hw1]at e5 aQ fq cy eL bg⊢;rw [fe]at eL⊢;rw [dL]at cy⊢;rw [fC]at fq⊢;have fQ:Hid (aM≠gr):=af (by omega);have zo:Hid (ay≠gr):=af (by omega);have iO:Hid (aM≠ay):=af (by omega);have jT:Hid (w.heap.size≤aM):=af (by omega);have wR:Hid (w.heap.size≤gr):=af (by omega);clear hw1 fC dL fe;have b0:w1.cell? ↑aM=some (.slice a V.length aY):=fq.out.cell 0;obtain⟨m0,m1,m2,eN,ea,eY,dV⟩:=cy.out.amz;go_wp2_with fail
 refine bg.out.mono ?_;rintro e w2 ⟨rfl,hb⟩;replace fq:=af (fq.out.below hb);replace cy:=af (cy.out.below hb);replace eL:=af (eL.out.below hb);replace e5:=af (e5.out.below hb);replace aQ:=ag aQ hb;clear hb bg b0 m0 m1 m2 eN ea eY dV;have b0:w2.cell? ↑aM=some (.slice a V.length aY):=fq.out.cell 0;go_wp2_with fail
 refine(Dz e5.out hl lg.out (by omega)).mono ?_;rintro e w3 ⟨v',rfl,⟨P,hP,gK,g8,rf⟩,hb⟩;obtain⟨bx,iP⟩:∃p,P[i]? =some p:=⟨_,List.getElem?_eq_getElem (by omega)⟩;obtain⟨go,cap,he,_,_⟩:=hP.at_ i bx iP;rw [gK]at he;subst he;have cj:=fq.out.below hb;have aP:=aQ.out.trans (hb.mono aQ.out.size);have hst:=ct w3 aM 0 (.slice ↑go V.length cap);have hW:w.heap.size≤w2.heap.size:=aQ.out.size;have dx:=af ((hP.base hW).cC cj.aE (by decide) 0 (.slice ↑go V.length cap));have e6:Hid (∀(j:Nat) (p:bB) (x:aX×aX),P[j]? =some p→V[j]? =some x→bV bS (w3.setCell ↑aM (.slice ↑go V.length cap)) w.heap.size p.s x.1∧bV bS (w3.setCell ↑aM (.slice ↑go V.length cap)) w.heap.size p.t x.2):=af fun j p x hp hx=>⟨((g8 j p x hp hx).1.base hW).cC cj.aE (by decide) 0 _,((g8 j p x hp hx).2.base hW).cC cj.aE (by decide) 0 _⟩;have gq:=af gK;have lO:=af rf;have dh:=af iP;have eV:=af ((cy.out.below hb).cC (p:=⟨aM,0,none⟩) (Ne.symm iO.out) (.slice ↑go V.length cap));have ri:=af ((eL.out.below hb).cC (p:=⟨aM,0,none⟩) (Ne.symm fQ.out) (.slice ↑go V.length cap));have ny:Hid (av (w3.setCell ↑aM (.slice ↑go V.length cap)) aM 43 #[.slice ↑go V.length cap]):=af (cj.aW 0 _);have bN:=af (aP.setCell (p:=⟨aM,0,none⟩) jT.out (.slice ↑go V.length cap));have b3:w3.cell? ↑aM=some (.slice a V.length aY):=cj.cell 0;have vo:w3.frozen? ↑aM=false:=cj.frozen 0;clear hP gK g8 rf iP cj aP hst hW hb b0 fq cy eL e5 aQ;go_upto_region 5 with(fail)
 clear b3 vo;generalize w3.setCell ↑aM (.slice ↑go V.length cap)=az at*;have b4:az.cell? ↑aM=some (.slice ↑go V.length cap):=ny.out.cell 0;obtain⟨m0,m1,m2,eN,ea,eY,dV⟩:=eV.out.amz;have y1:IntKind.i64.wrap ((s:Int)+1-1)=(s:Int):=by rw [IntWalk.i64_in _ (by omega)];omega
 have fI:(s:Int)+1-1=(s:Int):=by omega
 have hi2:(i:Int)<(V.length:Int):=by omega
 have fD:(s:Int)<2:=by omega
 go_quiet (fail)
 have bQ:=(Below.bO az nq).trans ((Below.aI (az.drewN nq) (.cells #[↑p,↑t,↑c] 47)).mono (Nat.le_refl _));obtain⟨aH,dr⟩:=ai az.heap.size
 have rj:sS w ((az.drewN nq).alloc (.cells #[↑p,↑t,↑c] 47)) aM ay gr aH go cap V P q p t c i s im:=by
  refine⟨ny.out.below bQ,eV.out.below bQ,ri.out.below bQ,?_,dx.out.below bQ,fun j p x hp hx=>⟨(e6.out j p x hp hx).1.below bQ,(e6.out j p x hp hx).2.below bQ⟩,bN.out.trans (bQ.mono bN.out.size)⟩;rw [←dr];exact av.new (az.drewN nq) _ _
 have dR:=af rj
 have DA:Hid (∀g,(bx.sh s).own=some g→g<aH):=af (by
  intro g hg;have hh:=e6.out i bx x dh.out bz.out;rw [←dr];unfold bB.sh at hg;split at hg
  ·exact ki hh.1.row g hg
  ·exact ki hh.2.row g hg)
 have Au:Hid (w.heap.size≤aH):=af (by rw [←dr];exact bN.out.size);have tY:(az.drewN nq).heap.size=aH:=dr;go_upto_region 7 with(fail)
 clear rj bQ dr tY ny eV ri dx e6 bN b4 m0 m1 m2 eN ea eY dV y1 fI;generalize (az.drewN nq).alloc (.cells #[↑p,↑t,↑c] 47)=aA at*;have gp:=kg.out;subst gp;clear kg;obtain rfl:x=x0:=by have h1:=bz.out;have h2:=jU.out;rw [h1]at h2;injection h2
 have dV:aA.cell? ⟨ay,6,none⟩=some (.bool false):=dR.out.bm.cell 6;have iq:=dR.out.oZ dh.out bz.out;obtain⟨L,hL⟩:=ai ((c9 x s).lv)
 have ud:L.length≤K:=by
  have:=lg.out x (List.mem_of_getElem? bz.out);rw [←hL];unfold c9;split
  ·exact this.1
  ·exact this.2
 obtain⟨sn,qC⟩:=ai ((bx.sh s).n);obtain⟨sa,hsa⟩:=ai ((bx.sh s).a);obtain⟨sc,hsc⟩:=ai ((bx.sh s).c);have hown:(bx.sh s).own=(Value.slice sa L.length sc).ownBlock:=by unfold eO.own;rw [iq.n,hL,hsa,hsc]
 have c0:aA.cell? ⟨go,i*10+s*5,none⟩=some (.slice sa L.length sc):=by
  have:=nB dR.out.row dh.out hs (f:=0) (u:= .slice (bx.sh s).a (bx.sh s).n (bx.sh s).c) rfl;rw [iq.n,hL,hsa,hsc]at this;exact this
 have hrow:bS.Row aA w.heap.size (.slice sa L.length sc) L:=by
  have:=iq.row;rw [iq.n,hL,hsa,hsc]at this;exact this
 have hm:(c9 x s).app ⟨q,i,(s:Int)+1,p,t,c,false⟩=⟨o3 ⟨q,i,(s:Int)+1,p,t,c,false⟩ L,(c9 x s).im,(c9 x s).has⟩:=by
  unfold aX.app;rw [if_neg (by simp),hL,F3 (by rw [←hL];exact ua.out)]
 have r8:=af hm;have kg:=af iq.im;have uf:=af iq.has;have zq:=af hown;have cY:=af hrow;have iu:=af hL;have nC:=af ud;have sV:=af hsa;have sW:=af hsc;have pV:=Ir hrow.sl (by omega) ay p dR.out.bm.lt (dR.out.bm.cell 3);have hidx:n8 (fun y=>y.ap==p) L=(-1:Int):=by unfold n8;rw [←hL,kG.out]
 rw [hidx]at pV;have ug:=af pV;have hcs:=kG.out;rw [hL]at hcs;have kj:=af hcs;clear iq hL ud qC hsa hsc hown hrow hm jU ua pV hidx hcs kG;go_upto_region 12 with(fail)
 clear dV;go_wp2_with fail
 refine ug.out.mono ?_;rintro e aN ⟨rfl,hb⟩;have eP:=af (dR.out.below hb);have pW:=af (cY.out.below hb);clear hb ug cY dR c0;have ea:aN.cell? ⟨ay,4,none⟩=some ↑t:=eP.out.bm.cell 4
 have fJ:aN.cell? ⟨go,i*10+s*5,none⟩=some (.slice sa L.length sc):=by
  have:=nB eP.out.row dh.out hs (f:=0) (u:= .slice (bx.sh s).a (bx.sh s).n (bx.sh s).c) rfl;rw [(eP.out.oZ dh.out bz.out).n,iu.out,sV.out,sW.out]at this;exact this
 have Mc:(0:Int)<t:=uk.out;have DE:=T1 pW.out.sl (by have:=nC.out;omega) ay ((s:Int)+1) p eP.out.bm.lt (eP.out.bm.cell 2) (eP.out.bm.cell 3);have hidx2:n8 (fun y=>cT ((s:Int)+1) p y.ap) L=(-1:Int):=by unfold n8;rw [←iu.out,gW.out]
 rw [hidx2]at DE;have Iv:=af DE;clear hidx2 DE;go_wp2_with fail
 refine Iv.out.mono ?_;rintro e bf ⟨rfl,hb⟩;have sX:=af (eP.out.below hb);have Iw:=af (pW.out.below hb);have hcb:=gW.out;rw [iu.out]at hcb;have Md:=af hcb;clear hb Iv eP pW fJ ea hcb gW
 have gL:bf.cell? ⟨go,i*10+s*5,none⟩=some (.slice sa L.length sc):=by
  have:=nB sX.out.row dh.out hs (f:=0) (u:= .slice (bx.sh s).a (bx.sh s).n (bx.sh s).c) rfl;rw [(sX.out.oZ dh.out bz.out).n,iu.out,sV.out,sW.out]at this;exact this
 have Cb:L.length≤L.length:=Nat.le_refl _;go_upto_region 21 with(fail)
 have hS:bf.cell? ↑aH=some ↑p∧bf.cell? ⟨aH,1,none⟩=some ↑t∧bf.cell? ⟨aH,2,none⟩=some ↑c∧bf.cell? ⟨go,i*10+s*5,none⟩=some (.slice sa L.length sc):=⟨sX.out.nA.cell 0,sX.out.nA.cell 1,sX.out.nA.cell 2,gL⟩;have mH:Below bf.heap.size bf (bf.alloc (.cells #[↑p,↑t,↑c] 47)).drew:=(Below.aI bf _).trans ((Below.bO _ 1).mono (by simp));have jE:=af (sX.out.below mH);have DF:=af (Iw.out.below mH);have hnb:av (bf.alloc (.cells #[↑p,↑t,↑c] 47)).drew bf.heap.size 47 (⟨p,t,c⟩:aB).cells.toArray:=(av.new bf _ _).drew;have Ix:(Value.slice sa L.length sc).ownBlock≠some bf.heap.size:=fun h=>by have:=ki Iw.out _ h;omega
 have iw:=af (T2 (i:=L.length) (x:=⟨p,t,c⟩) DF.out Cb hnb Ix jE.out.aJ.size (by have:=nC.out;omega))
 have Cc:∀w',w'=(bf.alloc (.cells #[↑p,↑t,↑c] 47)).drew→w'.cell? ↑aH=some ↑p∧w'.cell? ⟨aH,1,none⟩=some ↑t∧w'.cell? ⟨aH,2,none⟩=some ↑c∧w'.cell? ⟨go,i*10+s*5,none⟩=some (.slice sa L.length sc):=by
  rintro w' rfl;exact⟨jE.out.nA.cell 0,jE.out.nA.cell 1,jE.out.nA.cell 2,(mH.cell (p:=⟨go,i*10+s*5,none⟩) (ki sX.out.row go rfl)).trans hS.2.2.2⟩
 clear mH hnb Ix;refine cP (S:=fun w'=>w'.cell? ↑aH=some ↑p∧w'.cell? ⟨aH,1,none⟩=some ↑t∧w'.cell? ⟨aH,2,none⟩=some ↑c∧w'.cell? ⟨go,i*10+s*5,none⟩=some (.slice sa L.length sc)) hS fun hHeld=>?_;refine au 0 ?_;refine au 1 ?_;refine au 2 ?_;refine au 3 ?_;refine au 4 ?_;refine au 5 ?_;refine au 6 ?_;refine aU 7 fun K hK=>?_;go_simp;refine hK.out _ _ (Cc _ rfl) (fun hHeld=>?_);clear hK K Cc hS gL;generalize (bf.alloc (.cells #[↑p,↑t,↑c] 47)).drew=qD at*;refine aU 8 fun K hK=>?_;go_simp;refine iw.out.mono ?_;rintro e sY ⟨v2,rfl,jV,lm,_⟩;obtain⟨M,DG⟩:=ai (L.take L.length++ [(⟨p,t,c⟩:aB)]++L.drop L.length);rw [DG]at jV;obtain⟨a2,c2,rfl⟩:=jV.form;have hne:∀g,(Value.slice sa L.length sc).ownBlock=some g→ck qD g bS.t:=fun g hg=>eo DF.out g hg;have xR:=jE.out.bv.keeps lm (fun h=>jE.out.bv.aE.ne (hne _ h) (by decide) rfl);have xS:=jE.out.br.keeps lm (fun h=>jE.out.br.aE.ne (hne _ h) (by decide) rfl);have rp:=jE.out.row.keep lm (fun g hg h=>hg.ne (hne _ h) (by decide) rfl);have uj:ck sY go ey.t:=eo rp go rfl;have qB:=Row.DB rp dh.out hs (f:=0) (by decide) (x:=⟨a2,M.length,c2,(bx.sh s).im,(bx.sh s).has⟩) (u:= .slice a2 M.length c2) rfl;rw [Nat.add_zero]at qB;have pU:=af qB;have B9:=af (xR.cC (p:=⟨go,i*10+s*5,none⟩) (xR.aE.ne uj (by decide)) (.slice a2 M.length c2));have o4:=af (xS.cC (p:=⟨go,i*10+s*5,none⟩) (xS.aE.ne uj (by decide)) (.slice a2 M.length c2));have Ca:=af (bl.Row.cC (Y:=bS) jV uj (by decide) (i*10+s*5) (.slice a2 M.length c2));have pT:=af (((lm.more (G:=fun g=>(Value.slice sa L.length sc).ownBlock=some g∨g=go) fun g h=> .inl h).trans ((ct sY go (i*10+s*5) (.slice a2 M.length c2)).more fun g h=> .inr h)));have Ay:=jE.out.nA.keeps lm (fun h=>by have:=DA.out aH (by rw [zq.out];exact h);omega)
 have kp:sY.cell? ⟨go,i*10+s*5,none⟩=some (.slice sa L.length sc):=by
  have:=nB rp dh.out hs (f:=0) (u:= .slice (bx.sh s).a (bx.sh s).n (bx.sh s).c) rfl;rw [(jE.out.oZ dh.out bz.out).n,iu.out,sV.out,sW.out]at this;exact this
 have Iy:=af (fun o=>Row.Ip rp dh.out o);have wS:=af (eo jE.out.row go rfl);have B7:Hid (w.heap.size≤go):=af (cS jE.out.row go rfl);have DC:=af (cS DF.out);have OT:=af DG;refine hK.out _ _ ⟨Ay.cell 0,Ay.cell 1,Ay.cell 2,kp⟩ (fun hHeld=>?_);clear hK K hne xR xS rp uj qB jV lm Ay DG iw;refine au 9 ?_;refine au 10 ?_;refine dY 11 fun K hK=>?_;have OU:=Iy.out;go_simp;refine hK.out _ _ ?_;clear hK K hHeld OU kp Iy;generalize sY.setCell ⟨go,i*10+s*5,none⟩ (.slice a2 M.length c2)=bZ at*
 have uh:o3 ⟨q,i,(s:Int)+1,p,t,c,false⟩ L=M:=by
  unfold o3;rw [kj.out];dsimp only;rw [if_pos uk.out,Md.out,←OT.out];simp [aF.lv]
 have vr:=af uh;clear uh;have v0:bZ.cell? ↑aM=some (.slice ↑go V.length cap):=B9.out.cell 0;have cu:bZ.cell? ↑gr=some (.slice none 0 0):=o4.out.cell 0;have sU:bZ.frozen? ↑gr=false:=o4.out.frozen 0;have Aw:Hid ((c9 x s).app ⟨q,i,(s:Int)+1,p,t,c,false⟩=⟨M,(c9 x s).im,(c9 x s).has⟩):=af (by rw [r8.out,vr.out]);have vp:=af (jE.out.done (sh:=⟨a2,M.length,c2,(bx.sh s).im,(bx.sh s).has⟩) (d:=⟨M,(c9 x s).im,(c9 x s).has⟩) gq.out lO.out dh.out bz.out hs pT.out (fun g hg h=>by rcases h with h|h;exact zq.out.trans h;exact absurd h (hg.ne wS.out (by decide))) pU.out ⟨rfl,Ca.out,kg.out,uf.out⟩ o4.out.aE Aw.out (.slice ↑go V.length cap));have cH:=af ((jE.out.aJ.trans (pT.out.below (B:=w.heap.size) (fun k hk=>by rcases hk with h|h;exact DC.out k h;rw [h];exact B7.out) jE.out.aJ.size)).setCell (p:=⟨gr,0,none⟩) wR.out (.slice ↑go V.length cap));have vq:Hid (av (bZ.setCell ↑gr (.slice ↑go V.length cap)) gr 43 #[.slice ↑go V.length cap]):=af (o4.out.aW 0 _);go_wp2_with fail
 clear v0 cu sU;generalize bZ.setCell ↑gr (.slice ↑go V.length cap)=wf at*;have f0:wf.cell? ↑gr=some (.slice ↑go V.length cap):=vq.out.cell 0;refine bodyPost_ret (v:= .tuple #[.agg #[.slice ↑go V.length cap],.int .i64 0]) (by simp [results,Tryz.results83,go_sem,f0]) rfl ⟨_,rfl,vp.out,cH.out⟩
def FM (x q:Int):Int:=if x<q then-1 else if q<x then 1 else 0
theorem aaM (m:aF) (q:Int) (w:World):
 Calls Tryz.prog 38 #[m.agg,↑q] w fun e w'=>e= .returned (.int .i64 (FM m.seq q))∧Below w.heap.size w w':=by
 unfold aF.agg;have dD:Hid (FM m.seq q=if m.seq<q then-1 else if q<m.seq then 1 else 0):=af rfl;rw [dD.out];have aG:=af (Below.aI w (.cells #[↑m.seq,↑m.inst,↑m.side,↑m.ap,↑m.aq,↑m.count,↑m.imp] 86));clear dD;by_cases h1:m.seq<q
 ·rw [if_pos h1]
  go_enter Tryz.func38,Tryz.ntmps38
  go_wp2_with fail
  go_ret;exact⟨by trivial,aG.out⟩
 ·rw [if_neg h1]
  by_cases h2:q<m.seq
  ·rw [if_pos h2]
   go_enter Tryz.func38,Tryz.ntmps38
   go_wp2_with fail
   go_ret;exact⟨by trivial,aG.out⟩
  ·rw [if_neg h2]
   go_enter Tryz.func38,Tryz.ntmps38
   go_wp2_with fail
   go_ret;exact⟨by trivial,aG.out⟩
def r5 (q:Int) (H:List aF):Nat:=(H.takeWhile (fun x=>decide (x.seq<q))).length
theorem ajZ (q:Int) (H:List aF):r5 q H≤H.length:=by
 unfold r5;exact(List.takeWhile_prefix _).length_le
theorem aaN {q:Int}:∀{H:List aF} {a:Nat},a≤H.length→(∀(k:Nat) (x:aF),k<a→H[k]? =some x→x.seq<q)→(∀(k:Nat) (x:aF),a≤k→H[k]? =some x→q≤x.seq)→r5 q H=a
 | [],a,ha,_,_=>by
   have:a=0:=by simpa using ha
   subst this;rfl
 |y::t,0,_,_,h2=>by
  have:=h2 0 y (Nat.le_refl 0) rfl;unfold r5;rw [List.takeWhile_cons,if_neg (by simp;omega)];rfl
 |y::t,a+1,ha,h1,h2=>by
  have h0:=h1 0 y (by omega) rfl;have ih:=aaN (H:=t) (a:=a) (by simpa using ha) (fun k x hk hx=>h1 (k+1) x (by omega) hx) (fun k x hk hx=>h2 (k+1) x (by omega) hx);unfold r5 at*;rw [List.takeWhile_cons,if_pos (by simpa using h0),List.length_cons,ih]
theorem aj0 (m:aF) (H:List aF):aog m H=H.take (r5 m.seq H)++ [m]++H.drop (r5 m.seq H):=by
 unfold aog r5
 have h1:H.take (H.takeWhile (fun x=>decide (x.seq<m.seq))).length=H.takeWhile (fun x=>decide (x.seq<m.seq)):=by
  conv=>lhs;rw [show H=H.takeWhile (fun x=>decide (x.seq<m.seq))++H.dropWhile (fun x=>decide (x.seq<m.seq))from List.takeWhile_append_dropWhile.symm]
  rw [List.takeWhile_append_dropWhile];exact List.prefix_iff_eq_take.1 (List.takeWhile_prefix _) |>.symm
 have h2:H.drop (H.takeWhile (fun x=>decide (x.seq<m.seq))).length=H.dropWhile (fun x=>decide (x.seq<m.seq)):=by
  have e:=List.takeWhile_append_dropWhile (p:=fun x:aF=>decide (x.seq<m.seq)) (l:=H);have e2:=List.take_append_drop (H.takeWhile (fun x=>decide (x.seq<m.seq))).length H;rw [h1]at e2;exact List.append_cancel_left (e2.trans e.symm)
 rw [h1,h2];simp
theorem aj1 {q:Int} {H:List aF} {a:Nat} (ha:sG H) (h1:∀(k:Nat) (x:aF),k<a→H[k]? =some x→x.seq<q) (h2:∀(k:Nat) (x:aF),a≤k→H[k]? =some x→q≤x.seq):
 kP q H=match H[a]? with|some x=>decide (x.seq=q)|none=>false:=by
 cases hx:H[a]? with
 |none=>
  dsimp only;unfold kP;rw [List.any_eq_false];intro y hy;obtain⟨j,hj⟩:=List.mem_iff_getElem?.1 hy;have hjl:=dM hj
  have hal:H.length≤a:=by
   rcases Nat.lt_or_ge a H.length with h|h
   ·rw [List.getElem?_eq_getElem h]at hx;cases hx
   ·exact h
  have:=h1 j y (by omega) hj;simp;omega
 |some x=>
  dsimp only;by_cases he:x.seq=q
  ·rw [decide_eq_true he]
   unfold kP;rw [List.any_eq_true];exact⟨x,List.mem_of_getElem? hx,by simpa using he⟩
  ·rw [decide_eq_false he]
   unfold kP;rw [List.any_eq_false];intro y hy;obtain⟨j,hj⟩:=List.mem_iff_getElem?.1 hy;have E8:=h2 a x (Nat.le_refl _) hx;rcases Nat.lt_trichotomy j a with h|h|h
   ·have:=h1 j y h hj;simp;omega
   ·subst h;rw [hx]at hj;injection hj with hj;rw [←hj];simpa using he
   ·have:=List.pairwise_iff_getElem.1 ha a j (dM hx) (dM hj) h
    obtain⟨_,e1⟩:=lB hx;obtain⟨_,e2⟩:=lB hj;rw [e1,e2]at this;simp;omega
theorem Oj {w:World} {v:Value} {H:List aF} (h:hH.eT w v H) (ha:sG H) (hl:H.length≤900000) (q:Int):
 Calls Tryz.prog 37 #[v,↑q,.func (Fn.func 38) #[] #[]] w fun e w'=>e= .returned (.tuple #[.int .i64 (r5 q H),.bool (kP q H)])∧Below w.heap.size w w':=by
 have aD:=af h;have cO:=af ha;obtain⟨a0,c0,rfl,_,_⟩:=h;clear ha;go_enter Tryz.func37,Tryz.ntmps37
 go_wp2_with fail
 go_loopw [9,10] (fun i j w'=>∃a b:Nat,i=↑a∧j=↑b∧a≤b∧b≤H.length∧(∀(k:Nat) (x:aF),k<a→H[k]? =some x→x.seq<q)∧(∀(k:Nat) (x:aF),b≤k→H[k]? =some x→q≤x.seq)∧Below w.heap.size w w') (fun i j _=>(RowKit.intOf j).toNat-(RowKit.intOf i).toNat)
 case atStart=>exact⟨0,H.length,rfl,rfl,Nat.zero_le _,Nat.le_refl _,fun k x hk=>absurd hk (by omega),fun k x hk hx=>by have:=dM hx;omega,Below.refl _ _⟩
 case round=>
  obtain⟨a,b,rfl,rfl,hab,eU,h1,h2,hb⟩:=hrel;obtain⟨ax,rfl⟩:=aj wr;have H1:=af h1;have H2:=af h2;have aG:=af hb;have hsl:=aD.out.below hb;clear h1 h2 hb;by_cases hlt:a<b
  ·have hlt':(a:Int)<(b:Int):=by omega
   obtain⟨m,hm⟩:=ai ((a+b) / 2);have hma:a≤m:=by omega
   have hmb:m<b:=by omega
   have y1:IntKind.i64.wrap ((a:Int)+(b:Int))=(a:Int)+(b:Int):=IntWalk.i64_in _ (by omega);have fI:IntKind.u64.wrap ((a:Int)+(b:Int))=(a:Int)+(b:Int):=u64_wrap_id _ (by omega) (by omega);have aj2:((a:Int)+(b:Int)) % 18446744073709551616=(a:Int)+(b:Int):=by omega
   have lF:((a:Int)+(b:Int)).fdiv 2=(m:Int):=by rw [Int.fdiv_eq_ediv_of_nonneg _ (by decide)];omega
   have aj3:((a:Int)+(b:Int)) / 2=(m:Int):=by omega
   have qb:IntKind.i64.wrap (m:Int)=(m:Int):=IntWalk.i64_in _ (by omega);have CN:IntKind.i64.wrap ((m:Int)+1)=(m:Int)+1:=IntWalk.i64_in _ (by omega);have hml:(m:Int)<(H.length:Int):=by omega
   obtain⟨x,hx⟩:∃x,H[m]? =some x:=⟨_,List.getElem?_eq_getElem (by omega)⟩;obtain⟨g,off,c',he,_,hcs⟩:=hsl.get hx;injection he with he _ eS;subst he;subst eS;have c0:ax.cell? ⟨g,off+m*7,none⟩=some ↑x.seq:=hcs 0 _ rfl;have c1:ax.cell? ⟨g,off+m*7+1,none⟩=some ↑x.inst:=hcs 1 _ rfl;have c2:ax.cell? ⟨g,off+m*7+2,none⟩=some ↑x.side:=hcs 2 _ rfl;have c3:ax.cell? ⟨g,off+m*7+3,none⟩=some ↑x.ap:=hcs 3 _ rfl;have dH:ax.cell? ⟨g,off+m*7+4,none⟩=some ↑x.aq:=hcs 4 _ rfl;have b8:ax.cell? ⟨g,off+m*7+5,none⟩=some ↑x.count:=hcs 5 _ rfl;have fJ:ax.cell? ⟨g,off+m*7+6,none⟩=some ↑x.imp:=hcs 6 _ rfl;have jy:=aaM x q ax;unfold aF.agg at jy;have Lp:=af jy;have bz:=af hx;have cM:=af hm;clear hcs hx jy hsl hm;go_wp2_with fail
   refine Lp.out.mono ?_;rintro e w1 ⟨rfl,hb1⟩;have bA:=ag aG hb1;clear hb1 Lp c0 c1 c2 c3 dH b8 fJ y1 fI aj2 lF aj3;have lf:=List.pairwise_iff_getElem.1 cO.out;by_cases hc:x.seq<q
   ·have hv:FM x.seq q= -1:=if_pos hc
    rw [hv]
    have HN:Hid (∀(k:Nat) (y:aF),k<m+1→H[k]? =some y→y.seq<q):=af (by
     intro k y hk hy;rcases Nat.lt_or_ge k m with h|h
     ·have h3:=lf k m (dM hy) (dM bz.out) h
      obtain⟨_,e1⟩:=lB hy;obtain⟨_,e2⟩:=lB bz.out;rw [e1,e2]at h3;omega
     ·have:k=m:=by omega
      subst this;have h3:=bz.out;rw [hy]at h3;injection h3 with h3;rw [h3];exact hc)
    clear lf hc hv;go_wp2_with fail
    go_roundw
    case rel=>exact⟨m+1,b,by go_num,rfl,by omega,eU,HN.out,H2.out,bA.out⟩
    case measure=>simp [RowKit.intOf];omega
   ·have hv:¬FM x.seq q<0:=by unfold FM;rw [if_neg hc];split<;>omega
    have HN:Hid (∀(k:Nat) (y:aF),m≤k→H[k]? =some y→q≤y.seq):=af (by
     intro k y hk hy;rcases Nat.lt_or_ge m k with h|h
     ·have h3:=lf m k (dM bz.out) (dM hy) h
      obtain⟨_,e1⟩:=lB hy;obtain⟨_,e2⟩:=lB bz.out;rw [e1,e2]at h3;omega
     ·have:k=m:=by omega
      subst this;have h3:=bz.out;rw [hy]at h3;injection h3 with h3;rw [h3];omega)
    clear lf hc;go_wp2_with fail
    go_roundw
    case rel=>exact⟨a,m,rfl,rfl,by omega,by omega,H1.out,HN.out,bA.out⟩
    case measure=>simp [RowKit.intOf];omega
  ·have hba:b=a:=by omega
   subst hba;have hpos:=aaN (by omega) H1.out H2.out;have aaO:=aj1 cO.out H1.out H2.out;have Ht:=af hpos;have uf:=af aaO;clear hpos aaO;by_cases hal:b<H.length
   ·have aj4:(b:Int)<(H.length:Int):=by omega
    obtain⟨x,hx⟩:∃x,H[b]? =some x:=⟨_,List.getElem?_eq_getElem hal⟩;obtain⟨g,off,c',he,_,hcs⟩:=hsl.get hx;injection he with he _ eS;subst he;subst eS;have c0:ax.cell? ⟨g,off+b*7,none⟩=some ↑x.seq:=hcs 0 _ rfl;have c1:ax.cell? ⟨g,off+b*7+1,none⟩=some ↑x.inst:=hcs 1 _ rfl;have c2:ax.cell? ⟨g,off+b*7+2,none⟩=some ↑x.side:=hcs 2 _ rfl;have c3:ax.cell? ⟨g,off+b*7+3,none⟩=some ↑x.ap:=hcs 3 _ rfl;have dH:ax.cell? ⟨g,off+b*7+4,none⟩=some ↑x.aq:=hcs 4 _ rfl;have b8:ax.cell? ⟨g,off+b*7+5,none⟩=some ↑x.count:=hcs 5 _ rfl;have fJ:ax.cell? ⟨g,off+b*7+6,none⟩=some ↑x.imp:=hcs 6 _ rfl;have jy:=aaM x q ax;unfold aF.agg at jy;have Lp:=af jy;have hq:=H2.out b x (Nat.le_refl _) hx
    have hv:(FM x.seq q==0)=decide (x.seq=q):=by
     unfold FM;rw [if_neg (by omega)];by_cases he:x.seq=q
     ·rw [if_neg (by omega),decide_eq_true he];rfl
     ·rw [if_pos (by omega),decide_eq_false he];rfl
    have dD:Hid (kP q H=decide (x.seq=q)):=af (by rw [uf.out,hx]);clear hcs hx jy hsl uf hq;go_wp2_with fail
    refine Lp.out.mono ?_;rintro e w1 ⟨rfl,hb1⟩;have bA:=ag aG hb1;clear hb1 Lp c0 c1 c2 c3 dH b8 fJ;go_wp2_with fail
    go_ret2
    exact⟨by rw [Ht.out,dD.out];try rfl,bA.out⟩
   ·have aj4:¬(b:Int)<(H.length:Int):=by omega
    have dD:Hid (kP q H=false):=af (by rw [uf.out,List.getElem?_eq_none (by omega)]);clear hsl uf;go_wp2_with fail
    go_ret2
    exact⟨by rw [Ht.out,dD.out];try rfl,aG.out⟩
def jC (side:Int) (prev:Option Int):List aB→Bool
 | []=>true
 |x::t=>decide (1≤x.aq∧1≤x.count)&&(match prev with|none=>true|some p=>cT side p x.ap)&&jC side (some x.ap) t
theorem aat (side:Int):∀(x:aB) (t:List aB),yz side (x::t)=(decide (1≤x.aq∧1≤x.count)&&jC side (some x.ap) t)
 |x,[]=>by simp [yz,jC]
 |x,y::t=>by
  show(decide (1≤x.aq∧1≤x.count)&&cT side x.ap y.ap&&yz side (y::t))=_;rw [aat side y t];show _=(decide (1≤x.aq∧1≤x.count)&&(decide (1≤y.aq∧1≤y.count)&&cT side x.ap y.ap&&jC side (some y.ap) t));cases decide (1≤x.aq∧1≤x.count)<;>cases decide (1≤y.aq∧1≤y.count)<;>cases cT side x.ap y.ap<;>rfl
theorem Za (side:Int):∀(L:List aB),yz side L=jC side none L
 | []=>rfl
 |x::t=>by
  rw [aat];show _=(decide (1≤x.aq∧1≤x.count)&&true&&jC side (some x.ap) t);rw [Bool.and_true]
def qt (L:List aB) (k:Nat):Option Int:=if k=0 then none else(L[k-1]?).map aB.ap
theorem Zc {side:Int} {L:List aB} {k:Nat} {x:aB} (hx:L[k]? =some x):jC side (qt L k) (L.drop k)=(decide (1≤x.aq∧1≤x.count)&&(match qt L k with|none=>true|some p=>cT side p x.ap)&&jC side (qt L (k+1)) (L.drop (k+1))):=by
 obtain⟨h1,h2⟩:=lB hx;rw [List.drop_eq_getElem_cons h1,h2];have e:qt L (k+1)=some x.ap:=by unfold qt;rw [if_neg (by omega),Nat.add_sub_cancel,hx];rfl
 rw [e];rfl
section
variable {w w':World}
theorem aau {B:Nat} {sh:eO} {d:aX} (h:bV bS w B sh d) (side:Int) (hl:d.lv.length≤800000):
 Calls Tryz.prog 128 #[↑side,.agg #[.slice sh.a sh.n sh.c,↑sh.im.ap,↑sh.im.aq,↑sh.im.count,↑sh.has]] w fun e w'=>e= .returned (.bool (ji side d))∧Below w.heap.size w w':=by
 obtain⟨L,⟨ip,G5,zW⟩,hs⟩:=d;obtain⟨sa,sn,sc,⟨jp,wK,y5⟩,BV⟩:=sh;obtain⟨h1,h2,h3,h4⟩:=h;dsimp only at h1 h2 h3 h4 hl⊢;injection h3 with e1 e2 bJ;subst h1;subst h4;subst e1;subst e2;subst bJ;have dD:Hid (ji side ⟨L,⟨jp,wK,y5⟩,BV⟩=(jC side none L&&decide (L.length≤255)&&(if BV=true then decide (1≤wK∧1≤y5)else decide ((⟨jp,wK,y5⟩:aB)=jD)))):=af (by unfold ji;rw [Za]);obtain⟨bi,nX⟩:∃bi,(if BV=true then decide (1≤wK∧1≤y5)else decide ((⟨jp,wK,y5⟩:aB)=jD))=bi:=⟨_,rfl⟩;rw [dD.out,nX];have aav:=af nX;clear nX;have hba:=Below.aI w (.cells #[.slice sa L.length sc,↑jp,↑wK,↑y5,↑BV] 49);have bU:Hid (av (w.alloc (.cells #[.slice sa L.length sc,↑jp,↑wK,↑y5,↑BV] 49)) w.heap.size 49 #[.slice sa L.length sc,↑jp,↑wK,↑y5,↑BV]):=af (av.new _ _ _);have aG:=af hba;have bM:=af (h2.below hba);clear hba h2 dD;go_enter Tryz.func128,Tryz.ntmps128
 go_upto_region 1 with(fail)
 obtain⟨g,hg⟩:=ai w.heap.size;rw [hg]at bU⊢;clear hg;generalize w.alloc (.cells #[.slice sa L.length sc,↑jp,↑wK,↑y5,↑BV] 49)=w1 at*;have c0:w1.cell? ↑g=some (.slice sa L.length sc):=bU.out.cell 0;go_wp2_with fail
 go_loopw [10] (fun i w'=>∃k:Nat,i=↑k∧k≤L.length∧jC side none L=jC side (qt L k) (L.drop k)∧Below w1.heap.size w1 w') (fun i _=>L.length-(RowKit.intOf i).toNat)
 case atStart=>exact⟨0,rfl,Nat.zero_le _,rfl,Below.refl _ _⟩
 case round=>
  clear c0;obtain⟨k,rfl,hk,fk,hb⟩:=hrel;obtain⟨ax,rfl⟩:=aj wr;have iT:=af fk;have fZ:=af hb;have xJ:=af (bU.out.below hb);have BW:=af (bM.out.below hb);clear fk hb;by_cases hlt:k<L.length
  ·have hlt':(k:Int)<(L.length:Int):=by omega
   obtain⟨x,hx⟩:∃x,L[k]? =some x:=⟨_,List.getElem?_eq_getElem hlt⟩;have gG:=af (Zc (side:=side) hx);obtain⟨bE,cap,he,_,cD⟩:=BW.out.at_ k x hx;injection he with eb _ eS;subst eb;subst eS;obtain⟨x0,x1,aZ,_⟩:=DD BW.out hx;have bz:=af hx;clear cD hx;obtain⟨aL,fO⟩:=ai ax.heap.size;go_upto_region 4 with(fail)
   have cx:Below ax.heap.size ax (ax.alloc (.cells #[↑x.ap,↑x.aq,↑x.count] 47)):=Below.aI _ _;have FH:av (ax.alloc (.cells #[↑x.ap,↑x.aq,↑x.count] 47)) ax.heap.size 47 #[↑x.ap,↑x.aq,↑x.count]:=av.new _ _ _;rw [fO]at FH;have bY:Hid (Below w.heap.size w (ax.alloc (.cells #[↑x.ap,↑x.aq,↑x.count] 47))):=af (aG.out.trans ((ag fZ cx).out.mono aG.out.size));have Dl:=ag fZ cx;have mJ:=af (xJ.out.below cx);have k7:=af (BW.out.below cx);have fy:=af FH;clear cx FH fO x0 x1 aZ xJ BW fZ;generalize ax.alloc (.cells #[↑x.ap,↑x.aq,↑x.count] 47)=aA at*;obtain⟨x0,x1,aZ⟩:=fy.out.amv;have g0:aA.cell? ↑g=some (.slice ↑bE L.length sc):=mJ.out.cell 0;by_cases hq:x.aq<1
   ·have yC:decide (x.aq<1)=true:=decide_eq_true hq
    have b5:Hid (jC side none L=false):=af (by rw [iT.out,gG.out,decide_eq_false (by omega:¬(1≤x.aq∧1≤x.count)),Bool.false_and,Bool.false_and]);clear hq;go_quiet (fail)
    have bQ:=bY.out.trans ((Below.bO aA nq).mono bY.out.size);go_wp2_with fail
    go_ret;exact⟨by rw [b5.out];try rfl,bQ⟩
   ·have yC:decide (x.aq<1)=false:=decide_eq_false hq
    by_cases hc:x.count<1
    ·have hcd:decide (x.count<1)=true:=decide_eq_true hc
     have b5:Hid (jC side none L=false):=af (by rw [iT.out,gG.out,decide_eq_false (by omega:¬(1≤x.aq∧1≤x.count)),Bool.false_and,Bool.false_and]);clear hq hc;go_quiet (fail)
     have bQ:=bY.out.trans ((Below.bO aA nq).mono bY.out.size);go_wp2_with fail
     go_ret;exact⟨by rw [b5.out];try rfl,bQ⟩
    ·have hcd:decide (x.count<1)=false:=decide_eq_false hc
     have dJ:Hid (decide (1≤x.aq∧1≤x.count)=true):=af (decide_eq_true (by omega));clear hq hc;by_cases iQ:k=0
     ·have R2:¬(0:Int)<(k:Int):=by omega
      have HN:Hid (jC side none L=jC side (qt L (k+1)) (L.drop (k+1))):=af (by rw [iT.out,gG.out,dJ.out,show qt L k=none from if_pos iQ];rfl);go_quiet (fail)
      have gi:=af (Dl.out.trans ((Below.bO aA nq).mono Dl.out.size));go_wp2_with fail
      go_roundw
      case rel=>exact⟨k+1,by go_num,hlt,HN.out,gi.out⟩
      case measure=>simp [RowKit.intOf];omega
     ·have R2:(0:Int)<(k:Int):=by omega
      have mO:decide (0<k)=true:=decide_eq_true (by omega);obtain⟨j,hj⟩:∃j:Nat,k=j+1:=⟨k-1,by omega⟩;have y1:IntKind.i64.wrap (j:Int)=(j:Int):=IntWalk.i64_in _ (by omega);have lF:(0:Int)≤(j:Int):=by omega
      have fI:(k:Int)-1=(j:Int):=by omega
      have hjl:(j:Int)<(L.length:Int):=by omega
      obtain⟨y,hy⟩:∃y,L[j]? =some y:=⟨_,List.getElem?_eq_getElem (by omega)⟩;obtain⟨jh,_,_,_⟩:=DD k7.out hy;have sD:qt L k=some y.ap:=by unfold qt;rw [if_neg iQ,hj,Nat.add_sub_cancel,hy];rfl
      have Fh:Hid (jC side none L=(cT side y.ap x.ap&&jC side (qt L (k+1)) (L.drop (k+1)))):=af (by rw [iT.out,gG.out,dJ.out,sD];rfl);have hS:aA.cell? ↑aL=some ↑x.ap∧aA.cell? ⟨aL,1,none⟩=some ↑x.aq∧aA.cell? ⟨aL,2,none⟩=some ↑x.count∧aA.cell? ↑g=some (.slice ↑bE L.length sc)∧aA.cell? ⟨bE,j*3,none⟩=some ↑y.ap:=⟨x0,x1,aZ,g0,jh⟩;have nK:=af (Wz side y.ap x.ap aA.drew);obtain⟨xg,g7⟩:=ai (cT side y.ap x.ap);rw [g7]at nK Fh;clear hj hy sD iQ x0 x1 aZ g0 jh g7 gG iT;refine cP (S:=fun aA=>aA.cell? ↑aL=some ↑x.ap∧aA.cell? ⟨aL,1,none⟩=some ↑x.aq∧aA.cell? ⟨aL,2,none⟩=some ↑x.count∧aA.cell? ↑g=some (.slice ↑bE L.length sc)∧aA.cell? ⟨bE,j*3,none⟩=some ↑y.ap) hS fun hHeld=>?_;refine au 0 ?_;refine au 1 ?_;refine au 2 ?_;refine au 3 ?_;refine au 4 ?_;refine au 5 ?_;refine au 6 ?_;refine au 7 ?_;refine au 8 ?_;refine au 9 ?_;refine au 10 ?_;refine au 11 ?_;refine au 12 ?_;refine au 13 ?_;refine au 14 ?_;refine au 15 ?_;refine au 16 ?_;refine au 17 ?_;refine au 18 ?_;refine au 19 ?_;refine au 20 ?_;refine au 21 ?_;refine aU 22 fun K hK=>?_;go_simp;refine nK.out.mono ?_;rintro e aN ⟨rfl,rfl⟩;refine hK.out _ _ hHeld (fun hHeld=>?_);clear hK K;refine au 23 ?_;refine au 24 ?_;refine dY 25 fun K hK=>?_;go_simp;refine hK.out _ _ ?_;clear hK K hHeld hS;have gi:=af (Dl.out.trans ((Below.bO aA 1).mono Dl.out.size));have dO:=af (bY.out.trans ((Below.bO aA 1).mono bY.out.size));cases xg with
      |true=>
       have HN:Hid (jC side none L=jC side (qt L (k+1)) (L.drop (k+1))):=af (by rw [Fh.out,Bool.true_and]);go_wp2_with fail
       go_roundw
       case rel=>exact⟨k+1,by go_num,hlt,HN.out,gi.out⟩
       case measure=>simp [RowKit.intOf];omega
      |false=>
       have b5:Hid (jC side none L=false):=af (by rw [Fh.out,Bool.false_and]);go_wp2_with fail
       go_ret;exact⟨by rw [b5.out];try rfl,dO.out⟩
  ·have eR:k=L.length:=by omega
   have kx:Hid (jC side none L=true):=af (by rw [iT.out,eR,List.drop_length];rfl);have cH:=ah aG fZ;obtain⟨g0,g1,g2,aV,c5⟩:=xJ.out.amx;obtain⟨b1,hb1⟩:=ai (decide (L.length≤255));have ajz:decide ((L.length:Int)≤255)=b1:=by rw [←hb1];exact decide_eq_decide.2 (by omega)
   have bA:=af hb1;clear eR hb1 iT xJ BW fZ;cases BV with
   |true=>
    have nX:=aav.out;rw [if_pos rfl]at nX;clear g1;by_cases hq:1≤wK
    ·have yC:decide (1≤wK)=true:=decide_eq_true hq
     obtain⟨b2,hb2⟩:=ai (decide (1≤y5));have aS:Hid (bi=b2):=af (by rw [←nX,←hb2];exact decide_eq_decide.2 (by omega));clear nX hq;cases b1 with
     |true=>
      go_wp2_with fail
      go_ret;exact⟨by first|(rw [kx.out,bA.out,aS.out,hb2];rfl)|simp [kx.out,bA.out,aS.out],cH.out⟩
     |false=>
      go_wp2_with fail
      go_ret;exact⟨by first|(rw [kx.out,bA.out,aS.out];rfl)|simp [kx.out,bA.out,aS.out],cH.out⟩
    ·have yC:decide (1≤wK)=false:=decide_eq_false hq
     have aS:Hid (bi=false):=af (by rw [←nX];exact decide_eq_false (by omega));clear nX hq;cases b1 with
     |true=>
      go_wp2_with fail
      go_ret;exact⟨by first|(rw [kx.out,bA.out,aS.out];rfl)|simp [kx.out,bA.out,aS.out],cH.out⟩
     |false=>
      go_wp2_with fail
      go_ret;exact⟨by first|(rw [kx.out,bA.out,aS.out];rfl)|simp [kx.out,bA.out,aS.out],cH.out⟩
   |false=>
    have nX:=aav.out;rw [if_neg (by simp)]at nX;cases b1 with
    |false=>
     clear nX;go_wp2_with fail
     go_ret;exact⟨by first|(rw [kx.out,bA.out];rfl)|simp [kx.out,bA.out],cH.out⟩
    |true=>
     have SN:=af nX;clear nX;go_wp2_with fail
     all_goals go_ret
     all_goals refine⟨?_,cH.out⟩
     all_goals first
      |(rw [kx.out,bA.out,←SN.out];simp_all [jD];done)
      |(simp [kx.out,bA.out,←SN.out,jD];done)
      |(simp [kx.out,bA.out,←SN.out,jD, *];done)
end
end Go.Proofs.YtmaijkoopjocdaaGreat
