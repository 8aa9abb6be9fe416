import Derived.Test.YtmaijkoopjocdaaGreatKV09
import Derived.Test.YtmaijkoopjocdaaGreatKV04
set_option maxRecDepth 100000
set_option maxHeartbeats 64000000
namespace Go.Proofs.YtmaijkoopjocdaaGreat
open Go.RowKit Go.Lib
theorem acy {w:World} {B:Nat} {v:Value} {V:bG} (h:cg ey bS w B v V) (hl:V.length≤255) {K:Nat} (hK:fX V K) (n5:K≤800000) {q p t c:Int} {i s:Nat} (hi:i<V.length) (hs:s<2) (iH:n6 V.length ⟨q,i,(s:Int)+1,p,t,c,true⟩=0):
 Calls Tryz.prog 83 #[.agg #[v],.agg #[↑q,↑i,.int .i64 ((s:Int)+1),↑p,↑t,↑c,.bool true]] w fun e w'=>∃v',e= .returned (.tuple #[.agg #[v'],.int .i64 0])∧cg ey bS w' w.heap.size v' (gm ⟨q,i,(s:Int)+1,p,t,c,true⟩ V)∧Below w.heap.size w w':=by
 obtain⟨a,aY,rfl⟩:=h.form;obtain⟨im,gp⟩:=ai true;have hz1:(w.alloc (.cells #[.slice a V.length aY] 43)).heap.size=w.heap.size+1:=by simp
 have eg:((w.alloc (.cells #[.slice a V.length aY] 43)).alloc (.cells #[↑q,↑i,.int .i64 ((s:Int)+1),↑p,↑t,↑c,↑im] 86)).heap.size=w.heap.size+1+1:=by simp
 have hb1:=Below.aI w (.cells #[.slice a V.length aY] 43);have hb2:=hb1.trans ((Below.aI (w.alloc (.cells #[.slice a V.length aY] 43)) (.cells #[↑q,↑i,.int .i64 ((s:Int)+1),↑p,↑t,↑c,↑im] 86)).mono hb1.size);have hb3:=hb2.trans ((Below.aI ((w.alloc (.cells #[.slice a V.length aY] 43)).alloc (.cells #[↑q,↑i,.int .i64 ((s:Int)+1),↑p,↑t,↑c,↑im] 86)) (.cells #[.slice none 0 0] 43)).mono hb2.size);have fC:av (((w.alloc (.cells #[.slice a V.length aY] 43)).alloc (.cells #[↑q,↑i,.int .i64 ((s:Int)+1),↑p,↑t,↑c,↑im] 86)).alloc (.cells #[.slice none 0 0] 43)) w.heap.size 43 #[.slice a V.length aY]:=((av.new w _ _).alloc _).alloc _
 have dL:av (((w.alloc (.cells #[.slice a V.length aY] 43)).alloc (.cells #[↑q,↑i,.int .i64 ((s:Int)+1),↑p,↑t,↑c,↑im] 86)).alloc (.cells #[.slice none 0 0] 43)) (w.heap.size+1) 86 #[↑q,↑i,.int .i64 ((s:Int)+1),↑p,↑t,↑c,↑im]:=by
  have:=(av.new (w.alloc (.cells #[.slice a V.length aY] 43)) 86 #[↑q,↑i,.int .i64 ((s:Int)+1),↑p,↑t,↑c,↑im]).alloc (.cells #[.slice none 0 0] 43)
  rwa [hz1]at this
 have fe:av (((w.alloc (.cells #[.slice a V.length aY] 43)).alloc (.cells #[↑q,↑i,.int .i64 ((s:Int)+1),↑p,↑t,↑c,↑im] 86)).alloc (.cells #[.slice none 0 0] 43)) (w.heap.size+1+1) 43 #[.slice none 0 0]:=by
  have:=av.new ((w.alloc (.cells #[.slice a V.length aY] 43)).alloc (.cells #[↑q,↑i,.int .i64 ((s:Int)+1),↑p,↑t,↑c,↑im] 86)) 43 #[.slice none 0 0]
  rwa [eg]at this
 have eu:=xQ V.length ⟨q,i,(s:Int)+1,p,t,c,im⟩ (((w.alloc (.cells #[.slice a V.length aY] 43)).alloc (.cells #[↑q,↑i,.int .i64 ((s:Int)+1),↑p,↑t,↑c,↑im] 86)).alloc (.cells #[.slice none 0 0] 43));rw [gp]at iH;rw [iH]at eu;unfold aF.agg at eu;dsimp only at eu;have e5:=af (h.below hb3);have lg:=af hK;obtain⟨x,hx⟩:∃x,V[i]? =some x:=⟨_,List.getElem?_eq_getElem hi⟩;have bz:=af hx;have kg:=af gp;have bg:=af eu;have aQ:=af hb3;have fq:=af fC;have cy:=af dL;have eL:=af fe;rw [gp];clear h hK hx gp hz1 eg hb1 hb2 hb3 fC dL fe eu iH;go_enter Tryz.func83,Tryz.ntmps83
 go_upto_region 1 with(fail)
 obtain⟨w1,hw1⟩:=ai (((w.alloc (.cells #[.slice a V.length aY] 43)).alloc (.cells #[↑q,↑i,.int .i64 ((s:Int)+1),↑p,↑t,↑c,↑im] 86)).alloc (.cells #[.slice none 0 0] 43));obtain⟨aM,fC⟩:=ai w.heap.size;obtain⟨ay,dL⟩:=ai (w.heap.size+1);obtain⟨gr,fe⟩:=ai (w.heap.size+1+1);rw [hw1]at e5 aQ fq cy eL bg⊢;rw [fe]at eL⊢;rw [dL]at cy⊢;rw [fC]at fq⊢;have fQ:Hid (aM≠gr):=af (by omega);have zo:Hid (ay≠gr):=af (by omega);have iO:Hid (aM≠ay):=af (by omega);have jT:Hid (w.heap.size≤aM):=af (by omega);have wR:Hid (w.heap.size≤gr):=af (by omega);clear hw1 fC dL fe;have b0:w1.cell? ↑aM=some (.slice a V.length aY):=fq.out.cell 0;obtain⟨m0,m1,m2,eN,ea,eY,dV⟩:=cy.out.amz;go_wp2_with fail
 refine bg.out.mono ?_;rintro e w2 ⟨rfl,hb⟩;replace fq:=af (fq.out.below hb);replace cy:=af (cy.out.below hb);replace eL:=af (eL.out.below hb);replace e5:=af (e5.out.below hb);replace aQ:=ag aQ hb;clear hb bg b0 m0 m1 m2 eN ea eY dV;have b0:w2.cell? ↑aM=some (.slice a V.length aY):=fq.out.cell 0;go_wp2_with fail
 refine(Dz e5.out hl lg.out (by omega)).mono ?_;rintro e w3 ⟨v',rfl,⟨P,hP,gK,g8,rf⟩,hb⟩;obtain⟨bx,iP⟩:∃p,P[i]? =some p:=⟨_,List.getElem?_eq_getElem (by omega)⟩;obtain⟨go,cap,he,_,_⟩:=hP.at_ i bx iP;rw [gK]at he;subst he;have cj:=fq.out.below hb;have aP:=aQ.out.trans (hb.mono aQ.out.size);have hst:=ct w3 aM 0 (.slice ↑go V.length cap);have hW:w.heap.size≤w2.heap.size:=aQ.out.size;have dx:=af ((hP.base hW).cC cj.aE (by decide) 0 (.slice ↑go V.length cap));have e6:Hid (∀(j:Nat) (p:bB) (x:aX×aX),P[j]? =some p→V[j]? =some x→bV bS (w3.setCell ↑aM (.slice ↑go V.length cap)) w.heap.size p.s x.1∧bV bS (w3.setCell ↑aM (.slice ↑go V.length cap)) w.heap.size p.t x.2):=af fun j p x hp hx=>⟨((g8 j p x hp hx).1.base hW).cC cj.aE (by decide) 0 _,((g8 j p x hp hx).2.base hW).cC cj.aE (by decide) 0 _⟩;have gq:=af gK;have lO:=af rf;have dh:=af iP;have eV:=af ((cy.out.below hb).cC (p:=⟨aM,0,none⟩) (Ne.symm iO.out) (.slice ↑go V.length cap));have ri:=af ((eL.out.below hb).cC (p:=⟨aM,0,none⟩) (Ne.symm fQ.out) (.slice ↑go V.length cap));have ny:Hid (av (w3.setCell ↑aM (.slice ↑go V.length cap)) aM 43 #[.slice ↑go V.length cap]):=af (cj.aW 0 _);have bN:=af (aP.setCell (p:=⟨aM,0,none⟩) jT.out (.slice ↑go V.length cap));have b3:w3.cell? ↑aM=some (.slice a V.length aY):=cj.cell 0;have vo:w3.frozen? ↑aM=false:=cj.frozen 0;clear hP gK g8 rf iP cj aP hst hW hb b0 fq cy eL e5 aQ;go_upto_region 5 with(fail)
 clear b3 vo;generalize w3.setCell ↑aM (.slice ↑go V.length cap)=az at*;have b4:az.cell? ↑aM=some (.slice ↑go V.length cap):=ny.out.cell 0;obtain⟨m0,m1,m2,eN,ea,eY,dV⟩:=eV.out.amz;have y1:IntKind.i64.wrap ((s:Int)+1-1)=(s:Int):=by rw [IntWalk.i64_in _ (by omega)];omega
 have fI:(s:Int)+1-1=(s:Int):=by omega
 have hi2:(i:Int)<(V.length:Int):=by omega
 have fD:(s:Int)<2:=by omega
 go_quiet (fail)
 have bQ:=(Below.bO az nq).trans ((Below.aI (az.drewN nq) (.cells #[↑p,↑t,↑c] 47)).mono (Nat.le_refl _));obtain⟨aH,dr⟩:=ai az.heap.size
 have rj:sS w ((az.drewN nq).alloc (.cells #[↑p,↑t,↑c] 47)) aM ay gr aH go cap V P q p t c i s im:=by
  refine⟨ny.out.below bQ,eV.out.below bQ,ri.out.below bQ,?_,dx.out.below bQ,fun j p x hp hx=>⟨(e6.out j p x hp hx).1.below bQ,(e6.out j p x hp hx).2.below bQ⟩,bN.out.trans (bQ.mono bN.out.size)⟩;rw [←dr];exact av.new (az.drewN nq) _ _
 have dR:=af rj
 have DA:Hid (∀g,(bx.sh s).own=some g→g<aH):=af (by
  intro g hg;have hh:=e6.out i bx x dh.out bz.out;rw [←dr];unfold bB.sh at hg;split at hg
  ·exact ki hh.1.row g hg
  ·exact ki hh.2.row g hg)
 have Au:Hid (w.heap.size≤aH):=af (by rw [←dr];exact bN.out.size);have tY:(az.drewN nq).heap.size=aH:=dr;go_upto_region 7 with(fail)
 clear rj bQ dr tY ny eV ri dx e6 bN b4 m0 m1 m2 eN ea eY dV y1 fI;generalize (az.drewN nq).alloc (.cells #[↑p,↑t,↑c] 47)=aA at*;have gp:=kg.out;subst gp;clear kg;have dV:aA.cell? ⟨ay,6,none⟩=some (.bool true):=dR.out.bm.cell 6;go_upto_region 8 with(fail)
 clear dV;have hS:aA.cell? ↑aH=some ↑p∧aA.cell? ⟨aH,1,none⟩=some ↑t∧aA.cell? ⟨aH,2,none⟩=some ↑c∧aA.cell? ⟨ay,4,none⟩=some ↑t:=⟨dR.out.nA.cell 0,dR.out.nA.cell 1,dR.out.nA.cell 2,dR.out.bm.cell 4⟩;refine cP (S:=fun w'=>w'.cell? ↑aH=some ↑p∧w'.cell? ⟨aH,1,none⟩=some ↑t∧w'.cell? ⟨aH,2,none⟩=some ↑c∧w'.cell? ⟨ay,4,none⟩=some ↑t) hS fun hHeld=>?_;refine au 0 ?_;refine au 1 ?_;refine au 2 ?_;refine au 3 ?_;refine au 4 ?_;refine au 5 ?_;refine au 6 ?_;refine au 7 ?_;refine aU 8 fun K hK=>?_;have k1:aA.cell? ⟨go,i*10+s*5+1,none⟩=some (.int .i64 (bx.sh s).im.ap):=nB dR.out.row dh.out hs rfl;have k2:aA.cell? ⟨go,i*10+s*5+2,none⟩=some (.int .i64 (bx.sh s).im.aq):=nB dR.out.row dh.out hs rfl;have di:aA.cell? ⟨go,i*10+s*5+3,none⟩=some (.int .i64 (bx.sh s).im.count):=nB dR.out.row dh.out hs rfl;have qA:=dR.out.fz dh.out;go_simp;have fu:=(L6 aA go (i*10+s*5) ↑p ↑t ↑c).trans (Below.keeps (Below.bO _ 1));have bX:=(Row.TV dR.out.row dh.out hs ⟨p,t,c⟩).below (Below.bO _ 1);have rm:ck aA go ey.t:=eo dR.out.row go rfl;have e1:aM≠go:=dR.out.bv.aE.ne rm (by decide);have e2:ay≠go:=dR.out.bm.aE.ne rm (by decide);have bJ:gr≠go:=dR.out.br.aE.ne rm (by decide);have cV:aH≠go:=dR.out.nA.aE.ne rm (by decide);have B7:Hid (w.heap.size≤go):=af (cS dR.out.row go rfl);have wS:=af rm;have L7:=af (dR.out.bv.keeps fu e1);have L8:=af (dR.out.bm.keeps fu e2);have L9:=af (dR.out.br.keeps fu bJ);have F2:=af (dR.out.nA.keeps fu cV);have wT:=af fu;have cL:=af bX;have TW:=af bJ;clear fu bX rm e1 e2 bJ cV k1 k2 di qA;obtain⟨aN,r7⟩:=ai ((((aA.setCell ⟨go,i*10+s*5+1,none⟩ ↑p).setCell ⟨go,i*10+s*5+1+1,none⟩ ↑t).setCell ⟨go,i*10+s*5+1+2,none⟩ ↑c).drew);have hdr:∀u:World,u.drewN 1=u.drew:=fun _=>rfl;rw [hdr,r7]at wT cL;replace L7:Hid (av aN aM 43 #[.slice ↑go V.length cap]):=af (by rw [←r7];exact L7.out);replace L8:Hid (av aN ay 86 #[↑q,↑i,.int .i64 ((s:Int)+1),↑p,↑t,↑c,.bool true]):=af (by rw [←r7];exact L8.out);replace L9:Hid (av aN gr 43 #[.slice none 0 0]):=af (by rw [←r7];exact L9.out);replace F2:Hid (av aN aH 47 #[↑p,↑t,↑c]):=af (by rw [←r7];exact F2.out);rw [r7];refine hK.out _ _ ⟨F2.out.cell 0,F2.out.cell 1,F2.out.cell 2,L8.out.cell 4⟩ (fun hHeld=>?_);clear hK K hdr r7 hS;refine au 9 ?_;refine au 10 ?_;refine dY 11 fun K hK=>?_;have jc:aN.cell? ⟨go,i*10+s*5+4,none⟩=some (.bool (bx.sh s).has):=nB cL.out (pR dh.out _) hs (by rw [bB.Av];rfl);have qA:aN.frozen? ⟨go,i*10+s*5+4,none⟩=false:=Row.Ip cL.out (pR dh.out _) _;go_simp;refine hK.out _ _ ?_;have kE:=wT.out.trans (ct aN go (i*10+s*5+4) (.bool (decide (0<t))));have lQ:=Row.DB cL.out (pR dh.out _) hs (f:=4) (by decide) (x:=⟨(bx.sh s).a,(bx.sh s).n,(bx.sh s).c,⟨p,t,c⟩,decide (0<t)⟩) (u:= .bool (decide (0<t))) (by rw [bB.Av];rfl);rw [List.set_set,bB.Ma]at lQ;have e1:aM≠go:=dR.out.bv.aE.ne wS.out (by decide)
 have TX:=af (L7.out.cC (p:=⟨go,i*10+s*5+4,none⟩) e1 (.bool (decide (0<t))));have Iq:=af (L9.out.cC (p:=⟨go,i*10+s*5+4,none⟩) TW.out (.bool (decide (0<t))));have pS:=af kE;have m5:=af lQ;clear hK K jc qA hHeld kE lQ e1 L7 L8 L9 F2 wT cL;generalize aN.setCell ⟨go,i*10+s*5+4,none⟩ (.bool (decide (0<t)))=bf at*;have jc:bf.cell? ⟨go,i*10+s*5+4,none⟩=some (.bool (decide (0<t))):=nB m5.out (pR dh.out _) hs (by rw [bB.Av];rfl);by_cases ht:0<t
 ·have B8:Hid (decide (0<t)=true):=af (decide_eq_true ht)
  have hm:(c9 x s).app ⟨q,i,(s:Int)+1,p,t,c,true⟩=⟨(c9 x s).lv,⟨p,t,c⟩,true⟩:=by unfold aX.app;rw [if_pos rfl,if_pos ht];rfl
  have r8:=af hm;clear hm;have v0:bf.cell? ↑aM=some (.slice ↑go V.length cap):=TX.out.cell 0;have cu:bf.cell? ↑gr=some (.slice none 0 0):=Iq.out.cell 0;have sU:bf.frozen? ↑gr=false:=Iq.out.frozen 0;have vp:=af (dR.out.done (d:=⟨(c9 x s).lv,⟨p,t,c⟩,true⟩) gq.out lO.out dh.out bz.out hs pS.out (fun g hg e=>absurd e (hg.ne wS.out (by decide))) m5.out (⟨(dR.out.oZ dh.out bz.out).n,(dR.out.oZ dh.out bz.out).row.keep pS.out (fun g hg e=>hg.ne wS.out (by decide) e),rfl,B8.out⟩) Iq.out.aE r8.out (.slice ↑go V.length cap));have cH:=af ((dR.out.aJ.trans (pS.out.below (B:=w.heap.size) (fun k hk=>by have hk2:k=go:=hk;rw [hk2];exact B7.out) dR.out.aJ.size)).setCell (p:=⟨gr,0,none⟩) wR.out (.slice ↑go V.length cap));have vq:Hid (av (bf.setCell ↑gr (.slice ↑go V.length cap)) gr 43 #[.slice ↑go V.length cap]):=af (Iq.out.aW 0 _);rw [B8.out]at jc;go_wp2_with fail
  clear v0 cu sU;generalize bf.setCell ↑gr (.slice ↑go V.length cap)=wf at*;have f0:wf.cell? ↑gr=some (.slice ↑go V.length cap):=vq.out.cell 0;refine bodyPost_ret (v:= .tuple #[.agg #[.slice ↑go V.length cap],.int .i64 0]) (by simp [results,Tryz.results83,go_sem,f0]) rfl ⟨_,rfl,vp.out,cH.out⟩
 ·have B8:Hid (decide (0<t)=false):=af (decide_eq_false ht)
  have r8:Hid ((c9 x s).app ⟨q,i,(s:Int)+1,p,t,c,true⟩=⟨(c9 x s).lv,jD,false⟩):=af (by unfold aX.app;rw [if_pos rfl,if_neg ht]);rw [B8.out]at jc;have k1:bf.cell? ⟨go,i*10+s*5+1,none⟩=some ↑p:=nB m5.out (pR dh.out _) hs (by rw [bB.Av];rfl);have k2:bf.cell? ⟨go,i*10+s*5+2,none⟩=some ↑t:=nB m5.out (pR dh.out _) hs (by rw [bB.Av];rfl);have di:bf.cell? ⟨go,i*10+s*5+3,none⟩=some ↑c:=nB m5.out (pR dh.out _) hs (by rw [bB.Av];rfl);have qA:∀o,bf.frozen? ⟨go,o,none⟩=false:=fun o=>Row.Ip m5.out (pR dh.out _) o;have pT:=af (pS.out.trans (L6 bf go (i*10+s*5) (.int .i64 0) (.int .i64 0) (.int .i64 0)));have qB:=Row.TV m5.out (pR dh.out _) hs jD;rw [List.set_set,bB.Ma,bB.Av]at qB;have pU:=af qB;have e1:aM≠go:=dR.out.bv.aE.ne wS.out (by decide);have acz:=af (TX.out.keeps (L6 bf go (i*10+s*5) (.int .i64 0) (.int .i64 0) (.int .i64 0)) e1);have Mb:=af (Iq.out.keeps (L6 bf go (i*10+s*5) (.int .i64 0) (.int .i64 0) (.int .i64 0)) TW.out);clear qB e1;go_upto_region 11 with(fail)
  clear k1 k2 di jc qA;unfold jD at pU;dsimp only at pU;generalize ((bf.setCell ⟨go,i*10+s*5+1,none⟩ (.int .i64 0)).setCell ⟨go,i*10+s*5+1+1,none⟩ (.int .i64 0)).setCell ⟨go,i*10+s*5+1+2,none⟩ (.int .i64 0)=bZ at*;have v0:bZ.cell? ↑aM=some (.slice ↑go V.length cap):=acz.out.cell 0;have cu:bZ.cell? ↑gr=some (.slice none 0 0):=Mb.out.cell 0;have sU:bZ.frozen? ↑gr=false:=Mb.out.frozen 0;have vp:=af (dR.out.done (d:=⟨(c9 x s).lv,jD,false⟩) gq.out lO.out dh.out bz.out hs pT.out (fun g hg e=>absurd e (hg.ne wS.out (by decide))) pU.out (⟨(dR.out.oZ dh.out bz.out).n,(dR.out.oZ dh.out bz.out).row.keep pT.out (fun g hg e=>hg.ne wS.out (by decide) e),rfl,B8.out⟩) Mb.out.aE r8.out (.slice ↑go V.length cap));have cH:=af ((dR.out.aJ.trans (pT.out.below (B:=w.heap.size) (fun k hk=>by have hk2:k=go:=hk;rw [hk2];exact B7.out) dR.out.aJ.size)).setCell (p:=⟨gr,0,none⟩) wR.out (.slice ↑go V.length cap));have vq:Hid (av (bZ.setCell ↑gr (.slice ↑go V.length cap)) gr 43 #[.slice ↑go V.length cap]):=af (Mb.out.aW 0 _);go_wp2_with fail
  clear v0 cu sU;generalize bZ.setCell ↑gr (.slice ↑go V.length cap)=wf at*;have f0:wf.cell? ↑gr=some (.slice ↑go V.length cap):=vq.out.cell 0;refine bodyPost_ret (v:= .tuple #[.agg #[.slice ↑go V.length cap],.int .i64 0]) (by simp [results,Tryz.results83,go_sem,f0]) rfl ⟨_,rfl,vp.out,cH.out⟩
theorem agB {s x y:Int} (h:cT s x y=true):cT s y x=false:=by
 cases hc:cT s y x with
 |false=>rfl
 |true=>
  have:=D1 h hc;rw [Yb]at this;cases this
theorem Yc {s x y:Int} (h:cT s x y=false) (hne:x≠y):cT s y x=true:=by
 unfold cT at*;split at h<;>rename_i hs
 ·rw [if_pos hs]
  simp only [decide_eq_true_eq,decide_eq_false_iff_not]at*;omega
 ·rw [if_neg hs]
  simp only [decide_eq_true_eq,decide_eq_false_iff_not]at*;omega
theorem EX (side:Int) (o:aC):(mg side o).side=o.side∧(mg side o).ap=o.ap∧(mg side o).id=o.id∧(mg side o).aq=o.aq:=by
 unfold mg;split<;>exact⟨rfl,rfl,rfl,rfl⟩
theorem agC {L:List aC} {id side ap aq:Int} (hs:side=1∨side=2) (hq:1≤aq∧aq≤1000000) (hid:∀o∈L,o.id≠id) (hl:L.length<250):
 mT L id side ap aq=((if mS L side ap=true then L.map (mg side)else L).take (nU L side ap)++ [⟨id,side,ap,aq,mS L side ap⟩]++(if mS L side ap=true then L.map (mg side)else L).drop (nU L side ap),0):=by
 have hf:(L.find? (fun o=>o.id==id)).isSome=false:=by
  rw [Bool.eq_false_iff,ne_eq,List.find?_isSome];rintro⟨o,ho,he⟩;exact hid o ho (by simpa using he)
 unfold mT;rw [if_neg (by rw [agA hs];simp),if_neg (by omega),if_neg (by rw [hf];simp),if_neg (by omega)]
theorem agD {L:List aC} {id side ap aq:Int} {o:aC} {k:Nat} {b:Bool} (ho:o∈(if b=true then L.map (mg side)else L).take k++ [⟨id,side,ap,aq,b⟩]++(if b=true then L.map (mg side)else L).drop k):o=⟨id,side,ap,aq,b⟩∨∃o'∈L,o=if b=true then mg side o' else o':=by
 have h1:o=⟨id,side,ap,aq,b⟩∨o∈(if b=true then L.map (mg side)else L):=by
  rcases List.mem_append.1 ho with h|h
  ·rcases List.mem_append.1 h with h|h
   ·exact .inr (List.mem_of_mem_take h)
   ·exact .inl (List.mem_singleton.1 h)
  ·exact .inr (List.mem_of_mem_drop h)
 rcases h1 with h|h
 ·exact .inl h
 ·refine .inr ?_
  cases b with
  |true=>
   rw [if_pos rfl]at h;obtain⟨o',h2,h3⟩:=List.mem_map.1 h;exact⟨o',h2,by rw [if_pos rfl];exact h3.symm⟩
  |false=>
   rw [if_neg (by simp)]at h;exact⟨o,h,by rw [if_neg (by simp)]⟩
theorem Yd {L:List aC} {x:aC} {side:Int} {k:Nat} {b:Bool}:((if b=true then L.map (mg side)else L).take k++ [x]++(if b=true then L.map (mg side)else L).drop k).length=L.length+1:=by
 have hl:(if b=true then L.map (mg side)else L).length=L.length:=by
  split
  ·exact List.length_map _
  ·rfl
 rw [List.length_append,List.length_append,List.length_take,List.length_drop,hl];simp only [List.length_cons,List.length_nil];omega
theorem XC (L:List aC) (id aq:Int):(pF L id aq).1.length≤L.length:=by
 unfold pF;split
 ·exact Nat.le_refl _
 ·split
  ·exact Nat.le_refl _
  ·split
   ·exact List.length_filter_le ..
   ·simp
def Aa (x y:aC):Prop:=x.side<y.side∨(x.side=y.side∧cT x.side y.ap x.ap=false)
theorem agE {side ap:Int} {x y:aC} (h:Aa x y) (hx:mD side ap x=false):mD side ap y=false:=by
 unfold mD at*;simp only [Bool.or_eq_false_iff,decide_eq_false_iff_not,Bool.and_eq_false_iff,Bool.not_eq_false']at hx⊢;obtain⟨h1,h2⟩:=hx;rcases h with h3|⟨h3,h4⟩
 ·exact⟨by omega,.inl (by omega)⟩
 ·refine⟨by omega,?_⟩
  by_cases hc:y.side=side
  ·refine .inr ?_
   rcases h2 with h2|h2
   ·omega
   ·rw [h3,hc]at h4
    by_cases he:y.ap=x.ap
    ·rw [he];exact h2
    ·exact D1 h2 (Yc h4 he)
  ·exact .inl hc
theorem agF {L:List aC} (h:L.Pairwise Aa) (side ap:Int):(∀o∈L.take (nU L side ap),mD side ap o=true)∧∀o∈L.drop (nU L side ap),mD side ap o=false:=by
 have agG:∀P D:List aC,P++D=L→L.take P.length=P∧L.drop P.length=D:=by
  rintro P D rfl;exact⟨List.take_left,List.drop_left⟩
 obtain⟨e1,e2⟩:=agG _ _ (List.takeWhile_append_dropWhile (p:=mD side ap) (l:=L));unfold nU;rw [e1,e2];refine⟨fun o ho=>?_,fun o ho=>?_⟩
 ·have:=List.all_takeWhile (p:=mD side ap) (l:=L)
  rw [List.all_eq_true]at this;exact this o ho
 ·cases hd:L.dropWhile (mD side ap)with
  |nil=>rw [hd]at ho;simp at ho
  |cons y D=>
   have hy:mD side ap y=false:=by
    have h2:=List.head?_dropWhile_not (p:=mD side ap) (l:=L);rw [hd]at h2
    simpa using h2
   rw [hd]at ho
   have hs:(y::D).Pairwise Aa:=by
    rw [←hd];exact h.sublist (List.dropWhile_sublist _)
   rcases List.mem_cons.1 ho with rfl|h3
   ·exact hy
   ·exact agE ((List.pairwise_cons.1 hs).1 o h3) hy
structure j8 (L:List aC):Prop where
 len:L.length≤250
 nd:(L.map aC.id).Nodup
 each:∀o∈L,(1≤o.aq∧o.aq≤1000000)∧(o.side=1∨o.side=2)∧-2000000≤o.ap∧o.ap≤2000000
 oH:L.Pairwise Aa
theorem j8.nil:j8 []:=⟨by decide,List.nodup_nil,fun o h=>by simp at h,List.Pairwise.nil⟩
theorem j8.aq {L:List aC} (h:j8 L):∀o∈L,1≤o.aq∧o.aq≤1000000:=fun o ho=>(h.each o ho).1
theorem agH {L:List aC} {id:Int} {o:aC} (h:L.find? (fun o=>o.id==id)=some o):o∈L∧o.id=id:=
 ⟨List.mem_of_find?_eq_some h,by simpa using List.find?_some h⟩
theorem j8.fill {L:List aC} (h:j8 L) (id aq:Int):j8 (pF L id aq).1:=by
 cases hf:L.find? (fun o=>o.id==id)with
 |none=>rw [Ya hf];exact h
 |some o=>
  rw [NC hf];obtain⟨ho,hid⟩:=agH hf;split
  ·exact h
  ·rename_i hq
   split
   ·exact⟨Nat.le_trans (List.length_filter_le ..) h.len,h.nd.sublist ((List.filter_sublist ..).map _),fun x hx=>h.each x (List.mem_filter.1 hx).1,h.oH.sublist (List.filter_sublist ..)⟩
   ·rename_i hne
    have hm:∀x∈L,x.id=id→x=o:=fun x hx he=>by
     obtain⟨i,hi,rfl⟩:=List.getElem_of_mem hx;obtain⟨j,hj,rfl⟩:=List.getElem_of_mem ho;have:i=j:=(List.getElem_inj (h₀:=by rw [List.length_map];exact hi) (h₁:=by rw [List.length_map];exact hj) h.nd).1 (by rw [List.getElem_map,List.getElem_map,he,hid]);subst this;rfl
    refine⟨by rw [List.length_map];exact h.len,?_,fun x hx=>?_,?_⟩
    ·dsimp only
     rw [List.map_map,show((fun x:aC=>x.id)∘fun x=>if x.id=id then {x with aq:=x.aq-aq}else x)=aC.id from funext fun x=>by show(if x.id=id then {x with aq:=x.aq-aq}else x).id=x.id;split<;>rfl];exact h.nd
    ·obtain⟨y,hy,rfl⟩:=List.mem_map.1 hx
     have he:=h.each y hy;split
     ·rename_i agI
      have ND:=hm y hy agI;subst ND;dsimp only;exact⟨by omega,he.2⟩
     ·exact he
    ·dsimp only
     rw [List.pairwise_map];refine h.oH.imp fun {x y} hxy=>?_;unfold Aa at*;split<;>split<;>exact hxy
theorem j8.add {L:List aC} (h:j8 L) (id side ap aq:Int) (hp: -2000000≤ap∧ap≤2000000):j8 (mT L id side ap aq).1:=by
 cases hb:z8 side with
 |false=>unfold mT;rw [if_pos hb];exact h
 |true=>
  have hs:side=1∨side=2:=by unfold z8 at hb;simpa using hb
  by_cases hq:aq<1∨1000000<aq
  ·unfold mT;rw [if_neg (by rw [hb];simp),if_pos hq];exact h
  ·by_cases ht:(L.find? (fun o=>o.id==id)).isSome=true
   ·unfold mT;rw [if_neg (by rw [hb];simp),if_neg hq,if_pos ht];exact h
   ·by_cases hl:250≤L.length
    ·unfold mT;rw [if_neg (by rw [hb];simp),if_neg hq,if_neg ht,if_pos hl];exact h
    ·have hid:∀o∈L,o.id≠id:=fun o ho he=>ht (List.find?_isSome.2 ⟨o,ho,by simpa using he⟩)
     rw [agC hs (by omega) hid (by omega)];obtain⟨p1,p2⟩:=agF h.oH side ap
     have xw:∃f:aC→aC,(if mS L side ap=true then L.map (mg side)else L)=L.map f∧∀o,(f o).side=o.side∧(f o).ap=o.ap∧(f o).id=o.id∧(f o).aq=o.aq:=by
      split
      ·exact⟨mg side,rfl,fun o=>⟨(EX side o).1,(EX side o).2.1,(EX side o).2.2.1,(EX side o).2.2.2⟩⟩
      ·exact⟨fun o=>o,by simp,fun o=>⟨rfl,rfl,rfl,rfl⟩⟩
     refine⟨?_,?_,?_,?_⟩
     ·rw [Yd];omega
     ·dsimp only
      obtain⟨f,hf,hk⟩:=xw;rw [hf,←List.map_take,←List.map_drop,List.map_append,List.map_append,List.map_map,List.map_map,show aC.id∘f=aC.id from funext fun o=>(hk o).2.2.1];have EY:L.take (nU L side ap)++L.drop (nU L side ap)=L:=List.take_append_drop _ _;have hn:=h.nd;rw [←EY,List.map_append,List.nodup_append]at hn;rw [List.append_assoc,List.nodup_append];refine⟨hn.1,?_,?_⟩
      ·rw [List.nodup_append]
       refine⟨by simp,hn.2.1,fun a ha b hb2=>?_⟩;simp only [List.map_cons,List.map_nil,List.mem_singleton]at ha;subst ha;obtain⟨o,ho,rfl⟩:=List.mem_map.1 hb2;exact fun e=>hid o (List.mem_of_mem_drop ho) e.symm
      ·intro a ha b hb2
       rcases List.mem_append.1 hb2 with h3|h3
       ·simp only [List.map_cons,List.map_nil,List.mem_singleton]at h3
        subst h3;obtain⟨o,ho,rfl⟩:=List.mem_map.1 ha;exact hid o (List.mem_of_mem_take ho)
       ·exact hn.2.2 a ha b h3
     ·intro o ho
      rcases agD ho with rfl|⟨o',ho',rfl⟩
      ·exact⟨by dsimp only;omega,hs,hp⟩
      ·have:=h.each o' ho'
       split
       ·rw [(EX side o').1,(EX side o').2.1,(EX side o').2.2.2];exact this
       ·exact this
     ·dsimp only
      obtain⟨f,hf,hk⟩:=xw;rw [hf,←List.map_take,←List.map_drop];have EY:L.take (nU L side ap)++L.drop (nU L side ap)=L:=List.take_append_drop _ _;have hp:=h.oH;rw [←EY,List.pairwise_append]at hp
      have Ra:∀x y,Aa x y→Aa (f x) (f y):=fun x y hxy=>by
       unfold Aa;rw [(hk x).1,(hk x).2.1,(hk y).1,(hk y).2.1];exact hxy
      rw [List.append_assoc,List.pairwise_append,List.pairwise_append,List.pairwise_map,List.pairwise_map];refine⟨hp.1.imp (fun h=>Ra _ _ h),⟨List.pairwise_singleton _ _,hp.2.1.imp (fun h=>Ra _ _ h),?_⟩,?_⟩
      ·intro x hx y hy
       rw [List.mem_singleton]at hx;subst hx;obtain⟨y0,hy0,rfl⟩:=List.mem_map.1 hy;have:=p2 y0 hy0;unfold mD at this;simp only [Bool.or_eq_false_iff,decide_eq_false_iff_not,Bool.and_eq_false_iff,Bool.not_eq_false']at this;unfold Aa;rw [(hk y0).1,(hk y0).2.1];dsimp only;by_cases hc:y0.side=side
       ·rcases this.2 with h4|h4
        ·exact absurd hc h4
        ·exact .inr ⟨hc.symm,agB h4⟩
       ·exact .inl (by omega)
      ·intro x hx y hy
       obtain⟨x0,hx0,rfl⟩:=List.mem_map.1 hx;rcases List.mem_append.1 hy with h1|h1
       ·rw [List.mem_singleton]at h1
        subst h1;have:=p1 x0 hx0;unfold mD at this;simp only [Bool.or_eq_true,decide_eq_true_eq,Bool.and_eq_true,Bool.not_eq_true']at this;unfold Aa;rw [(hk x0).1,(hk x0).2.1];dsimp only;rcases this with h4|⟨h4,h5⟩
        ·exact .inl h4
        ·exact .inr ⟨h4,by rw [h4];exact h5⟩
       ·obtain⟨y0,hy0,rfl⟩:=List.mem_map.1 h1
        exact Ra _ _ (hp.2.2 x0 hx0 y0 hy0)
theorem j8.af1 {L:List aC} (id side ap aq:Int):(mT L id side ap aq).1.length≤L.length+1:=by
 unfold mT;split
 ·exact Nat.le_succ _
 ·split
  ·exact Nat.le_succ _
  ·split
   ·exact Nat.le_succ _
   ·split
    ·exact Nat.le_succ _
    ·rw [Yd];exact Nat.le_refl _
theorem Rb (o:aC) (x:aB) (t:List aB):pN o (x::t)=if x.ap=o.ap then⟨o.ap,o.aq+x.aq,1+x.count⟩::t else⟨o.ap,o.aq,1⟩::x::t:=rfl
theorem agJ {o:aC} {M:List aB} {l:aB} (h:l∈pN o M):l.ap=o.ap∨l∈M:=by
 cases M with
 |nil=>
  simp only [pN,List.mem_singleton]at h;subst h;exact .inl rfl
 |cons x t=>
  rw [Rb]at h;split at h
  ·rcases List.mem_cons.1 h with rfl|h2
   ·exact .inl rfl
   ·exact .inr (List.mem_cons_of_mem _ h2)
  ·rcases List.mem_cons.1 h with rfl|h2
   ·exact .inl rfl
   ·exact .inr h2
theorem Rc:∀{M:List aC} {l:aB},l∈jB M→∃o∈M,l.ap=o.ap
 | [],l,h=>by simp [jB]at h
 |o::t,l,h=>by
  rcases agJ (M:=jB t) h with h1|h1
  ·exact⟨o,List.mem_cons_self ..,h1⟩
  ·obtain⟨o',h2,h3⟩:=Rc h1
   exact⟨o',List.mem_cons_of_mem _ h2,h3⟩
theorem Ye:∀{M:List aC},(∀o∈M,1≤o.aq)→∀l∈jB M,1≤l.aq∧1≤l.count
 | [],_,l,h=>by simp [jB]at h
 |o::t,hq,l,h=>by
  have ih:=Ye (M:=t) fun x hx=>hq x (List.mem_cons_of_mem _ hx);have ho:=hq o (List.mem_cons_self ..);have h:l∈pN o (jB t):=h;cases hg:jB t with
  |nil=>
   rw [hg]at h;simp only [pN,List.mem_singleton]at h;subst h;exact⟨ho,by dsimp only;omega⟩
  |cons x u=>
   rw [hg]at h ih;have hx:=ih x (List.mem_cons_self ..);rw [Rb]at h;split at h
   ·rcases List.mem_cons.1 h with rfl|h2
    ·dsimp only;omega
    ·exact ih l (List.mem_cons_of_mem _ h2)
   ·rcases List.mem_cons.1 h with rfl|h2
    ·dsimp only;omega
    ·exact ih l h2
theorem Yf {s:Int}:∀{M:List aC},M.Pairwise (fun x y=>cT s y.ap x.ap=false)→kF s (jB M)
 | [],_=>List.Pairwise.nil
 |o::t,h=>by
  obtain⟨h1,h2⟩:=List.pairwise_cons.1 h;have ih:=Yf h2;show kF s (pN o (jB t));cases hg:jB t with
  |nil=>exact List.pairwise_singleton _ _
  |cons x u=>
   rw [hg]at ih;obtain⟨g1,g2⟩:=List.pairwise_cons.1 ih;rw [Rb];split
   ·rename_i he
    refine List.pairwise_cons.2 ⟨fun y hy=>?_,g2⟩;dsimp only;rw [←he];exact g1 y hy
   ·rename_i he
    obtain⟨o',ho',hp⟩:=Rc (M:=t) (l:=x) (by rw [hg];exact List.mem_cons_self ..)
    have hb:cT s o.ap x.ap=true:=by
     have:=h1 o' ho';rw [←hp]at this;exact Yc this he
    refine List.pairwise_cons.2 ⟨fun y hy=>?_,ih⟩;rcases List.mem_cons.1 hy with rfl|h3
    ·exact hb
    ·exact D1 hb (g1 y h3)
theorem j8.af4 {L:List aC} (h:j8 L) (s:Int):kF s (k6 L s):=by
 unfold k6;refine Yf ?_;unfold q5;rw [List.pairwise_filter];refine h.oH.imp fun {x y} hxy hx hy=>?_;simp only [decide_eq_true_eq]at hx hy;rcases hxy with h1|⟨_,h2⟩
 ·omega
 ·rw [hx]at h2;exact h2
theorem j8.XJ {L:List aC} (h:j8 L) (s:Int):∀l∈k6 L s,1≤l.aq∧1≤l.count:=
 Ye fun o ho=>(h.each o (List.mem_filter.1 ho).1).1.1
theorem j8.XL {L:List aC} (h:j8 L) (s:Int):∀l∈k6 L s,-2000000≤l.ap∧l.ap≤2000000:=fun l hl=>by
 obtain⟨o,ho,he⟩:=Rc hl;rw [he];exact(h.each o (List.mem_filter.1 ho).1).2.2
theorem Rd (L:List aC) (s:Int):((jS L s)=(jD,false))∨∃l∈k6 L s,jS L s=(l,true):=by
 unfold jS;cases h:k6 L s with
 |nil=>exact .inl rfl
 |cons l t=>exact .inr ⟨l,List.mem_cons_self ..,rfl⟩
end Go.Proofs.YtmaijkoopjocdaaGreat
