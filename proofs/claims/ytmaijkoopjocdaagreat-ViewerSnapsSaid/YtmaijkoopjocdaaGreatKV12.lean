import Derived.Test.YtmaijkoopjocdaaGreatKV09
set_option maxRecDepth 100000
set_option maxHeartbeats 64000000
namespace Go.Proofs.YtmaijkoopjocdaaGreat
open Go.RowKit Go.Lib
theorem acD {w:World} {B:Nat} {v:Value} {V:bG} (h:cg ey bS w B v V) (hl:V.length≤255) {K:Nat} (hK:fX V K) (n5:K≤800000) {q p t c:Int} {i s:Nat} (hi:i<V.length) (hs:s<2) (iH:n6 V.length ⟨q,i,(s:Int)+1,p,t,c,false⟩=0) {x0:aX×aX} (hx0:V[i]? =some x0) (n7:kF ((s:Int)+1) (c9 x0 s).lv) {k:Nat} (tZ:(c9 x0 s).lv.findIdx? (fun y=>y.ap==p)=some k) (ko:t≠0):
 Calls Tryz.prog 83 #[.agg #[v],.agg #[↑q,↑i,.int .i64 ((s:Int)+1),↑p,↑t,↑c,.bool false]] w fun e w'=>∃v',e= .returned (.tuple #[.agg #[v'],.int .i64 0])∧cg ey bS w' w.heap.size v' (gm ⟨q,i,(s:Int)+1,p,t,c,false⟩ V)∧Below w.heap.size w w':=by
 obtain⟨a,aY,rfl⟩:=h.form;obtain⟨im,gp⟩:=ai false;have hz1:(w.alloc (.cells #[.slice a V.length aY] 43)).heap.size=w.heap.size+1:=by simp
 have eg:((w.alloc (.cells #[.slice a V.length aY] 43)).alloc (.cells #[↑q,↑i,.int .i64 ((s:Int)+1),↑p,↑t,↑c,↑im] 86)).heap.size=w.heap.size+1+1:=by simp
 have hb1:=Below.aI w (.cells #[.slice a V.length aY] 43);have hb2:=hb1.trans ((Below.aI (w.alloc (.cells #[.slice a V.length aY] 43)) (.cells #[↑q,↑i,.int .i64 ((s:Int)+1),↑p,↑t,↑c,↑im] 86)).mono hb1.size);have hb3:=hb2.trans ((Below.aI ((w.alloc (.cells #[.slice a V.length aY] 43)).alloc (.cells #[↑q,↑i,.int .i64 ((s:Int)+1),↑p,↑t,↑c,↑im] 86)) (.cells #[.slice none 0 0] 43)).mono hb2.size);have fC:av (((w.alloc (.cells #[.slice a V.length aY] 43)).alloc (.cells #[↑q,↑i,.int .i64 ((s:Int)+1),↑p,↑t,↑c,↑im] 86)).alloc (.cells #[.slice none 0 0] 43)) w.heap.size 43 #[.slice a V.length aY]:=((av.new w _ _).alloc _).alloc _
 have dL:av (((w.alloc (.cells #[.slice a V.length aY] 43)).alloc (.cells #[↑q,↑i,.int .i64 ((s:Int)+1),↑p,↑t,↑c,↑im] 86)).alloc (.cells #[.slice none 0 0] 43)) (w.heap.size+1) 86 #[↑q,↑i,.int .i64 ((s:Int)+1),↑p,↑t,↑c,↑im]:=by
  have:=(av.new (w.alloc (.cells #[.slice a V.length aY] 43)) 86 #[↑q,↑i,.int .i64 ((s:Int)+1),↑p,↑t,↑c,↑im]).alloc (.cells #[.slice none 0 0] 43)
  rwa [hz1]at this
 have fe:av (((w.alloc (.cells #[.slice a V.length aY] 43)).alloc (.cells #[↑q,↑i,.int .i64 ((s:Int)+1),↑p,↑t,↑c,↑im] 86)).alloc (.cells #[.slice none 0 0] 43)) (w.heap.size+1+1) 43 #[.slice none 0 0]:=by
  have:=av.new ((w.alloc (.cells #[.slice a V.length aY] 43)).alloc (.cells #[↑q,↑i,.int .i64 ((s:Int)+1),↑p,↑t,↑c,↑im] 86)) 43 #[.slice none 0 0]
  rwa [eg]at this
 have eu:=xQ V.length ⟨q,i,(s:Int)+1,p,t,c,im⟩ (((w.alloc (.cells #[.slice a V.length aY] 43)).alloc (.cells #[↑q,↑i,.int .i64 ((s:Int)+1),↑p,↑t,↑c,↑im] 86)).alloc (.cells #[.slice none 0 0] 43));rw [gp]at iH;rw [iH]at eu;unfold aF.agg at eu;dsimp only at eu;have e5:=af (h.below hb3);have lg:=af hK;obtain⟨x,hx⟩:∃x,V[i]? =some x:=⟨_,List.getElem?_eq_getElem hi⟩;have bz:=af hx;have kg:=af gp;have bg:=af eu;have aQ:=af hb3;have fq:=af fC;have cy:=af dL;have eL:=af fe;rw [gp];have jU:=af hx0;have ua:=af n7;have kG:=af tZ;have uk:=af ko;clear ko;clear hx0 n7 tZ h hK hx gp hz1 eg hb1 hb2 hb3 fC dL fe eu iH;go_enter Tryz.func83,Tryz.ntmps83
 go_upto_region 1 with(fail)
 obtain⟨w1,hw1⟩:=ai (((w.alloc (.cells #[.slice a V.length aY] 43)).alloc (.cells #[↑q,↑i,.int .i64 ((s:Int)+1),↑p,↑t,↑c,↑im] 86)).alloc (.cells #[.slice none 0 0] 43));obtain⟨aM,fC⟩:=ai w.heap.size;obtain⟨ay,dL⟩:=ai (w.heap.size+1);obtain⟨gr,fe⟩:=ai (w.heap.size+1+1);rw [hw1]at e5 aQ fq cy eL bg⊢;rw [fe]at eL⊢;rw [dL]at cy⊢;rw [fC]at fq⊢;have fQ:Hid (aM≠gr):=af (by omega);have zo:Hid (ay≠gr):=af (by omega);have iO:Hid (aM≠ay):=af (by omega);have jT:Hid (w.heap.size≤aM):=af (by omega);have wR:Hid (w.heap.size≤gr):=af (by omega);clear hw1 fC dL fe;have b0:w1.cell? ↑aM=some (.slice a V.length aY):=fq.out.cell 0;obtain⟨m0,m1,m2,eN,ea,eY,dV⟩:=cy.out.amz;go_wp2_with fail
 refine bg.out.mono ?_;rintro e w2 ⟨rfl,hb⟩;replace fq:=af (fq.out.below hb);replace cy:=af (cy.out.below hb);replace eL:=af (eL.out.below hb);replace e5:=af (e5.out.below hb);replace aQ:=ag aQ hb;clear hb bg b0 m0 m1 m2 eN ea eY dV;have b0:w2.cell? ↑aM=some (.slice a V.length aY):=fq.out.cell 0;go_wp2_with fail
 refine(Dz e5.out hl lg.out (by omega)).mono ?_;rintro e w3 ⟨v',rfl,⟨P,hP,gK,g8,rf⟩,hb⟩;obtain⟨bx,iP⟩:∃p,P[i]? =some p:=⟨_,List.getElem?_eq_getElem (by omega)⟩;obtain⟨go,cap,he,_,_⟩:=hP.at_ i bx iP;rw [gK]at he;subst he;have cj:=fq.out.below hb;have aP:=aQ.out.trans (hb.mono aQ.out.size);have hst:=ct w3 aM 0 (.slice ↑go V.length cap);have hW:w.heap.size≤w2.heap.size:=aQ.out.size;have dx:=af ((hP.base hW).cC cj.aE (by decide) 0 (.slice ↑go V.length cap));have e6:Hid (∀(j:Nat) (p:bB) (x:aX×aX),P[j]? =some p→V[j]? =some x→bV bS (w3.setCell ↑aM (.slice ↑go V.length cap)) w.heap.size p.s x.1∧bV bS (w3.setCell ↑aM (.slice ↑go V.length cap)) w.heap.size p.t x.2):=af fun j p x hp hx=>⟨((g8 j p x hp hx).1.base hW).cC cj.aE (by decide) 0 _,((g8 j p x hp hx).2.base hW).cC cj.aE (by decide) 0 _⟩;have gq:=af gK;have lO:=af rf;have dh:=af iP;have eV:=af ((cy.out.below hb).cC (p:=⟨aM,0,none⟩) (Ne.symm iO.out) (.slice ↑go V.length cap));have ri:=af ((eL.out.below hb).cC (p:=⟨aM,0,none⟩) (Ne.symm fQ.out) (.slice ↑go V.length cap));have ny:Hid (av (w3.setCell ↑aM (.slice ↑go V.length cap)) aM 43 #[.slice ↑go V.length cap]):=af (cj.aW 0 _);have bN:=af (aP.setCell (p:=⟨aM,0,none⟩) jT.out (.slice ↑go V.length cap));have b3:w3.cell? ↑aM=some (.slice a V.length aY):=cj.cell 0;have vo:w3.frozen? ↑aM=false:=cj.frozen 0;clear hP gK g8 rf iP cj aP hst hW hb b0 fq cy eL e5 aQ;go_upto_region 5 with(fail)
 clear b3 vo;generalize w3.setCell ↑aM (.slice ↑go V.length cap)=az at*;have b4:az.cell? ↑aM=some (.slice ↑go V.length cap):=ny.out.cell 0;obtain⟨m0,m1,m2,eN,ea,eY,dV⟩:=eV.out.amz;have y1:IntKind.i64.wrap ((s:Int)+1-1)=(s:Int):=by rw [IntWalk.i64_in _ (by omega)];omega
 have fI:(s:Int)+1-1=(s:Int):=by omega
 have hi2:(i:Int)<(V.length:Int):=by omega
 have fD:(s:Int)<2:=by omega
 go_quiet (fail)
 have bQ:=(Below.bO az nq).trans ((Below.aI (az.drewN nq) (.cells #[↑p,↑t,↑c] 47)).mono (Nat.le_refl _));obtain⟨aH,dr⟩:=ai az.heap.size
 have rj:sS w ((az.drewN nq).alloc (.cells #[↑p,↑t,↑c] 47)) aM ay gr aH go cap V P q p t c i s im:=by
  refine⟨ny.out.below bQ,eV.out.below bQ,ri.out.below bQ,?_,dx.out.below bQ,fun j p x hp hx=>⟨(e6.out j p x hp hx).1.below bQ,(e6.out j p x hp hx).2.below bQ⟩,bN.out.trans (bQ.mono bN.out.size)⟩;rw [←dr];exact av.new (az.drewN nq) _ _
 have dR:=af rj
 have DA:Hid (∀g,(bx.sh s).own=some g→g<aH):=af (by
  intro g hg;have hh:=e6.out i bx x dh.out bz.out;rw [←dr];unfold bB.sh at hg;split at hg
  ·exact ki hh.1.row g hg
  ·exact ki hh.2.row g hg)
 have Au:Hid (w.heap.size≤aH):=af (by rw [←dr];exact bN.out.size);have tY:(az.drewN nq).heap.size=aH:=dr;go_upto_region 7 with(fail)
 clear rj bQ dr tY ny eV ri dx e6 bN b4 m0 m1 m2 eN ea eY dV y1 fI;generalize (az.drewN nq).alloc (.cells #[↑p,↑t,↑c] 47)=aA at*;have gp:=kg.out;subst gp;clear kg;obtain rfl:x=x0:=by have h1:=bz.out;have h2:=jU.out;rw [h1]at h2;injection h2
 have dV:aA.cell? ⟨ay,6,none⟩=some (.bool false):=dR.out.bm.cell 6;have iq:=dR.out.oZ dh.out bz.out;obtain⟨L,hL⟩:=ai ((c9 x s).lv)
 have ud:L.length≤K:=by
  have:=lg.out x (List.mem_of_getElem? bz.out);rw [←hL];unfold c9;split
  ·exact this.1
  ·exact this.2
 obtain⟨sn,qC⟩:=ai ((bx.sh s).n);obtain⟨sa,hsa⟩:=ai ((bx.sh s).a);obtain⟨sc,hsc⟩:=ai ((bx.sh s).c);have hown:(bx.sh s).own=(Value.slice sa L.length sc).ownBlock:=by unfold eO.own;rw [iq.n,hL,hsa,hsc]
 have c0:aA.cell? ⟨go,i*10+s*5,none⟩=some (.slice sa L.length sc):=by
  have:=nB dR.out.row dh.out hs (f:=0) (u:= .slice (bx.sh s).a (bx.sh s).n (bx.sh s).c) rfl;rw [iq.n,hL,hsa,hsc]at this;exact this
 have hrow:bS.Row aA w.heap.size (.slice sa L.length sc) L:=by
  have:=iq.row;rw [iq.n,hL,hsa,hsc]at this;exact this
 have hm:(c9 x s).app ⟨q,i,(s:Int)+1,p,t,c,false⟩=⟨o3 ⟨q,i,(s:Int)+1,p,t,c,false⟩ L,(c9 x s).im,(c9 x s).has⟩:=by
  unfold aX.app;rw [if_neg (by simp),hL,F3 (by rw [←hL];exact ua.out)]
 have r8:=af hm;have kg:=af iq.im;have uf:=af iq.has;have zq:=af hown;have cY:=af hrow;have iu:=af hL;have nC:=af ud;have sV:=af hsa;have sW:=af hsc;have pV:=Ir hrow.sl (by omega) ay p dR.out.bm.lt (dR.out.bm.cell 3);have hidx:n8 (fun y=>y.ap==p) L=(k:Int):=by unfold n8;rw [←hL,kG.out]
 rw [hidx]at pV;have ug:=af pV;have hcs:=kG.out;rw [hL]at hcs;have kj:=af hcs;clear iq hL ud qC hsa hsc hown hrow hm jU ua pV hidx hcs kG;go_upto_region 12 with(fail)
 clear dV;go_wp2_with fail
 refine ug.out.mono ?_;rintro e aN ⟨rfl,hb⟩;have eP:=af (dR.out.below hb);have pW:=af (cY.out.below hb);clear hb ug cY dR c0;have ea:aN.cell? ⟨ay,4,none⟩=some ↑t:=eP.out.bm.cell 4
 have fJ:aN.cell? ⟨go,i*10+s*5,none⟩=some (.slice sa L.length sc):=by
  have:=nB eP.out.row dh.out hs (f:=0) (u:= .slice (bx.sh s).a (bx.sh s).n (bx.sh s).c) rfl;rw [(eP.out.oZ dh.out bz.out).n,iu.out,sV.out,sW.out]at this;exact this
 have eR:k<L.length:=by have:=kj.out;rw [List.findIdx?_eq_some_iff_getElem]at this;exact this.1
 have fI:(0:Int)≤(k:Int):=by omega
 have acE:(k:Int)<(L.length:Int):=by omega
 obtain⟨z,hz⟩:∃z,L[k]? =some z:=⟨_,List.getElem?_eq_getElem eR⟩;obtain⟨bE,oD,he,_,_⟩:=pW.out.at_ k z hz;injection he with eb _ eS;subst eb;subst eS;obtain⟨z0,fw,z2,vt⟩:=DD pW.out hz;have ec:=af hz;clear hz;have Mc:(t==0)=false:=by rw [beq_eq_false_iff_ne];exact uk.out
 go_upto_region 16 with(fail)
 have hS:aN.cell? ↑aH=some ↑p∧aN.cell? ⟨aH,1,none⟩=some ↑t∧aN.cell? ⟨aH,2,none⟩=some ↑c∧aN.cell? ⟨go,i*10+s*5,none⟩=some (.slice ↑bE L.length sc):=⟨eP.out.nA.cell 0,eP.out.nA.cell 1,eP.out.nA.cell 2,fJ⟩;refine cP (S:=fun w'=>w'.cell? ↑aH=some ↑p∧w'.cell? ⟨aH,1,none⟩=some ↑t∧w'.cell? ⟨aH,2,none⟩=some ↑c∧w'.cell? ⟨go,i*10+s*5,none⟩=some (.slice ↑bE L.length sc)) hS fun hHeld=>?_;refine au 0 ?_;refine au 1 ?_;refine au 2 ?_;refine au 3 ?_;refine au 4 ?_;refine au 5 ?_;refine au 6 ?_;refine dY 7 fun K hK=>?_;go_simp;refine hK.out _ _ ?_;have zu:=(acF aN bE (k*3) ↑p ↑t ↑c).trans (Below.keeps (Below.bO _ 1));have F4:=(acG pW.out ec.out ⟨p,t,c⟩).below (Below.bO _ 1);have htb:ck aN bE bS.t:=eo pW.out bE rfl;have B9:=af (eP.out.bv.keeps zu (eP.out.bv.aE.ne htb (by decide)));have o4:=af (eP.out.br.keeps zu (eP.out.br.aE.ne htb (by decide)));have pU:=af (eP.out.row.keep zu (fun g hg h=>hg.ne htb (by decide) h));have Ca:=af F4;have pT:=af zu;have DC:=af (cS pW.out bE rfl)
 have uh:o3 ⟨q,i,(s:Int)+1,p,t,c,false⟩ L=L.set k ⟨p,t,c⟩:=by
  unfold o3;rw [kj.out];dsimp only;rw [if_neg uk.out,List.set_eq_take_append_cons_drop,if_pos eR];rfl
 have vr:=af uh;have Ax:Hid ((L.set k (⟨p,t,c⟩:aB)).length=L.length):=af List.length_set;have hdr:∀u:World,u.drewN 1=u.drew:=fun _=>rfl;clear hK K hHeld hS z0 fw z2 vt ea fJ Mc fI acE zu F4 htb uh;rw [hdr]at B9 o4 pU Ca pT;generalize (((aN.setCell ⟨bE,k*3,none⟩ ↑p).setCell ⟨bE,k*3+1,none⟩ ↑t).setCell ⟨bE,k*3+2,none⟩ ↑c).drew=bZ at*;have v0:bZ.cell? ↑aM=some (.slice ↑go V.length cap):=B9.out.cell 0;have cu:bZ.cell? ↑gr=some (.slice none 0 0):=o4.out.cell 0;have sU:bZ.frozen? ↑gr=false:=o4.out.frozen 0;have Aw:Hid ((c9 x s).app ⟨q,i,(s:Int)+1,p,t,c,false⟩=⟨L.set k ⟨p,t,c⟩,(c9 x s).im,(c9 x s).has⟩):=af (by rw [r8.out,vr.out]);have lR:Hid ((bx.sh s).n=L.length):=af (by rw [(eP.out.oZ dh.out bz.out).n,iu.out]);have vp:=af (eP.out.done (sh:=bx.sh s) (d:=⟨L.set k ⟨p,t,c⟩,(c9 x s).im,(c9 x s).has⟩) gq.out lO.out dh.out bz.out hs pT.out (fun g hg h=>by rw [zq.out,h];rfl) (by rw [TY dh.out];exact pU.out) ⟨by rw [lR.out,Ax.out],by rw [lR.out,sV.out,sW.out];exact Ca.out,kg.out,uf.out⟩ o4.out.aE Aw.out (.slice ↑go V.length cap));have cH:=af ((eP.out.aJ.trans (pT.out.below (B:=w.heap.size) (fun k hk=>by rw [hk];exact DC.out) eP.out.aJ.size)).setCell (p:=⟨gr,0,none⟩) wR.out (.slice ↑go V.length cap));have vq:Hid (av (bZ.setCell ↑gr (.slice ↑go V.length cap)) gr 43 #[.slice ↑go V.length cap]):=af (o4.out.aW 0 _);go_wp2_with fail
 clear v0 cu sU;generalize bZ.setCell ↑gr (.slice ↑go V.length cap)=wf at*;have f0:wf.cell? ↑gr=some (.slice ↑go V.length cap):=vq.out.cell 0;refine bodyPost_ret (v:= .tuple #[.agg #[.slice ↑go V.length cap],.int .i64 0]) (by simp [results,Tryz.results83,go_sem,f0]) rfl ⟨_,rfl,vp.out,cH.out⟩
theorem acI {w:World} {B:Nat} {v:Value} {V:bG} (h:cg ey bS w B v V) (hl:V.length≤255) {K:Nat} (hK:fX V K) (n5:K≤800000) {q p t c:Int} {i s:Nat} (hi:i<V.length) (hs:s<2) (iH:n6 V.length ⟨q,i,(s:Int)+1,p,t,c,false⟩=0) {x0:aX×aX} (hx0:V[i]? =some x0) (n7:kF ((s:Int)+1) (c9 x0 s).lv) {k:Nat} (tZ:(c9 x0 s).lv.findIdx? (fun y=>y.ap==p)=none) (Iu:(c9 x0 s).lv.findIdx? (fun y=>cT ((s:Int)+1) p y.ap)=some k) (ko:0<t):
 Calls Tryz.prog 83 #[.agg #[v],.agg #[↑q,↑i,.int .i64 ((s:Int)+1),↑p,↑t,↑c,.bool false]] w fun e w'=>∃v',e= .returned (.tuple #[.agg #[v'],.int .i64 0])∧cg ey bS w' w.heap.size v' (gm ⟨q,i,(s:Int)+1,p,t,c,false⟩ V)∧Below w.heap.size w w':=by
 obtain⟨a,aY,rfl⟩:=h.form;obtain⟨im,gp⟩:=ai false;have hz1:(w.alloc (.cells #[.slice a V.length aY] 43)).heap.size=w.heap.size+1:=by simp
 have eg:((w.alloc (.cells #[.slice a V.length aY] 43)).alloc (.cells #[↑q,↑i,.int .i64 ((s:Int)+1),↑p,↑t,↑c,↑im] 86)).heap.size=w.heap.size+1+1:=by simp
 have hb1:=Below.aI w (.cells #[.slice a V.length aY] 43);have hb2:=hb1.trans ((Below.aI (w.alloc (.cells #[.slice a V.length aY] 43)) (.cells #[↑q,↑i,.int .i64 ((s:Int)+1),↑p,↑t,↑c,↑im] 86)).mono hb1.size);have hb3:=hb2.trans ((Below.aI ((w.alloc (.cells #[.slice a V.length aY] 43)).alloc (.cells #[↑q,↑i,.int .i64 ((s:Int)+1),↑p,↑t,↑c,↑im] 86)) (.cells #[.slice none 0 0] 43)).mono hb2.size);have fC:av (((w.alloc (.cells #[.slice a V.length aY] 43)).alloc (.cells #[↑q,↑i,.int .i64 ((s:Int)+1),↑p,↑t,↑c,↑im] 86)).alloc (.cells #[.slice none 0 0] 43)) w.heap.size 43 #[.slice a V.length aY]:=((av.new w _ _).alloc _).alloc _
 have dL:av (((w.alloc (.cells #[.slice a V.length aY] 43)).alloc (.cells #[↑q,↑i,.int .i64 ((s:Int)+1),↑p,↑t,↑c,↑im] 86)).alloc (.cells #[.slice none 0 0] 43)) (w.heap.size+1) 86 #[↑q,↑i,.int .i64 ((s:Int)+1),↑p,↑t,↑c,↑im]:=by
  have:=(av.new (w.alloc (.cells #[.slice a V.length aY] 43)) 86 #[↑q,↑i,.int .i64 ((s:Int)+1),↑p,↑t,↑c,↑im]).alloc (.cells #[.slice none 0 0] 43)
  rwa [hz1]at this
 have fe:av (((w.alloc (.cells #[.slice a V.length aY] 43)).alloc (.cells #[↑q,↑i,.int .i64 ((s:Int)+1),↑p,↑t,↑c,↑im] 86)).alloc (.cells #[.slice none 0 0] 43)) (w.heap.size+1+1) 43 #[.slice none 0 0]:=by
  have:=av.new ((w.alloc (.cells #[.slice a V.length aY] 43)).alloc (.cells #[↑q,↑i,.int .i64 ((s:Int)+1),↑p,↑t,↑c,↑im] 86)) 43 #[.slice none 0 0]
  rwa [eg]at this
 have eu:=xQ V.length ⟨q,i,(s:Int)+1,p,t,c,im⟩ (((w.alloc (.cells #[.slice a V.length aY] 43)).alloc (.cells #[↑q,↑i,.int .i64 ((s:Int)+1),↑p,↑t,↑c,↑im] 86)).alloc (.cells #[.slice none 0 0] 43));rw [gp]at iH;rw [iH]at eu;unfold aF.agg at eu;dsimp only at eu;have e5:=af (h.below hb3);have lg:=af hK;obtain⟨x,hx⟩:∃x,V[i]? =some x:=⟨_,List.getElem?_eq_getElem hi⟩;have bz:=af hx;have kg:=af gp;have bg:=af eu;have aQ:=af hb3;have fq:=af fC;have cy:=af dL;have eL:=af fe;rw [gp];have jU:=af hx0;have ua:=af n7;have kG:=af tZ;have uk:=af ko;have gW:=af Iu;clear ko Iu;clear hx0 n7 tZ h hK hx gp hz1 eg hb1 hb2 hb3 fC dL fe eu iH;go_enter Tryz.func83,Tryz.ntmps83
 go_upto_region 1 with(fail)
 obtain⟨w1,hw1⟩:=ai (((w.alloc (.cells #[.slice a V.length aY] 43)).alloc (.cells #[↑q,↑i,.int .i64 ((s:Int)+1),↑p,↑t,↑c,↑im] 86)).alloc (.cells #[.slice none 0 0] 43));obtain⟨aM,fC⟩:=ai w.heap.size;obtain⟨ay,dL⟩:=ai (w.heap.size+1);obtain⟨gr,fe⟩:=ai (w.heap.size+1+1);rw [hw1]at e5 aQ fq cy eL bg⊢;rw [fe]at eL⊢;rw [dL]at cy⊢;rw [fC]at fq⊢;have fQ:Hid (aM≠gr):=af (by omega);have zo:Hid (ay≠gr):=af (by omega);have iO:Hid (aM≠ay):=af (by omega);have jT:Hid (w.heap.size≤aM):=af (by omega);have wR:Hid (w.heap.size≤gr):=af (by omega);clear hw1 fC dL fe;have b0:w1.cell? ↑aM=some (.slice a V.length aY):=fq.out.cell 0;obtain⟨m0,m1,m2,eN,ea,eY,dV⟩:=cy.out.amz;go_wp2_with fail
 refine bg.out.mono ?_;rintro e w2 ⟨rfl,hb⟩;replace fq:=af (fq.out.below hb);replace cy:=af (cy.out.below hb);replace eL:=af (eL.out.below hb);replace e5:=af (e5.out.below hb);replace aQ:=ag aQ hb;clear hb bg b0 m0 m1 m2 eN ea eY dV;have b0:w2.cell? ↑aM=some (.slice a V.length aY):=fq.out.cell 0;go_wp2_with fail
 refine(Dz e5.out hl lg.out (by omega)).mono ?_;rintro e w3 ⟨v',rfl,⟨P,hP,gK,g8,rf⟩,hb⟩;obtain⟨bx,iP⟩:∃p,P[i]? =some p:=⟨_,List.getElem?_eq_getElem (by omega)⟩;obtain⟨go,cap,he,_,_⟩:=hP.at_ i bx iP;rw [gK]at he;subst he;have cj:=fq.out.below hb;have aP:=aQ.out.trans (hb.mono aQ.out.size);have hst:=ct w3 aM 0 (.slice ↑go V.length cap);have hW:w.heap.size≤w2.heap.size:=aQ.out.size;have dx:=af ((hP.base hW).cC cj.aE (by decide) 0 (.slice ↑go V.length cap));have e6:Hid (∀(j:Nat) (p:bB) (x:aX×aX),P[j]? =some p→V[j]? =some x→bV bS (w3.setCell ↑aM (.slice ↑go V.length cap)) w.heap.size p.s x.1∧bV bS (w3.setCell ↑aM (.slice ↑go V.length cap)) w.heap.size p.t x.2):=af fun j p x hp hx=>⟨((g8 j p x hp hx).1.base hW).cC cj.aE (by decide) 0 _,((g8 j p x hp hx).2.base hW).cC cj.aE (by decide) 0 _⟩;have gq:=af gK;have lO:=af rf;have dh:=af iP;have eV:=af ((cy.out.below hb).cC (p:=⟨aM,0,none⟩) (Ne.symm iO.out) (.slice ↑go V.length cap));have ri:=af ((eL.out.below hb).cC (p:=⟨aM,0,none⟩) (Ne.symm fQ.out) (.slice ↑go V.length cap));have ny:Hid (av (w3.setCell ↑aM (.slice ↑go V.length cap)) aM 43 #[.slice ↑go V.length cap]):=af (cj.aW 0 _);have bN:=af (aP.setCell (p:=⟨aM,0,none⟩) jT.out (.slice ↑go V.length cap));have b3:w3.cell? ↑aM=some (.slice a V.length aY):=cj.cell 0;have vo:w3.frozen? ↑aM=false:=cj.frozen 0;clear hP gK g8 rf iP cj aP hst hW hb b0 fq cy eL e5 aQ;go_upto_region 5 with(fail)
 clear b3 vo;generalize w3.setCell ↑aM (.slice ↑go V.length cap)=az at*;have b4:az.cell? ↑aM=some (.slice ↑go V.length cap):=ny.out.cell 0;obtain⟨m0,m1,m2,eN,ea,eY,dV⟩:=eV.out.amz;have y1:IntKind.i64.wrap ((s:Int)+1-1)=(s:Int):=by rw [IntWalk.i64_in _ (by omega)];omega
 have fI:(s:Int)+1-1=(s:Int):=by omega
 have hi2:(i:Int)<(V.length:Int):=by omega
 have fD:(s:Int)<2:=by omega
 go_quiet (fail)
 have bQ:=(Below.bO az nq).trans ((Below.aI (az.drewN nq) (.cells #[↑p,↑t,↑c] 47)).mono (Nat.le_refl _));obtain⟨aH,dr⟩:=ai az.heap.size
 have rj:sS w ((az.drewN nq).alloc (.cells #[↑p,↑t,↑c] 47)) aM ay gr aH go cap V P q p t c i s im:=by
  refine⟨ny.out.below bQ,eV.out.below bQ,ri.out.below bQ,?_,dx.out.below bQ,fun j p x hp hx=>⟨(e6.out j p x hp hx).1.below bQ,(e6.out j p x hp hx).2.below bQ⟩,bN.out.trans (bQ.mono bN.out.size)⟩;rw [←dr];exact av.new (az.drewN nq) _ _
 have dR:=af rj
 have DA:Hid (∀g,(bx.sh s).own=some g→g<aH):=af (by
  intro g hg;have hh:=e6.out i bx x dh.out bz.out;rw [←dr];unfold bB.sh at hg;split at hg
  ·exact ki hh.1.row g hg
  ·exact ki hh.2.row g hg)
 have Au:Hid (w.heap.size≤aH):=af (by rw [←dr];exact bN.out.size);have tY:(az.drewN nq).heap.size=aH:=dr;go_upto_region 7 with(fail)
 clear rj bQ dr tY ny eV ri dx e6 bN b4 m0 m1 m2 eN ea eY dV y1 fI;generalize (az.drewN nq).alloc (.cells #[↑p,↑t,↑c] 47)=aA at*;have gp:=kg.out;subst gp;clear kg;obtain rfl:x=x0:=by have h1:=bz.out;have h2:=jU.out;rw [h1]at h2;injection h2
 have dV:aA.cell? ⟨ay,6,none⟩=some (.bool false):=dR.out.bm.cell 6;have iq:=dR.out.oZ dh.out bz.out;obtain⟨L,hL⟩:=ai ((c9 x s).lv)
 have ud:L.length≤K:=by
  have:=lg.out x (List.mem_of_getElem? bz.out);rw [←hL];unfold c9;split
  ·exact this.1
  ·exact this.2
 obtain⟨sn,qC⟩:=ai ((bx.sh s).n);obtain⟨sa,hsa⟩:=ai ((bx.sh s).a);obtain⟨sc,hsc⟩:=ai ((bx.sh s).c);have hown:(bx.sh s).own=(Value.slice sa L.length sc).ownBlock:=by unfold eO.own;rw [iq.n,hL,hsa,hsc]
 have c0:aA.cell? ⟨go,i*10+s*5,none⟩=some (.slice sa L.length sc):=by
  have:=nB dR.out.row dh.out hs (f:=0) (u:= .slice (bx.sh s).a (bx.sh s).n (bx.sh s).c) rfl;rw [iq.n,hL,hsa,hsc]at this;exact this
 have hrow:bS.Row aA w.heap.size (.slice sa L.length sc) L:=by
  have:=iq.row;rw [iq.n,hL,hsa,hsc]at this;exact this
 have hm:(c9 x s).app ⟨q,i,(s:Int)+1,p,t,c,false⟩=⟨o3 ⟨q,i,(s:Int)+1,p,t,c,false⟩ L,(c9 x s).im,(c9 x s).has⟩:=by
  unfold aX.app;rw [if_neg (by simp),hL,F3 (by rw [←hL];exact ua.out)]
 have r8:=af hm;have kg:=af iq.im;have uf:=af iq.has;have zq:=af hown;have cY:=af hrow;have iu:=af hL;have nC:=af ud;have sV:=af hsa;have sW:=af hsc;have pV:=Ir hrow.sl (by omega) ay p dR.out.bm.lt (dR.out.bm.cell 3);have hidx:n8 (fun y=>y.ap==p) L=(-1:Int):=by unfold n8;rw [←hL,kG.out]
 rw [hidx]at pV;have ug:=af pV;have hcs:=kG.out;rw [hL]at hcs;have kj:=af hcs;clear iq hL ud qC hsa hsc hown hrow hm jU ua pV hidx hcs kG;go_upto_region 12 with(fail)
 clear dV;go_wp2_with fail
 refine ug.out.mono ?_;rintro e aN ⟨rfl,hb⟩;have eP:=af (dR.out.below hb);have pW:=af (cY.out.below hb);clear hb ug cY dR c0;have ea:aN.cell? ⟨ay,4,none⟩=some ↑t:=eP.out.bm.cell 4
 have fJ:aN.cell? ⟨go,i*10+s*5,none⟩=some (.slice sa L.length sc):=by
  have:=nB eP.out.row dh.out hs (f:=0) (u:= .slice (bx.sh s).a (bx.sh s).n (bx.sh s).c) rfl;rw [(eP.out.oZ dh.out bz.out).n,iu.out,sV.out,sW.out]at this;exact this
 have Mc:(0:Int)<t:=uk.out;have DE:=T1 pW.out.sl (by have:=nC.out;omega) ay ((s:Int)+1) p eP.out.bm.lt (eP.out.bm.cell 2) (eP.out.bm.cell 3);have hidx2:n8 (fun y=>cT ((s:Int)+1) p y.ap) L=(k:Int):=by unfold n8;rw [←iu.out,gW.out]
 rw [hidx2]at DE;have Iv:=af DE;clear hidx2 DE;go_wp2_with fail
 refine Iv.out.mono ?_;rintro e bf ⟨rfl,hb⟩;have sX:=af (eP.out.below hb);have Iw:=af (pW.out.below hb);have hcb:=gW.out;rw [iu.out]at hcb;have Md:=af hcb;clear hb Iv eP pW fJ ea hcb gW
 have gL:bf.cell? ⟨go,i*10+s*5,none⟩=some (.slice sa L.length sc):=by
  have:=nB sX.out.row dh.out hs (f:=0) (u:= .slice (bx.sh s).a (bx.sh s).n (bx.sh s).c) rfl;rw [(sX.out.oZ dh.out bz.out).n,iu.out,sV.out,sW.out]at this;exact this
 have Cb:k≤L.length:=by have:=Md.out;rw [List.findIdx?_eq_some_iff_getElem]at this;have:=this.1;omega
 have iQ:¬(k:Int)<0:=by omega
 go_upto_region 21 with(fail)
 have hS:bf.cell? ↑aH=some ↑p∧bf.cell? ⟨aH,1,none⟩=some ↑t∧bf.cell? ⟨aH,2,none⟩=some ↑c∧bf.cell? ⟨go,i*10+s*5,none⟩=some (.slice sa L.length sc):=⟨sX.out.nA.cell 0,sX.out.nA.cell 1,sX.out.nA.cell 2,gL⟩;have mH:Below bf.heap.size bf (bf.alloc (.cells #[↑p,↑t,↑c] 47)).drew:=(Below.aI bf _).trans ((Below.bO _ 1).mono (by simp));have jE:=af (sX.out.below mH);have DF:=af (Iw.out.below mH);have hnb:av (bf.alloc (.cells #[↑p,↑t,↑c] 47)).drew bf.heap.size 47 (⟨p,t,c⟩:aB).cells.toArray:=(av.new bf _ _).drew;have Ix:(Value.slice sa L.length sc).ownBlock≠some bf.heap.size:=fun h=>by have:=ki Iw.out _ h;omega
 have iw:=af (T2 (i:=k) (x:=⟨p,t,c⟩) DF.out Cb hnb Ix jE.out.aJ.size (by have:=nC.out;omega))
 have Cc:∀w',w'=(bf.alloc (.cells #[↑p,↑t,↑c] 47)).drew→w'.cell? ↑aH=some ↑p∧w'.cell? ⟨aH,1,none⟩=some ↑t∧w'.cell? ⟨aH,2,none⟩=some ↑c∧w'.cell? ⟨go,i*10+s*5,none⟩=some (.slice sa L.length sc):=by
  rintro w' rfl;exact⟨jE.out.nA.cell 0,jE.out.nA.cell 1,jE.out.nA.cell 2,(mH.cell (p:=⟨go,i*10+s*5,none⟩) (ki sX.out.row go rfl)).trans hS.2.2.2⟩
 clear mH hnb Ix;refine cP (S:=fun w'=>w'.cell? ↑aH=some ↑p∧w'.cell? ⟨aH,1,none⟩=some ↑t∧w'.cell? ⟨aH,2,none⟩=some ↑c∧w'.cell? ⟨go,i*10+s*5,none⟩=some (.slice sa L.length sc)) hS fun hHeld=>?_;refine au 0 ?_;refine au 1 ?_;refine au 2 ?_;refine au 3 ?_;refine au 4 ?_;refine au 5 ?_;refine au 6 ?_;refine aU 7 fun K hK=>?_;go_simp;refine hK.out _ _ (Cc _ rfl) (fun hHeld=>?_);clear hK K Cc hS gL;generalize (bf.alloc (.cells #[↑p,↑t,↑c] 47)).drew=qD at*;refine aU 8 fun K hK=>?_;go_simp;refine iw.out.mono ?_;rintro e sY ⟨v2,rfl,jV,lm,_⟩;obtain⟨M,DG⟩:=ai (L.take k++ [(⟨p,t,c⟩:aB)]++L.drop k);rw [DG]at jV;obtain⟨a2,c2,rfl⟩:=jV.form;have hne:∀g,(Value.slice sa L.length sc).ownBlock=some g→ck qD g bS.t:=fun g hg=>eo DF.out g hg;have xR:=jE.out.bv.keeps lm (fun h=>jE.out.bv.aE.ne (hne _ h) (by decide) rfl);have xS:=jE.out.br.keeps lm (fun h=>jE.out.br.aE.ne (hne _ h) (by decide) rfl);have rp:=jE.out.row.keep lm (fun g hg h=>hg.ne (hne _ h) (by decide) rfl);have uj:ck sY go ey.t:=eo rp go rfl;have qB:=Row.DB rp dh.out hs (f:=0) (by decide) (x:=⟨a2,M.length,c2,(bx.sh s).im,(bx.sh s).has⟩) (u:= .slice a2 M.length c2) rfl;rw [Nat.add_zero]at qB;have pU:=af qB;have B9:=af (xR.cC (p:=⟨go,i*10+s*5,none⟩) (xR.aE.ne uj (by decide)) (.slice a2 M.length c2));have o4:=af (xS.cC (p:=⟨go,i*10+s*5,none⟩) (xS.aE.ne uj (by decide)) (.slice a2 M.length c2));have Ca:=af (bl.Row.cC (Y:=bS) jV uj (by decide) (i*10+s*5) (.slice a2 M.length c2));have pT:=af (((lm.more (G:=fun g=>(Value.slice sa L.length sc).ownBlock=some g∨g=go) fun g h=> .inl h).trans ((ct sY go (i*10+s*5) (.slice a2 M.length c2)).more fun g h=> .inr h)));have Ay:=jE.out.nA.keeps lm (fun h=>by have:=DA.out aH (by rw [zq.out];exact h);omega)
 have kp:sY.cell? ⟨go,i*10+s*5,none⟩=some (.slice sa L.length sc):=by
  have:=nB rp dh.out hs (f:=0) (u:= .slice (bx.sh s).a (bx.sh s).n (bx.sh s).c) rfl;rw [(jE.out.oZ dh.out bz.out).n,iu.out,sV.out,sW.out]at this;exact this
 have Iy:=af (fun o=>Row.Ip rp dh.out o);have wS:=af (eo jE.out.row go rfl);have B7:Hid (w.heap.size≤go):=af (cS jE.out.row go rfl);have DC:=af (cS DF.out);have OT:=af DG;refine hK.out _ _ ⟨Ay.cell 0,Ay.cell 1,Ay.cell 2,kp⟩ (fun hHeld=>?_);clear hK K hne xR xS rp uj qB jV lm Ay DG iw;refine au 9 ?_;refine au 10 ?_;refine dY 11 fun K hK=>?_;have OU:=Iy.out;go_simp;refine hK.out _ _ ?_;clear hK K hHeld OU kp Iy;generalize sY.setCell ⟨go,i*10+s*5,none⟩ (.slice a2 M.length c2)=bZ at*
 have uh:o3 ⟨q,i,(s:Int)+1,p,t,c,false⟩ L=M:=by
  unfold o3;rw [kj.out];dsimp only;rw [if_pos uk.out,Md.out,←OT.out];simp [aF.lv]
 have vr:=af uh;clear uh;have v0:bZ.cell? ↑aM=some (.slice ↑go V.length cap):=B9.out.cell 0;have cu:bZ.cell? ↑gr=some (.slice none 0 0):=o4.out.cell 0;have sU:bZ.frozen? ↑gr=false:=o4.out.frozen 0;have Aw:Hid ((c9 x s).app ⟨q,i,(s:Int)+1,p,t,c,false⟩=⟨M,(c9 x s).im,(c9 x s).has⟩):=af (by rw [r8.out,vr.out]);have vp:=af (jE.out.done (sh:=⟨a2,M.length,c2,(bx.sh s).im,(bx.sh s).has⟩) (d:=⟨M,(c9 x s).im,(c9 x s).has⟩) gq.out lO.out dh.out bz.out hs pT.out (fun g hg h=>by rcases h with h|h;exact zq.out.trans h;exact absurd h (hg.ne wS.out (by decide))) pU.out ⟨rfl,Ca.out,kg.out,uf.out⟩ o4.out.aE Aw.out (.slice ↑go V.length cap));have cH:=af ((jE.out.aJ.trans (pT.out.below (B:=w.heap.size) (fun k hk=>by rcases hk with h|h;exact DC.out k h;rw [h];exact B7.out) jE.out.aJ.size)).setCell (p:=⟨gr,0,none⟩) wR.out (.slice ↑go V.length cap));have vq:Hid (av (bZ.setCell ↑gr (.slice ↑go V.length cap)) gr 43 #[.slice ↑go V.length cap]):=af (o4.out.aW 0 _);go_wp2_with fail
 clear v0 cu sU;generalize bZ.setCell ↑gr (.slice ↑go V.length cap)=wf at*;have f0:wf.cell? ↑gr=some (.slice ↑go V.length cap):=vq.out.cell 0;refine bodyPost_ret (v:= .tuple #[.agg #[.slice ↑go V.length cap],.int .i64 0]) (by simp [results,Tryz.results83,go_sem,f0]) rfl ⟨_,rfl,vp.out,cH.out⟩
end Go.Proofs.YtmaijkoopjocdaaGreat
