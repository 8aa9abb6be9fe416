import Derived.Test.YtmaijkoopjocdaaGreatKW16
import Derived.Test.YtmaijkoopjocdaaGreatKW15
import Derived.Test.YtmaijkoopjocdaaGreatKW05
set_option maxRecDepth 100000
set_option maxHeartbeats 64000000
namespace Go.Proofs.YtmaijkoopjocdaaGreat
open Go.RowKit Go.Lib
theorem Rh {w:World} {B:Nat} {v:Value} {V:bG} (h:cg ey bS w B v V) (hl:V.length<=255) {K:Nat} (hK:fX V K) (n5:K<=800000) {q p t c:Int} {i s:Nat} (hi:i<V.length) (hs:s<2) (iH:n6 V.length ⟨q,i,(s:Int)+1,p,t,c,true⟩=0):
 Calls Tryz.prog 83 #[.agg #[v],.agg #[↑q,↑i,↑((s:Int)+1),↑p,↑t,↑c,.bool true]] w fun e w'=>∃v',e= .returned (.tuple #[.agg #[v'],↑()])∧cg ey bS w' ↑w v' (gm ⟨q,i,(s:Int)+1,p,t,c,true⟩ V)∧Below ↑w w w':=by
 obtain⟨a,aY,rfl⟩:=h.form;obtain⟨im,X⟩:=ai true;have hz1:(w.alloc (.cells #[.slice a V.length aY] 43)).heap.size=w.heap.size+1:=cU;have eg:((w.alloc (.cells #[.slice a V.length aY] 43)).alloc (.cells #[↑q,↑i,↑((s:Int)+1),↑p,↑t,↑c,↑im] 86)).heap.size=w.heap.size+1+1:=cU;have hb1:=Below.aI w (.cells #[.slice a V.length aY] 43);have hb2:=hb1.trans ((Below.aI (w.alloc (.cells #[.slice a V.length aY] 43)) (.cells #[↑q,↑i,↑((s:Int)+1),↑p,↑t,↑c,↑im] 86)).mono hb1.size);have hb3:=hb2.trans ((Below.aI ((w.alloc (.cells #[.slice a V.length aY] 43)).alloc (.cells #[↑q,↑i,↑((s:Int)+1),↑p,↑t,↑c,↑im] 86)) (.cells #[.slice none 0 0] 43)).mono hb2.size);have fC:av (((w.alloc (.cells #[.slice a V.length aY] 43)).alloc (.cells #[↑q,↑i,↑((s:Int)+1),↑p,↑t,↑c,↑im] 86)).alloc (.cells #[.slice none 0 0] 43)) ↑w 43 #[.slice a V.length aY]:=((av.new w _ _).alloc _).alloc _;have r:av (((w.alloc (.cells #[.slice a V.length aY] 43)).alloc (.cells #[↑q,↑i,↑((s:Int)+1),↑p,↑t,↑c,↑im] 86)).alloc (.cells #[.slice none 0 0] 43)) (w.heap.size+1) 86 #[↑q,↑i,↑((s:Int)+1),↑p,↑t,↑c,↑im]:=by have:=(av.new (w.alloc (.cells #[.slice a V.length aY] 43)) 86 #[↑q,↑i,↑((s:Int)+1),↑p,↑t,↑c,↑im]).alloc (.cells #[.slice none 0 0] 43);rwa [hz1]at this
 have fe:av (((w.alloc (.cells #[.slice a V.length aY] 43)).alloc (.cells #[↑q,↑i,↑((s:Int)+1),↑p,↑t,↑c,↑im] 86)).alloc (.cells #[.slice none 0 0] 43)) (w.heap.size+1+1) 43 #[.slice none 0 0]:=by have:=av.new ((w.alloc (.cells #[.slice a V.length aY] 43)).alloc (.cells #[↑q,↑i,↑((s:Int)+1),↑p,↑t,↑c,↑im] 86)) 43 #[.slice none 0 0];rwa [eg]at this
 have eu:=xQ V.length ⟨q,i,(s:Int)+1,p,t,c,im⟩ (((w.alloc (.cells #[.slice a V.length aY] 43)).alloc (.cells #[↑q,↑i,↑((s:Int)+1),↑p,↑t,↑c,↑im] 86)).alloc (.cells #[.slice none 0 0] 43));rw [X]at iH;rw [iH]at eu;unfold aF.agg at eu;dsimp only at eu;have e5:=af (h.below hb3);have lg:=af hK;obtain⟨x,hx⟩:=GB V i hi;have M:=af hx;have kg:=af X;have bg:=af eu;have J:=af hb3;have I:=af fC;have O:=af r;have U:=af fe;rw [X];clear h hK hx X hz1 eg hb1 hb2 hb3 fC r fe eu iH;go_enter Tryz.func83,Tryz.ntmps83;go_upto_region 1 with(fail);obtain⟨w1,hw1⟩:=ai (((w.alloc (.cells #[.slice a V.length aY] 43)).alloc (.cells #[↑q,↑i,↑((s:Int)+1),↑p,↑t,↑c,↑im] 86)).alloc (.cells #[.slice none 0 0] 43));obtain⟨aM,fC⟩:=ai w.heap.size;obtain⟨ay,r⟩:=ai (w.heap.size+1);obtain⟨gr,fe⟩:=ai (w.heap.size+1+1);rw [hw1]at e5 J I O U bg⊢;rw [fe]at U⊢;rw [r]at O⊢;rw [fC]at I⊢;have fQ:Ei (aM≠gr):=af bh;have zo:Ei (ay≠gr):=af bh;have iO:Ei (aM≠ay):=af bh;have jT:Ei (w.heap.size<=aM):=af bh;have wR:Ei (w.heap.size<=gr):=af bh;clear hw1 fC r fe;have b0:=I.o.GC;obtain⟨m0,m1,m2,eN,ea,eY,y⟩:=O.o.e4;go_wp2_with fail;refine bg.o.mono ?_;rintro e w2 ⟨rfl,hb⟩;replace I:=af (I.o.below hb);replace O:=af (O.o.below hb);replace U:=af (U.o.below hb);replace e5:=af (e5.o.below hb);replace J:=ag J hb;clear hb bg b0 m0 m1 m2 eN ea eY y;have b0:=I.o.GC;go_wp2_with fail;refine(Dz e5.o hl lg.o bh).mono ?_;rintro e w3 ⟨v',rfl,⟨P,hP,gK,g8,rf⟩,hb⟩;obtain⟨F,iP⟩:=GB P i bh;obtain⟨go,cap,he,_,_⟩:=hP.at_ i F iP;rw [gK]at he;subst he;have N:=I.o.below hb;have aP:=J.o.trans (hb.mono J.o.size);have hst:=ct w3 aM 0 (.slice ↑go V.length cap);have hW:w.heap.size<=w2.heap.size:=J.o.size;have dx:=af ((hP.base hW).cC N.aE b9 0 (.slice ↑go V.length cap));have e6:Ei (∀(j:Nat) (p:bB) (x:aX×aX),P[j]? =some p->V[j]? =some x->bV bS (w3.setCell ↑aM (.slice ↑go V.length cap)) ↑w p.s x.1∧bV bS (w3.setCell ↑aM (.slice ↑go V.length cap)) ↑w p.t x.2):=af fun j p x hp hx=>⟨((g8 j p x hp hx).1.base hW).cC N.aE b9 0 _,((g8 j p x hp hx).2.base hW).cC N.aE b9 0 _⟩;have gq:=af gK;have lO:=af rf;have C:=af iP;have eV:=af ((O.o.below hb).cC (p:=⟨aM,0,none⟩) (Ne.symm iO.o) (.slice ↑go V.length cap));have ri:=af ((U.o.below hb).cC (p:=⟨aM,0,none⟩) (Ne.symm fQ.o) (.slice ↑go V.length cap));have ny:Ei (av (w3.setCell ↑aM (.slice ↑go V.length cap)) aM 43 #[.slice ↑go V.length cap]):=af (N.aW 0 _);have bN:=af (aP.setCell (p:=⟨aM,0,none⟩) jT.o (.slice ↑go V.length cap));have b3:=N.GC;have vo:w3.frozen? ↑aM=false:=N.frozen 0;clear hP gK g8 rf iP N aP hst hW hb b0 I O U e5 J;go_upto_region 5 with(fail);clear b3 vo;generalize w3.setCell ↑aM (.slice ↑go V.length cap)=L at*;have b4:=ny.o.GC;obtain⟨m0,m1,m2,eN,ea,eY,y⟩:=eV.o.e4;have y1:IntKind.i64.wrap ((s:Int)+1-1)=(s:Int):=by rw [IntWalk.i64_in _ bh];omega
 have fI:(s:Int)+1-1=(s:Int):=bh;have hi2:(i:Int)<(V.length:Int):=bh;have fD:(s:Int)<2:=bh;go_quiet (fail);have H:=(Below.bO L nq).trans ((Below.aI (L.drewN nq) (.cells #[↑p,↑t,↑c] 47)).mono (Nat.le_refl _));obtain⟨aH,z⟩:=ai L.heap.size;have rj:sS w ((L.drewN nq).alloc (.cells #[↑p,↑t,↑c] 47)) aM ay gr aH go cap V P q p t c i s im:=by refine⟨ny.o.below H,eV.o.below H,ri.o.below H,?_,dx.o.below H,fun j p x hp hx=>⟨(e6.o j p x hp hx).1.below H,(e6.o j p x hp hx).2.below H⟩,bN.o.trans (H.mono bN.o.size)⟩;rw [<-z];exact av.new (L.drewN nq) _ _
 have A:=af rj;have DA:Ei (∀g,(F.sh s).own=some g->g<aH):=af (by
  intro g hg;have hh:=e6.o i F x C.o M.o;rw [<-z];unfold bB.sh at hg;split at hg
  ·exact ki hh.1.row g hg
  exact ki hh.2.row g hg)
 have Au:Ei (w.heap.size<=aH):=af (by rw [<-z];exact bN.o.size);have tY:(L.drewN nq).heap.size=aH:=z;go_upto_region 7 with(fail);clear rj H z tY ny eV ri dx e6 bN b4 m0 m1 m2 eN ea eY y y1 fI;generalize (L.drewN nq).alloc (.cells #[↑p,↑t,↑c] 47)=E at*;have X:=kg.o;subst X;clear kg;have y:=A.o.bm.Ji;go_upto_region 8 with(fail);clear y;have hS:E.cell? ↑aH=↑p∧E.cell? ↑(aH,1)=↑t∧E.cell? ↑(aH,2)=↑c∧E.cell? ↑(ay,4)=↑t:=⟨A.o.nA.cell 0,A.o.nA.cell 1,A.o.nA.cell 2,A.o.bm.cell 4⟩;refine cP (S:=fun w'=>w'.cell? ↑aH=↑p∧w'.cell? ⟨aH,1,none⟩=↑t∧w'.cell? ⟨aH,2,none⟩=↑c∧w'.cell? ⟨ay,4,none⟩=↑t) hS fun hHeld=>?_;refine eX [0,1,2,3,4,5,6,7] ?_;refine aU 8 fun K hK=>?_;have k1:E.cell? ↑(go,i*10+s*5+1)=some (.int .i64 (F.sh s).im.ap):=nB A.o.row C.o hs rfl;have k2:E.cell? ↑(go,i*10+s*5+2)=some (.int .i64 (F.sh s).im.aq):=nB A.o.row C.o hs rfl;have di:E.cell? ↑(go,i*10+s*5+3)=some (.int .i64 (F.sh s).im.count):=nB A.o.row C.o hs rfl;have qA:=A.o.fz C.o;go_simp;have W:=(L6 E go (i*10+s*5) ↑p ↑t ↑c).trans (Below.keeps (Below.bO _ 1));have bX:=(Row.TV A.o.row C.o hs ⟨p,t,c⟩).below (Below.bO _ 1);have Y:ck E go ey.t:=eo A.o.row go rfl;have e1:aM≠go:=A.o.bv.aE.ne Y b9;have e2:ay≠go:=A.o.bm.aE.ne Y b9;have bJ:gr≠go:=A.o.br.aE.ne Y b9;have cV:aH≠go:=A.o.nA.aE.ne Y b9;have B7:Ei (w.heap.size<=go):=af (cS A.o.row go rfl);have Z:=af Y;have L7:=af (A.o.bv.keeps W e1);have L8:=af (A.o.bm.keeps W e2);have L9:=af (A.o.br.keeps W bJ);have T:=af (A.o.nA.keeps W cV);have wT:=af W;have m:=af bX;have TW:=af bJ;clear W bX Y e1 e2 bJ cV k1 k2 di qA;obtain⟨G,R⟩:=ai ((((E.setCell ⟨go,i*10+s*5+1,none⟩ ↑p).setCell ⟨go,i*10+s*5+1+1,none⟩ ↑t).setCell ⟨go,i*10+s*5+1+2,none⟩ ↑c).drew);have hdr:∀u:World,u.drewN 1=u.drew:=fun _=>rfl;rw [hdr,R]at wT m;replace L7:Ei (av G aM 43 #[.slice ↑go V.length cap]):=af (by rw [<-R];exact L7.o);replace L8:Ei (av G ay 86 #[↑q,↑i,↑((s:Int)+1),↑p,↑t,↑c,.bool true]):=af (by rw [<-R];exact L8.o);replace L9:Ei (av G gr 43 #[.slice none 0 0]):=af (by rw [<-R];exact L9.o);replace T:Ei (av G aH 47 #[↑p,↑t,↑c]):=af (by rw [<-R];exact T.o);rw [R];refine hK.out _ _ ⟨T.o.cell 0,T.o.cell 1,T.o.cell 2,L8.o.cell 4⟩ (fun hHeld=>?_);clear hK K hdr R hS;refine eX [9,10] ?_;refine dY 11 fun K hK=>?_;have jc:G.cell? ↑(go,i*10+s*5+4)=some (.bool (F.sh s).has):=nB m.o (pR C.o _) hs (by rw [bB.Av];rfl);have qA:G.frozen? ↑(go,i*10+s*5+4)=false:=Row.Ip m.o (pR C.o _) _;go_simp;refine hK.out _ _ ?_;have kE:=wT.o.trans (ct G go (i*10+s*5+4) (.bool (decide (0<t))));have lQ:=Row.DB m.o (pR C.o _) hs (f:=4) b9 (x:=⟨(F.sh s).a,(F.sh s).n,(F.sh s).c,⟨p,t,c⟩,decide (0<t)⟩) (u:= .bool (decide (0<t))) (by rw [bB.Av];rfl);rw [List.set_set,bB.Ma]at lQ;have e1:aM≠go:=A.o.bv.aE.ne Z.o b9;have TX:=af (L7.o.cC (p:=⟨go,i*10+s*5+4,none⟩) e1 (.bool (decide (0<t))));have l:=af (L9.o.cC (p:=⟨go,i*10+s*5+4,none⟩) TW.o (.bool (decide (0<t))));have pS:=af kE;have Q:=af lQ;clear hK K jc qA hHeld kE lQ e1 L7 L8 L9 T wT m;generalize G.setCell ⟨go,i*10+s*5+4,none⟩ (.bool (decide (0<t)))=D at*;have jc:D.cell? ↑(go,i*10+s*5+4)=some (.bool (decide (0<t))):=nB Q.o (pR C.o _) hs (by rw [bB.Av];rfl);by_cases ht:0<t
 ·have b:Ei (decide (0<t)=true):=af (decide_eq_true ht);have hm:(c9 x s).app ⟨q,i,(s:Int)+1,p,t,c,true⟩=⟨(c9 x s).lv,⟨p,t,c⟩,true⟩:=by unfold aX.app;rw [if_pos rfl,if_pos ht];rfl
  have r8:=af hm;clear hm;have v0:=TX.o.GC;have cu:=l.o.GC;have sU:D.frozen? ↑gr=false:=l.o.frozen 0;have vp:=af (A.o.done (d:=⟨(c9 x s).lv,⟨p,t,c⟩,true⟩) gq.o lO.o C.o M.o hs pS.o (fun g hg e=>absurd e (hg.ne Z.o b9)) Q.o (⟨(A.o.oZ C.o M.o).n,(A.o.oZ C.o M.o).row.keep pS.o (fun g hg e=>hg.ne Z.o b9 e),rfl,b.o⟩) l.o.aE r8.o (.slice ↑go V.length cap));have cH:=af ((A.o.aJ.trans (pS.o.below (B:=w.heap.size) (fun k hk=>by have hk2:k=go:=hk;rw [hk2];exact B7.o) A.o.aJ.size)).setCell (p:=⟨gr,0,none⟩) wR.o (.slice ↑go V.length cap));have vq:Ei (av (D.setCell ↑gr (.slice ↑go V.length cap)) gr 43 #[.slice ↑go V.length cap]):=af (l.o.aW 0 _);rw [b.o]at jc;go_wp2_with fail;clear v0 cu sU;generalize D.setCell ↑gr (.slice ↑go V.length cap)=wf at*;have f0:=vq.o.GC;refine bodyPost_ret (v:= .tuple #[.agg #[.slice ↑go V.length cap],↑()]) (by simp [results,Tryz.results83,go_sem,f0]) rfl ⟨_,rfl,vp.o,cH.o⟩
 have b:Ei (decide (0<t)=false):=af (decide_eq_false ht);have r8:Ei ((c9 x s).app ⟨q,i,(s:Int)+1,p,t,c,true⟩=⟨(c9 x s).lv,jD,false⟩):=af (by unfold aX.app;rw [if_pos rfl,if_neg ht]);rw [b.o]at jc;have k1:D.cell? ↑(go,i*10+s*5+1)=↑p:=nB Q.o (pR C.o _) hs (by rw [bB.Av];rfl);have k2:D.cell? ↑(go,i*10+s*5+2)=↑t:=nB Q.o (pR C.o _) hs (by rw [bB.Av];rfl);have di:D.cell? ↑(go,i*10+s*5+3)=↑c:=nB Q.o (pR C.o _) hs (by rw [bB.Av];rfl);have qA:∀o,D.frozen? ⟨go,o,none⟩=false:=fun o=>Row.Ip Q.o (pR C.o _) o;have pT:=af (pS.o.trans (L6 D go (i*10+s*5) ↑() ↑() ↑()));have qB:=Row.TV Q.o (pR C.o _) hs jD;rw [List.set_set,bB.Ma,bB.Av]at qB;have pU:=af qB;have e1:aM≠go:=A.o.bv.aE.ne Z.o b9;have Ri:=af (TX.o.keeps (L6 D go (i*10+s*5) ↑() ↑() ↑()) e1);have Mb:=af (l.o.keeps (L6 D go (i*10+s*5) ↑() ↑() ↑()) TW.o);clear qB e1;go_upto_region 11 with(fail);clear k1 k2 di jc qA;unfold jD at pU;dsimp only at pU;generalize ((D.setCell ⟨go,i*10+s*5+1,none⟩ ↑()).setCell ⟨go,i*10+s*5+1+1,none⟩ ↑()).setCell ⟨go,i*10+s*5+1+2,none⟩ ↑()=bZ at*;have v0:=Ri.o.GC;have cu:=Mb.o.GC;have sU:bZ.frozen? ↑gr=false:=Mb.o.frozen 0;have vp:=af (A.o.done (d:=⟨(c9 x s).lv,jD,false⟩) gq.o lO.o C.o M.o hs pT.o (fun g hg e=>absurd e (hg.ne Z.o b9)) pU.o (⟨(A.o.oZ C.o M.o).n,(A.o.oZ C.o M.o).row.keep pT.o (fun g hg e=>hg.ne Z.o b9 e),rfl,b.o⟩) Mb.o.aE r8.o (.slice ↑go V.length cap));have cH:=af ((A.o.aJ.trans (pT.o.below (B:=w.heap.size) (fun k hk=>by have hk2:k=go:=hk;rw [hk2];exact B7.o) A.o.aJ.size)).setCell (p:=⟨gr,0,none⟩) wR.o (.slice ↑go V.length cap));have vq:Ei (av (bZ.setCell ↑gr (.slice ↑go V.length cap)) gr 43 #[.slice ↑go V.length cap]):=af (Mb.o.aW 0 _);go_wp2_with fail;clear v0 cu sU;generalize bZ.setCell ↑gr (.slice ↑go V.length cap)=wf at*;have f0:=vq.o.GC;refine bodyPost_ret (v:= .tuple #[.agg #[.slice ↑go V.length cap],↑()]) (by simp [results,Tryz.results83,go_sem,f0]) rfl ⟨_,rfl,vp.o,cH.o⟩
theorem P3 {w:World} {B:Nat} {v:Value} {V:bG} (h:cg ey bS w B v V) (hl:V.length<=255) {K:Nat} (hK:fX V K) (C:K<=800000) (E:xU V) {m:aF} (hf:Az V.length m):
 Calls Tryz.prog 83 #[.agg #[v],m.agg] w fun e w'=>∃v',e= .returned (.tuple #[.agg #[v'],↑()])∧cg ey bS w' ↑w v' (gm m V)∧Below ↑w w w':=by
 have A:n6 V.length m=0:=Mg.2 (IA.2 hf);obtain⟨f1,f2,f3,f4,f5,f6⟩:=hf;obtain⟨q,ii,sd,p,t,c,im⟩:=m;dsimp only at*;obtain⟨i,rfl⟩:∃i:Nat,ii=i:=⟨ii.toNat,bh⟩;obtain⟨s,hs,rfl⟩:∃s:Nat,s<2∧sd=(s:Int)+1:=by
  rcases f3 with rfl|rfl
  ·exact⟨0,b9,rfl⟩
  exact⟨1,b9,rfl⟩
 have hi:i<V.length:=bh;obtain⟨x,hx⟩:=GB V i hi;have D:kF ((s:Int)+1) (c9 x s).lv:=by
  have:=E x (List.mem_of_getElem? hx);rcases(bh:s=0∨s=1)with rfl|rfl
  ·exact this.1
  exact this.2
 unfold aF.agg;cases im with
 |true=>exact Rh h hl hK C hi hs A
 |false=>
  cases hc:(c9 x s).lv.findIdx? (fun y=>y.ap==p)with
  |some k=>
   by_cases ht:t=0
   ·subst ht;exact Pe h hl hK C hi hs A hx D hc
   exact Py h hl hK C hi hs A hx D hc ht
  |none=>
   by_cases ht:0<t
   ·cases hb:(c9 x s).lv.findIdx? (fun y=>cT ((s:Int)+1) p y.ap)with
    |some k=>exact P1 h hl hK C hi hs A hx D hc hb ht
    |none=>exact P2 h hl hK C hi hs A hx D hc hb ht
   exact P0 h hl hK C hi hs A hx D hc ht
theorem KA (p:Prod) (w:World) (hp:gM w p):
 Calls Tryz.prog 51 #[p.agg] w fun e w'=>e= .returned (.int .i64 (countP p))∧Below ↑w w w':=by
 have hs0:=St.new hp;unfold Prod.cells at hs0;have D:=af hs0;have A:=Kz p _ hs0.pv;unfold Prod.agg Prod.cells at A⊢;clear hp hs0;by_cases hz:cR p=0
 ·have C:Ei (countP p=nR p.months.length):=af (if_pos hz);have hlen:=pI hz;have hn:p.months.length=2∨p.months.length=3∨p.months.length=4∨p.months.length=5∨p.months.length=6:=bh;have E:=af hz;clear hz hlen;go_enter Tryz.func51,Tryz.ntmps51;go_wp2_with fail;refine A.mono ?_;rw [E.o];rintro e w1 ⟨rfl,hb1⟩;have B:=af (D.o.next hb1);have b1:=B.o.pc.2.1;clear A hb1;rcases hn with hn|hn|hn|hn|hn;all_goals
   rw [hn]at b1;have HN:=af hn;clear hn;go_wp2_with fail;go_ret;exact⟨by rw [C.o,HN.o];rfl,B.o.aJ⟩
 have C:Ei (countP p=0):=af (if_neg hz);have hz1:(cR p==0)=false:=by rw [beq_eq_false_iff_ne];exact hz
 have F:(cR p !=0)=true:=by rw [bne_iff_ne];exact hz
 clear hz;generalize cR p=cp at*;go_enter Tryz.func51,Tryz.ntmps51;go_wp2_with fail;refine A.mono ?_;rintro e w1 ⟨rfl,hb1⟩;have B:=af (D.o.next hb1);clear A hb1;go_wp2_with fail;go_ret;exact⟨by rw [C.o];rfl,B.o.aJ⟩
section
variable {w w':World} {B go cap i s:Nat} {P:List bB} {p:bB} {V:bG}
theorem qm (h:eJ.Row w B (.slice ↑go V.length cap) P) (hp:P[i]? =some p) (hs:s<2) {f:Nat} (hf:f<5) {x:eO} {u:Value} (he:x.cells=(p.sh s).cells.set f u):
 eJ.Row (w.setCell ⟨go,i*10+s*5+f,none⟩ u) B (.slice ↑go V.length cap) (P.set i (p.put s x)):=by
 rw [show i*10+s*5+f=i*eJ.m+(s*5+f)by show _=i*10+(s*5+f);omega];refine h.aW hp (by show s*5+f<10;omega) ?_;have e:∀q:bB,eJ.cells q=q.s.cells++q.t.cells:=fun _=>rfl;have A:∀y:eO,y.cells.length=5:=fun _=>rfl;rw [e,e];rcases(bh:s=0∨s=1)with rfl|rfl
 ·show x.cells++p.t.cells=_;rw [List.set_append_left _ _ (by rw [A];omega),he,show 0*5+f=f by omega];rfl
 show p.s.cells++x.cells=_;rw [List.set_append_right _ _ (by rw [A];omega),he,A,show 1*5+f-5=f by omega];rfl
theorem LJ (h:eJ.Row w B (.slice ↑go V.length cap) P) (hp:P[i]? =some p) (hs:s<2) (l:aB):
 eJ.Row (((w.setCell ⟨go,i*10+s*5+1,none⟩ ↑l.ap).setCell ⟨go,i*10+s*5+1+1,none⟩ ↑l.aq).setCell ⟨go,i*10+s*5+1+2,none⟩ ↑l.count) B (.slice ↑go V.length cap) (P.set i (p.put s ⟨(p.sh s).a,(p.sh s).n,(p.sh s).c,l,(p.sh s).has⟩)):=by
 have h1:=qm h hp hs (f:=1) b9 (x:=⟨(p.sh s).a,(p.sh s).n,(p.sh s).c,⟨l.ap,(p.sh s).im.aq,(p.sh s).im.count⟩,(p.sh s).has⟩) (u:=↑l.ap) rfl;have h2:=qm h1 (pR hp _) hs (f:=2) b9 (x:=⟨(p.sh s).a,(p.sh s).n,(p.sh s).c,⟨l.ap,l.aq,(p.sh s).im.count⟩,(p.sh s).has⟩) (u:=↑l.aq) (by rw [bB.Av];rfl);rw [List.set_set,bB.Ma]at h2;have h3:=qm h2 (pR hp _) hs (f:=3) b9 (x:=⟨(p.sh s).a,(p.sh s).n,(p.sh s).c,l,(p.sh s).has⟩) (u:=↑l.count) (by rw [bB.Av];rfl);rw [List.set_set,bB.Ma]at h3;exact h3
theorem jk (h:eJ.Row w B (.slice ↑go V.length cap) P) (hp:P[i]? =some p) (hs:s<2) {f:Nat} {u:Value} (he:(p.sh s).cells[f]? =some u):w.cell? ↑(go,i*10+s*5+f)=some u:=by
 obtain⟨g',cap',e1,_,bJ⟩:=h.at_ i p hp;have C:g'=go:=by injection e1 with e1;injection e1 with e1;injection e1 with e1;exact e1.symm
 subst C;have hf:f<5:=by have:=dM he;exact this
 have:=bJ (s*5+f) u (by
  have e:eJ.cells p=p.s.cells++p.t.cells:=rfl;have A:∀y:eO,y.cells.length=5:=fun _=>rfl;rw [e];rcases(bh:s=0∨s=1)with rfl|rfl
  ·rw [List.getElem?_append_left (by rw [A];omega),show 0*5+f=f by omega];exact he
  rw [List.getElem?_append_right (by rw [A];omega),A,show 1*5+f-5=f by omega];exact he)
 rw [show i*10+s*5+f=i*eJ.m+(s*5+f)by show _=i*10+(s*5+f);omega];exact this
theorem s7 {w:World} {B go n cap i:Nat} {P:List bB} {C:bB} (h:eJ.Row w B (.slice ↑go n cap) P) (hp:P[i]? =some C) (o:Nat):w.frozen? ↑(go,o)=false:=by obtain⟨g',cap',cur,A,_,hbk⟩:=h.Cd (by intro h0;rw [h0]at hp;simp at hp);injection A with A;injection A with A;injection A with A;subst A;exact hbk.frozen _
end
structure yO (W w:World) (B ay gr cX go cap:Nat) (V:bG) (P:List bB) (q p t c:Int) (i:Nat) (sd:Int) (im:Bool):Prop where
 bm:av w ay 86 #[↑q,↑i,↑sd,↑p,↑t,↑c,↑im]
 br:av w gr 54 #[.slice none 0 0]
 RJ:av w cX 54 #[.slice ↑go V.length cap]
 row:eJ.Row w ↑W (.slice ↑go V.length cap) P
 sh:∀(j:Nat) (p:bB) (x:aX×aX),P[j]? =some p->V[j]? =some x->bV bK w B p.s x.1∧bV bK w B p.t x.2
 aJ:Below ↑W W w
theorem yO.below {W w w':World} {B ay gr cX go cap:Nat} {V:bG} {P:List bB} {q p t c:Int} {i:Nat} {sd:Int} {im:Bool} (h:yO W w B ay gr cX go cap V P q p t c i sd im) (hb:Below ↑w w w'):yO W w' B ay gr cX go cap V P q p t c i sd im:=
 ⟨h.bm.below hb,h.br.below hb,h.RJ.below hb,h.row.below hb,fun j p x hp hx=>⟨(h.sh j p x hp hx).1.below hb,(h.sh j p x hp hx).2.below hb⟩,h.aJ.trans (hb.mono h.aJ.size)⟩
theorem yO.fin {W w w':World} {B ay gr cX go cap:Nat} {V:bG} {P:List bB} {q p t c:Int} {i s:Nat} {sd:Int} {im:Bool} {A:bB} {x:aX×aX} {sh:eO} {d:aX} (h:yO W w B ay gr cX go cap V P q p t c i sd im) (hB:B<=W.heap.size) (hl:P.length=V.length) (hp:P[i]? =some A) (hx:V[i]? =some x) (hs:s<2) (hk:aK (fun g=>g=go) w w')
 (hr:eJ.Row w' ↑W (.slice ↑go V.length cap) (P.set i (A.put s sh))) (hd:bV bK w' B sh d):cg eJ bK w' B (.slice ↑go V.length cap) (V.set i (Me x s d)):=by
 have C:ck w go eJ.t:=eo h.row go rfl;have hkp:∀{y:eO} {e:aX},bV bK w B y e->bV bK w' B y e:=fun hh=>hh.keep hk (fun g hg e=>hg.ne C b9 e);have hil:=dM hx;refine⟨_,hr.base hB,by rw [List.length_set,List.length_set];exact hl,fun j y z hy hz=>?_⟩;by_cases hj:j=i
 ·subst hj;rw [pR hp]at hy;rw [pR hx]at hz;injection hy with hy;injection hz with hz;subst hy;subst hz;have h0:=h.sh j A x hp hx;rcases(bh:s=0∨s=1)with rfl|rfl
  ·exact⟨hd,hkp h0.2⟩
  exact⟨hkp h0.1,hd⟩
 rw [List.getElem?_set_ne (fun e=>hj e.symm)]at hy hz;have h0:=h.sh j y z hy hz;exact⟨hkp h0.1,hkp h0.2⟩
theorem yO.imp {W w w':World} {B ay gr cX go cap:Nat} {V:bG} {P:List bB} {q p t c:Int} {i s:Nat} {A:bB} {l:aB} {b:Bool} (h:yO W w B ay gr cX go cap V P q p t c i ((s:Int)+1) true) (hB:B<=W.heap.size) (hl:P.length=V.length) (hp:P[i]? =some A) (hs:s<2) (hk:aK (fun g=>g=go) w w')
 (hr:eJ.Row w' ↑W (.slice ↑go V.length cap) (P.set i (A.put s ⟨(A.sh s).a,(A.sh s).n,(A.sh s).c,l,b⟩))) (hb:decide (0<t)=b) (hv:l=if b=true then⟨p,t,c⟩else jD):cg eJ bK w' B (.slice ↑go V.length cap) (gm ⟨q,i,(s:Int)+1,p,t,c,true⟩ V):=by
 obtain⟨x,hx⟩:=GB V i (by have:=dM hp;omega);rw [T3 (m:=⟨q,i,(s:Int)+1,p,t,c,true⟩) rfl rfl hs hx];have C:ck w go eJ.t:=eo h.row go rfl;have h0:=h.sh i A x hp hx;have h1:bV bK w B (A.sh s) (c9 x s):=by
  rcases(bh:s=0∨s=1)with rfl|rfl
  ·exact h0.1
  exact h0.2
 have h2:=h1.keep hk (fun g hg e=>hg.ne C b9 e);refine h.fin hB hl hp hx hs hk hr ?_;have e:(c9 x s).app ⟨q,i,(s:Int)+1,p,t,c,true⟩=⟨(c9 x s).lv,l,b⟩:=by
  unfold aX.app;rw [if_pos rfl];dsimp only [aF.lv];subst hv;subst hb;by_cases h:0<t
  ·rw [if_pos h,decide_eq_true h,if_pos rfl]
  rw [if_neg h,decide_eq_false h,if_neg cU]
 rw [e];exact⟨h2.n,h2.row,rfl,rfl⟩
theorem yO.grow {W w w':World} {B ay gr cX go cap:Nat} {V:bG} {P:List bB} {q p t c:Int} {i:Nat} {sd:Int} {im:Bool} {F:Nat->Prop} (h:yO W w B ay gr cX go cap V P q p t c i sd im) (lo:∀(j:Nat) (p:bB) (g:Nat),P[j]? =some p->(p.s.own=some g∨p.t.own=some g)->g<W.heap.size) (hk:aK F w w') (hF:∀g,F g->ck w g bK.t∧W.heap.size<=g):yO W w' B ay gr cX go cap V P q p t c i sd im:=
 ⟨h.bm.keeps hk (fun e=>(hF _ e).1.ne h.bm.aE b9 rfl),h.br.keeps hk (fun e=>(hF _ e).1.ne h.br.aE b9 rfl),h.RJ.keeps hk (fun e=>(hF _ e).1.ne h.RJ.aE b9 rfl),
  h.row.keep hk (fun g hg e=>(hF _ e).1.ne hg b9 rfl),
  fun j p x hp hx=>⟨⟨(h.sh j p x hp hx).1.n,(h.sh j p x hp hx).1.row.Bd hk (fun g hg e=>absurd (lo j p g hp (.inl hg)) (by have:=(hF g e).2;omega)),(h.sh j p x hp hx).1.im,(h.sh j p x hp hx).1.has⟩,⟨(h.sh j p x hp hx).2.n,(h.sh j p x hp hx).2.row.Bd hk (fun g hg e=>absurd (lo j p g hp (.inr hg)) (by have:=(hF g e).2;omega)),(h.sh j p x hp hx).2.im,(h.sh j p x hp hx).2.has⟩⟩,
  h.aJ.trans (hk.below (fun g hg=>(hF g hg).2) h.aJ.size)⟩
structure Hw (W w:World) (B ay gr cX go cap:Nat) (V:bG) (P:List bB) (q p t c:Int) (i:Nat) (sd:Int) (v:Value) (out:List aB):Prop where
 jP:yO W w B ay gr cX go cap V P q p t c i sd false
 row:bK.Row w ↑W v out
theorem Hw.below {W w w':World} {B ay gr cX go cap:Nat} {V:bG} {P:List bB} {q p t c:Int} {i:Nat} {sd:Int} {v:Value} {out:List aB} (h:Hw W w B ay gr cX go cap V P q p t c i sd v out) (hb:Below ↑w w w'):Hw W w' B ay gr cX go cap V P q p t c i sd v out:=⟨h.jP.below hb,h.row.below hb⟩
theorem Hw.push {W w w':World} {B ay gr cX go cap:Nat} {V:bG} {P:List bB} {q p t c:Int} {i:Nat} {sd:Int} {v v':Value} {out:List aB} {l:aB} (h:Hw W w B ay gr cX go cap V P q p t c i sd v out) (lo:∀(j:Nat) (p:bB) (g:Nat),P[j]? =some p->(p.s.own=some g∨p.t.own=some g)->g<W.heap.size) (hg:w.grownBy w' v.ownBlock) (hr:bK.Row w' ↑W v' (out++ [l])):Hw W w' B ay gr cX go cap V P q p t c i sd v' (out++ [l]):=
 ⟨h.jP.grow lo (fK hg) (fun g e=>⟨eo h.row g e,cS h.row g e⟩),hr⟩
theorem yO.L1 {W w w':World} {B ay gr cX go cap:Nat} {V:bG} {P:List bB} {q p t c:Int} {i s:Nat} {A:bB} {x:aX×aX} {a:Option Addr} {cc:Nat} {out:List aB} (h:yO W w B ay gr cX go cap V P q p t c i ((s:Int)+1) false) (hB:B<=W.heap.size) (hl:P.length=V.length) (hp:P[i]? =some A) (hx:V[i]? =some x) (hs:s<2) (hk:aK (fun g=>g=go) w w')
 (hr:eJ.Row w' ↑W (.slice ↑go V.length cap) (P.set i (A.put s ⟨a,out.length,cc,(A.sh s).im,(A.sh s).has⟩))) (ho:bK.Row w ↑W (.slice a out.length cc) out) (hu:out=ku ⟨q,i,(s:Int)+1,p,t,c,false⟩ (c9 x s).lv):cg eJ bK w' B (.slice ↑go V.length cap) (gm ⟨q,i,(s:Int)+1,p,t,c,false⟩ V):=by
 rw [T3 (m:=⟨q,i,(s:Int)+1,p,t,c,false⟩) rfl rfl hs hx];have C:ck w go eJ.t:=eo h.row go rfl;have h0:=h.sh i A x hp hx;have h1:bV bK w B (A.sh s) (c9 x s):=by
  rcases(bh:s=0∨s=1)with rfl|rfl
  ·exact h0.1
  exact h0.2
 refine h.fin hB hl hp hx hs hk hr ?_;have e:(c9 x s).app ⟨q,i,(s:Int)+1,p,t,c,false⟩=⟨out,(c9 x s).im,(c9 x s).has⟩:=by unfold aX.app;rw [if_neg cU,<-hu]
 rw [e];exact⟨rfl,(ho.keep hk (fun g hg e=>hg.ne C b9 e)).base hB,h1.im,h1.has⟩
theorem KB {p:Prod} (h:cR p≠0):countP p=0:=if_neg h
theorem yt {p:Prod} (h:cR p=0):countP p=nR p.months.length:=if_pos h
theorem yN:∀n,n<=6->nR n<=21∧n<=nR n:=b9
theorem BA (p:Prod):0<=countP p∧countP p<=21:=by
 unfold countP;split
 ·rename_i h;have:=pI h;have:=yN p.months.length bh;omega
 omega
theorem Y5 {p:Prod} (h:cR p=0): -1000000<=p.low∧p.low<p.high∧p.high<=1000000∧0<=p.wide∧p.wide<=p.high-p.low:=by have:=(J7 h).2.2.2.1;unfold ix at this;omega
theorem ah9 {p:Prod} (h:cR p=0) {j:Nat} {x:Int} (hx:p.settle[j]? =some x):p.low<=x∧x<=p.high:=by have:=(J7 h).2.2.2.2.1;unfold o5 at this;simp only [Bool.or_eq_false_iff,List.any_eq_false,decide_eq_true_eq]at this;have hm:=List.mem_of_getElem? hx;have h1:=this.1.2 x hm;have h2:=this.2 x hm;omega
theorem RW {p:Prod} (h:countP p≠0):cR p=0:=by
 by_cases hz:cR p=0
 ·exact hz
 exact absurd (KB hz) h
theorem YK {p:Prod} (h:cR p=0):0<countP p:=by have:=pI h;have:=yN p.months.length bh;rw [yt h];omega
def C5 (p:Prod) (inst:Int):Int:=if(p.months.length:Int)<=inst then-p.wide else p.low
def C6 (p:Prod) (inst:Int):Int:=if(p.months.length:Int)<=inst then p.wide else p.high
def eW (p:Prod) (inst ap:Int):Int:=
 if countP p=0 then 1 else if inst<0∨countP p<=inst then 20 else if ap.tmod p.tick≠0 then 22 else if ap<C5 p inst∨C6 p inst<ap then 23 else 0
theorem Y6:∀n,n<=6->∀k,k<22->n+k<nR n->Bl n k<J8 n k∧J8 n k<n:=b9
theorem RI {p:Prod} {inst:Int} (h:(gf p inst).2.2=true):cR p=0∧∃i j:Nat,gf p inst=((i:Int),(j:Int),true)∧i<j∧j<p.months.length∧(p.months.length:Int)<=inst∧inst<countP p:=by
 unfold gf at h⊢;by_cases h1:inst<0∨countP p<=inst
 ·rw [if_pos h1]at h;cases h
 rw [if_neg h1]at h⊢;by_cases h2:inst<p.months.length
 ·rw [if_pos h2]at h;cases h
 rw [if_neg h2];have hz:cR p=0:=RW bh;have hl:=pI hz;have hc:=yt hz;have A:=yN p.months.length hl.2;have:=Y6 p.months.length hl.2 (inst-p.months.length).toNat bh bh;exact⟨hz,_,_,rfl,this.1,this.2,bh,bh⟩
def uT (p:Prod) (inst ap:Int):Int×Int×Int:=
 if cR p≠0 then(0,0,1)else if(gf p inst).2.2=false then(0,0,20)else if eW p inst ap≠0 then(0,0,eW p inst ap)else
  if p.high<p.settle.getD (gf p inst).2.1.toNat 0+ap then(p.high,p.high-ap,0)else
   if p.settle.getD (gf p inst).2.1.toNat 0+ap<p.low then(p.low,p.low-ap,0)else(p.settle.getD (gf p inst).2.1.toNat 0+ap,p.settle.getD (gf p inst).2.1.toNat 0,0)
theorem aia {p:Prod} {inst ap:Int} (h:eW p inst ap=0):cR p=0∧0<=inst∧inst<countP p∧ap.tmod p.tick=0∧C5 p inst<=ap∧ap<=C6 p inst:=by
 unfold eW at h;by_cases h1:countP p=0
 ·rw [if_pos h1]at h;omega
 rw [if_neg h1]at h;by_cases h2:inst<0∨countP p<=inst
 ·rw [if_pos h2]at h;omega
 rw [if_neg h2]at h;by_cases h3:ap.tmod p.tick≠0
 ·rw [if_pos h3]at h;omega
 rw [if_neg h3]at h;by_cases h4:ap<C5 p inst∨C6 p inst<ap
 ·rw [if_pos h4]at h;omega
 exact⟨RW h1,bh,bh,bh,bh,bh⟩
theorem M7 (n:Nat) {a b:Nat} (h:a<=b):k4 n a<=k4 n b:=by
 induction b with
 |zero=>obtain rfl:a=0:=by omega
        exact Nat.le_refl _
 |succ b ih=>
  by_cases hab:a=b+1
  ·rw [hab];exact Nat.le_refl _
  have:=ih bh;rw [JO];omega
theorem Y7 {p:Prod} {n k i j:Nat} (hn:p.months.length=n) (hz:cR p=0) (hi:i+1<=j) (hj:j<n) (hk:k=k4 n i+(j-(i+1))):gf p ((n:Int)+(k:Int))=((i:Int),(j:Int),true):=by
 subst hn;have hs:=JO p.months.length i;have hl:=pI hz;have he:=M6 p.months.length hl.2;have hm:=M7 p.months.length (bh:i+1<=p.months.length);have hc:=yt hz;have A:Bl p.months.length k=i:=Xx bh bh fun j' hj'=>by have:=M7 p.months.length (bh:j'+1<=i);omega
 unfold gf;rw [if_neg bh,if_neg bh,show((p.months.length:Int)+(k:Int)-(p.months.length:Int)).toNat=k by omega];unfold J8;rw [A,show i+1+(k-k4 p.months.length i)=j by omega]
theorem aib {p:Prod} {n k:Nat} (hn:p.months.length=n) (hz:cR p=0) (hk:k4 n n<=k):gf p ((n:Int)+(k:Int))=(0,0,false):=by subst hn;have hl:=pI hz;have he:=M6 p.months.length hl.2;have hc:=yt hz;exact if_pos bh
theorem Hv (p:Prod) (inst:Int) (w:World) (hp:gM w p):
 Calls Tryz.prog 71 #[p.agg,↑inst] w fun e w'=>e= .returned (.tuple #[.int .i64 (gf p inst).1,.int .i64 (gf p inst).2.1,.bool (gf p inst).2.2])∧Below ↑w w w':=by
 have hs0:=St.new hp;unfold Prod.cells at hs0;have D:=af hs0;have A:=Kz p _ hs0.pv;unfold Prod.agg Prod.cells at A⊢;have hml:=hp.Cg;clear hp hs0;have hcb:=BA p;obtain⟨b0,b1,b2,b3,b4,bk,H,bn,E,F,G⟩:=D.o.pc;by_cases hz:cR p=0
 ·rw [hz]at A;by_cases hneg:inst<0
  ·have C:Ei (gf p inst=(0,0,false)):=af (if_pos (.inl hneg));rw [C.o];clear hz;go_enter Tryz.func71,Tryz.ntmps71;go_wp2_with fail;refine A.mono ?_;rintro e w1 ⟨rfl,hb1⟩;have B:=af (D.o.next hb1);clear A hb1 b0 b1 b2 b3 b4 bk H bn E F G;go_wp2_with fail;go_ret3;exact⟨dn,B.o.aJ⟩
  have hlen:=pI hz;have J:=yN p.months.length hlen.2;have hcs:=yt hz;by_cases hm:inst<p.months.length
  ·have C:Ei (gf p inst=(inst,inst,false)):=af (by unfold gf;rw [if_neg bh,if_pos hm]);rw [C.o];clear hz hcs J;go_enter Tryz.func71,Tryz.ntmps71;go_wp2_with fail;refine A.mono ?_;rintro e w1 ⟨rfl,hb1⟩;have B:=af (D.o.next hb1);clear A hb1 b0 b1 b2 b3 b4 bk H bn E F G;go_wp2_with fail;go_ret3;exact⟨dn,B.o.aJ⟩
  obtain⟨k,hk⟩:∃k:Nat,inst=(p.months.length:Int)+(k:Int):=⟨(inst-p.months.length).toNat,bh⟩;subst hk;have K:=af fun(i j:Nat) (hi:i+1<=j) (hj:j<p.months.length) (hk:k=k4 p.months.length i+(j-(i+1)))=>Y7 rfl hz hi hj hk;have I:=af fun(hk:k4 p.months.length p.months.length<=k)=>aib rfl hz hk;have P:=af (Z5 p.months.length hlen.2);clear hz hcs J hcb;generalize hv:gf p ((p.months.length:Int)+(k:Int))=v at*;clear hv;go_enter Tryz.func71,Tryz.ntmps71;go_wp2_with fail;refine A.mono ?_;rintro e w1 ⟨rfl,hb1⟩;have B:=af (D.o.next hb1);clear A hb1 b0 b1 b2 b3 b4 bk H bn E F G;generalize hn:p.months.length=n at*;clear hn;go_wp2_with fail;go_loop [8,9] (fun at_ i=>∃j:Nat,i=↑j∧j<=n∧at_=↑((n:Int)+(k4 n j:Nat))∧k4 n j<=k) (fun _ i=>n-(RowKit.intOf i).toNat)
  case atStart=>exact⟨0,rfl,Nat.zero_le _,congrArg (Value.int .i64) (by rw [XA];simp),by rw [XA];omega⟩
  obtain⟨i,rfl,hi,rfl,hle⟩:=hrel;by_cases hin:i<n
  ·have N:(i:Int)<(n:Int):=by omega
   have R:=P.o i bh;have Q:=af (JO n i);have L:Ei (∀j,i+1<=j->j<n->k=k4 n i+(j-(i+1))->v=((i:Int),(j:Int),true)):=af fun j h1 h2 h3=>K.o i j h1 h2 h3;generalize k4 n i=o at*;go_wp2_with fail;go_loop [8,10] (fun at_ j'=>∃j:Nat,j'=↑j∧i+1<=j∧j<=n∧at_= .int .i64 ((n:Int)+(o:Int)+((j:Int)-((i:Int)+1)))∧o+(j-(i+1))<=k) (fun _ j'=>n-(RowKit.intOf j').toNat)
   case atStart=>exact⟨i+1,dR,bh,bh,congrArg (Value.int .i64) bh,bh⟩
   obtain⟨j,rfl,O,hj2,rfl,U⟩:=hrel;by_cases hjn:j<n
   ·have M:(j:Int)<(n:Int):=by omega
    by_cases heq:k=o+(j-(i+1))
    ·have hv:=L.o j O hjn heq;have he:((n:Int)+(o:Int)+((j:Int)-((i:Int)+1))==(n:Int)+(k:Int))=true:=by rw [beq_iff_eq];omega
     subst hv;clear heq;go_wp2_with fail;go_ret3;exact⟨dn,B.o.aJ⟩
    have he:((n:Int)+(o:Int)+((j:Int)-((i:Int)+1))==(n:Int)+(k:Int))=false:=by rw [beq_eq_false_iff_ne];omega
    go_wp2_with fail;go_round
    case rel=>exact⟨j+1,dR,bh,bh,congrArg (Value.int .i64) bh,bh⟩
    exact Ej
   obtain rfl:j=n:=bh;have V:=Q.o;go_wp2_with fail;go_round
   case rel=>exact⟨i+1,dR,bh,congrArg (Value.int .i64) bh,bh⟩
   exact Ej
  obtain rfl:i=n:=bh;have hv:v=(0,0,false):=I.o hle;subst hv;clear hle;go_wp2_with fail;go_ret3;exact⟨dn,B.o.aJ⟩
 have C:Ei (gf p inst=(0,0,false)):=af (by have:=KB hz;exact if_pos bh);rw [C.o];have T:(cR p !=0)=true:=by rw [bne_iff_ne];exact hz
 clear hz;generalize cR p=cp at*;go_enter Tryz.func71,Tryz.ntmps71;go_wp2_with fail;refine A.mono ?_;rintro e w1 ⟨rfl,hb1⟩;have B:=af (D.o.next hb1);clear A hb1 b0 b1 b2 b3 b4 bk H bn E F G;go_wp2_with fail;go_ret3;exact⟨dn,B.o.aJ⟩
end Go.Proofs.YtmaijkoopjocdaaGreat
