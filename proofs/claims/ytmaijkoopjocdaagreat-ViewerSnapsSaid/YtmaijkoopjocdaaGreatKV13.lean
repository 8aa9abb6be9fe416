import Derived.Test.YtmaijkoopjocdaaGreatKV10
import Derived.Test.YtmaijkoopjocdaaGreatKV12
import Derived.Test.YtmaijkoopjocdaaGreatKV11
set_option maxRecDepth 100000
set_option maxHeartbeats 64000000
namespace Go.Proofs.YtmaijkoopjocdaaGreat
open Go.RowKit Go.Lib
def pY:Nat→Int→Int
 |0,c=>c
 |k+1,c=>vB (pY k c)
theorem Ph {c:Int} (h:qJ c):∀k,qJ (pY k c)
 |0=>h
 |k+1=>AJ (Ph h k)
theorem Uq (c x:Int):Gc c x=pY 8 (bits .xor .u32 c x):=rfl
theorem Ur (c:Int) (l:List Int) (x:Int):oh c (l++ [x])=Gc (oh c l) x:=by
 unfold oh;rw [List.foldl_append];rfl
theorem Us {c:Int} (h:qJ c):bits .and .u32 c 1=c % 2:=
 bits_mask .u32 32 (by decide) wraps_u32 1 (by decide) c h.1 h.2
theorem Ut {w:World} {v:Value} {bs:List Int} (h:cZ.eT w v bs) {k:Nat} {z:Int} (hk:bs[k]? =some z):∃b off c,v= .slice (some ⟨b,off,none⟩) bs.length c∧w.cell? ⟨b,off+k,none⟩=some (.int .u8 z):=by
 obtain⟨b,off,c,h1,_,h3⟩:=h.get hk;refine⟨b,off,c,h1,?_⟩;have:=h3 0 _ rfl
 rwa [show off+k*cZ.m+0=off+k from by show off+k*1+0=off+k;omega]at this
theorem kH {α:Type} {l:List α} {k:Nat} {x:α} (h:l[k]? =some x):l.take (k+1)=l.take k++ [x]:=by
 obtain⟨h1,h2⟩:=lB h;rw [List.take_succ_eq_append_getElem h1,h2]
theorem ac8 {w:World} {v:Value} {bs:List Int} (h:cZ.eT w v bs) (hl:bs.length≤900000) (hok:∀z∈bs,isByte z):
 Calls Tryz.prog 91 #[v] w fun e w'=>e= .returned (.int .u32 (rB bs))∧w=w':=by
 have aD:=af h;have e9:=af hok;have Ck:Hid (∀k,qJ (oh 4294967295 (bs.take k))):=af fun k=>Pj (by unfold qJ;decide);have dx:Hid (rB bs=bits .xor .u32 4294967295 (oh 4294967295 (bs.take bs.length))):=af (by rw [List.take_length];rfl);rw [dx.out];clear dx;obtain⟨a,c,rfl,_,_⟩:=h;clear hok;go_enter Tryz.func91,Tryz.ntmps91
 go_wp2_with fail
 go_loopw [3,9] (fun y i w'=>∃k:Nat,i=↑k∧y= .int .u32 (oh 4294967295 (bs.take k))∧k≤bs.length∧w=w') (fun _ i _=>bs.length-(RowKit.intOf i).toNat)
 case atStart=>exact⟨0,rfl,rfl,Nat.zero_le _,rfl⟩
 case round=>
  obtain⟨k,rfl,rfl,hk,rfl⟩:=hrel;by_cases hlt:k<bs.length
  ·have hlt':(k:Int)<(bs.length:Int):=by omega
   obtain⟨z,hz⟩:∃z,bs[k]? =some z:=⟨_,List.getElem?_eq_getElem hlt⟩;have dN:Hid (oh 4294967295 (bs.take (k+1))=pY 8 (bits .xor .u32 (oh 4294967295 (bs.take k)) z)):=af (by rw [kH hz,Ur,Uq]);have oF:=e9.out z (List.mem_of_getElem? hz);have y1:IntKind.u32.wrap z=z:=u32_wrap_id z (by have:=oF.1;omega) (by have:=oF.2;omega);obtain⟨b,off,c',he,c0⟩:=Ut aD.out hz;injection he with he _ eS;subst he;subst eS;generalize oh 4294967295 (bs.take k)=y at*;have bz:=af (Gd .xor y z);clear hz oF;go_wp2_with fail
   generalize bits .xor .u32 y z=x0 at*;go_loopw [3,17] (fun y i w'=>∃j:Nat,i=↑j∧y= .int .u32 (pY j x0)∧j≤8∧w=w') (fun _ i _=>8-(RowKit.intOf i).toNat)
   case atStart=>exact⟨0,rfl,rfl,Nat.zero_le _,by trivial⟩
   case round=>
    obtain⟨j,rfl,rfl,hj,rfl⟩:=hrel;have hr:=Ph bz.out j;have iy:Hid (pY (j+1) x0=vB (pY j x0)):=af rfl;have IJ:Hid (j=8→oh 4294967295 (bs.take (k+1))=pY j x0):=af (by rintro rfl;exact dN.out);generalize pY j x0=t at*;by_cases h8:j<8
    ·have ac9:(j:Int)<8:=by omega
     have q1:bits .and .u32 t 1=t % 2:=Us hr;have Uu:t.fdiv 2=t / 2:=Int.fdiv_eq_ediv_of_nonneg t (by decide);by_cases ho:t % 2=1
     ·have ho':(0:Int)<t % 2:=by omega
      have pZ:Hid (pY (j+1) x0=bits .xor .u32 (t / 2) 3988292384):=af (by rw [iy.out];exact if_pos ho);have bM:=af hr;clear hr ho iy;go_wp2_with fail
      go_roundw
      case rel=>exact⟨j+1,by go_num,by rw [pZ.out],h8,by trivial⟩
      case measure=>simp [RowKit.intOf];omega
     ·have ho':¬(0:Int)<t % 2:=by omega
      have pZ:Hid (pY (j+1) x0=t / 2):=af (by rw [iy.out];exact if_neg ho);have bM:=af hr;clear hr ho iy;go_wp2_with fail
      go_roundw
      case rel=>exact⟨j+1,by go_num,by rw [pZ.out],h8,by trivial⟩
      case measure=>simp [RowKit.intOf];omega
    ·obtain rfl:j=8:=by omega
     have nc:Hid (oh 4294967295 (bs.take (k+1))=t):=af (IJ.out rfl);clear IJ;go_wp2_with fail
     go_roundw
     case rel=>exact⟨k+1,by go_num,by rw [nc.out],hlt,by trivial⟩
     case measure=>simp [RowKit.intOf];omega
  ·obtain rfl:k=bs.length:=by omega
   go_wp2_with fail
   go_ret;exact⟨by trivial,by trivial⟩
theorem acA {w:World} {B:Nat} {v:Value} {V:bG} (h:cg ey bS w B v V) (hl:V.length≤255) {K:Nat} (hK:fX V K) (n5:K≤800000) {q p c:Int} {i s:Nat} (hi:i<V.length) (hs:s<2) (iH:n6 V.length ⟨q,i,(s:Int)+1,p,0,c,false⟩=0) {x0:aX×aX} (hx0:V[i]? =some x0) (n7:kF ((s:Int)+1) (c9 x0 s).lv) {k:Nat} (tZ:(c9 x0 s).lv.findIdx? (fun y=>y.ap==p)=some k):
 Calls Tryz.prog 83 #[.agg #[v],.agg #[↑q,↑i,.int .i64 ((s:Int)+1),↑p,.int .i64 0,↑c,.bool false]] w fun e w'=>∃v',e= .returned (.tuple #[.agg #[v'],.int .i64 0])∧cg ey bS w' w.heap.size v' (gm ⟨q,i,(s:Int)+1,p,0,c,false⟩ V)∧Below w.heap.size w w':=by
 obtain⟨a,aY,rfl⟩:=h.form;obtain⟨im,gp⟩:=ai false;have hz1:(w.alloc (.cells #[.slice a V.length aY] 43)).heap.size=w.heap.size+1:=by simp
 have eg:((w.alloc (.cells #[.slice a V.length aY] 43)).alloc (.cells #[↑q,↑i,.int .i64 ((s:Int)+1),↑p,.int .i64 0,↑c,↑im] 86)).heap.size=w.heap.size+1+1:=by simp
 have hb1:=Below.aI w (.cells #[.slice a V.length aY] 43);have hb2:=hb1.trans ((Below.aI (w.alloc (.cells #[.slice a V.length aY] 43)) (.cells #[↑q,↑i,.int .i64 ((s:Int)+1),↑p,.int .i64 0,↑c,↑im] 86)).mono hb1.size);have hb3:=hb2.trans ((Below.aI ((w.alloc (.cells #[.slice a V.length aY] 43)).alloc (.cells #[↑q,↑i,.int .i64 ((s:Int)+1),↑p,.int .i64 0,↑c,↑im] 86)) (.cells #[.slice none 0 0] 43)).mono hb2.size);have fC:av (((w.alloc (.cells #[.slice a V.length aY] 43)).alloc (.cells #[↑q,↑i,.int .i64 ((s:Int)+1),↑p,.int .i64 0,↑c,↑im] 86)).alloc (.cells #[.slice none 0 0] 43)) w.heap.size 43 #[.slice a V.length aY]:=((av.new w _ _).alloc _).alloc _
 have dL:av (((w.alloc (.cells #[.slice a V.length aY] 43)).alloc (.cells #[↑q,↑i,.int .i64 ((s:Int)+1),↑p,.int .i64 0,↑c,↑im] 86)).alloc (.cells #[.slice none 0 0] 43)) (w.heap.size+1) 86 #[↑q,↑i,.int .i64 ((s:Int)+1),↑p,.int .i64 0,↑c,↑im]:=by
  have:=(av.new (w.alloc (.cells #[.slice a V.length aY] 43)) 86 #[↑q,↑i,.int .i64 ((s:Int)+1),↑p,.int .i64 0,↑c,↑im]).alloc (.cells #[.slice none 0 0] 43)
  rwa [hz1]at this
 have fe:av (((w.alloc (.cells #[.slice a V.length aY] 43)).alloc (.cells #[↑q,↑i,.int .i64 ((s:Int)+1),↑p,.int .i64 0,↑c,↑im] 86)).alloc (.cells #[.slice none 0 0] 43)) (w.heap.size+1+1) 43 #[.slice none 0 0]:=by
  have:=av.new ((w.alloc (.cells #[.slice a V.length aY] 43)).alloc (.cells #[↑q,↑i,.int .i64 ((s:Int)+1),↑p,.int .i64 0,↑c,↑im] 86)) 43 #[.slice none 0 0]
  rwa [eg]at this
 have eu:=xQ V.length ⟨q,i,(s:Int)+1,p,0,c,im⟩ (((w.alloc (.cells #[.slice a V.length aY] 43)).alloc (.cells #[↑q,↑i,.int .i64 ((s:Int)+1),↑p,.int .i64 0,↑c,↑im] 86)).alloc (.cells #[.slice none 0 0] 43));rw [gp]at iH;rw [iH]at eu;unfold aF.agg at eu;dsimp only at eu;have e5:=af (h.below hb3);have lg:=af hK;obtain⟨x,hx⟩:∃x,V[i]? =some x:=⟨_,List.getElem?_eq_getElem hi⟩;have bz:=af hx;have kg:=af gp;have bg:=af eu;have aQ:=af hb3;have fq:=af fC;have cy:=af dL;have eL:=af fe;rw [gp];have jU:=af hx0;have ua:=af n7;have kG:=af tZ;clear hx0 n7 tZ h hK hx gp hz1 eg hb1 hb2 hb3 fC dL fe eu iH;go_enter Tryz.func83,Tryz.ntmps83
 go_upto_region 1 with(fail)
 obtain⟨w1,hw1⟩:=ai (((w.alloc (.cells #[.slice a V.length aY] 43)).alloc (.cells #[↑q,↑i,.int .i64 ((s:Int)+1),↑p,.int .i64 0,↑c,↑im] 86)).alloc (.cells #[.slice none 0 0] 43));obtain⟨aM,fC⟩:=ai w.heap.size;obtain⟨ay,dL⟩:=ai (w.heap.size+1);obtain⟨gr,fe⟩:=ai (w.heap.size+1+1);rw [hw1]at e5 aQ fq cy eL bg⊢;rw [fe]at eL⊢;rw [dL]at cy⊢;rw [fC]at fq⊢;have fQ:Hid (aM≠gr):=af (by omega);have zo:Hid (ay≠gr):=af (by omega);have iO:Hid (aM≠ay):=af (by omega);have jT:Hid (w.heap.size≤aM):=af (by omega);have wR:Hid (w.heap.size≤gr):=af (by omega);clear hw1 fC dL fe;have b0:w1.cell? ↑aM=some (.slice a V.length aY):=fq.out.cell 0;obtain⟨m0,m1,m2,eN,ea,eY,dV⟩:=cy.out.amz;go_wp2_with fail
 refine bg.out.mono ?_;rintro e w2 ⟨rfl,hb⟩;replace fq:=af (fq.out.below hb);replace cy:=af (cy.out.below hb);replace eL:=af (eL.out.below hb);replace e5:=af (e5.out.below hb);replace aQ:=ag aQ hb;clear hb bg b0 m0 m1 m2 eN ea eY dV;have b0:w2.cell? ↑aM=some (.slice a V.length aY):=fq.out.cell 0;go_wp2_with fail
 refine(Dz e5.out hl lg.out (by omega)).mono ?_;rintro e w3 ⟨v',rfl,⟨P,hP,gK,g8,rf⟩,hb⟩;obtain⟨bx,iP⟩:∃p,P[i]? =some p:=⟨_,List.getElem?_eq_getElem (by omega)⟩;obtain⟨go,cap,he,_,_⟩:=hP.at_ i bx iP;rw [gK]at he;subst he;have cj:=fq.out.below hb;have aP:=aQ.out.trans (hb.mono aQ.out.size);have hst:=ct w3 aM 0 (.slice ↑go V.length cap);have hW:w.heap.size≤w2.heap.size:=aQ.out.size;have dx:=af ((hP.base hW).cC cj.aE (by decide) 0 (.slice ↑go V.length cap));have e6:Hid (∀(j:Nat) (p:bB) (x:aX×aX),P[j]? =some p→V[j]? =some x→bV bS (w3.setCell ↑aM (.slice ↑go V.length cap)) w.heap.size p.s x.1∧bV bS (w3.setCell ↑aM (.slice ↑go V.length cap)) w.heap.size p.t x.2):=af fun j p x hp hx=>⟨((g8 j p x hp hx).1.base hW).cC cj.aE (by decide) 0 _,((g8 j p x hp hx).2.base hW).cC cj.aE (by decide) 0 _⟩;have gq:=af gK;have lO:=af rf;have dh:=af iP;have eV:=af ((cy.out.below hb).cC (p:=⟨aM,0,none⟩) (Ne.symm iO.out) (.slice ↑go V.length cap));have ri:=af ((eL.out.below hb).cC (p:=⟨aM,0,none⟩) (Ne.symm fQ.out) (.slice ↑go V.length cap));have ny:Hid (av (w3.setCell ↑aM (.slice ↑go V.length cap)) aM 43 #[.slice ↑go V.length cap]):=af (cj.aW 0 _);have bN:=af (aP.setCell (p:=⟨aM,0,none⟩) jT.out (.slice ↑go V.length cap));have b3:w3.cell? ↑aM=some (.slice a V.length aY):=cj.cell 0;have vo:w3.frozen? ↑aM=false:=cj.frozen 0;clear hP gK g8 rf iP cj aP hst hW hb b0 fq cy eL e5 aQ;go_upto_region 5 with(fail)
 clear b3 vo;generalize w3.setCell ↑aM (.slice ↑go V.length cap)=az at*;have b4:az.cell? ↑aM=some (.slice ↑go V.length cap):=ny.out.cell 0;obtain⟨m0,m1,m2,eN,ea,eY,dV⟩:=eV.out.amz;have y1:IntKind.i64.wrap ((s:Int)+1-1)=(s:Int):=by rw [IntWalk.i64_in _ (by omega)];omega
 have fI:(s:Int)+1-1=(s:Int):=by omega
 have hi2:(i:Int)<(V.length:Int):=by omega
 have fD:(s:Int)<2:=by omega
 go_quiet (fail)
 have bQ:=(Below.bO az nq).trans ((Below.aI (az.drewN nq) (.cells #[↑p,.int .i64 0,↑c] 47)).mono (Nat.le_refl _));obtain⟨aH,dr⟩:=ai az.heap.size
 have rj:sS w ((az.drewN nq).alloc (.cells #[↑p,.int .i64 0,↑c] 47)) aM ay gr aH go cap V P q p 0 c i s im:=by
  refine⟨ny.out.below bQ,eV.out.below bQ,ri.out.below bQ,?_,dx.out.below bQ,fun j p x hp hx=>⟨(e6.out j p x hp hx).1.below bQ,(e6.out j p x hp hx).2.below bQ⟩,bN.out.trans (bQ.mono bN.out.size)⟩;rw [←dr];exact av.new (az.drewN nq) _ _
 have dR:=af rj
 have DA:Hid (∀g,(bx.sh s).own=some g→g<aH):=af (by
  intro g hg;have hh:=e6.out i bx x dh.out bz.out;rw [←dr];unfold bB.sh at hg;split at hg
  ·exact ki hh.1.row g hg
  ·exact ki hh.2.row g hg)
 have Au:Hid (w.heap.size≤aH):=af (by rw [←dr];exact bN.out.size);have tY:(az.drewN nq).heap.size=aH:=dr;go_upto_region 7 with(fail)
 clear rj bQ dr tY ny eV ri dx e6 bN b4 m0 m1 m2 eN ea eY dV y1 fI;generalize (az.drewN nq).alloc (.cells #[↑p,.int .i64 0,↑c] 47)=aA at*;have gp:=kg.out;subst gp;clear kg;obtain rfl:x=x0:=by have h1:=bz.out;have h2:=jU.out;rw [h1]at h2;injection h2
 have dV:aA.cell? ⟨ay,6,none⟩=some (.bool false):=dR.out.bm.cell 6;have iq:=dR.out.oZ dh.out bz.out;obtain⟨L,hL⟩:=ai ((c9 x s).lv)
 have ud:L.length≤K:=by
  have:=lg.out x (List.mem_of_getElem? bz.out);rw [←hL];unfold c9;split
  ·exact this.1
  ·exact this.2
 obtain⟨sn,qC⟩:=ai ((bx.sh s).n);obtain⟨sa,hsa⟩:=ai ((bx.sh s).a);obtain⟨sc,hsc⟩:=ai ((bx.sh s).c);have hown:(bx.sh s).own=(Value.slice sa L.length sc).ownBlock:=by unfold eO.own;rw [iq.n,hL,hsa,hsc]
 have c0:aA.cell? ⟨go,i*10+s*5,none⟩=some (.slice sa L.length sc):=by
  have:=nB dR.out.row dh.out hs (f:=0) (u:= .slice (bx.sh s).a (bx.sh s).n (bx.sh s).c) rfl;rw [iq.n,hL,hsa,hsc]at this;exact this
 have hrow:bS.Row aA w.heap.size (.slice sa L.length sc) L:=by
  have:=iq.row;rw [iq.n,hL,hsa,hsc]at this;exact this
 have hm:(c9 x s).app ⟨q,i,(s:Int)+1,p,0,c,false⟩=⟨o3 ⟨q,i,(s:Int)+1,p,0,c,false⟩ L,(c9 x s).im,(c9 x s).has⟩:=by
  unfold aX.app;rw [if_neg (by simp),hL,F3 (by rw [←hL];exact ua.out)]
 have r8:=af hm;have kg:=af iq.im;have uf:=af iq.has;have zq:=af hown;have cY:=af hrow;have iu:=af hL;have nC:=af ud;have sV:=af hsa;have sW:=af hsc;have pV:=Ir hrow.sl (by omega) ay p dR.out.bm.lt (dR.out.bm.cell 3);have hidx:n8 (fun y=>y.ap==p) L=(k:Int):=by unfold n8;rw [←hL,kG.out]
 rw [hidx]at pV;have ug:=af pV;have hcs:=kG.out;rw [hL]at hcs;have kj:=af hcs;clear iq hL ud qC hsa hsc hown hrow hm jU ua pV hidx hcs kG;go_upto_region 12 with(fail)
 clear dV;go_wp2_with fail
 refine ug.out.mono ?_;rintro e aN ⟨rfl,hb⟩;have eP:=af (dR.out.below hb);have pW:=af (cY.out.below hb);clear hb ug cY dR c0;have ea:aN.cell? ⟨ay,4,none⟩=some (.int .i64 0):=eP.out.bm.cell 4
 have fJ:aN.cell? ⟨go,i*10+s*5,none⟩=some (.slice sa L.length sc):=by
  have:=nB eP.out.row dh.out hs (f:=0) (u:= .slice (bx.sh s).a (bx.sh s).n (bx.sh s).c) rfl;rw [(eP.out.oZ dh.out bz.out).n,iu.out,sV.out,sW.out]at this;exact this
 have eR:k<L.length:=by have:=kj.out;rw [List.findIdx?_eq_some_iff_getElem]at this;exact this.1
 have y1:IntKind.i64.wrap ((k:Int)+1)=(k:Int)+1:=IntWalk.i64_in _ (by have:=nC.out;omega);have fI:(0:Int)≤(k:Int):=by omega
 go_wp2_with fail
 refine(acB pW.out eR (by have:=nC.out;omega)).mono ?_;rintro e bf ⟨v2,rfl,lQ,kE,_⟩;obtain⟨a2,c2,rfl⟩:=lQ.form
 have uh:o3 ⟨q,i,(s:Int)+1,p,0,c,false⟩ L=L.eraseIdx k:=by
  unfold o3;rw [kj.out];dsimp only;rw [if_pos rfl,List.eraseIdx_eq_take_drop_succ]
 have vr:=af uh;have m5:=af lQ;have pS:=af kE;clear uh lQ kE y1 fI;generalize L.eraseIdx k=M at*;have hne:∀g,(Value.slice sa L.length sc).ownBlock=some g→ck aN g bS.t:=fun g hg=>eo pW.out g hg;have xR:=eP.out.bv.keeps pS.out (fun h=>eP.out.bv.aE.ne (hne _ h) (by decide) rfl);have xS:=eP.out.br.keeps pS.out (fun h=>eP.out.br.aE.ne (hne _ h) (by decide) rfl);have rp:=eP.out.row.keep pS.out (fun g hg h=>hg.ne (hne _ h) (by decide) rfl);have uj:ck bf go ey.t:=eo rp go rfl;have gL:bf.cell? ⟨go,i*10+s*5,none⟩=some (.slice (bx.sh s).a (bx.sh s).n (bx.sh s).c):=nB rp dh.out hs (f:=0) rfl;have acC:bf.frozen? ⟨go,i*10+s*5,none⟩=false:=Row.Ip rp dh.out _;have qB:=Row.DB rp dh.out hs (f:=0) (by decide) (x:=⟨a2,M.length,c2,(bx.sh s).im,(bx.sh s).has⟩) (u:= .slice a2 M.length c2) rfl;rw [Nat.add_zero]at qB;have pU:=af qB;have B9:=af (xR.cC (p:=⟨go,i*10+s*5,none⟩) (xR.aE.ne uj (by decide)) (.slice a2 M.length c2));have o4:=af (xS.cC (p:=⟨go,i*10+s*5,none⟩) (xS.aE.ne uj (by decide)) (.slice a2 M.length c2));have Ca:=af (m5.out.cC uj (by decide) (i*10+s*5) (.slice a2 M.length c2));have pT:=af (((pS.out.more (G:=fun g=>(Value.slice sa L.length sc).ownBlock=some g∨g=go) fun g h=> .inl h).trans ((ct bf go (i*10+s*5) (.slice a2 M.length c2)).more fun g h=> .inr h)));have wS:=af (eo eP.out.row go rfl);have B7:Hid (w.heap.size≤go):=af (cS eP.out.row go rfl);have DC:=af (cS pW.out);clear hne xR xS rp uj qB;go_upto_region 22 with(fail)
 clear gL acC ea fJ;generalize bf.setCell ⟨go,i*10+s*5,none⟩ (.slice a2 M.length c2)=bZ at*;have v0:bZ.cell? ↑aM=some (.slice ↑go V.length cap):=B9.out.cell 0;have cu:bZ.cell? ↑gr=some (.slice none 0 0):=o4.out.cell 0;have sU:bZ.frozen? ↑gr=false:=o4.out.frozen 0;have Aw:Hid ((c9 x s).app ⟨q,i,(s:Int)+1,p,0,c,false⟩=⟨M,(c9 x s).im,(c9 x s).has⟩):=af (by rw [r8.out,vr.out]);have vp:=af (eP.out.done (sh:=⟨a2,M.length,c2,(bx.sh s).im,(bx.sh s).has⟩) (d:=⟨M,(c9 x s).im,(c9 x s).has⟩) gq.out lO.out dh.out bz.out hs pT.out (fun g hg h=>by rcases h with h|h;exact zq.out.trans h;exact absurd h (hg.ne wS.out (by decide))) pU.out ⟨rfl,Ca.out,kg.out,uf.out⟩ o4.out.aE Aw.out (.slice ↑go V.length cap));have cH:=af ((eP.out.aJ.trans (pT.out.below (B:=w.heap.size) (fun k hk=>by rcases hk with h|h;exact DC.out k h;rw [h];exact B7.out) eP.out.aJ.size)).setCell (p:=⟨gr,0,none⟩) wR.out (.slice ↑go V.length cap));have vq:Hid (av (bZ.setCell ↑gr (.slice ↑go V.length cap)) gr 43 #[.slice ↑go V.length cap]):=af (o4.out.aW 0 _);go_wp2_with fail
 clear v0 cu sU;generalize bZ.setCell ↑gr (.slice ↑go V.length cap)=wf at*;have f0:wf.cell? ↑gr=some (.slice ↑go V.length cap):=vq.out.cell 0;refine bodyPost_ret (v:= .tuple #[.agg #[.slice ↑go V.length cap],.int .i64 0]) (by simp [results,Tryz.results83,go_sem,f0]) rfl ⟨_,rfl,vp.out,cH.out⟩
theorem acK {w:World} {B:Nat} {v:Value} {V:bG} (h:cg ey bS w B v V) (hl:V.length≤255) {K:Nat} (hK:fX V K) (n5:K≤800000) (n7:xU V) {m:aF} (hf:Az V.length m):
 Calls Tryz.prog 83 #[.agg #[v],m.agg] w fun e w'=>∃v',e= .returned (.tuple #[.agg #[v'],.int .i64 0])∧cg ey bS w' w.heap.size v' (gm m V)∧Below w.heap.size w w':=by
 have iH:n6 V.length m=0:=Mg.2 (IA.2 hf);obtain⟨f1,f2,f3,f4,f5,f6⟩:=hf;obtain⟨q,ii,sd,p,t,c,im⟩:=m;dsimp only at*;obtain⟨i,rfl⟩:∃i:Nat,ii=i:=⟨ii.toNat,by omega⟩
 obtain⟨s,hs,rfl⟩:∃s:Nat,s<2∧sd=(s:Int)+1:=by
  rcases f3 with rfl|rfl
  ·exact⟨0,by decide,rfl⟩
  ·exact⟨1,by decide,rfl⟩
 have hi:i<V.length:=by omega
 obtain⟨x,hx⟩:∃x,V[i]? =some x:=⟨_,List.getElem?_eq_getElem hi⟩
 have Ce:kF ((s:Int)+1) (c9 x s).lv:=by
  have:=n7 x (List.mem_of_getElem? hx);rcases(show s=0∨s=1 by omega)with rfl|rfl
  ·exact this.1
  ·exact this.2
 unfold aF.agg;cases im with
 |true=>exact acy h hl hK n5 hi hs iH
 |false=>
  cases hc:(c9 x s).lv.findIdx? (fun y=>y.ap==p)with
  |some k=>
   by_cases ht:t=0
   ·subst ht;exact acA h hl hK n5 hi hs iH hx Ce hc
   ·exact acD h hl hK n5 hi hs iH hx Ce hc ht
  |none=>
   by_cases ht:0<t
   ·cases hb:(c9 x s).lv.findIdx? (fun y=>cT ((s:Int)+1) p y.ap)with
    |some k=>exact acI h hl hK n5 hi hs iH hx Ce hc hb ht
    |none=>exact acJ h hl hK n5 hi hs iH hx Ce hc hb ht
   ·exact acH h hl hK n5 hi hs iH hx Ce hc ht
structure fA (W w:World) (pv n:Nat) (hv:Value) (s:ig):Prop where
 box:∃(a:Option Addr) (c:Nat),av w pv 90 #[↑n,.slice a s.V.length c,↑s.seq,hv]∧cg ey bS w W.heap.size (.slice a s.V.length c) s.V
 held:hH.Row w W.heap.size hv s.H
 base:W.heap.size≤pv
 aJ:Below W.heap.size W w
def wo (pv:Nat) (hv:Value) (g:Nat):Prop:=g=pv∨hv.ownBlock=some g
section
variable {W w w':World} {pv n:Nat} {hv:Value} {s:ig}
theorem fA.keep {F:Nat→Prop} (h:fA W w pv n hv s) (hk:aK F w w') (hp:¬F pv) (hh:∀g,hv.ownBlock=some g→¬F g) (hy:∀g,ck w g ey.t→¬F g) (hz:∀g,ck w g bS.t→¬F g) (hF:∀g,F g→W.heap.size≤g):fA W w' pv n hv s:=by
 obtain⟨⟨a,c,h1,h2⟩,h3,h4,h5⟩:=h;exact⟨⟨a,c,h1.keeps hk hp,h2.keep hk hy hz⟩,h3.Bd hk hh,h4,h5.trans (hk.below hF h5.size)⟩
theorem fA.below (h:fA W w pv n hv s) (hb:Below w.heap.size w w'):fA W w' pv n hv s:=
 h.keep (F:=fun _=>False) (Below.keeps hb) (fun x=>x) (fun _ _ x=>x) (fun _ _ x=>x) (fun _ _ x=>x) (fun _ x=>x.elim)
theorem fA.Sb (h:fA W w pv n hv s) (q:Int):fA W (w.setCell ⟨pv,2,none⟩ ↑q) pv n hv ⟨s.V,q,s.H⟩:=by
 obtain⟨⟨a,c,h1,h2⟩,h3,h4,h5⟩:=h;have hk:=ct w pv 2 ↑q;have hb:=h1.aW 2 ↑q;simp only [List.setIfInBounds_toArray,List.set_cons_zero,List.set_cons_succ]at hb;exact⟨⟨a,c,hb,h2.keep hk (fun g hg e=>hg.ne h1.aE (by decide) e) (fun g hg e=>hg.ne h1.aE (by decide) e)⟩,h3.keep hk (fun g hg e=>hg.ne h1.aE (by decide) e),h4,h5.setCell (p:=⟨pv,2,none⟩) h4 _⟩
theorem fA.Sc {V:bG} {a:Option Addr} {c:Nat} (h:fA W w pv n hv s) (kf:cg ey bS w W.heap.size (.slice a V.length c) V):fA W (w.setCell ⟨pv,1,none⟩ (.slice a V.length c)) pv n hv ⟨V,s.seq,s.H⟩:=by
 obtain⟨⟨a0,c0,h1,h2⟩,h3,h4,h5⟩:=h;have hk:=ct w pv 1 (.slice a V.length c);have hb:=h1.aW 1 (.slice a V.length c);simp only [List.setIfInBounds_toArray,List.set_cons_zero,List.set_cons_succ]at hb;exact⟨⟨a,c,hb,kf.keep hk (fun g hg e=>hg.ne h1.aE (by decide) e) (fun g hg e=>hg.ne h1.aE (by decide) e)⟩,h3.keep hk (fun g hg e=>hg.ne h1.aE (by decide) e),h4,h5.setCell (p:=⟨pv,1,none⟩) h4 _⟩
theorem fA.Ql {H:List aF} {dF:Value} (h:fA W w pv n hv s) (hr:hH.Row w W.heap.size dF H):fA W (w.setCell ⟨pv,3,none⟩ dF) pv n dF ⟨s.V,s.seq,H⟩:=by
 obtain⟨⟨a,c,h1,h2⟩,h3,h4,h5⟩:=h;have hk:=ct w pv 3 dF;have hb:=h1.aW 3 dF;simp only [List.setIfInBounds_toArray,List.set_cons_zero,List.set_cons_succ]at hb;exact⟨⟨a,c,hb,h2.keep hk (fun g hg e=>hg.ne h1.aE (by decide) e) (fun g hg e=>hg.ne h1.aE (by decide) e)⟩,hr.keep hk (fun g hg e=>hg.ne h1.aE (by decide) e),h4,h5.setCell (p:=⟨pv,3,none⟩) h4 _⟩
theorem fA.akT {H:List aF} {dF:Value} (h:fA W w pv n hv s) (hk:aK (fun g=>hv.ownBlock=some g) w w') (hr:hH.Row w' W.heap.size dF H):fA W (w'.setCell ⟨pv,3,none⟩ dF) pv n dF ⟨s.V,s.seq,H⟩:=by
 obtain⟨⟨a,c,h1,h2⟩,h3,h4,h5⟩:=h;have ht:∀g,hv.ownBlock=some g→ck w g hH.t:=eo h3;have hb1:=h1.keeps hk (fun e=>(ht pv e).ne h1.aE (by decide) rfl);have hv1:=h2.keep hk (fun g hg e=>hg.ne (ht g e) (by decide) rfl) (fun g hg e=>hg.ne (ht g e) (by decide) rfl);have kr:=ct w' pv 3 dF;have hb:=hb1.aW 3 dF;simp only [List.setIfInBounds_toArray,List.set_cons_zero,List.set_cons_succ]at hb;exact⟨⟨a,c,hb,hv1.keep kr (fun g hg e=>hg.ne hb1.aE (by decide) e) (fun g hg e=>hg.ne hb1.aE (by decide) e)⟩,hr.keep kr (fun g hg e=>hg.ne hb1.aE (by decide) e),h4,(h5.trans (hk.below (cS h3) h5.size)).setCell (p:=⟨pv,3,none⟩) h4 _⟩
theorem Wx (h:fA W w pv n hv s) (hl:s.V.length≤255) {K:Nat} (hK:fX s.V K) (n5:K≤800000) (n7:xU s.V) {m:aF} (hf:Az s.V.length m):
 Calls Tryz.prog 39 #[.pointer ↑pv,m.agg] w fun e w'=>e= .returned (.tuple #[])∧fA W w' pv n hv ⟨gm m s.V,m.seq,s.H⟩∧aK (fun g=>g=pv) w w':=by
 have hba:=Below.aI w (.cells m.cells.toArray 86);have dL:av (w.alloc (.cells m.cells.toArray 86)) w.heap.size 86 m.cells.toArray:=av.new _ _ _;have cK:=af hba;have H1:=af (h.below hba);have cy:=af dL;obtain⟨⟨a,c,hb,fj⟩,_,_,_⟩:=h.below hba;have lO:=af (acK (fj.below (Below.bO _ 1)) hl hK n5 n7 hf);have Ly:Hid ((gm m s.V).length=s.V.length):=af (CK m s.V);have c1:=hb.cell 1;have aG:=af hb;have alD:=h.aJ;have eI:=af h.base;have kL:=af h.aJ;clear hba dL hb fj h hf n7 hK alD;unfold aF.cells at cK H1 cy lO aG c1;unfold aF.agg at lO⊢;go_enter Tryz.func39,Tryz.ntmps39
 go_upto_region 1 with(fail)
 obtain⟨ay,dL⟩:=ai w.heap.size;have bL:=af (Nat.le_of_eq dL);rw [dL]at cy⊢;obtain⟨w1,hw1⟩:=ai (w.alloc (.cells #[↑m.seq,↑m.inst,↑m.side,↑m.ap,↑m.aq,↑m.count,↑m.imp] 86));rw [hw1]at cK H1 cy lO aG c1⊢;clear dL hw1;go_cut [12] (fun _ wx=>fA W wx pv n hv ⟨gm m s.V,s.seq,s.H⟩∧av wx ay 86 #[↑m.seq,↑m.inst,↑m.side,↑m.ap,↑m.aq,↑m.count,↑m.imp]∧aK (fun g=>g=pv) w wx)
 case first=>
  obtain⟨m0,m1,m2,eN,ea,eY,dV⟩:=cy.out.amz;have b1:w1.cell? ⟨pv,1,none⟩=some (.slice a s.V.length c):=c1
  have vT:Hid (∀(w2:World) (a2:Option Addr) (c2:Nat),cg ey bS w2 w1.heap.size (.slice a2 (gm m s.V).length c2) (gm m s.V)→Below w1.heap.size w1 w2→fA W (w2.setCell ⟨pv,1,none⟩ (.slice a2 (gm m s.V).length c2)) pv n hv ⟨gm m s.V,s.seq,s.H⟩∧av (w2.setCell ⟨pv,1,none⟩ (.slice a2 (gm m s.V).length c2)) ay 86 #[↑m.seq,↑m.inst,↑m.side,↑m.ap,↑m.aq,↑m.count,↑m.imp]∧aK (fun g=>g=pv) w (w2.setCell ⟨pv,1,none⟩ (.slice a2 (gm m s.V).length c2))∧w2.cell? ⟨pv,1,none⟩=some (.slice a s.V.length c)∧w2.frozen? ⟨pv,1,none⟩=false):=af (by
   intro w2 a2 c2 fj hb;have hb2:=aG.out.below hb;refine⟨(H1.out.below hb).Sc (fj.base H1.out.aJ.size),(cy.out.below hb).cC (p:=⟨pv,1,none⟩) ((cy.out.below hb).aE.ne hb2.aE (by decide)) _,((Below.keeps (ag cK hb).out).trans (ct w2 pv 1 _)),hb2.cell 1,hb2.frozen 1⟩)
  refine cP (S:=fun _=>True) True.intro fun hHeld=>?_;refine au 0 ?_;refine au 1 ?_;refine au 2 ?_;refine au 3 ?_;refine lZ 4 5 (fun K hK=>?_) fun K hK=>?_
  ·go_simp
   refine hK.out _ _ True.intro (fun hHeld=>?_);clear hK K;refine aU 5 fun K hK=>?_;go_simp;refine hK.out _ _ True.intro (fun hHeld=>?_);clear hK K;refine aU 6 fun K hK=>?_;go_simp;refine lO.out.mono ?_;rintro e w2 ⟨v',rfl,fj,hb⟩;obtain⟨a2,c2,rfl⟩:=fj.form;have hb2:Below w1.heap.size w1 w2:=(Below.bO w1 1).trans hb;obtain⟨Bt,wA,Dx,k1,qA⟩:=vT.out w2 a2 c2 fj hb2;have ez:=af Bt;have kZ:=af wA;have sy:=af Dx;refine hK.out _ _ True.intro (fun hHeld=>?_);clear hK K fj hb hb2 Bt wA Dx lO;refine au 7 ?_;refine au 8 ?_;refine au 10 ?_;refine au 11 ?_;refine lZ 9 12 (fun K hK=>?_) fun K hK=>?_
   ·go_simp
    refine hK.out _ _ True.intro (fun hHeld=>?_);clear hK K;refine dY 12 fun K hK=>?_;go_simp;refine hK.out _ _ ?_;clear hK K hHeld k1 qA;go_wp2_with fail
    go_meet;exact⟨ez.out,kZ.out,sy.out⟩
   ·go_simp
    refine hK.out _ _ True.intro (fun hHeld=>?_);clear hK K;refine dY 9 fun K hK=>?_;go_simp;refine hK.out _ _ ?_;clear hK K hHeld k1 qA;go_wp2_with fail
    go_meet;exact⟨ez.out,kZ.out,sy.out⟩
  ·go_simp
   refine hK.out _ _ True.intro (fun hHeld=>?_);clear hK K;refine aU 4 fun K hK=>?_;go_simp;refine hK.out _ _ True.intro (fun hHeld=>?_);clear hK K;refine aU 6 fun K hK=>?_;go_simp;refine lO.out.mono ?_;rintro e w2 ⟨v',rfl,fj,hb⟩;obtain⟨a2,c2,rfl⟩:=fj.form;have hb2:Below w1.heap.size w1 w2:=(Below.bO w1 1).trans hb;obtain⟨Bt,wA,Dx,k1,qA⟩:=vT.out w2 a2 c2 fj hb2;have ez:=af Bt;have kZ:=af wA;have sy:=af Dx;refine hK.out _ _ True.intro (fun hHeld=>?_);clear hK K fj hb hb2 Bt wA Dx lO;refine au 7 ?_;refine au 8 ?_;refine au 10 ?_;refine au 11 ?_;refine lZ 9 12 (fun K hK=>?_) fun K hK=>?_
   ·go_simp
    refine hK.out _ _ True.intro (fun hHeld=>?_);clear hK K;refine dY 12 fun K hK=>?_;go_simp;refine hK.out _ _ ?_;clear hK K hHeld k1 qA;go_wp2_with fail
    go_meet;exact⟨ez.out,kZ.out,sy.out⟩
   ·go_simp
    refine hK.out _ _ True.intro (fun hHeld=>?_);clear hK K;refine dY 9 fun K hK=>?_;go_simp;refine hK.out _ _ ?_;clear hK K hHeld k1 qA;go_wp2_with fail
    go_meet;exact⟨ez.out,kZ.out,sy.out⟩
 case rest=>
 obtain⟨hv1,eZ,cN⟩:=hcut;obtain⟨wx,rfl⟩:=aj wc;obtain⟨a3,c3,aT,_⟩:=hv1.box;have m0:wx.cell? ↑ay=some ↑m.seq:=eZ.cell 0;have k2:wx.cell? ⟨pv,2,none⟩=some ↑s.seq:=aT.cell 2;have qA:wx.frozen? ⟨pv,2,none⟩=false:=aT.frozen 2;have b5:=af (hv1.Sb m.seq);have e7:=af (cN.trans (ct wx pv 2 ↑m.seq));clear hv1 eZ cN aT lO H1 aG cy cK c1;go_wp2_with fail
 go_end0
 exact⟨by trivial,b5.out,e7.out⟩
end
section
variable {W w w':World} {pr:Nat} {s:bH}
theorem rV.aE (h:rV W w pr s):ck w pr 176:=by
 obtain⟨a,c,X,p,hb,_⟩:=h.box;exact hb.aE
theorem rV.lt (h:rV W w pr s):pr<w.heap.size:=h.aE.lt
end
theorem Nh (x:aB) (w:World):Calls Tryz.prog 43 #[x.agg] w fun e w'=>e= .returned x.agg∧Below w.heap.size w w':=by
 unfold aB.agg;have aG:=af (Below.aI w (.cells #[↑x.ap,↑x.aq,↑x.count] 47));go_enter Tryz.func43,Tryz.ntmps43
 go_wp2_with fail
 obtain⟨w1,hw1⟩:=ai (w.alloc (.cells #[↑x.ap,↑x.aq,↑x.count] 47));rw [hw1]at aG⊢;have hz:w1.heap.size=w.heap.size+1:=by rw [←hw1];simp
 have aT:=av.new w1 101 #[↑x.ap,↑x.aq,↑x.count];rw [hz]at aT;have hb:=aG.out.trans ((Below.aI w1 (.cells #[↑x.ap,↑x.aq,↑x.count] 101)).mono aG.out.size);have k0:=aT.cell 0;have k1:=aT.cell 1;have k2:=aT.cell 2;simp only [List.getElem?_toArray,List.getElem?_cons_zero,List.getElem?_cons_succ]at k0 k1 k2;generalize w1.alloc (.cells #[↑x.ap,↑x.aq,↑x.count] 101)=w2 at*;clear hw1 hz aT;refine bodyPost_ret (v:= .agg #[↑x.ap,↑x.aq,↑x.count]) (by simp [results,Tryz.results43,go_sem,k0,k1,k2]) rfl ⟨rfl,hb⟩
end Go.Proofs.YtmaijkoopjocdaaGreat
