import Derived.Test.YtmaijkoopjocdaaGreatKT12
import Derived.Test.YtmaijkoopjocdaaGreatKT13
set_option maxRecDepth 100000
set_option maxHeartbeats 64000000
namespace Go.Proofs.YtmaijkoopjocdaaGreat
open Go.RowKit Go.Lib
theorem Z8 {w:World} {B:Nat} {v:Value} {V:bP} (h:cl ei bL w B v V) (hl:V.length≤255) {K:Nat} (hK:g7 V K) (nc:K≤800000) {q p t c:Int} {i s:Nat} (hi:i<V.length) (hs:s<2) (gW:ng V.length ⟨q,i,(s:Int)+1,p,t,c,false⟩=0) {x0:aV×aV} (hx0:V[i]? =some x0) (nh:kp ((s:Int)+1) (cI x0 s).lv) (r5:(cI x0 s).lv.findIdx? (fun y=>y.ag==p)=none) (Gi:(cI x0 s).lv.findIdx? (fun y=>cV ((s:Int)+1) p y.ag)=none) (ju:0<t):
 Calls Tryz.prog 83 #[.agg #[v],.agg #[.int .i64 q,.int .i64 i,.int .i64 ((s:Int)+1),.int .i64 p,.int .i64 t,.int .i64 c,.bool false]] w fun e w'=>∃v',e= .returned (.tuple #[.agg #[v'],.int .i64 0])∧cl ei bL w' w.heap.size v' (fO ⟨q,i,(s:Int)+1,p,t,c,false⟩ V)∧Below w.heap.size w w':=by
 obtain⟨a,aZ,rfl⟩:=h.form;obtain⟨im,eK⟩:∃im,false=im:=⟨_,rfl⟩;have hz1:(w.alloc (.cells #[.slice a V.length aZ] 43)).heap.size=w.heap.size+1:=by simp
 have dG:((w.alloc (.cells #[.slice a V.length aZ] 43)).alloc (.cells #[.int .i64 q,.int .i64 (i:Int),.int .i64 ((s:Int)+1),.int .i64 p,.int .i64 t,.int .i64 c,.bool im] 86)).heap.size=w.heap.size+1+1:=by simp
 have hb1:=Below.aA w (.cells #[.slice a V.length aZ] 43);have hb2:=hb1.trans ((Below.aA (w.alloc (.cells #[.slice a V.length aZ] 43)) (.cells #[.int .i64 q,.int .i64 (i:Int),.int .i64 ((s:Int)+1),.int .i64 p,.int .i64 t,.int .i64 c,.bool im] 86)).mono hb1.size);have hb3:=hb2.trans ((Below.aA ((w.alloc (.cells #[.slice a V.length aZ] 43)).alloc (.cells #[.int .i64 q,.int .i64 (i:Int),.int .i64 ((s:Int)+1),.int .i64 p,.int .i64 t,.int .i64 c,.bool im] 86)) (.cells #[.slice none 0 0] 43)).mono hb2.size);have eZ:aj (((w.alloc (.cells #[.slice a V.length aZ] 43)).alloc (.cells #[.int .i64 q,.int .i64 (i:Int),.int .i64 ((s:Int)+1),.int .i64 p,.int .i64 t,.int .i64 c,.bool im] 86)).alloc (.cells #[.slice none 0 0] 43)) w.heap.size 43 #[.slice a V.length aZ]:=((aj.new w _ _).alloc _).alloc _
 have c4:aj (((w.alloc (.cells #[.slice a V.length aZ] 43)).alloc (.cells #[.int .i64 q,.int .i64 (i:Int),.int .i64 ((s:Int)+1),.int .i64 p,.int .i64 t,.int .i64 c,.bool im] 86)).alloc (.cells #[.slice none 0 0] 43)) (w.heap.size+1) 86 #[.int .i64 q,.int .i64 (i:Int),.int .i64 ((s:Int)+1),.int .i64 p,.int .i64 t,.int .i64 c,.bool im]:=by
  have:=(aj.new (w.alloc (.cells #[.slice a V.length aZ] 43)) 86 #[.int .i64 q,.int .i64 (i:Int),.int .i64 ((s:Int)+1),.int .i64 p,.int .i64 t,.int .i64 c,.bool im]).alloc (.cells #[.slice none 0 0] 43)
  rwa [hz1]at this
 have eL:aj (((w.alloc (.cells #[.slice a V.length aZ] 43)).alloc (.cells #[.int .i64 q,.int .i64 (i:Int),.int .i64 ((s:Int)+1),.int .i64 p,.int .i64 t,.int .i64 c,.bool im] 86)).alloc (.cells #[.slice none 0 0] 43)) (w.heap.size+1+1) 43 #[.slice none 0 0]:=by
  have:=aj.new ((w.alloc (.cells #[.slice a V.length aZ] 43)).alloc (.cells #[.int .i64 q,.int .i64 (i:Int),.int .i64 ((s:Int)+1),.int .i64 p,.int .i64 t,.int .i64 c,.bool im] 86)) 43 #[.slice none 0 0]
  rwa [dG]at this
 have dP:=vK V.length ⟨q,i,(s:Int)+1,p,t,c,im⟩ (((w.alloc (.cells #[.slice a V.length aZ] 43)).alloc (.cells #[.int .i64 q,.int .i64 (i:Int),.int .i64 ((s:Int)+1),.int .i64 p,.int .i64 t,.int .i64 c,.bool im] 86)).alloc (.cells #[.slice none 0 0] 43));rw [eK]at gW;rw [gW]at dP;unfold aB.agg at dP;dsimp only at dP;have eT:=af (h.below hb3);have ko:=af hK;obtain⟨x,hx⟩:∃x,V[i]? =some x:=⟨_,List.getElem?_eq_getElem hi⟩;have bA:=af hx;have jr:=af eK;have aU:=af dP;have aN:=af hb3;have eU:=af eZ;have b7:=af c4;have eo:=af eL;rw [eK];have jd:=af hx0;have r6:=af nh;have jJ:=af r5;have sj:=af ju;have kS:=af Gi;clear ju Gi;clear hx0 nh r5 h hK hx eK hz1 dG hb1 hb2 hb3 eZ c4 eL dP gW;go_enter Tryz.func83,Tryz.ntmps83
 go_upto_region 1 with(fail)
 obtain⟨w1,hw1⟩:∃w1,(((w.alloc (.cells #[.slice a V.length aZ] 43)).alloc (.cells #[.int .i64 q,.int .i64 (i:Int),.int .i64 ((s:Int)+1),.int .i64 p,.int .i64 t,.int .i64 c,.bool im] 86)).alloc (.cells #[.slice none 0 0] 43))=w1:=⟨_,rfl⟩;obtain⟨aG,eZ⟩:∃aG,w.heap.size=aG:=⟨_,rfl⟩;obtain⟨ap,c4⟩:∃ap,w.heap.size+1=ap:=⟨_,rfl⟩;obtain⟨gr,eL⟩:∃gr,w.heap.size+1+1=gr:=⟨_,rfl⟩;rw [hw1]at eT aN eU b7 eo aU⊢;rw [eL]at eo⊢;rw [c4]at b7⊢;rw [eZ]at eU⊢;have fl:Hid (aG≠gr):=af (by omega);have xH:Hid (ap≠gr):=af (by omega);have g8:Hid (aG≠ap):=af (by omega);have jc:Hid (w.heap.size≤aG):=af (by omega);have uN:Hid (w.heap.size≤gr):=af (by omega);clear hw1 eZ c4 eL;have b0:w1.cell? ⟨aG,0,none⟩=some (.slice a V.length aZ):=eU.out.cell 0;have m0:w1.cell? ⟨ap,0,none⟩=some (.int .i64 q):=b7.out.cell 0;have m1:w1.cell? ⟨ap,1,none⟩=some (.int .i64 (i:Int)):=b7.out.cell 1;have m2:w1.cell? ⟨ap,2,none⟩=some (.int .i64 ((s:Int)+1)):=b7.out.cell 2;have eH:w1.cell? ⟨ap,3,none⟩=some (.int .i64 p):=b7.out.cell 3;have dQ:w1.cell? ⟨ap,4,none⟩=some (.int .i64 t):=b7.out.cell 4;have eP:w1.cell? ⟨ap,5,none⟩=some (.int .i64 c):=b7.out.cell 5;have dH:w1.cell? ⟨ap,6,none⟩=some (.bool im):=b7.out.cell 6;go_wp2_with fail
 refine aU.out.mono ?_;rintro e w2 ⟨rfl,hb⟩;replace eU:=af (eU.out.below hb);replace b7:=af (b7.out.below hb);replace eo:=af (eo.out.below hb);replace eT:=af (eT.out.below hb);replace aN:=af (aN.out.trans (hb.mono aN.out.size));clear hb aU b0 m0 m1 m2 eH dQ eP dH;have b0:w2.cell? ⟨aG,0,none⟩=some (.slice a V.length aZ):=eU.out.cell 0;go_wp2_with fail
 refine(BK eT.out hl ko.out (by omega)).mono ?_;rintro e w3 ⟨v',rfl,⟨P,hP,fY,gX,p9⟩,hb⟩;obtain⟨bn,g9⟩:∃p,P[i]? =some p:=⟨_,List.getElem?_eq_getElem (by omega)⟩;obtain⟨go,cap,he,_,_⟩:=hP.at_ i bn g9;rw [fY]at he;subst he;have bU:=eU.out.below hb;have aJ:=aN.out.trans (hb.mono aN.out.size);have hst:=bS w3 aG 0 (.slice (some ⟨go,0,none⟩) V.length cap);have hW:w.heap.size≤w2.heap.size:=aN.out.size;have dy:=af ((hP.base hW).cm bU.aC (by decide) 0 (.slice (some ⟨go,0,none⟩) V.length cap));have eV:Hid (∀(j:Nat) (p:bz) (x:aV×aV),P[j]? =some p→V[j]? =some x→bN bL (w3.setCell ⟨aG,0,none⟩ (.slice (some ⟨go,0,none⟩) V.length cap)) w.heap.size p.s x.1∧bN bL (w3.setCell ⟨aG,0,none⟩ (.slice (some ⟨go,0,none⟩) V.length cap)) w.heap.size p.t x.2):=af fun j p x hp hx=>⟨((gX j p x hp hx).1.base hW).cm bU.aC (by decide) 0 _,((gX j p x hp hx).2.base hW).cm bU.aC (by decide) 0 _⟩;have ia:=af fY;have kR:=af p9;have cL:=af g9;have ey:=af ((b7.out.below hb).cm (p:=⟨aG,0,none⟩) (Ne.symm g8.out) (.slice (some ⟨go,0,none⟩) V.length cap));have qa:=af ((eo.out.below hb).cm (p:=⟨aG,0,none⟩) (Ne.symm fl.out) (.slice (some ⟨go,0,none⟩) V.length cap));have mA:Hid (aj (w3.setCell ⟨aG,0,none⟩ (.slice (some ⟨go,0,none⟩) V.length cap)) aG 43 #[.slice (some ⟨go,0,none⟩) V.length cap]):=af (bU.aQ 0 _);have bM:=af (aJ.setCell (p:=⟨aG,0,none⟩) jc.out (.slice (some ⟨go,0,none⟩) V.length cap));have b3:w3.cell? ⟨aG,0,none⟩=some (.slice a V.length aZ):=bU.cell 0;have td:w3.frozen? ⟨aG,0,none⟩=false:=bU.frozen 0;clear hP fY gX p9 g9 bU aJ hst hW hb b0 eU b7 eo eT aN;go_upto_region 5 with(fail)
 clear b3 td;generalize w3.setCell ⟨aG,0,none⟩ (.slice (some ⟨go,0,none⟩) V.length cap)=av at*;have b4:av.cell? ⟨aG,0,none⟩=some (.slice (some ⟨go,0,none⟩) V.length cap):=mA.out.cell 0;have m0:av.cell? ⟨ap,0,none⟩=some (.int .i64 q):=ey.out.cell 0;have m1:av.cell? ⟨ap,1,none⟩=some (.int .i64 (i:Int)):=ey.out.cell 1;have m2:av.cell? ⟨ap,2,none⟩=some (.int .i64 ((s:Int)+1)):=ey.out.cell 2;have eH:av.cell? ⟨ap,3,none⟩=some (.int .i64 p):=ey.out.cell 3;have dQ:av.cell? ⟨ap,4,none⟩=some (.int .i64 t):=ey.out.cell 4;have eP:av.cell? ⟨ap,5,none⟩=some (.int .i64 c):=ey.out.cell 5;have dH:av.cell? ⟨ap,6,none⟩=some (.bool im):=ey.out.cell 6;have y1:IntKind.i64.wrap ((s:Int)+1-1)=(s:Int):=by rw [IntWalk.i64_in _ (by omega)];omega
 have dw:(s:Int)+1-1=(s:Int):=by omega
 have hi2:(i:Int)<(V.length:Int):=by omega
 have ic:(s:Int)<2:=by omega
 go_quiet (fail)
 have bJ:=(Below.bT av nq).trans ((Below.aA (av.drewN nq) (.cells #[.int .i64 p,.int .i64 t,.int .i64 c] 47)).mono (Nat.le_refl _));obtain⟨az,c6⟩:∃az,av.heap.size=az:=⟨_,rfl⟩
 have qb:rj w ((av.drewN nq).alloc (.cells #[.int .i64 p,.int .i64 t,.int .i64 c] 47)) aG ap gr az go cap V P q p t c i s im:=by
  refine⟨mA.out.below bJ,ey.out.below bJ,qa.out.below bJ,?_,dy.out.below bJ,fun j p x hp hx=>⟨(eV.out j p x hp hx).1.below bJ,(eV.out j p x hp hx).2.below bJ⟩,bM.out.trans (bJ.mono bM.out.size)⟩;rw [←c6];exact aj.new (av.drewN nq) _ _
 have c9:=af qb
 have BL:Hid (∀g,(bn.sh s).own=some g→g<az):=af (by
  intro g hg;have hh:=eV.out i bn x cL.out bA.out;rw [←c6];unfold bz.sh at hg;split at hg
  ·exact jH hh.1.row g hg
  ·exact jH hh.2.row g hg)
 have yJ:Hid (w.heap.size≤az):=af (by rw [←c6];exact bM.out.size);have qc:(av.drewN nq).heap.size=az:=c6;go_upto_region 7 with(fail)
 clear qb bJ c6 qc mA ey qa dy eV bM b4 m0 m1 m2 eH dQ eP dH y1 dw;generalize (av.drewN nq).alloc (.cells #[.int .i64 p,.int .i64 t,.int .i64 c] 47)=au at*;have eK:=jr.out;subst eK;clear jr;obtain rfl:x=x0:=by have h1:=bA.out;have h2:=jd.out;rw [h1]at h2;injection h2
 have dH:au.cell? ⟨ap,6,none⟩=some (.bool false):=c9.out.bm.cell 6;have gO:=c9.out.n4 cL.out bA.out;obtain⟨L,hL⟩:∃L,(cI x s).lv=L:=⟨_,rfl⟩
 have r7:L.length≤K:=by
  have:=ko.out x (List.mem_of_getElem? bA.out);rw [←hL];unfold cI;split
  ·exact this.1
  ·exact this.2
 obtain⟨sn,tq⟩:∃sn,(bn.sh s).n=sn:=⟨_,rfl⟩;obtain⟨sa,hsa⟩:∃sa,(bn.sh s).a=sa:=⟨_,rfl⟩;obtain⟨sc,hsc⟩:∃sc,(bn.sh s).c=sc:=⟨_,rfl⟩;have hown:(bn.sh s).own=(Value.slice sa L.length sc).ownBlock:=by unfold eI.own;rw [gO.n,hL,hsa,hsc]
 have c0:au.cell? ⟨go,i*10+s*5,none⟩=some (.slice sa L.length sc):=by
  have:=mC c9.out.row cL.out hs (f:=0) (u:= .slice (bn.sh s).a (bn.sh s).n (bn.sh s).c) rfl;rw [gO.n,hL,hsa,hsc]at this;exact this
 have hrow:bL.Row au w.heap.size (.slice sa L.length sc) L:=by
  have:=gO.row;rw [gO.n,hL,hsa,hsc]at this;exact this
 have hm:(cI x s).app ⟨q,i,(s:Int)+1,p,t,c,false⟩=⟨n5 ⟨q,i,(s:Int)+1,p,t,c,false⟩ L,(cI x s).im,(cI x s).has⟩:=by
  unfold aV.app;rw [if_neg (by simp),hL,D5 (by rw [←hL];exact r6.out)]
 have qM:=af hm;have jr:=af gO.im;have r8:=af gO.has;have xI:=af hown;have ec:=af hrow;have js:=af hL;have mD:=af r7;have rp:=af hsa;have rq:=af hsc;have oT:=Gf hrow.sl (by omega) ap p c9.out.bm.lt (c9.out.bm.cell 3);have hidx:ni (fun y=>y.ag==p) L=(-1:Int):=by unfold ni;rw [←hL,jJ.out]
 rw [hidx]at oT;have r9:=af oT;have hcs:=jJ.out;rw [hL]at hcs;have jt:=af hcs;clear gO hL r7 tq hsa hsc hown hrow hm jd r6 oT hidx hcs jJ;go_upto_region 12 with(fail)
 clear dH;go_wp2_with fail
 refine r9.out.mono ?_;rintro e aK ⟨rfl,hb⟩;have ep:=af (c9.out.below hb);have oU:=af (ec.out.below hb);clear hb r9 ec c9 c0;have dQ:aK.cell? ⟨ap,4,none⟩=some (.int .i64 t):=ep.out.bm.cell 4
 have fE:aK.cell? ⟨go,i*10+s*5,none⟩=some (.slice sa L.length sc):=by
  have:=mC ep.out.row cL.out hs (f:=0) (u:= .slice (bn.sh s).a (bn.sh s).n (bn.sh s).c) rfl;rw [(ep.out.n4 cL.out bA.out).n,js.out,rp.out,rq.out]at this;exact this
 have J5:(0:Int)<t:=sj.out;have BO:=Sb oU.out.sl (by have:=mD.out;omega) ap ((s:Int)+1) p ep.out.bm.lt (ep.out.bm.cell 2) (ep.out.bm.cell 3);have hidx2:ni (fun y=>cV ((s:Int)+1) p y.ag) L=(-1:Int):=by unfold ni;rw [←js.out,kS.out]
 rw [hidx2]at BO;have Gj:=af BO;clear hidx2 BO;go_wp2_with fail
 refine Gj.out.mono ?_;rintro e bw ⟨rfl,hb⟩;have ru:=af (ep.out.below hb);have Gk:=af (oU.out.below hb);have hcb:=kS.out;rw [js.out]at hcb;have J6:=af hcb;clear hb Gj ep oU fE dQ hcb kS
 have gP:bw.cell? ⟨go,i*10+s*5,none⟩=some (.slice sa L.length sc):=by
  have:=mC ru.out.row cL.out hs (f:=0) (u:= .slice (bn.sh s).a (bn.sh s).n (bn.sh s).c) rfl;rw [(ru.out.n4 cL.out bA.out).n,js.out,rp.out,rq.out]at this;exact this
 have Ai:L.length≤L.length:=Nat.le_refl _;go_upto_region 21 with(fail)
 have hS:bw.cell? ⟨az,0,none⟩=some (.int .i64 p)∧bw.cell? ⟨az,1,none⟩=some (.int .i64 t)∧bw.cell? ⟨az,2,none⟩=some (.int .i64 c)∧bw.cell? ⟨go,i*10+s*5,none⟩=some (.slice sa L.length sc):=⟨ru.out.mB.cell 0,ru.out.mB.cell 1,ru.out.mB.cell 2,gP⟩;have jv:Below bw.heap.size bw (bw.alloc (.cells #[.int .i64 p,.int .i64 t,.int .i64 c] 47)).drew:=(Below.aA bw _).trans ((Below.bT _ 1).mono (by simp));have iP:=af (ru.out.below jv);have BP:=af (Gk.out.below jv);have hnb:aj (bw.alloc (.cells #[.int .i64 p,.int .i64 t,.int .i64 c] 47)).drew bw.heap.size 47 (⟨p,t,c⟩:ax).cells.toArray:=(aj.new bw _ _).drew;have Gl:(Value.slice sa L.length sc).ownBlock≠some bw.heap.size:=fun h=>by have:=jH Gk.out _ h;omega
 have iQ:=af (Sc (i:=L.length) (x:=⟨p,t,c⟩) BP.out Ai hnb Gl iP.out.aF.size (by have:=mD.out;omega))
 have Aj:∀w',w'=(bw.alloc (.cells #[.int .i64 p,.int .i64 t,.int .i64 c] 47)).drew→w'.cell? ⟨az,0,none⟩=some (.int .i64 p)∧w'.cell? ⟨az,1,none⟩=some (.int .i64 t)∧w'.cell? ⟨az,2,none⟩=some (.int .i64 c)∧w'.cell? ⟨go,i*10+s*5,none⟩=some (.slice sa L.length sc):=by
  rintro w' rfl;exact⟨iP.out.mB.cell 0,iP.out.mB.cell 1,iP.out.mB.cell 2,(jv.cell (p:=⟨go,i*10+s*5,none⟩) (jH ru.out.row go rfl)).trans hS.2.2.2⟩
 clear jv hnb Gl;refine cF (S:=fun w'=>w'.cell? ⟨az,0,none⟩=some (.int .i64 p)∧w'.cell? ⟨az,1,none⟩=some (.int .i64 t)∧w'.cell? ⟨az,2,none⟩=some (.int .i64 c)∧w'.cell? ⟨go,i*10+s*5,none⟩=some (.slice sa L.length sc)) (by kernel_rfl) hS (fun hHeld=>?_);refine ai 0 ?_;refine ai 1 ?_;refine ai 2 ?_;refine ai 3 ?_;refine ai 4 ?_;refine ai 5 ?_;refine ai 6 ?_;refine aR 7 fun K hK=>?_;go_simp;refine hK.out _ _ (Aj _ rfl) (fun hHeld=>?_);clear hK K Aj hS gP;generalize (bw.alloc (.cells #[.int .i64 p,.int .i64 t,.int .i64 c] 47)).drew=pJ at*;refine aR 8 fun K hK=>?_;go_simp;refine iQ.out.mono ?_;rintro e ry ⟨v2,rfl,je,kr,_⟩;obtain⟨M,BQ⟩:∃M,L.take L.length++ [(⟨p,t,c⟩:ax)]++L.drop L.length=M:=⟨_,rfl⟩;rw [BQ]at je;obtain⟨a2,c2,rfl⟩:=je.form;have hne:∀g,(Value.slice sa L.length sc).ownBlock=some g→bV pJ g bL.t:=fun g hg=>dR BP.out g hg;have vL:=iP.out.bv.keeps kr (fun h=>iP.out.bv.aC.ne (hne _ h) (by decide) rfl);have vM:=iP.out.br.keeps kr (fun h=>iP.out.br.aC.ne (hne _ h) (by decide) rfl);have qf:=iP.out.row.keep kr (fun g hg h=>hg.ne (hne _ h) (by decide) rfl);have si:bV ry go ei.t:=dR qf go rfl;have pI:=Row.BM qf cL.out hs (f:=0) (by decide) (x:=⟨a2,M.length,c2,(bn.sh s).im,(bn.sh s).has⟩) (u:= .slice a2 M.length c2) rfl;rw [Nat.add_zero]at pI;have oR:=af pI;have Ag:=af (vL.cm (p:=⟨go,i*10+s*5,none⟩) (vL.aC.ne si (by decide)) (.slice a2 M.length c2));have n6:=af (vM.cm (p:=⟨go,i*10+s*5,none⟩) (vM.aC.ne si (by decide)) (.slice a2 M.length c2));have Ah:=af (aY.Row.cm (Y:=bL) je si (by decide) (i*10+s*5) (.slice a2 M.length c2));have oQ:=af (((kr.more (G:=fun g=>(Value.slice sa L.length sc).ownBlock=some g∨g=go) fun g h=> .inl h).trans ((bS ry go (i*10+s*5) (.slice a2 M.length c2)).more fun g h=> .inr h)));have yN:=iP.out.mB.keeps kr (fun h=>by have:=BL.out az (by rw [xI.out];exact h);omega)
 have kT:ry.cell? ⟨go,i*10+s*5,none⟩=some (.slice sa L.length sc):=by
  have:=mC qf cL.out hs (f:=0) (u:= .slice (bn.sh s).a (bn.sh s).n (bn.sh s).c) rfl;rw [(iP.out.n4 cL.out bA.out).n,js.out,rp.out,rq.out]at this;exact this
 have Gm:=af (fun o=>Row.Gc qf cL.out o);have uO:=af (dR iP.out.row go rfl);have Af:Hid (w.heap.size≤go):=af (cx iP.out.row go rfl);have BN:=af (cx BP.out);have M0:=af BQ;refine hK.out _ _ ⟨yN.cell 0,yN.cell 1,yN.cell 2,kT⟩ (fun hHeld=>?_);clear hK K hne vL vM qf si pI je kr yN BQ iQ;refine ai 9 ?_;refine ai 10 ?_;refine cO 11 fun K hK=>?_;have M1:=Gm.out;go_simp;refine hK.out _ _ ?_;clear hK K hHeld M1 kT Gm;generalize ry.setCell ⟨go,i*10+s*5,none⟩ (.slice a2 M.length c2)=bW at*
 have sb:n5 ⟨q,i,(s:Int)+1,p,t,c,false⟩ L=M:=by
  unfold n5;rw [jt.out];dsimp only;rw [if_pos sj.out,J6.out,←M0.out];simp [aB.lv]
 have tr:=af sb;clear sb;have v0:bW.cell? ⟨aG,0,none⟩=some (.slice (some ⟨go,0,none⟩) V.length cap):=Ag.out.cell 0;have b6:bW.cell? ⟨gr,0,none⟩=some (.slice none 0 0):=n6.out.cell 0;have rm:bW.frozen? ⟨gr,0,none⟩=false:=n6.out.frozen 0;have yL:Hid ((cI x s).app ⟨q,i,(s:Int)+1,p,t,c,false⟩=⟨M,(cI x s).im,(cI x s).has⟩):=af (by rw [qM.out,tr.out]);have th:=af (iP.out.done (sh:=⟨a2,M.length,c2,(bn.sh s).im,(bn.sh s).has⟩) (d:=⟨M,(cI x s).im,(cI x s).has⟩) ia.out kR.out cL.out bA.out hs oQ.out (fun g hg h=>by rcases h with h|h;exact xI.out.trans h;exact absurd h (hg.ne uO.out (by decide))) oR.out ⟨rfl,Ah.out,jr.out,r8.out⟩ n6.out.aC yL.out (.slice (some ⟨go,0,none⟩) V.length cap));have c7:=af ((iP.out.aF.trans (oQ.out.below (B:=w.heap.size) (fun k hk=>by rcases hk with h|h;exact BN.out k h;rw [h];exact Af.out) iP.out.aF.size)).setCell (p:=⟨gr,0,none⟩) uN.out (.slice (some ⟨go,0,none⟩) V.length cap));have tj:Hid (aj (bW.setCell ⟨gr,0,none⟩ (.slice (some ⟨go,0,none⟩) V.length cap)) gr 43 #[.slice (some ⟨go,0,none⟩) V.length cap]):=af (n6.out.aQ 0 _);go_wp2_with fail
 clear v0 b6 rm;generalize bW.setCell ⟨gr,0,none⟩ (.slice (some ⟨go,0,none⟩) V.length cap)=wf at*;have f0:wf.cell? ⟨gr,0,none⟩=some (.slice (some ⟨go,0,none⟩) V.length cap):=tj.out.cell 0;refine bodyPost_ret (v:= .tuple #[.agg #[.slice (some ⟨go,0,none⟩) V.length cap],.int .i64 0]) (by simp [results,Tryz.results83,go_sem,f0]) rfl ⟨_,rfl,th.out,c7.out⟩
theorem Z9 {w:World} {B:Nat} {v:Value} {V:bP} (h:cl ei bL w B v V) (hl:V.length≤255) {K:Nat} (hK:g7 V K) (nc:K≤800000) (nh:yO V) {m:aB} (hf:yP V.length m):
 Calls Tryz.prog 83 #[.agg #[v],m.agg] w fun e w'=>∃v',e= .returned (.tuple #[.agg #[v'],.int .i64 0])∧cl ei bL w' w.heap.size v' (fO m V)∧Below w.heap.size w w':=by
 have gW:ng V.length m=0:=J9.2 (Gq.2 hf);obtain⟨f1,f2,f3,f4,f5,f6⟩:=hf;obtain⟨q,ii,sd,p,t,c,im⟩:=m;dsimp only at*;obtain⟨i,rfl⟩:∃i:Nat,ii=i:=⟨ii.toNat,by omega⟩
 obtain⟨s,hs,rfl⟩:∃s:Nat,s<2∧sd=(s:Int)+1:=by
  rcases f3 with rfl|rfl
  ·exact⟨0,by decide,rfl⟩
  ·exact⟨1,by decide,rfl⟩
 have hi:i<V.length:=by omega
 obtain⟨x,hx⟩:∃x,V[i]? =some x:=⟨_,List.getElem?_eq_getElem hi⟩
 have Al:kp ((s:Int)+1) (cI x s).lv:=by
  have:=nh x (List.mem_of_getElem? hx);rcases(show s=0∨s=1 by omega)with rfl|rfl
  ·exact this.1
  ·exact this.2
 unfold aB.agg;cases im with
 |true=>exact ZX h hl hK nc hi hs gW
 |false=>
  cases hc:(cI x s).lv.findIdx? (fun y=>y.ag==p)with
  |some k=>
   by_cases ht:t=0
   ·subst ht;exact ZZ h hl hK nc hi hs gW hx Al hc
   ·exact Z2 h hl hK nc hi hs gW hx Al hc ht
  |none=>
   by_cases ht:0<t
   ·cases hb:(cI x s).lv.findIdx? (fun y=>cV ((s:Int)+1) p y.ag)with
    |some k=>exact Z7 h hl hK nc hi hs gW hx Al hc hb ht
    |none=>exact Z8 h hl hK nc hi hs gW hx Al hc hb ht
   ·exact Z6 h hl hK nc hi hs gW hx Al hc ht
def DU (x q:Int):Int:=if x<q then-1 else if q<x then 1 else 0
theorem Ym (m:aB) (q:Int) (w:World):
 Calls Tryz.prog 38 #[m.agg,.int .i64 q] w fun e w'=>e= .returned (.int .i64 (DU m.seq q))∧Below w.heap.size w w':=by
 unfold aB.agg;have dm:Hid (DU m.seq q=if m.seq<q then-1 else if q<m.seq then 1 else 0):=af rfl;rw [dm.out];have aE:=af (Below.aA w (.cells #[.int .i64 m.seq,.int .i64 m.inst,.int .i64 m.side,.int .i64 m.ag,.int .i64 m.ah,.int .i64 m.count,.bool m.imp] 86));clear dm;by_cases h1:m.seq<q
 ·rw [if_pos h1]
  go_enter Tryz.func38,Tryz.ntmps38
  go_wp2_with fail
  go_ret;exact⟨by trivial,aE.out⟩
 ·rw [if_neg h1]
  by_cases h2:q<m.seq
  ·rw [if_pos h2]
   go_enter Tryz.func38,Tryz.ntmps38
   go_wp2_with fail
   go_ret;exact⟨by trivial,aE.out⟩
  ·rw [if_neg h2]
   go_enter Tryz.func38,Tryz.ntmps38
   go_wp2_with fail
   go_ret;exact⟨by trivial,aE.out⟩
def qI (q:Int) (H:List aB):Nat:=(H.takeWhile (fun x=>decide (x.seq<q))).length
theorem agC (q:Int) (H:List aB):qI q H≤H.length:=by
 unfold qI;exact(List.takeWhile_prefix _).length_le
theorem Yn {q:Int}:∀{H:List aB} {a:Nat},a≤H.length→(∀(k:Nat) (x:aB),k<a→H[k]? =some x→x.seq<q)→(∀(k:Nat) (x:aB),a≤k→H[k]? =some x→q≤x.seq)→qI q H=a
 | [],a,ha,_,_=>by
   have:a=0:=by simpa using ha
   subst this;rfl
 |y::t,0,_,_,h2=>by
  have:=h2 0 y (Nat.le_refl 0) rfl;unfold qI;rw [List.takeWhile_cons,if_neg (by simp;omega)];rfl
 |y::t,a+1,ha,h1,h2=>by
  have h0:=h1 0 y (by omega) rfl;have ih:=Yn (H:=t) (a:=a) (by simpa using ha) (fun k x hk hx=>h1 (k+1) x (by omega) hx) (fun k x hk hx=>h2 (k+1) x (by omega) hx);unfold qI at*;rw [List.takeWhile_cons,if_pos (by simpa using h0),List.length_cons,ih]
theorem agD (m:aB) (H:List aB):yE m H=H.take (qI m.seq H)++ [m]++H.drop (qI m.seq H):=by
 unfold yE qI
 have h1:H.take (H.takeWhile (fun x=>decide (x.seq<m.seq))).length=H.takeWhile (fun x=>decide (x.seq<m.seq)):=by
  conv=>lhs;rw [show H=H.takeWhile (fun x=>decide (x.seq<m.seq))++H.dropWhile (fun x=>decide (x.seq<m.seq))from List.takeWhile_append_dropWhile.symm]
  rw [List.takeWhile_append_dropWhile];exact List.prefix_iff_eq_take.1 (List.takeWhile_prefix _) |>.symm
 have h2:H.drop (H.takeWhile (fun x=>decide (x.seq<m.seq))).length=H.dropWhile (fun x=>decide (x.seq<m.seq)):=by
  have e:=List.takeWhile_append_dropWhile (p:=fun x:aB=>decide (x.seq<m.seq)) (l:=H);have e2:=List.take_append_drop (H.takeWhile (fun x=>decide (x.seq<m.seq))).length H;rw [h1]at e2;exact List.append_cancel_left (e2.trans e.symm)
 rw [h1,h2];simp
theorem agE {q:Int} {H:List aB} {a:Nat} (ha:u9 H) (h1:∀(k:Nat) (x:aB),k<a→H[k]? =some x→x.seq<q) (h2:∀(k:Nat) (x:aB),a≤k→H[k]? =some x→q≤x.seq):
 mz q H=match H[a]? with|some x=>decide (x.seq=q)|none=>false:=by
 cases hx:H[a]? with
 |none=>
  dsimp only;unfold mz;rw [List.any_eq_false];intro y hy;obtain⟨j,hj⟩:=List.mem_iff_getElem?.1 hy;have hjl:=dc hj
  have hal:H.length≤a:=by
   rcases Nat.lt_or_ge a H.length with h|h
   ·rw [List.getElem?_eq_getElem h]at hx;cases hx
   ·exact h
  have:=h1 j y (by omega) hj;simp;omega
 |some x=>
  dsimp only;by_cases he:x.seq=q
  ·rw [decide_eq_true he]
   unfold mz;rw [List.any_eq_true];exact⟨x,List.mem_of_getElem? hx,by simpa using he⟩
  ·rw [decide_eq_false he]
   unfold mz;rw [List.any_eq_false];intro y hy;obtain⟨j,hj⟩:=List.mem_iff_getElem?.1 hy;have Dt:=h2 a x (Nat.le_refl _) hx;rcases Nat.lt_trichotomy j a with h|h|h
   ·have:=h1 j y h hj;simp;omega
   ·subst h;rw [hx]at hj;injection hj with hj;rw [←hj];simpa using he
   ·have:=List.pairwise_iff_getElem.1 ha a j (dc hx) (dc hj) h
    obtain⟨_,e1⟩:=lq hx;obtain⟨_,e2⟩:=lq hj;rw [e1,e2]at this;simp;omega
theorem Mv {w:World} {v:Value} {H:List aB} (h:gb.e8 w v H) (ha:u9 H) (hl:H.length≤900000) (q:Int):
 Calls Tryz.prog 37 #[v,.int .i64 q,.func (Fn.func 38) #[] #[]] w fun e w'=>e= .returned (.tuple #[.int .i64 (qI q H),.bool (mz q H)])∧Below w.heap.size w w':=by
 have aq:=af h;have cG:=af ha;obtain⟨a0,c0,rfl,_,_⟩:=h;clear ha;go_enter Tryz.func37,Tryz.ntmps37
 go_wp2_with fail
 go_loopw [9,10] (fun i j w'=>∃a b:Nat,i= .int .i64 a∧j= .int .i64 b∧a≤b∧b≤H.length∧(∀(k:Nat) (x:aB),k<a→H[k]? =some x→x.seq<q)∧(∀(k:Nat) (x:aB),b≤k→H[k]? =some x→q≤x.seq)∧Below w.heap.size w w') (fun i j _=>(RowKit.intOf j).toNat-(RowKit.intOf i).toNat)
 case atStart=>exact⟨0,H.length,rfl,rfl,Nat.zero_le _,Nat.le_refl _,fun k x hk=>absurd hk (by omega),fun k x hk hx=>by have:=dc hx;omega,Below.refl _ _⟩
 case round=>
  obtain⟨a,b,rfl,rfl,hab,er,h1,h2,hb⟩:=hrel;obtain⟨ak,rfl⟩:∃bk:World,bk=wr:=⟨_,rfl⟩;have H1:=af h1;have H2:=af h2;have aE:=af hb;have hsl:=aq.out.below hb;clear h1 h2 hb;by_cases hlt:a<b
  ·have hlt':(a:Int)<(b:Int):=by omega
   obtain⟨m,hm⟩:∃m,(a+b) / 2=m:=⟨_,rfl⟩;have hma:a≤m:=by omega
   have hmb:m<b:=by omega
   have y1:IntKind.i64.wrap ((a:Int)+(b:Int))=(a:Int)+(b:Int):=IntWalk.i64_in _ (by omega);have dw:IntKind.u64.wrap ((a:Int)+(b:Int))=(a:Int)+(b:Int):=u64_wrap_id _ (by omega) (by omega);have agF:((a:Int)+(b:Int)) % 18446744073709551616=(a:Int)+(b:Int):=by omega
   have mV:((a:Int)+(b:Int)).fdiv 2=(m:Int):=by rw [Int.fdiv_eq_ediv_of_nonneg _ (by decide)];omega
   have agG:((a:Int)+(b:Int)) / 2=(m:Int):=by omega
   have pP:IntKind.i64.wrap (m:Int)=(m:Int):=IntWalk.i64_in _ (by omega);have Fh:IntKind.i64.wrap ((m:Int)+1)=(m:Int)+1:=IntWalk.i64_in _ (by omega);have hml:(m:Int)<(H.length:Int):=by omega
   obtain⟨x,hx⟩:∃x,H[m]? =some x:=⟨_,List.getElem?_eq_getElem (by omega)⟩;obtain⟨g,off,c',he,_,hcs⟩:=hsl.get hx;injection he with he _ fu;subst he;subst fu;have c0:ak.cell? ⟨g,off+m*7,none⟩=some (.int .i64 x.seq):=hcs 0 _ rfl;have c1:ak.cell? ⟨g,off+m*7+1,none⟩=some (.int .i64 x.inst):=hcs 1 _ rfl;have c2:ak.cell? ⟨g,off+m*7+2,none⟩=some (.int .i64 x.side):=hcs 2 _ rfl;have c3:ak.cell? ⟨g,off+m*7+3,none⟩=some (.int .i64 x.ag):=hcs 3 _ rfl;have dn:ak.cell? ⟨g,off+m*7+4,none⟩=some (.int .i64 x.ah):=hcs 4 _ rfl;have cj:ak.cell? ⟨g,off+m*7+5,none⟩=some (.int .i64 x.count):=hcs 5 _ rfl;have fE:ak.cell? ⟨g,off+m*7+6,none⟩=some (.bool x.imp):=hcs 6 _ rfl;have iK:=Ym x q ak;unfold aB.agg at iK;have Jt:=af iK;have bA:=af hx;have cA:=af hm;clear hcs hx iK hsl hm;go_wp2_with fail
   refine Jt.out.mono ?_;rintro e w1 ⟨rfl,hb1⟩;have bD:=af (aE.out.trans (hb1.mono aE.out.size));clear hb1 Jt c0 c1 c2 c3 dn cj fE y1 dw agF mV agG;have kj:=List.pairwise_iff_getElem.1 cG.out;by_cases hc:x.seq<q
   ·have hv:DU x.seq q= -1:=if_pos hc
    rw [hv]
    have HN:Hid (∀(k:Nat) (y:aB),k<m+1→H[k]? =some y→y.seq<q):=af (by
     intro k y hk hy;rcases Nat.lt_or_ge k m with h|h
     ·have h3:=kj k m (dc hy) (dc bA.out) h
      obtain⟨_,e1⟩:=lq hy;obtain⟨_,e2⟩:=lq bA.out;rw [e1,e2]at h3;omega
     ·have:k=m:=by omega
      subst this;have h3:=bA.out;rw [hy]at h3;injection h3 with h3;rw [h3];exact hc)
    clear kj hc hv;go_wp2_with fail
    go_roundw
    case rel=>exact⟨m+1,b,by go_num,rfl,by omega,er,HN.out,H2.out,bD.out⟩
    case measure=>simp [RowKit.intOf];omega
   ·have hv:¬DU x.seq q<0:=by unfold DU;rw [if_neg hc];split<;>omega
    have HN:Hid (∀(k:Nat) (y:aB),m≤k→H[k]? =some y→q≤y.seq):=af (by
     intro k y hk hy;rcases Nat.lt_or_ge m k with h|h
     ·have h3:=kj m k (dc bA.out) (dc hy) h
      obtain⟨_,e1⟩:=lq hy;obtain⟨_,e2⟩:=lq bA.out;rw [e1,e2]at h3;omega
     ·have:k=m:=by omega
      subst this;have h3:=bA.out;rw [hy]at h3;injection h3 with h3;rw [h3];omega)
    clear kj hc;go_wp2_with fail
    go_roundw
    case rel=>exact⟨a,m,rfl,rfl,by omega,by omega,H1.out,HN.out,bD.out⟩
    case measure=>simp [RowKit.intOf];omega
  ·have hba:b=a:=by omega
   subst hba;have hpos:=Yn (by omega) H1.out H2.out;have Yo:=agE cG.out H1.out H2.out;have FC:=af hpos;have r8:=af Yo;clear hpos Yo;by_cases hal:b<H.length
   ·have agH:(b:Int)<(H.length:Int):=by omega
    obtain⟨x,hx⟩:∃x,H[b]? =some x:=⟨_,List.getElem?_eq_getElem hal⟩;obtain⟨g,off,c',he,_,hcs⟩:=hsl.get hx;injection he with he _ fu;subst he;subst fu;have c0:ak.cell? ⟨g,off+b*7,none⟩=some (.int .i64 x.seq):=hcs 0 _ rfl;have c1:ak.cell? ⟨g,off+b*7+1,none⟩=some (.int .i64 x.inst):=hcs 1 _ rfl;have c2:ak.cell? ⟨g,off+b*7+2,none⟩=some (.int .i64 x.side):=hcs 2 _ rfl;have c3:ak.cell? ⟨g,off+b*7+3,none⟩=some (.int .i64 x.ag):=hcs 3 _ rfl;have dn:ak.cell? ⟨g,off+b*7+4,none⟩=some (.int .i64 x.ah):=hcs 4 _ rfl;have cj:ak.cell? ⟨g,off+b*7+5,none⟩=some (.int .i64 x.count):=hcs 5 _ rfl;have fE:ak.cell? ⟨g,off+b*7+6,none⟩=some (.bool x.imp):=hcs 6 _ rfl;have iK:=Ym x q ak;unfold aB.agg at iK;have Jt:=af iK;have hq:=H2.out b x (Nat.le_refl _) hx
    have hv:(DU x.seq q==0)=decide (x.seq=q):=by
     unfold DU;rw [if_neg (by omega)];by_cases he:x.seq=q
     ·rw [if_neg (by omega),decide_eq_true he];rfl
     ·rw [if_pos (by omega),decide_eq_false he];rfl
    have dm:Hid (mz q H=decide (x.seq=q)):=af (by rw [r8.out,hx]);clear hcs hx iK hsl r8 hq;go_wp2_with fail
    refine Jt.out.mono ?_;rintro e w1 ⟨rfl,hb1⟩;have bD:=af (aE.out.trans (hb1.mono aE.out.size));clear hb1 Jt c0 c1 c2 c3 dn cj fE;go_wp2_with fail
    go_ret2
    exact⟨by rw [FC.out,dm.out];try rfl,bD.out⟩
   ·have agH:¬(b:Int)<(H.length:Int):=by omega
    have dm:Hid (mz q H=false):=af (by rw [r8.out,List.getElem?_eq_none (by omega)]);clear hsl r8;go_wp2_with fail
    go_ret2
    exact⟨by rw [FC.out,dm.out];try rfl,aE.out⟩
end Go.Proofs.YtmaijkoopjocdaaGreat
