import Derived.Test.YtmaijkoopjocdaaGreatKW23
set_option maxRecDepth 100000
set_option maxHeartbeats 64000000
namespace Go.Proofs.YtmaijkoopjocdaaGreat
open Go.RowKit Go.Lib
theorem MW {w:World} {v:Value} {b:List Int} (h:cZ.eT w v b) (hl:b.length<=900000) (hok:∀z∈b,isByte z):
 Calls Tryz.prog 54 #[v] w fun e w'=>e= .returned (Cp (pg b))∧Below ↑w w w':=by
 obtain⟨q,s1,h1⟩:∃q s1,(⟨b,false⟩:bH).long=(q,s1):=⟨_,_,rfl⟩;obtain⟨i,s2,h2⟩:∃q t,s1.num 1=(q,t):=⟨_,_,rfl⟩;obtain⟨d,kT,h3⟩:∃q t,s2.num 1=(q,t):=⟨_,_,rfl⟩;obtain⟨p,Cn,h4⟩:∃q t,kT.long=(q,t):=⟨_,_,rfl⟩;obtain⟨t,Mk,h5⟩:∃q t,Cn.long=(q,t):=⟨_,_,rfl⟩;obtain⟨c,Ml,h6⟩:∃q t,Mk.long=(q,t):=⟨_,_,rfl⟩;obtain⟨n,o9,h7⟩:∃q t,Ml.num 1=(q,t):=⟨_,_,rfl⟩;rw [Uw (Uv h1 h2 h3 h4 h5 h6 h7)];obtain⟨E,hfl⟩:=ai (n==1);rw [hfl];have H1:=af h1;have H2:=af h2;have H3:=af h3;have H4:=af h4;have H5:=af h5;have IK:=af h6;have s6:=af h7;clear h1 h2 h3 h4 h5 h6 h7;have m:=af (Below.aI w (.cells DU.cells.toArray 86));have u:Ei (av (w.alloc (.cells DU.cells.toArray 86)) ↑w 86 DU.cells.toArray):=af (av.new _ _ _);have Bb:=af (h.below m.o);have eE:=af h;have c6:=af hl;have e9:=af hok;obtain⟨a,ca,rfl,lW,_⟩:=h;have L0:=af lW;clear hl hok lW;unfold DU aF.cells at m u Bb;dsimp only at m u Bb;go_enter Tryz.func54,Tryz.ntmps54;go_upto_region 2 with(fail);have hz:(w.alloc (.cells #[↑(),↑(),↑(),↑(),↑(),↑(),.bool false] 86)).heap.size=w.heap.size+1:=cU;have hba:=Below.aI (w.alloc (.cells #[↑(),↑(),↑(),↑(),↑(),↑(),.bool false] 86)) (.cells #[.slice a b.length ca,↑(),↑()] 176);have hb1:=m.o.trans (hba.mono m.o.size);have S:=u.o.below hba;have hr:rV w ((w.alloc (.cells #[↑(),↑(),↑(),↑(),↑(),↑(),.bool false] 86)).alloc (.cells #[.slice a b.length ca,↑(),↑()] 176)) (w.heap.size+1) ⟨b,false⟩:=by
  obtain⟨a',c',e,hk,hrd⟩:=eE.o;injection e with e1 _ e2;subst e1;subst e2;refine⟨⟨a,ca,b,0,?_,hk,hk.2.2,hrd.below hb1,fun b' off e hx=>?_,Nat.zero_le _,rfl,c6.o⟩,bh,hb1,e9.o⟩
  ·rw [<-hz];exact av.new _ _ _
  obtain⟨x,t,uE⟩:∃x t,b=x::t:=by cases b with|nil=>exact absurd rfl hx|cons x t=>exact⟨x,t,rfl⟩
  obtain⟨b2,off2,bJ,cV,_⟩:=hrd 0 x (by rw [uE];rfl);rw [e]at bJ;injection bJ with bJ;injection bJ with bJ;omega
 obtain⟨g,hg⟩:=ai w.heap.size;obtain⟨pr,mo⟩:=ai (w.heap.size+1);rw [mo]at hr⊢;rw [hg]at S⊢;have Uz:Ei (g≠pr):=af bh;have r:=af hg;have eI:Ei (w.heap.size<=w.heap.size):=af (Nat.le_refl _);have R0:=af hr;have Uy:=af S;have Pp:=af hb1;clear hz hba hb1 S hr hg mo m u Bb eE L0;generalize ((w.alloc (.cells #[↑(),↑(),↑(),↑(),↑(),↑(),.bool false] 86)).alloc (.cells #[.slice a b.length ca,↑(),↑()] 176))=w1 at*;go_wp2_with fail;refine(lV R0.o H1.o).mono ?_;rintro e w2 ⟨rfl,hr,hk⟩;have IL:=af hr;have DW:=af hk;clear hr hk;go_wp2_with fail;refine(k8 IL.o H2.o).mono ?_;rintro e w3 ⟨rfl,hr,hk⟩;have IM:=af hr;have DX:=af (DW.o.trans hk);clear hr hk IL DW;go_wp2_with fail;refine(k8 IM.o H3.o).mono ?_;rintro e az ⟨rfl,hr,hk⟩;have wW:=af hr;have ol:=af (DX.o.trans hk);clear hr hk IM DX;go_wp2_with fail;refine(lV wW.o H4.o).mono ?_;rintro e aA ⟨rfl,hr,hk⟩;have vA:=af hr;have rD:=af (ol.o.trans hk);clear hr hk wW ol;go_wp2_with fail;refine(lV vA.o H5.o).mono ?_;rintro e aN ⟨rfl,hr,hk⟩;have zz:=af hr;have AL:=af (rD.o.trans hk);clear hr hk vA rD;go_wp2_with fail;refine(lV zz.o IK.o).mono ?_;rintro e l ⟨rfl,hr,hk⟩;have zA:=af hr;have IP:=af (AL.o.trans hk);clear hr hk zz AL;go_upto_region 3 with(fail);have S:=Uy.o.keeps IP.o Uz.o;have hba:=Below.aI l (.cells #[↑q,↑i,↑d,↑p,↑t,↑c,.bool false] 86);have Cq:av (l.alloc (.cells #[↑q,↑i,↑d,↑p,↑t,↑c,.bool false] 86)) ↑l 86 #[↑q,↑i,↑d,↑p,↑t,↑c,.bool false]:=av.new _ _ _;have f:Below ↑w w l:=Pp.o.trans ((IP.o.below (B:=w.heap.size) (fun k hk=>by have hk':k=pr:=hk;rw [hk'];exact Nat.le_trans eI.o R0.o.base) Pp.o.size));obtain⟨ay,dL⟩:=ai l.heap.size;have Gf:=af (zA.o.below hba);have UA:=af (S.below hba);have rE:=af (f.trans (hba.mono f.size));have fQ:Ei (ay≠pr):=af (by obtain⟨a,c,X,p,h,_⟩:=zA.o.box;have:=h.lt;omega);have zo:Ei (ay≠g):=af (by have:=S.lt;omega);have adj:Ei (w.heap.size<=ay):=af (by have:=zA.o.aJ.size;omega);have y:Ei (w.heap.size<=ay):=af (by have:=f.size;omega);rw [dL]at Cq⊢;have UB:=af Cq;clear S hba Cq f dL zA IP Uy Pp;generalize l.alloc _=vC at*;go_wp2_with fail;refine(k8 Gf.o s6.o).mono ?_;rintro e bZ ⟨rfl,hr,hk⟩;have IQ:=UB.o.keeps hk fQ.o;have Cr:=UA.o.keeps hk Uz.o;have mH:=rE.o.trans (hk.below (B:=w.heap.size) (fun k hk=>by have hk':k=pr:=hk;rw [hk'];exact Nat.le_trans eI.o R0.o.base) rE.o.size);have I:=af hr;have K:=af IQ;have L:=af Cr;have M:=af mH;clear hr hk IQ Cr mH Gf UB UA rE;have J:=af (MZ I.o);have j:=Po (s:=o9);have vN:(ay=g)=False:=eq_false zo.o;have vO:(g=ay)=False:=eq_false (Ne.symm zo.o);by_cases e0:zx o9=0
 ·have hnb:=j.1 e0;rw [e0]at J;by_cases e1:1<n
  ·have O:Ei (Co ⟨q,i,d,p,t,c,E⟩ n o9=none):=af (if_pos (.inr (.inl e1)));clear e0 hnb;clear j;go_wp2_with fail;refine J.o.mono ?_;rintro e F ⟨rfl,G⟩;have A:=af (L.o.below G);have C:=af (K.o.below G);have D:=ag M G;clear G J L K M I;obtain⟨m0,m1,m2,R,U,T,P⟩:=C.o.e4;obtain⟨l0,l1,l2,l3,l4,V,N⟩:=A.o.e4;have fz:∀o,F.frozen? ⟨g,o,none⟩=false:=fun o=>A.o.frozen o;have H:∀o,F.frozen? ⟨ay,o,none⟩=false:=fun o=>C.o.frozen o;go_wp2_with fail;clear fz H l0 l1 l2 l3 l4 V N m0 m1 m2 R U T P;have hz:=av.xZ A.o ↑() ↑() ↑() ↑() ↑() ↑() (.bool false);have hbz:=D.o.trans ((aK.xZ F g ↑() ↑() ↑() ↑() ↑() ↑() (.bool false)).below (B:=w.heap.size) (fun k hk=>by have hk2:k=g:=hk;rw [hk2];exact Nat.le_of_eq r.o) D.o.size);generalize (((((((F.setCell ↑g ↑()).setCell ⟨g,1,none⟩ ↑()).setCell ⟨g,2,none⟩ ↑()).setCell ⟨g,3,none⟩ ↑()).setCell ⟨g,4,none⟩ ↑()).setCell ⟨g,5,none⟩ ↑()).setCell ⟨g,6,none⟩ (.bool false))=ax at*;obtain⟨k0,k1,k2,Q,Y,Z,W⟩:=hz.e4;refine bodyPost_ret (v:= .tuple #[.agg #[↑(),↑(),↑(),↑(),↑(),↑(),.bool false],.int .i64 12]) (by simp [results,Tryz.results54,go_sem,k0,k1,k2,Q,Y,Z,W]) rfl ⟨by rw [O.o];rfl,hbz⟩
  by_cases e2:d=1
  ·have O:Ei (Co ⟨q,i,d,p,t,c,E⟩ n o9=some ⟨q,i,d,p,t,c,E⟩):=af (if_neg (by rintro(h|h|h);exact hnb h;exact e1 h;exact h (.inl e2)));have xJ:(d !=1)=false:=by rw [e2];rfl
   clear e0 hnb e2;clear j;go_wp2_with fail;refine J.o.mono ?_;rintro e F ⟨rfl,G⟩;have A:=af (L.o.below G);have C:=af (K.o.below G);have D:=ag M G;clear G J L K M I;obtain⟨m0,m1,m2,R,U,T,P⟩:=C.o.e4;obtain⟨l0,l1,l2,l3,l4,V,N⟩:=A.o.e4;have fz:∀o,F.frozen? ⟨g,o,none⟩=false:=fun o=>A.o.frozen o;have H:∀o,F.frozen? ⟨ay,o,none⟩=false:=fun o=>C.o.frozen o;go_wp2_with fail;clear fz H l0 l1 l2 l3 l4 V N m0 m1 m2 R U T P;have hz:=av.xZ (A.o.cC (p:=⟨ay,6,none⟩) (Ne.symm zo.o) ↑E) ↑q ↑i ↑d ↑p ↑t ↑c ↑E;have hbz:=(D.o.setCell (p:=⟨ay,6,none⟩) y.o ↑E).trans ((aK.xZ (F.setCell ⟨ay,6,none⟩ ↑E) g ↑q ↑i ↑d ↑p ↑t ↑c ↑E).below (B:=w.heap.size) (fun k hk=>by have hk2:k=g:=hk;rw [hk2];exact Nat.le_of_eq r.o) (D.o.setCell (p:=⟨ay,6,none⟩) y.o ↑E).size);generalize ((((((((F.setCell ⟨ay,6,none⟩ ↑E).setCell ↑g ↑q).setCell ⟨g,1,none⟩ ↑i).setCell ⟨g,2,none⟩ ↑d).setCell ⟨g,3,none⟩ ↑p).setCell ⟨g,4,none⟩ ↑t).setCell ⟨g,5,none⟩ ↑c).setCell ⟨g,6,none⟩ ↑E)=ax at*;obtain⟨k0,k1,k2,Q,Y,Z,W⟩:=hz.e4;refine bodyPost_ret (v:= .tuple #[.agg #[↑q,↑i,↑d,↑p,↑t,↑c,↑E],↑()]) (by simp [results,Tryz.results54,go_sem,k0,k1,k2,Q,Y,Z,W]) rfl ⟨by rw [O.o];rfl,hbz⟩
  have xJ:(d !=1)=true:=by simpa using e2
  by_cases bJ:d=2
  ·have O:Ei (Co ⟨q,i,d,p,t,c,E⟩ n o9=some ⟨q,i,d,p,t,c,E⟩):=af (if_neg (by rintro(h|h|h);exact hnb h;exact e1 h;exact h (.inr bJ)));have xK:(d !=2)=false:=by rw [bJ];rfl
   clear e0 hnb e2 bJ;clear j;go_wp2_with fail;refine J.o.mono ?_;rintro e F ⟨rfl,G⟩;have A:=af (L.o.below G);have C:=af (K.o.below G);have D:=ag M G;clear G J L K M I;obtain⟨m0,m1,m2,R,U,T,P⟩:=C.o.e4;obtain⟨l0,l1,l2,l3,l4,V,N⟩:=A.o.e4;have fz:∀o,F.frozen? ⟨g,o,none⟩=false:=fun o=>A.o.frozen o;have H:∀o,F.frozen? ⟨ay,o,none⟩=false:=fun o=>C.o.frozen o;go_wp2_with fail;clear fz H l0 l1 l2 l3 l4 V N m0 m1 m2 R U T P;have hz:=av.xZ (A.o.cC (p:=⟨ay,6,none⟩) (Ne.symm zo.o) ↑E) ↑q ↑i ↑d ↑p ↑t ↑c ↑E;have hbz:=(D.o.setCell (p:=⟨ay,6,none⟩) y.o ↑E).trans ((aK.xZ (F.setCell ⟨ay,6,none⟩ ↑E) g ↑q ↑i ↑d ↑p ↑t ↑c ↑E).below (B:=w.heap.size) (fun k hk=>by have hk2:k=g:=hk;rw [hk2];exact Nat.le_of_eq r.o) (D.o.setCell (p:=⟨ay,6,none⟩) y.o ↑E).size);generalize ((((((((F.setCell ⟨ay,6,none⟩ ↑E).setCell ↑g ↑q).setCell ⟨g,1,none⟩ ↑i).setCell ⟨g,2,none⟩ ↑d).setCell ⟨g,3,none⟩ ↑p).setCell ⟨g,4,none⟩ ↑t).setCell ⟨g,5,none⟩ ↑c).setCell ⟨g,6,none⟩ ↑E)=ax at*;obtain⟨k0,k1,k2,Q,Y,Z,W⟩:=hz.e4;refine bodyPost_ret (v:= .tuple #[.agg #[↑q,↑i,↑d,↑p,↑t,↑c,↑E],↑()]) (by simp [results,Tryz.results54,go_sem,k0,k1,k2,Q,Y,Z,W]) rfl ⟨by rw [O.o];rfl,hbz⟩
  have xK:(d !=2)=true:=by simpa using bJ
  have O:Ei (Co ⟨q,i,d,p,t,c,E⟩ n o9=none):=af (if_pos (.inr (.inr (by rintro(h|h);exact e2 h;exact bJ h))));clear e0 hnb e2 bJ;clear j;go_wp2_with fail;refine J.o.mono ?_;rintro e F ⟨rfl,G⟩;have A:=af (L.o.below G);have C:=af (K.o.below G);have D:=ag M G;clear G J L K M I;obtain⟨m0,m1,m2,R,U,T,P⟩:=C.o.e4;obtain⟨l0,l1,l2,l3,l4,V,N⟩:=A.o.e4;have fz:∀o,F.frozen? ⟨g,o,none⟩=false:=fun o=>A.o.frozen o;have H:∀o,F.frozen? ⟨ay,o,none⟩=false:=fun o=>C.o.frozen o;go_wp2_with fail;clear fz H l0 l1 l2 l3 l4 V N m0 m1 m2 R U T P;have hz:=av.xZ A.o ↑() ↑() ↑() ↑() ↑() ↑() (.bool false);have hbz:=D.o.trans ((aK.xZ F g ↑() ↑() ↑() ↑() ↑() ↑() (.bool false)).below (B:=w.heap.size) (fun k hk=>by have hk2:k=g:=hk;rw [hk2];exact Nat.le_of_eq r.o) D.o.size);generalize (((((((F.setCell ↑g ↑()).setCell ⟨g,1,none⟩ ↑()).setCell ⟨g,2,none⟩ ↑()).setCell ⟨g,3,none⟩ ↑()).setCell ⟨g,4,none⟩ ↑()).setCell ⟨g,5,none⟩ ↑()).setCell ⟨g,6,none⟩ (.bool false))=ax at*;obtain⟨k0,k1,k2,Q,Y,Z,W⟩:=hz.e4;refine bodyPost_ret (v:= .tuple #[.agg #[↑(),↑(),↑(),↑(),↑(),↑(),.bool false],.int .i64 12]) (by simp [results,Tryz.results54,go_sem,k0,k1,k2,Q,Y,Z,W]) rfl ⟨by rw [O.o];rfl,hbz⟩
 have O:Ei (Co ⟨q,i,d,p,t,c,E⟩ n o9=none):=af (if_pos (.inl (Decidable.not_not.1 fun h=>e0 (j.2 h))));have alU:(zx o9 !=0)=true:=by simpa using e0
 generalize zx o9=ev at*;clear e0;clear j;go_wp2_with fail;refine J.o.mono ?_;rintro e F ⟨rfl,G⟩;have A:=af (L.o.below G);have C:=af (K.o.below G);have D:=ag M G;clear G J L K M I;obtain⟨m0,m1,m2,R,U,T,P⟩:=C.o.e4;obtain⟨l0,l1,l2,l3,l4,V,N⟩:=A.o.e4;have fz:∀o,F.frozen? ⟨g,o,none⟩=false:=fun o=>A.o.frozen o;have H:∀o,F.frozen? ⟨ay,o,none⟩=false:=fun o=>C.o.frozen o;go_wp2_with fail;clear fz H l0 l1 l2 l3 l4 V N m0 m1 m2 R U T P;have hz:=av.xZ A.o ↑() ↑() ↑() ↑() ↑() ↑() (.bool false);have hbz:=D.o.trans ((aK.xZ F g ↑() ↑() ↑() ↑() ↑() ↑() (.bool false)).below (B:=w.heap.size) (fun k hk=>by have hk2:k=g:=hk;rw [hk2];exact Nat.le_of_eq r.o) D.o.size);generalize (((((((F.setCell ↑g ↑()).setCell ⟨g,1,none⟩ ↑()).setCell ⟨g,2,none⟩ ↑()).setCell ⟨g,3,none⟩ ↑()).setCell ⟨g,4,none⟩ ↑()).setCell ⟨g,5,none⟩ ↑()).setCell ⟨g,6,none⟩ (.bool false))=ax at*;obtain⟨k0,k1,k2,Q,Y,Z,W⟩:=hz.e4;refine bodyPost_ret (v:= .tuple #[.agg #[↑(),↑(),↑(),↑(),↑(),↑(),.bool false],.int .i64 12]) (by simp [results,Tryz.results54,go_sem,k0,k1,k2,Q,Y,Z,W]) rfl ⟨by rw [O.o];rfl,hbz⟩
theorem akI {W w:World} {pv n:Nat} {hv:Value} {s:ig} (h:fA W w pv n hv s) {v:Value} {b:List Int} (hsl:cZ.eT w v b) (hl:b.length<=900000) (hok:∀z∈b,isByte z) (hd:pg b=none):
 Calls Tryz.prog 11 #[.pointer ↑pv,v] w fun e w'=>e= .returned (.int .i64 (12))∧∃dF,fA W w' pv n dF s∧aK (wo pv hv) w w'∧∀g,dF.ownBlock=some g->hv.ownBlock=some g∨w.heap.size<=g:=by
 have hdec:=DV hsl hl hok;rw [hd]at hdec;unfold Cp at hdec;simp only [Option.getD_none,Option.isSome_none,Bool.false_eq_true,if_false]at hdec;unfold aF.cells DU at hdec;dsimp only at hdec;have B:=af hdec;have H0:=af h;clear hdec h hsl hl hok hd;go_enter Tryz.func11,Tryz.ntmps11;go_wp2_with fail;refine B.o.mono ?_;rintro e w1 ⟨rfl,hb⟩;have A:=af hb;obtain⟨ay,C⟩:=ai w1.heap.size;clear hb;go_wp2_with fail;go_ret;have hba:=A.o.trans ((Below.aI w1 (.cells #[↑(),↑(),↑(),↑(),↑(),↑(),.bool false] 86)).mono A.o.size);exact⟨cF,hv,H0.o.below hba,Below.keeps hba,fun g hg=> .inl hg⟩
theorem akJ {W w:World} {pv n:Nat} {hv:Value} {s:ig} (h:fA W w pv n hv s) {cc:Nat} (hk:pL n cc s) (E:sG s.H) {v:Value} {b:List Int} (hsl:cZ.eT w v b) (hl:b.length<=900000) (hok:∀z∈b,isByte z) {q ii sd p t c:Int} {im:Bool} (hd:pg b=some ⟨q,ii,sd,p,t,c,im⟩) (hq:q<1):
 Calls Tryz.prog 11 #[.pointer ↑pv,v] w fun e w'=>e= .returned (.int .i64 (12))∧∃dF,fA W w' pv n dF s∧aK (wo pv hv) w w'∧∀g,dF.ownBlock=some g->hv.ownBlock=some g∨w.heap.size<=g:=by
 have hdec:=DV hsl hl hok;rw [hd]at hdec;unfold Cp at hdec;simp only [Option.getD_some,Option.isSome_some,if_true]at hdec;unfold aF.cells at hdec;dsimp only at hdec;have hmo:=(FQ hok hd).1;have T:=af hmo;have F:=af hdec;have H0:=af h;have L:=af hk;have J:=af E;have hlv:=hk.len;clear hdec h hk hsl hl hok hd hmo E;go_enter Tryz.func11,Tryz.ntmps11;go_wp2_with fail;refine F.o.mono ?_;rintro e w1 ⟨rfl,hb⟩;have G:=af hb;obtain⟨ay,C⟩:=ai w1.heap.size;go_upto_region 2 with(fail);have hba:=Below.aI w1 (.cells #[↑q,↑ii,↑sd,↑p,↑t,↑c,↑im] 86);have D:av (w1.alloc (.cells #[↑q,↑ii,↑sd,↑p,↑t,↑c,↑im] 86)) ↑w1 86 #[↑q,↑ii,↑sd,↑p,↑t,↑c,↑im]:=av.new w1 _ _;rw [C]at D;have I:=af D;have K:Ei (w.heap.size<=ay):=af (by rw [<-C];exact hb.size);have A:=af (hb.trans (hba.mono hb.size));clear hb hba D C G F;generalize w1.alloc (.cells #[↑q,↑ii,↑sd,↑p,↑t,↑c,↑im] 86)=w2 at*;have R:=af (H0.o.below A.o);obtain⟨a2,c2,B,_⟩:=H0.o.below A.o |>.box;have Q:=af B;obtain⟨m0,m1,m2,N,P,O,M⟩:=I.o.e4;have k0:=B.GC;clear B;have hq2:decide (q<1)=true:=decide_eq_true hq;clear hq;go_wp2_with fail;go_quiet (fail);go_wp2_with fail;go_ret;have hba:=A.o.trans ((Below.bO w2 nq).mono A.o.size);exact⟨cF,hv,H0.o.below hba,Below.keeps hba,fun g hg=> .inl hg⟩
theorem akK {W w:World} {pv n:Nat} {hv:Value} {s:ig} (h:fA W w pv n hv s) {cc:Nat} (hk:pL n cc s) (P:sG s.H) {v:Value} {b:List Int} (hsl:cZ.eT w v b) (hl:b.length<=900000) (hok:∀z∈b,isByte z) {q ii sd p t c:Int} {im:Bool} (hd:pg b=some ⟨q,ii,sd,p,t,c,im⟩) (hq:¬q<1) (hf:n6 n ⟨q,ii,sd,p,t,c,im⟩≠0):
 Calls Tryz.prog 11 #[.pointer ↑pv,v] w fun e w'=>e= .returned (.int .i64 (12))∧∃dF,fA W w' pv n dF s∧aK (wo pv hv) w w'∧∀g,dF.ownBlock=some g->hv.ownBlock=some g∨w.heap.size<=g:=by
 have hdec:=DV hsl hl hok;rw [hd]at hdec;unfold Cp at hdec;simp only [Option.getD_some,Option.isSome_some,if_true]at hdec;unfold aF.cells at hdec;dsimp only at hdec;have hmo:=(FQ hok hd).1;have r:=af hmo;have R:=af hdec;have H0:=af h;have m:=af hk;have j:=af P;have hlv:=hk.len;have X:=af hf;clear hf hdec h hk hsl hl hok hd hmo P;go_enter Tryz.func11,Tryz.ntmps11;go_wp2_with fail;refine R.o.mono ?_;rintro e w1 ⟨rfl,hb⟩;have Y:=af hb;obtain⟨ay,E⟩:=ai w1.heap.size;go_upto_region 2 with(fail);have hba:=Below.aI w1 (.cells #[↑q,↑ii,↑sd,↑p,↑t,↑c,↑im] 86);have G:av (w1.alloc (.cells #[↑q,↑ii,↑sd,↑p,↑t,↑c,↑im] 86)) ↑w1 86 #[↑q,↑ii,↑sd,↑p,↑t,↑c,↑im]:=av.new w1 _ _;rw [E]at G;have F:=af G;have l:Ei (w.heap.size<=ay):=af (by rw [<-E];exact hb.size);have C:=af (hb.trans (hba.mono hb.size));clear hb hba G E Y R;generalize w1.alloc (.cells #[↑q,↑ii,↑sd,↑p,↑t,↑c,↑im] 86)=w2 at*;have Q:=af (H0.o.below C.o);obtain⟨a2,c2,D,_⟩:=H0.o.below C.o |>.box;have O:=af D;obtain⟨m0,m1,m2,L,N,M,J⟩:=F.o.e4;have k0:=D.GC;clear D;have hq2:decide (q<1)=false:=decide_eq_false bh;have B:=xQ n ⟨q,ii,sd,p,t,c,im⟩ w2.drew;unfold aF.agg at B;dsimp only at B;obtain⟨fv,I⟩:=ai (n6 n ⟨q,ii,sd,p,t,c,im⟩);rw [I]at B;have T:=af B;have U:=af I;clear B I;go_upto_region 4 with(fail);have hS:w2.cell? ↑ay=↑q∧w2.cell? ↑(ay,1)=↑ii∧w2.cell? ↑(ay,2)=↑sd∧w2.cell? ↑(ay,3)=↑p∧w2.cell? ↑(ay,4)=↑t∧w2.cell? ↑(ay,5)=↑c∧w2.cell? ↑(ay,6)=↑im∧w2.cell? ↑pv=↑n:=⟨m0,m1,m2,L,N,M,J,k0⟩;refine cP (S:=fun w2=>w2.cell? ↑ay=↑q∧w2.cell? ⟨ay,1,none⟩=↑ii∧w2.cell? ⟨ay,2,none⟩=↑sd∧w2.cell? ⟨ay,3,none⟩=↑p∧w2.cell? ⟨ay,4,none⟩=↑t∧w2.cell? ⟨ay,5,none⟩=↑c∧w2.cell? ⟨ay,6,none⟩=↑im∧w2.cell? ↑pv=↑n) hS fun hHeld=>?_;refine eX [0,1,2,3,4,5,6,7,8] ?_;refine aU 9 fun K hK=>?_;go_simp;refine T.o.mono ?_;rintro e w3 ⟨rfl,hb⟩;have hb3:=(Below.bO w2 1).trans hb;have d:=af (Q.o.below hb3);have V:=ag C hb3;have A:=af (F.o.below hb3);have Z:=af (O.o.below hb3);refine hK.out _ _ ⟨A.o.cell 0,A.o.cell 1,A.o.cell 2,A.o.cell 3,A.o.cell 4,A.o.cell 5,A.o.cell 6,Z.o.cell 0⟩ (fun hHeld=>?_);clear hK K hb hb3 hS T Q C F O m0 m1 m2 L N M J k0;refine eX [10] ?_;refine dY 11 fun K hK=>?_;go_simp;refine hK.out _ _ ?_;clear hK K hHeld hq2;have hfn:(fv !=0)=true:=by rw [<-U.o];simpa using X.o
 go_wp2_with fail;go_ret;exact⟨cF,hv,d.o,Below.keeps V.o,fun g hg=> .inl hg⟩
section
variable {W w w':World} {pv n:Nat} {hv:Value} {s:ig}
theorem Nn (h:fA W w pv n hv s):Calls Tryz.prog 12 #[.pointer ↑pv] w fun e w'=>e= .returned (.bool (decide (s.H.length=0)))∧w=w':=by
 obtain⟨a,c,hb,_⟩:=h.box;obtain⟨C,ch,rfl⟩:=h.held.form;have B:=hb.Jf;have hd:((s.H.length:Int)==0)=decide (s.H.length=0):=by rw [Bool.eq_iff_iff];simp
 have A:=af hd;obtain⟨y,hy⟩:=ai ((s.H.length:Int)==0);rw [<-A.o,hy];clear hb h hd;go_enter Tryz.func12,Tryz.ntmps12;go_wp2_with fail;go_ret;exact⟨by rw [<-hy];try rfl,cF⟩
theorem Np (h:fA W w pv n hv s):Calls Tryz.prog 13 #[.pointer ↑pv] w fun e w'=>e= .returned ↑s.seq∧w=w':=by obtain⟨a,c,hb,_⟩:=h.box;have k2:=hb.Je;clear hb h;go_enter Tryz.func13,Tryz.ntmps13;go_wp2_with fail;go_ret;exact⟨cF,cF⟩
theorem ak5 (h:fA W w pv n hv s):Calls Tryz.prog 19 #[.pointer ↑pv] w fun e w'=>e= .returned ↑s.H.length∧w=w':=by obtain⟨a,c,hb,_⟩:=h.box;obtain⟨B,ch,rfl⟩:=h.held.form;have A:=hb.Jf;clear hb h;go_enter Tryz.func19,Tryz.ntmps19;go_wp2_with fail;go_ret;exact⟨cF,cF⟩
theorem Nq (h:fA W w pv n hv s) (hl:s.V.length<=255) {K:Nat} (hK:fX s.V K) (Q:K<=800000):Calls Tryz.prog 15 #[.pointer ↑pv] w fun e w'=>∃v',e= .returned (.agg #[v'])∧cg ey bS w' ↑w v' s.V∧Below ↑w w w':=by have hba:=Below.aI w (.cells #[.slice none 0 0] 43);obtain⟨a,c,hb,I⟩:=(h.below hba).box;have H:=af (Dz I hl hK bh);have G:=af hb;have D:=af hba;have C:Ei (av (w.alloc (.cells #[.slice none 0 0] 43)) ↑w 43 #[.slice none 0 0]):=af (av.new _ _ _);clear h hba hb I hK;go_enter Tryz.func15,Tryz.ntmps15;go_upto_region 1 with(fail);obtain⟨gr,E⟩:=ai w.heap.size;have J:=af (Nat.le_of_eq E);rw [E]at C⊢;clear E;generalize w.alloc (.cells #[.slice none 0 0] 43)=w1 at*;have k1:=G.o.GD;go_wp2_with fail;refine H.o.mono ?_;rintro e w2 ⟨v',rfl,F,hb2⟩;have B:=F.fh;obtain⟨a2,c2,rfl⟩:=B.form;have A:=C.o.below hb2;have M:=A.GC;have O:w2.frozen? ↑gr=false:=A.frozen 0;have hgt:ck w2 gr 43:=A.aE;have N:=af ((B.base (B':=w.heap.size) D.o.size).keep (ct w2 gr 0 (.slice a2 s.V.length c2)) (fun g hg e=>hg.ne hgt b9 e) (fun g hg e=>hg.ne hgt b9 e));have L:=af ((ag D hb2).o.setCell (p:=⟨gr,0,none⟩) J.o (.slice a2 s.V.length c2));have P:Ei (av (w2.setCell ↑gr (.slice a2 s.V.length c2)) gr 43 #[.slice a2 s.V.length c2]):=af (A.aW 0 _);clear F B A hgt hb2 H G C D k1;go_wp2_with fail;clear M O;generalize w2.setCell ↑gr (.slice a2 s.V.length c2)=wf at*;have f0:=P.o.GC;refine bodyPost_ret (v:= .agg #[.slice a2 s.V.length c2]) (by simp [results,Tryz.results15,go_sem,f0]) rfl ⟨_,rfl,N.o,L.o⟩
end
theorem Kq (m:Nat) {s:bH} (hb:s.bad=false):Da (m+1) s=((mY s).1::(Da m (mY s).2).1,(Da m (mY s).2).2):=if_neg (by rw [hb];decide)
theorem Ks:∀(m:Nat) {s:bH} (_:s.bad=true),Da m s=([],s)
 |0,_,_=>rfl
 |_+1,_,h=>if_pos h
theorem arZ (m:Nat) {s:bH} (hb:s.bad=false):BI (m+1) s=(((xP s).1,(xP (xP s).2.2).1)::(BI m (xP (xP s).2.2).2.2).1,((xP s).2.1&&(xP (xP s).2.2).2.1&&(BI m (xP (xP s).2.2).2.2).2.1),(BI m (xP (xP s).2.2).2.2).2.2):=if_neg (by rw [hb];decide)
theorem ar1:∀(m:Nat) {s:bH} (_:s.bad=true),BI m s=([],true,s)
 |0,_,_=>rfl
 |_+1,_,h=>if_pos h
theorem arX {b:List Int} {m:Nat} {q n:Int} {s1 s2:bH} (h:b.length=m+4) (hs:r3 (rB (b.take m))=b.drop m) (h1:(⟨b.take m,false⟩:bH).long=(q,s1)) (h2:s1.num 1=(n,s2)):ld b=H7 q (BI n.toNat s2):=by
 rw [Ib h hs h1 h2];have key:∀r:bG×Bool×bH,r.2.2.bad=true->H7 q r=(12,[],0):=fun r h=>if_neg (fun k=>by rw [k.2.1]at h;cases h);rcases Kv n.toNat s2 with⟨g1,g2⟩|g
 ·rw [key _ g1,key _ g2]
 rw [g]
theorem KF:∀(n:Nat) (s:bH),(Da n s).1.length<=n
 |0,_=>Nat.le_refl _
 |n+1,s=>by
  unfold Da;split
  ·exact Nat.zero_le _
  rw [List.length_cons];have:=KF n (mY s).2;omega
theorem KG:∀(n:Nat) {s:bH},s.ok->(Da n s).2.ok
 |0,_,h=>h
 |n+1,s,h=>by
  unfold Da;split
  ·exact h
  exact KG n (wJ h)
theorem Kt {s:bH} (h:s.ok):(xP s).1.lv.length<=255:=by
 have hb:=bH.Lm h;have e:∀(l:List aB) (t:bH),(xH l t).1.lv=l:=fun l t=>by unfold xH;split<;>rfl
 unfold xP;rw [e];have:=KF (s.num 1).1.toNat (s.num 1).2;omega
theorem ar0 {s:bH} (h:s.ok):(xP s).2.2.ok:=Il (KG _ (bH.Od h))
theorem z1 {s:bH} (h:s.bad=true):Yq s=10:=if_pos h
theorem Ab {s:bH} (h:s.bad=false):Yq s=0:=if_neg (by rw [h];decide)
theorem rV.why {W w:World} {pr:Nat} {s:bH} (h:rV W w pr s):w.cell? ↑(pr,2)=some (.int .i64 (Yq s)):=by obtain⟨a,c,X,p,hb,_⟩:=h.box;exact hb.cell 2
structure yK (W w:World) (pr cI n:Nat) (s0:bH) (m:Nat) (v:Value) (f:Bool) (acc:bG) (t:bH):Prop where
 rd:rV W w pr t
 cW:av w cI 54 #[v]
 fh:cg eJ bK w ↑W v acc
 e1:acc++(BI m t).1=(BI n s0).1
 e2:(f&&(BI m t).2.1)=(BI n s0).2.1
 bJ:(BI m t).2.2=(BI n s0).2.2
 len:acc.length+m<=n
 le:fX acc 255
structure C9 (W w:World) (pr cI dB:Nat) (v:Value) (acc:bG) (x y:eO) (t:bH):Prop where
 rd:rV W w pr t
 cW:av w cI 54 #[v]
 fh:cg eJ bK w ↑W v acc
 jP:∀g,v.ownBlock=some g->g≠dB
 bo:av w dB 104 #[.slice x.a x.n x.c,↑x.im.ap,↑x.im.aq,↑x.im.count,↑x.has,.slice y.a y.n y.c,↑y.im.ap,↑y.im.aq,↑y.im.count,↑y.has]
structure vk (W ax w:World) (pr dB n:Nat) (s0:bH) (m:Nat) (x y:eO) (v:Value) (L:List aB) (t:bH):Prop where
 rd:rV W w pr t
 bo:av w dB 104 #[.slice x.a x.n x.c,↑x.im.ap,↑x.im.aq,↑x.im.count,↑x.has,.slice y.a y.n y.c,↑y.im.ap,↑y.im.aq,↑y.im.count,↑y.has]
 row:bK.Row w ↑ax v L
 kN:aK (fun g=>g=pr∨g=dB) ax w
 e1:L++(Da m t).1=(Da n s0).1
 e2:(Da m t).2=(Da n s0).2
 len:L.length+m<=n
section
variable {W ax w w':World} {pr cI dB:Nat} {v:Value} {acc:bG} {x y:eO} {t t':bH}
theorem C9.read (h:C9 W w pr cI dB v acc x y t) (B:cI≠pr) (A:dB≠pr) (hr:rV W w' pr t') (hk:aK (fun g=>g=pr) w w'):C9 W w' pr cI dB v acc x y t':=
 ⟨hr,h.cW.keeps hk B,h.fh.keep hk (fun g hg e=>hg.ne h.rd.aE b9 e) (fun g hg e=>hg.ne h.rd.aE b9 e),h.jP,h.bo.keeps hk A⟩
theorem C9.wk {x' y':eO} (h:C9 W ax pr cI dB v acc x y t) (B:cI≠pr) (A:cI≠dB) (hr:rV W w pr t') (hk:aK (fun g=>g=pr∨g=dB) ax w)
 (hb:av w dB 104 #[.slice x'.a x'.n x'.c,↑x'.im.ap,↑x'.im.aq,↑x'.im.count,↑x'.has,.slice y'.a y'.n y'.c,↑y'.im.ap,↑y'.im.aq,↑y'.im.count,↑y'.has]):C9 W w pr cI dB v acc x' y' t':=
 ⟨hr,h.cW.keeps hk (by rintro(e|e);exact B e;exact A e),h.fh.JZ hk (fun g hg e=>by
  obtain⟨P,hP,_⟩:=h.fh;rcases e with e|e
  ·exact(eo hP g hg).ne h.rd.aE b9 e
  ·exact h.jP g hg e) (fun g hg e=>by
  rcases e with e|e
  ·exact hg.ne h.rd.aE b9 e
  exact hg.ne h.bo.aE b9 e),h.jP,hb⟩
theorem bV.wk {s:eO} {d:aX} (h:bV bK ax ↑W s d) (hr:rV W ax pr t) (hb:∃cs,av ax dB 104 cs) (hk:aK (fun g=>g=pr∨g=dB) ax w):bV bK w ↑W s d:=by
 obtain⟨cs,hb⟩:=hb;exact h.keep hk fun g hg e=>by
  rcases e with e|e
  ·exact hg.ne hr.aE b9 e
  exact hg.ne hb.aE b9 e
theorem C9.put {w2:World} {x' y':eO} (h:C9 W w pr cI dB v acc x y t) (A:cI≠dB) (np:pr≠dB) (hb:W.heap.size<=dB) (hk:aK (fun g=>g=dB) w w2)
 (h2:av w2 dB 104 #[.slice x'.a x'.n x'.c,↑x'.im.ap,↑x'.im.aq,↑x'.im.count,↑x'.has,.slice y'.a y'.n y'.c,↑y'.im.ap,↑y'.im.aq,↑y'.im.count,↑y'.has]):C9 W w2 pr cI dB v acc x' y' t:=
 ⟨h.rd.keep hk np (fun k hk=>by have hk2:k=dB:=hk;rw [hk2];exact hb),h.cW.keeps hk A,h.fh.JZ hk (fun g hg e=>h.jP g hg e) (fun g hg e=>hg.ne h.bo.aE b9 e),h.jP,h2⟩
theorem cg.QC {B:Nat} {v':Value} {P:List bB} {p:bB} {d:aX×aX} (hr:eJ.Row w B v' (P++ [p])) (hl:P.length=acc.length) (ho:∀(j:Nat) (p:bB) (x:aX×aX),P[j]? =some p->acc[j]? =some x->bV bK w B p.s x.1∧bV bK w B p.t x.2) (h1:bV bK w B p.s d.1) (h2:bV bK w B p.t d.2):cg eJ bK w B v' (acc++ [d]):=by
 refine⟨_,hr,by rw [List.length_append,List.length_append,hl];rfl,fun j q z hq hz=>?_⟩;by_cases hj:j<P.length
 ·rw [List.getElem?_append_left hj]at hq;rw [List.getElem?_append_left bh]at hz;exact ho j q z hq hz
 rw [List.getElem?_append_right bh]at hq;rw [List.getElem?_append_right bh]at hz;have hj0:j-P.length=0:=by have:=dM hq;simp at this;omega
 rw [hj0]at hq;rw [<-hl,hj0]at hz;injection hq with hq;injection hz with hz;subst hq;subst hz;exact⟨h1,h2⟩
theorem C9.grow {wb A:World} {P:List bB} {v':Value} {d1 d2:aX} (h:C9 W w pr cI dB v acc x y t) (hb:Below ↑w w wb) (hP:eJ.Row wb ↑W v P) (hl:P.length=acc.length) (hs:∀(j:Nat) (p:bB) (x:aX×aX),P[j]? =some p->acc[j]? =some x->bV bK wb ↑W p.s x.1∧bV bK wb ↑W p.t x.2)
 (h1:bV bK w ↑W x d1) (h2:bV bK w ↑W y d2) (hr:eJ.Row A ↑W v' (P++ [⟨x,y⟩])) (hg:wb.grownBy A v.ownBlock) (H:W.heap.size<=cI) (J:pr≠cI):
 rV W (A.setCell ↑cI v') pr t∧av (A.setCell ↑cI v') cI 54 #[v']∧cg eJ bK (A.setCell ↑cI v') W.heap.size v' (acc++ [(d1,d2)])∧A.cell? ↑cI=some v∧A.frozen? ↑cI=false:=by
 have hk:=fK hg;have C:∀g,v.ownBlock=some g->ck wb g eJ.t:=fun g hg=>eo hP g hg;have G:∀g,v.ownBlock=some g->W.heap.size<=g:=cS hP;have r1:=h.rd.below hb;have b1:=h.cW.below hb;have I:=r1.keep hk (fun e=>(C _ e).ne r1.aE b9 rfl) G;have bk:=b1.keeps hk (fun e=>(C _ e).ne b1.aE b9 rfl);have B:∀{s:eO} {d:aX},bV bK wb ↑W s d->bV bK A ↑W s d:=fun hh=>hh.keep hk (fun g hg e=>(C _ e).ne hg b9 rfl);have F:cg eJ bK A ↑W v' (acc++ [(d1,d2)]):=cg.QC hr hl (fun j p x hp hx=>⟨B (hs j p x hp hx).1,B (hs j p x hp hx).2⟩) (B (h1.below hb)) (B (h2.below hb));have E:=ct A cI 0 v';have D:=bk.aW 0 v';simp only [List.setIfInBounds_toArray,List.set_cons_zero]at D;exact⟨I.keep E J (fun k hk=>by have hk2:k=cI:=hk;rw [hk2];exact H),D,F.keep E (fun g hg e=>hg.ne bk.aE b9 e) (fun g hg e=>hg.ne bk.aE b9 e),bk.cell 0,bk.frozen 0⟩
end
end Go.Proofs.YtmaijkoopjocdaaGreat
