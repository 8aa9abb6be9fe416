import Derived.Test.YtmaijkoopjocdaaGreatKW10
set_option maxRecDepth 100000
set_option maxHeartbeats 64000000
namespace Go.Proofs.YtmaijkoopjocdaaGreat
open Go.RowKit Go.Lib
section
variable {W w w':World} {pr:Nat} {s s':bH} {x:Int}
theorem Cm (h:iV W w pr s) (he:s.long=(x,s')):
 Calls Tryz.prog 80 #[.pointer ↑pr] w fun e w'=>e= .returned ↑x∧iV W w' pr s'∧aK (fun g=>g=pr) w w':=by
 have:=Ti h;rw [he]at this;exact this
theorem Ge (h:iV W w pr s) (he:s.num 1=(x,s')):
 Calls Tryz.prog 81 #[.pointer ↑pr] w fun e w'=>e= .returned ↑x∧iV W w' pr s'∧aK (fun g=>g=pr) w w':=by
 have:=Tj h;rw [he]at this;exact this
theorem lV (h:rV W w pr s) (he:s.long=(x,s')):
 Calls Tryz.prog 96 #[.pointer ↑pr] w fun e w'=>e= .returned ↑x∧rV W w' pr s'∧aK (fun g=>g=pr) w w':=by
 have:=arD h;rw [he]at this;exact this
theorem k8 (h:rV W w pr s) (he:s.num 1=(x,s')):
 Calls Tryz.prog 97 #[.pointer ↑pr] w fun e w'=>e= .returned ↑x∧rV W w' pr s'∧aK (fun g=>g=pr) w w':=by
 have:=arE h;rw [he]at this;exact this
theorem Uv {s s1 s2 D A B C o9:bH} {q i d p t c n:Int} (h1:s.long=(q,s1)) (h2:s1.num 1=(i,s2)) (h3:s2.num 1=(d,D)) (h4:D.long=(p,A)) (h5:A.long=(t,B)) (h6:B.long=(c,C)) (h7:C.num 1=(n,o9)):
 AK s=(⟨q,i,d,p,t,c,n==1⟩,n,o9):=by
 unfold AK;simp only [h1,h2,h3,h4,h5,h6,h7]
def Co (m:aF) (n:Int) (s:bH):Option aF:=if(s.bad=true∨s.bs≠ [])∨1<n∨¬(m.side=1∨m.side=2)then none else some m
theorem Uw {b:List Int} {m:aF} {n:Int} {s:bH} (h:AK ⟨b,false⟩=(m,n,s)):pg b=Co m n s:=by unfold pg Co;rw [h]
def Cp (o:Option aF):Value:= .tuple #[.agg (o.getD DU).cells.toArray,.int .i64 (if o.isSome=true then 0 else 12)]
theorem Po {s:bH}:zx s=0↔¬(s.bad=true∨s.bs≠ []):=by
 unfold zx;by_cases h1:s.bad=true
 ·simp [h1]
 by_cases h2:s.bs= []
 ·simp [h1,h2]
 simp [h1,h2]
theorem DV {w:World} {v:Value} {b:List Int} (h:cZ.eT w v b) (hl:b.length<=900000) (hok:∀z∈b,isByte z):
 Calls Tryz.prog 35 #[v] w fun e w'=>e= .returned (Cp (pg b))∧Below ↑w w w':=by
 obtain⟨q,s1,h1⟩:∃q s1,(⟨b,false⟩:bH).long=(q,s1):=⟨_,_,rfl⟩;obtain⟨i,s2,h2⟩:∃q t,s1.num 1=(q,t):=⟨_,_,rfl⟩;obtain⟨d,kT,h3⟩:∃q t,s2.num 1=(q,t):=⟨_,_,rfl⟩;obtain⟨p,Cn,h4⟩:∃q t,kT.long=(q,t):=⟨_,_,rfl⟩;obtain⟨t,Mk,h5⟩:∃q t,Cn.long=(q,t):=⟨_,_,rfl⟩;obtain⟨c,Ml,h6⟩:∃q t,Mk.long=(q,t):=⟨_,_,rfl⟩;obtain⟨n,o9,h7⟩:∃q t,Ml.num 1=(q,t):=⟨_,_,rfl⟩;rw [Uw (Uv h1 h2 h3 h4 h5 h6 h7)];obtain⟨A,hfl⟩:=ai (n==1);rw [hfl];have H1:=af h1;have H2:=af h2;have H3:=af h3;have H4:=af h4;have H5:=af h5;have IK:=af h6;have s6:=af h7;clear h1 h2 h3 h4 h5 h6 h7;have K:=af (Below.aI w (.cells DU.cells.toArray 86));have R:Ei (av (w.alloc (.cells DU.cells.toArray 86)) ↑w 86 DU.cells.toArray):=af (av.new _ _ _);have l:=af (Ux (h.below K.o) hl hok);clear h hl hok;unfold DU aF.cells at K R l;dsimp only at K R l;go_enter Tryz.func35,Tryz.ntmps35;go_wp2_with fail;refine l.o.mono ?_;rintro e w1 ⟨pr,rfl,hr⟩;obtain⟨g,hg⟩:=ai w.heap.size;have hne:g≠pr:=by have:=hr.base;have:=R.o.lt;omega
 have O:av w1 g 86 #[↑(),↑(),↑(),↑(),↑(),↑(),.bool false]:=by rw [<-hg];exact R.o.below hr.aJ
 have hb1:Below ↑w w w1:=K.o.trans (hr.aJ.mono K.o.size);rw [hg]at⊢;have Uy:=af O;have R0:=af hr;have u:=af hb1;have Uz:=af hne;have Y:=af hg;have eI:Ei (w.heap.size<=_):=af K.o.size;have dO:=K;clear hr hne O hb1 hg l R K;generalize w.alloc _=jJ at*;go_wp2_with fail;refine(Cm R0.o H1.o).mono ?_;rintro e w2 ⟨rfl,hr,hk⟩;have IL:=af hr;have DW:=af hk;clear hr hk;go_wp2_with fail;refine(Ge IL.o H2.o).mono ?_;rintro e w3 ⟨rfl,hr,hk⟩;have IM:=af hr;have DX:=af (DW.o.trans hk);clear hr hk IL DW;go_wp2_with fail;refine(Ge IM.o H3.o).mono ?_;rintro e az ⟨rfl,hr,hk⟩;have wW:=af hr;have ol:=af (DX.o.trans hk);clear hr hk IM DX;go_wp2_with fail;refine(Cm wW.o H4.o).mono ?_;rintro e aA ⟨rfl,hr,hk⟩;have vA:=af hr;have rD:=af (ol.o.trans hk);clear hr hk wW ol;go_wp2_with fail;refine(Cm vA.o H5.o).mono ?_;rintro e aN ⟨rfl,hr,hk⟩;have zz:=af hr;have AL:=af (rD.o.trans hk);clear hr hk vA rD;go_wp2_with fail;refine(Cm zz.o IK.o).mono ?_;rintro e N ⟨rfl,hr,hk⟩;have j:=af hr;have r:=af (AL.o.trans hk);clear hr hk zz AL;go_upto_region 3 with(fail);have O:=Uy.o.keeps r.o Uz.o;have hba:=Below.aI N (.cells #[↑q,↑i,↑d,↑p,↑t,↑c,.bool false] 86);have m:av (N.alloc (.cells #[↑q,↑i,↑d,↑p,↑t,↑c,.bool false] 86)) ↑N 86 #[↑q,↑i,↑d,↑p,↑t,↑c,.bool false]:=av.new _ _ _;have S:Below ↑w w N:=u.o.trans ((r.o.below (B:=w.heap.size) (fun k hk=>by have hk':k=pr:=hk;rw [hk'];exact Nat.le_trans eI.o R0.o.base) u.o.size));obtain⟨ay,dL⟩:=ai N.heap.size;have Gf:=af (j.o.below hba);have UA:=af (O.below hba);have rE:=af (S.trans (hba.mono S.size));have fQ:Ei (ay≠pr):=af (by obtain⟨a,c,h,_⟩:=j.o.box;have:=h.lt;omega);have zo:Ei (ay≠g):=af (by have:=O.lt;omega);have f:Ei (jJ.heap.size<=ay):=af (by have:=j.o.aJ.size;omega);have jT:Ei (w.heap.size<=ay):=af (by have:=S.size;omega);rw [dL]at m⊢;have UB:=af m;clear O hba m S dL j r Uy u;generalize N.alloc _=vC at*;go_wp2_with fail;refine(Ge Gf.o s6.o).mono ?_;rintro e bZ ⟨rfl,hr,hk⟩;have P:=UB.o.keeps hk fQ.o;have Cr:=UA.o.keeps hk Uz.o;have mH:=rE.o.trans (hk.below (B:=w.heap.size) (fun k hk=>by have hk':k=pr:=hk;rw [hk'];exact Nat.le_trans eI.o R0.o.base) rE.o.size);have x:=af (hr.keep (ct bZ ay 6 ↑A) (Ne.symm fQ.o) (fun b ht e=>ht.ne P.aE b9 e) (fun k hk=>by have hk':k=ay:=hk;rw [hk'];exact f.o));have y:=P.aW 6 ↑A;simp only [List.setIfInBounds_toArray,List.set_cons_zero,List.set_cons_succ]at y;have DY:=af y;have L:=af (Cr.cC (p:=⟨ay,6,none⟩) (Ne.symm zo.o) ↑A);have E:=af (mH.setCell (p:=⟨ay,6,none⟩) jT.o ↑A);have TC:bZ.frozen? ↑(ay,6)=false:=P.frozen 6;have TD:=P.Ji;clear hr hk P y Cr mH Gf UB UA rE;go_upto_region 5 with(fail);clear TC TD hfl;generalize bZ.setCell ⟨ay,6,none⟩ ↑A=D at*;obtain⟨m0,m1,m2,U,W,V,T⟩:=DY.o.e4;obtain⟨l0,l1,l2,l3,l4,X,Q⟩:=L.o.e4;have fz:∀o,D.frozen? ⟨g,o,none⟩=false:=fun o=>L.o.frozen o;have C:=af (UC x.o);have M:=Po (s:=o9);by_cases e0:zx o9=0
 ·have hnb:=M.1 e0;rw [e0]at C;by_cases e1:1<n
  ·have F:Ei (Co ⟨q,i,d,p,t,c,A⟩ n o9=none):=af (if_pos (.inr (.inl e1)));clear e0 hnb;clear M;go_wp2_with fail;refine C.o.mono ?_;rintro e Z ⟨rfl,rfl⟩;clear C;go_wp2_with fail;clear fz l0 l1 l2 l3 l4 X Q m0 m1 m2 U W V T;have hz:=L.o.xZ ↑() ↑() ↑() ↑() ↑() ↑() (.bool false);have hbz:=E.o.trans ((aK.xZ D g ↑() ↑() ↑() ↑() ↑() ↑() (.bool false)).below (B:=w.heap.size) (fun k hk=>by have hk2:k=g:=hk;rw [hk2];exact Nat.le_of_eq Y.o) E.o.size);generalize (((((((D.setCell ↑g ↑()).setCell ⟨g,1,none⟩ ↑()).setCell ⟨g,2,none⟩ ↑()).setCell ⟨g,3,none⟩ ↑()).setCell ⟨g,4,none⟩ ↑()).setCell ⟨g,5,none⟩ ↑()).setCell ⟨g,6,none⟩ (.bool false))=ax at*;obtain⟨k0,k1,k2,G,I,J,H⟩:=hz.e4;refine bodyPost_ret (v:= .tuple #[.agg #[↑(),↑(),↑(),↑(),↑(),↑(),.bool false],.int .i64 12]) (by simp [results,Tryz.results35,go_sem,k0,k1,k2,G,I,J,H]) rfl ⟨by rw [F.o];rfl,hbz⟩
  by_cases e2:d=1
  ·have F:Ei (Co ⟨q,i,d,p,t,c,A⟩ n o9=some ⟨q,i,d,p,t,c,A⟩):=af (if_neg (by rintro(h|h|h);exact hnb h;exact e1 h;exact h (.inl e2)));have xJ:(d !=1)=false:=by rw [e2];rfl
   clear e0 hnb e2;clear M;go_wp2_with fail;refine C.o.mono ?_;rintro e Z ⟨rfl,rfl⟩;clear C;go_wp2_with fail;clear fz l0 l1 l2 l3 l4 X Q m0 m1 m2 U W V T;have hz:=L.o.xZ ↑q ↑i ↑d ↑p ↑t ↑c ↑A;have hbz:=E.o.trans ((aK.xZ D g ↑q ↑i ↑d ↑p ↑t ↑c ↑A).below (B:=w.heap.size) (fun k hk=>by have hk2:k=g:=hk;rw [hk2];exact Nat.le_of_eq Y.o) E.o.size);generalize (((((((D.setCell ↑g ↑q).setCell ⟨g,1,none⟩ ↑i).setCell ⟨g,2,none⟩ ↑d).setCell ⟨g,3,none⟩ ↑p).setCell ⟨g,4,none⟩ ↑t).setCell ⟨g,5,none⟩ ↑c).setCell ⟨g,6,none⟩ ↑A)=ax at*;obtain⟨k0,k1,k2,G,I,J,H⟩:=hz.e4;refine bodyPost_ret (v:= .tuple #[.agg #[↑q,↑i,↑d,↑p,↑t,↑c,↑A],↑()]) (by simp [results,Tryz.results35,go_sem,k0,k1,k2,G,I,J,H]) rfl ⟨by rw [F.o];rfl,hbz⟩
  have xJ:(d !=1)=true:=by simpa using e2
  by_cases bJ:d=2
  ·have F:Ei (Co ⟨q,i,d,p,t,c,A⟩ n o9=some ⟨q,i,d,p,t,c,A⟩):=af (if_neg (by rintro(h|h|h);exact hnb h;exact e1 h;exact h (.inr bJ)));have xK:(d !=2)=false:=by rw [bJ];rfl
   clear e0 hnb e2 bJ;clear M;go_wp2_with fail;refine C.o.mono ?_;rintro e Z ⟨rfl,rfl⟩;clear C;go_wp2_with fail;clear fz l0 l1 l2 l3 l4 X Q m0 m1 m2 U W V T;have hz:=L.o.xZ ↑q ↑i ↑d ↑p ↑t ↑c ↑A;have hbz:=E.o.trans ((aK.xZ D g ↑q ↑i ↑d ↑p ↑t ↑c ↑A).below (B:=w.heap.size) (fun k hk=>by have hk2:k=g:=hk;rw [hk2];exact Nat.le_of_eq Y.o) E.o.size);generalize (((((((D.setCell ↑g ↑q).setCell ⟨g,1,none⟩ ↑i).setCell ⟨g,2,none⟩ ↑d).setCell ⟨g,3,none⟩ ↑p).setCell ⟨g,4,none⟩ ↑t).setCell ⟨g,5,none⟩ ↑c).setCell ⟨g,6,none⟩ ↑A)=ax at*;obtain⟨k0,k1,k2,G,I,J,H⟩:=hz.e4;refine bodyPost_ret (v:= .tuple #[.agg #[↑q,↑i,↑d,↑p,↑t,↑c,↑A],↑()]) (by simp [results,Tryz.results35,go_sem,k0,k1,k2,G,I,J,H]) rfl ⟨by rw [F.o];rfl,hbz⟩
  have xK:(d !=2)=true:=by simpa using bJ
  have F:Ei (Co ⟨q,i,d,p,t,c,A⟩ n o9=none):=af (if_pos (.inr (.inr (by rintro(h|h);exact e2 h;exact bJ h))));clear e0 hnb e2 bJ;clear M;go_wp2_with fail;refine C.o.mono ?_;rintro e Z ⟨rfl,rfl⟩;clear C;go_wp2_with fail;clear fz l0 l1 l2 l3 l4 X Q m0 m1 m2 U W V T;have hz:=L.o.xZ ↑() ↑() ↑() ↑() ↑() ↑() (.bool false);have hbz:=E.o.trans ((aK.xZ D g ↑() ↑() ↑() ↑() ↑() ↑() (.bool false)).below (B:=w.heap.size) (fun k hk=>by have hk2:k=g:=hk;rw [hk2];exact Nat.le_of_eq Y.o) E.o.size);generalize (((((((D.setCell ↑g ↑()).setCell ⟨g,1,none⟩ ↑()).setCell ⟨g,2,none⟩ ↑()).setCell ⟨g,3,none⟩ ↑()).setCell ⟨g,4,none⟩ ↑()).setCell ⟨g,5,none⟩ ↑()).setCell ⟨g,6,none⟩ (.bool false))=ax at*;obtain⟨k0,k1,k2,G,I,J,H⟩:=hz.e4;refine bodyPost_ret (v:= .tuple #[.agg #[↑(),↑(),↑(),↑(),↑(),↑(),.bool false],.int .i64 12]) (by simp [results,Tryz.results35,go_sem,k0,k1,k2,G,I,J,H]) rfl ⟨by rw [F.o];rfl,hbz⟩
 have F:Ei (Co ⟨q,i,d,p,t,c,A⟩ n o9=none):=af (if_pos (.inl (Decidable.not_not.1 fun h=>e0 (M.2 h))));have alU:(zx o9 !=0)=true:=by simpa using e0
 generalize zx o9=ev at*;clear e0;clear M;go_wp2_with fail;refine C.o.mono ?_;rintro e Z ⟨rfl,rfl⟩;clear C;go_wp2_with fail;clear fz l0 l1 l2 l3 l4 X Q m0 m1 m2 U W V T;have hz:=L.o.xZ ↑() ↑() ↑() ↑() ↑() ↑() (.bool false);have hbz:=E.o.trans ((aK.xZ D g ↑() ↑() ↑() ↑() ↑() ↑() (.bool false)).below (B:=w.heap.size) (fun k hk=>by have hk2:k=g:=hk;rw [hk2];exact Nat.le_of_eq Y.o) E.o.size);generalize (((((((D.setCell ↑g ↑()).setCell ⟨g,1,none⟩ ↑()).setCell ⟨g,2,none⟩ ↑()).setCell ⟨g,3,none⟩ ↑()).setCell ⟨g,4,none⟩ ↑()).setCell ⟨g,5,none⟩ ↑()).setCell ⟨g,6,none⟩ (.bool false))=ax at*;obtain⟨k0,k1,k2,G,I,J,H⟩:=hz.e4;refine bodyPost_ret (v:= .tuple #[.agg #[↑(),↑(),↑(),↑(),↑(),↑(),.bool false],.int .i64 12]) (by simp [results,Tryz.results35,go_sem,k0,k1,k2,G,I,J,H]) rfl ⟨by rw [F.o];rfl,hbz⟩
end
def n6 (n:Nat) (m:aF):Int:=if m.inst<0∨(n:Int)<=m.inst then 20 else if¬(m.side=1∨m.side=2)then 21 else if m.aq<0∨m.count<0∨¬(m.aq=0↔m.count=0)then 24 else 0
theorem Mg {n:Nat} {m:aF}:n6 n m=0↔zQ n m=true:=by
 unfold n6;rw [IA];constructor
 ·intro h;split at h
  ·cases h
  split at h
  ·cases h
  split at h
  ·cases h
  rename_i h1 h2 h3;have A:=Decidable.not_not.1 h2;have a1:¬m.inst<0:=fun x=>h1 (.inl x);have a2:¬(n:Int)<=m.inst:=fun x=>h1 (.inr x);have a3:¬m.aq<0:=fun x=>h3 (.inl x);have a4:¬m.count<0:=fun x=>h3 (.inr (.inl x));exact⟨bh,bh,A,bh,bh,Decidable.not_not.1 fun x=>h3 (.inr (.inr x))⟩
 intro h;rw [if_neg (by rintro(x|x);have:=h.i0;omega;have:=h.i1;omega),if_neg (fun x=>x h.sd),if_neg (by rintro(x|x|x);have:=h.q0;omega;have:=h.c0;omega;exact x h.xh)]
theorem xQ (n:Nat) (m:aF) (w:World):
 Calls Tryz.prog 36 #[↑n,m.agg] w fun e w'=>e= .returned (.int .i64 (n6 n m))∧Below ↑w w w':=by
 unfold aF.agg;have E:Ei (n6 n m=if m.inst<0∨(n:Int)<=m.inst then 20 else if¬(m.side=1∨m.side=2)then 21 else if m.aq<0∨m.count<0∨¬(m.aq=0↔m.count=0)then 24 else 0):=af rfl;rw [E.o];have A:=af (Below.aI w (.cells #[↑m.seq,↑m.inst,↑m.side,↑m.ap,↑m.aq,↑m.count,↑m.imp] 86));clear E;obtain⟨q,i,d,p,t,c,f⟩:=m;dsimp only at*;by_cases h1:i<0
 ·rw [if_pos (.inl h1)];go_enter Tryz.func36,Tryz.ntmps36;go_wp2_with fail;go_ret;exact⟨cF,A.o⟩
 by_cases h2:(n:Int)<=i
 ·rw [if_pos (.inr h2)];go_enter Tryz.func36,Tryz.ntmps36;go_wp2_with fail;go_ret;exact⟨cF,A.o⟩
 rw [if_neg (by rintro(x|x);exact h1 x;exact h2 x)];by_cases h3:d=1
 ·rw [if_neg (fun x=>x (.inl h3))];subst h3;by_cases h5:t<0
  ·rw [if_pos (.inl h5)];go_enter Tryz.func36,Tryz.ntmps36;go_wp2_with fail;go_ret;exact⟨cF,A.o⟩
  by_cases h6:c<0
  ·rw [if_pos (.inr (.inl h6))];go_enter Tryz.func36,Tryz.ntmps36;go_wp2_with fail;go_ret;exact⟨cF,A.o⟩
  by_cases h7:t=0
  ·have D:(t==0)=true:=by rw [h7];rfl
   by_cases h8:c=0
   ·have B:(c==0)=true:=by rw [h8];rfl
    rw [if_neg (by rintro(x|x|x);exact h5 x;exact h6 x;exact x (by simp [h7,h8]))];clear h7 h8;go_enter Tryz.func36,Tryz.ntmps36;go_wp2_with fail;go_ret;exact⟨cF,A.o⟩
   have B:(c==0)=false:=by rw [beq_eq_false_iff_ne];exact h8
   rw [if_pos (.inr (.inr (by rw [h7];intro y;exact h8 (y.1 rfl))))];clear h7 h8;go_enter Tryz.func36,Tryz.ntmps36;go_wp2_with fail;go_ret;exact⟨cF,A.o⟩
  have D:(t==0)=false:=by rw [beq_eq_false_iff_ne];exact h7
  by_cases h8:c=0
  ·have B:(c==0)=true:=by rw [h8];rfl
   rw [if_pos (.inr (.inr (by rw [h8];intro y;exact h7 (y.2 rfl))))];clear h7 h8;go_enter Tryz.func36,Tryz.ntmps36;go_wp2_with fail;go_ret;exact⟨cF,A.o⟩
  have B:(c==0)=false:=by rw [beq_eq_false_iff_ne];exact h8
  rw [if_neg (by rintro(x|x|x);exact h5 x;exact h6 x;exact x (by constructor<;>intro y;exact absurd y h7;exact absurd y h8))];clear h7 h8;go_enter Tryz.func36,Tryz.ntmps36;go_wp2_with fail;go_ret;exact⟨cF,A.o⟩
 have C:(d !=1)=true:=by simpa using h3
 by_cases h4:d=2
 ·rw [if_neg (fun x=>x (.inr h4))];subst h4;clear h3 C;by_cases h5:t<0
  ·rw [if_pos (.inl h5)];go_enter Tryz.func36,Tryz.ntmps36;go_wp2_with fail;go_ret;exact⟨cF,A.o⟩
  by_cases h6:c<0
  ·rw [if_pos (.inr (.inl h6))];go_enter Tryz.func36,Tryz.ntmps36;go_wp2_with fail;go_ret;exact⟨cF,A.o⟩
  by_cases h7:t=0
  ·have D:(t==0)=true:=by rw [h7];rfl
   by_cases h8:c=0
   ·have B:(c==0)=true:=by rw [h8];rfl
    rw [if_neg (by rintro(x|x|x);exact h5 x;exact h6 x;exact x (by simp [h7,h8]))];clear h7 h8;go_enter Tryz.func36,Tryz.ntmps36;go_wp2_with fail;go_ret;exact⟨cF,A.o⟩
   have B:(c==0)=false:=by rw [beq_eq_false_iff_ne];exact h8
   rw [if_pos (.inr (.inr (by rw [h7];intro y;exact h8 (y.1 rfl))))];clear h7 h8;go_enter Tryz.func36,Tryz.ntmps36;go_wp2_with fail;go_ret;exact⟨cF,A.o⟩
  have D:(t==0)=false:=by rw [beq_eq_false_iff_ne];exact h7
  by_cases h8:c=0
  ·have B:(c==0)=true:=by rw [h8];rfl
   rw [if_pos (.inr (.inr (by rw [h8];intro y;exact h7 (y.2 rfl))))];clear h7 h8;go_enter Tryz.func36,Tryz.ntmps36;go_wp2_with fail;go_ret;exact⟨cF,A.o⟩
  have B:(c==0)=false:=by rw [beq_eq_false_iff_ne];exact h8
  rw [if_neg (by rintro(x|x|x);exact h5 x;exact h6 x;exact x (by constructor<;>intro y;exact absurd y h7;exact absurd y h8))];clear h7 h8;go_enter Tryz.func36,Tryz.ntmps36;go_wp2_with fail;go_ret;exact⟨cF,A.o⟩
 have F:(d !=2)=true:=by simpa using h4
 rw [if_pos (by rintro(x|x);exact h3 x;exact h4 x)];clear h3 h4;go_enter Tryz.func36,Tryz.ntmps36;go_wp2_with fail;go_ret;exact⟨cF,A.o⟩
theorem P0 {w:World} {B:Nat} {v:Value} {V:bG} (h:cg ey bS w B v V) (hl:V.length<=255) {K:Nat} (hK:fX V K) (n5:K<=800000) {q p t c:Int} {i s:Nat} (hi:i<V.length) (hs:s<2) (iH:n6 V.length ⟨q,i,(s:Int)+1,p,t,c,false⟩=0) {x0:aX×aX} (hx0:V[i]? =some x0) (n7:kF ((s:Int)+1) (c9 x0 s).lv) (tZ:(c9 x0 s).lv.findIdx? (fun y=>y.ap==p)=none) (ko:¬0<t):
 Calls Tryz.prog 83 #[.agg #[v],.agg #[↑q,↑i,↑((s:Int)+1),↑p,↑t,↑c,.bool false]] w fun e w'=>∃v',e= .returned (.tuple #[.agg #[v'],↑()])∧cg ey bS w' ↑w v' (gm ⟨q,i,(s:Int)+1,p,t,c,false⟩ V)∧Below ↑w w w':=by
 obtain⟨a,aY,rfl⟩:=h.form;obtain⟨im,T⟩:=ai false;have hz1:(w.alloc (.cells #[.slice a V.length aY] 43)).heap.size=w.heap.size+1:=cU;have eg:((w.alloc (.cells #[.slice a V.length aY] 43)).alloc (.cells #[↑q,↑i,↑((s:Int)+1),↑p,↑t,↑c,↑im] 86)).heap.size=w.heap.size+1+1:=cU;have hb1:=Below.aI w (.cells #[.slice a V.length aY] 43);have hb2:=hb1.trans ((Below.aI (w.alloc (.cells #[.slice a V.length aY] 43)) (.cells #[↑q,↑i,↑((s:Int)+1),↑p,↑t,↑c,↑im] 86)).mono hb1.size);have hb3:=hb2.trans ((Below.aI ((w.alloc (.cells #[.slice a V.length aY] 43)).alloc (.cells #[↑q,↑i,↑((s:Int)+1),↑p,↑t,↑c,↑im] 86)) (.cells #[.slice none 0 0] 43)).mono hb2.size);have S:av (((w.alloc (.cells #[.slice a V.length aY] 43)).alloc (.cells #[↑q,↑i,↑((s:Int)+1),↑p,↑t,↑c,↑im] 86)).alloc (.cells #[.slice none 0 0] 43)) ↑w 43 #[.slice a V.length aY]:=((av.new w _ _).alloc _).alloc _;have U:av (((w.alloc (.cells #[.slice a V.length aY] 43)).alloc (.cells #[↑q,↑i,↑((s:Int)+1),↑p,↑t,↑c,↑im] 86)).alloc (.cells #[.slice none 0 0] 43)) (w.heap.size+1) 86 #[↑q,↑i,↑((s:Int)+1),↑p,↑t,↑c,↑im]:=by have:=(av.new (w.alloc (.cells #[.slice a V.length aY] 43)) 86 #[↑q,↑i,↑((s:Int)+1),↑p,↑t,↑c,↑im]).alloc (.cells #[.slice none 0 0] 43);rwa [hz1]at this
 have b:av (((w.alloc (.cells #[.slice a V.length aY] 43)).alloc (.cells #[↑q,↑i,↑((s:Int)+1),↑p,↑t,↑c,↑im] 86)).alloc (.cells #[.slice none 0 0] 43)) (w.heap.size+1+1) 43 #[.slice none 0 0]:=by have:=av.new ((w.alloc (.cells #[.slice a V.length aY] 43)).alloc (.cells #[↑q,↑i,↑((s:Int)+1),↑p,↑t,↑c,↑im] 86)) 43 #[.slice none 0 0];rwa [eg]at this
 have Z:=xQ V.length ⟨q,i,(s:Int)+1,p,t,c,im⟩ (((w.alloc (.cells #[.slice a V.length aY] 43)).alloc (.cells #[↑q,↑i,↑((s:Int)+1),↑p,↑t,↑c,↑im] 86)).alloc (.cells #[.slice none 0 0] 43));rw [T]at iH;rw [iH]at Z;unfold aF.agg at Z;dsimp only at Z;have Y:=af (h.below hb3);have lg:=af hK;obtain⟨x,hx⟩:=GB V i hi;have J:=af hx;have k:=af T;have bg:=af Z;have H:=af hb3;have G:=af S;have N:=af U;have R:=af b;rw [T];have jU:=af hx0;have ua:=af n7;have kG:=af tZ;have uk:=af ko;clear ko;clear hx0 n7 tZ h hK hx T hz1 eg hb1 hb2 hb3 S U b Z iH;go_enter Tryz.func83,Tryz.ntmps83;go_upto_region 1 with(fail);obtain⟨w1,hw1⟩:=ai (((w.alloc (.cells #[.slice a V.length aY] 43)).alloc (.cells #[↑q,↑i,↑((s:Int)+1),↑p,↑t,↑c,↑im] 86)).alloc (.cells #[.slice none 0 0] 43));obtain⟨aM,S⟩:=ai w.heap.size;obtain⟨ay,U⟩:=ai (w.heap.size+1);obtain⟨gr,b⟩:=ai (w.heap.size+1+1);rw [hw1]at Y H G N R bg⊢;rw [b]at R⊢;rw [U]at N⊢;rw [S]at G⊢;have fQ:Ei (aM≠gr):=af bh;have zo:Ei (ay≠gr):=af bh;have iO:Ei (aM≠ay):=af bh;have jT:Ei (w.heap.size<=aM):=af bh;have wR:Ei (w.heap.size<=gr):=af bh;clear hw1 S U b;have b0:=G.o.GC;obtain⟨m0,m1,m2,eN,z,eY,W⟩:=N.o.e4;go_wp2_with fail;refine bg.o.mono ?_;rintro e w2 ⟨rfl,hb⟩;replace G:=af (G.o.below hb);replace N:=af (N.o.below hb);replace R:=af (R.o.below hb);replace Y:=af (Y.o.below hb);replace H:=ag H hb;clear hb bg b0 m0 m1 m2 eN z eY W;have b0:=G.o.GC;go_wp2_with fail;refine(Dz Y.o hl lg.o bh).mono ?_;rintro e w3 ⟨v',rfl,⟨P,hP,gK,g8,rf⟩,hb⟩;obtain⟨A,iP⟩:=GB P i bh;obtain⟨go,cap,he,_,_⟩:=hP.at_ i A iP;rw [gK]at he;subst he;have M:=G.o.below hb;have aP:=H.o.trans (hb.mono H.o.size);have hst:=ct w3 aM 0 (.slice ↑go V.length cap);have hW:w.heap.size<=w2.heap.size:=H.o.size;have dx:=af ((hP.base hW).cC M.aE b9 0 (.slice ↑go V.length cap));have r:Ei (∀(j:Nat) (p:bB) (x:aX×aX),P[j]? =some p->V[j]? =some x->bV bS (w3.setCell ↑aM (.slice ↑go V.length cap)) ↑w p.s x.1∧bV bS (w3.setCell ↑aM (.slice ↑go V.length cap)) ↑w p.t x.2):=af fun j p x hp hx=>⟨((g8 j p x hp hx).1.base hW).cC M.aE b9 0 _,((g8 j p x hp hx).2.base hW).cC M.aE b9 0 _⟩;have gq:=af gK;have lO:=af rf;have E:=af iP;have eV:=af ((N.o.below hb).cC (p:=⟨aM,0,none⟩) (Ne.symm iO.o) (.slice ↑go V.length cap));have ri:=af ((R.o.below hb).cC (p:=⟨aM,0,none⟩) (Ne.symm fQ.o) (.slice ↑go V.length cap));have ny:Ei (av (w3.setCell ↑aM (.slice ↑go V.length cap)) aM 43 #[.slice ↑go V.length cap]):=af (M.aW 0 _);have m:=af (aP.setCell (p:=⟨aM,0,none⟩) jT.o (.slice ↑go V.length cap));have b3:=M.GC;have vo:w3.frozen? ↑aM=false:=M.frozen 0;clear hP gK g8 rf iP M aP hst hW hb b0 G N R Y H;go_upto_region 5 with(fail);clear b3 vo;generalize w3.setCell ↑aM (.slice ↑go V.length cap)=I at*;have b4:=ny.o.GC;obtain⟨m0,m1,m2,eN,z,eY,W⟩:=eV.o.e4;have y1:IntKind.i64.wrap ((s:Int)+1-1)=(s:Int):=by rw [IntWalk.i64_in _ bh];omega
 have fI:(s:Int)+1-1=(s:Int):=bh;have hi2:(i:Int)<(V.length:Int):=bh;have fD:(s:Int)<2:=bh;go_quiet (fail);have D:=(Below.bO I nq).trans ((Below.aI (I.drewN nq) (.cells #[↑p,↑t,↑c] 47)).mono (Nat.le_refl _));obtain⟨aH,X⟩:=ai I.heap.size;have rj:sS w ((I.drewN nq).alloc (.cells #[↑p,↑t,↑c] 47)) aM ay gr aH go cap V P q p t c i s im:=by refine⟨ny.o.below D,eV.o.below D,ri.o.below D,?_,dx.o.below D,fun j p x hp hx=>⟨(r.o j p x hp hx).1.below D,(r.o j p x hp hx).2.below D⟩,m.o.trans (D.mono m.o.size)⟩;rw [<-X];exact av.new (I.drewN nq) _ _
 have O:=af rj;have DA:Ei (∀g,(A.sh s).own=some g->g<aH):=af (by
  intro g hg;have hh:=r.o i A x E.o J.o;rw [<-X];unfold bB.sh at hg;split at hg
  ·exact ki hh.1.row g hg
  exact ki hh.2.row g hg)
 have Au:Ei (w.heap.size<=aH):=af (by rw [<-X];exact m.o.size);have tY:(I.drewN nq).heap.size=aH:=X;go_upto_region 7 with(fail);clear rj D X tY ny eV ri dx r m b4 m0 m1 m2 eN z eY W y1 fI;generalize (I.drewN nq).alloc (.cells #[↑p,↑t,↑c] 47)=aA at*;have T:=k.o;subst T;clear k;obtain rfl:x=x0:=by have h1:=J.o;have h2:=jU.o;rw [h1]at h2;injection h2
 have W:=O.o.bm.Ji;have Q:=O.o.oZ E.o J.o;obtain⟨L,hL⟩:=ai ((c9 x s).lv);have ud:L.length<=K:=by
  have:=lg.o x (List.mem_of_getElem? J.o);rw [<-hL];unfold c9;split
  ·exact this.1
  exact this.2
 obtain⟨sn,qC⟩:=ai ((A.sh s).n);obtain⟨sa,hsa⟩:=ai ((A.sh s).a);obtain⟨sc,hsc⟩:=ai ((A.sh s).c);have hown:(A.sh s).own=(Value.slice sa L.length sc).ownBlock:=by unfold eO.own;rw [Q.n,hL,hsa,hsc]
 have c0:aA.cell? ↑(go,i*10+s*5)=some (.slice sa L.length sc):=by have:=nB O.o.row E.o hs (f:=0) (u:= .slice (A.sh s).a (A.sh s).n (A.sh s).c) rfl;rw [Q.n,hL,hsa,hsc]at this;exact this
 have hrow:bS.Row aA ↑w (.slice sa L.length sc) L:=by have:=Q.row;rw [Q.n,hL,hsa,hsc]at this;exact this
 have hm:(c9 x s).app ⟨q,i,(s:Int)+1,p,t,c,false⟩=⟨o3 ⟨q,i,(s:Int)+1,p,t,c,false⟩ L,(c9 x s).im,(c9 x s).has⟩:=by unfold aX.app;rw [if_neg cU,hL,F3 (by rw [<-hL];exact ua.o)]
 have r8:=af hm;have k:=af Q.im;have uf:=af Q.has;have zq:=af hown;have cY:=af hrow;have iu:=af hL;have nC:=af ud;have sV:=af hsa;have sW:=af hsc;have pV:=Ir hrow.sl bh ay p O.o.bm.lt (O.o.bm.cell 3);have hidx:n8 (fun y=>y.ap==p) L=(-1:Int):=by unfold n8;rw [<-hL,kG.o]
 rw [hidx]at pV;have ug:=af pV;have hcs:=kG.o;rw [hL]at hcs;have kj:=af hcs;clear Q hL ud qC hsa hsc hown hrow hm jU ua pV hidx hcs kG;go_upto_region 12 with(fail);clear W;go_wp2_with fail;refine ug.o.mono ?_;rintro e l ⟨rfl,hb⟩;have C:=af (O.o.below hb);have pW:=af (cY.o.below hb);clear hb ug cY O c0;have z:=C.o.bm.Jg;have fJ:l.cell? ↑(go,i*10+s*5)=some (.slice sa L.length sc):=by have:=nB C.o.row E.o hs (f:=0) (u:= .slice (A.sh s).a (A.sh s).n (A.sh s).c) rfl;rw [(C.o.oZ E.o J.o).n,iu.o,sV.o,sW.o]at this;exact this
 have Mc:¬(0:Int)<t:=by have:=uk.o;omega
 have uh:o3 ⟨q,i,(s:Int)+1,p,t,c,false⟩ L=L:=by unfold o3;rw [kj.o];dsimp only;rw [if_neg (by have:=uk.o;omega)]
 have vr:=af uh;have lR:Ei ((A.sh s).n=L.length):=af (by rw [(C.o.oZ E.o J.o).n,iu.o]);have Aw:Ei ((c9 x s).app ⟨q,i,(s:Int)+1,p,t,c,false⟩=⟨L,(c9 x s).im,(c9 x s).has⟩):=af (by rw [r8.o,vr.o]);have vp:=af (C.o.done (sh:=A.sh s) (d:=⟨L,(c9 x s).im,(c9 x s).has⟩) (F:=fun _=>False) gq.o lO.o E.o J.o hs (aK.refl _ _) (fun g hg h=>h.elim) (by rw [TY E.o];exact C.o.row) ⟨lR.o,by rw [lR.o,sV.o,sW.o];exact pW.o,k.o,uf.o⟩ C.o.br.aE Aw.o (.slice ↑go V.length cap));have cH:=af (C.o.aJ.setCell (p:=⟨gr,0,none⟩) wR.o (.slice ↑go V.length cap));have vq:Ei (av (l.setCell ↑gr (.slice ↑go V.length cap)) gr 43 #[.slice ↑go V.length cap]):=af (C.o.br.aW 0 _);have v0:=C.o.bv.GC;have cu:=C.o.br.GC;have sU:l.frozen? ↑gr=false:=C.o.br.frozen 0;clear uh;go_wp2_with fail;clear v0 cu sU;generalize l.setCell ↑gr (.slice ↑go V.length cap)=wf at*;have f0:=vq.o.GC;refine bodyPost_ret (v:= .tuple #[.agg #[.slice ↑go V.length cap],↑()]) (by simp [results,Tryz.results83,go_sem,f0]) rfl ⟨_,rfl,vp.o,cH.o⟩
section
variable {W w w':World} {pr:Nat} {s:bH}
theorem iV.aE (h:iV W w pr s):ck w pr 215:=by obtain⟨a,c,hb,_⟩:=h.box;exact hb.aE
theorem iV.lt (h:iV W w pr s):pr<w.heap.size:=h.aE.lt
theorem Dk (h:iV W w pr s):
 Calls Tryz.prog 127 #[.pointer ↑pr] w fun e w'=>e= .returned (mY s).1.agg∧iV W w' pr (mY s).2∧aK (fun g=>g=pr) w w':=by
 obtain⟨p,s1,h1⟩:∃p t,s.long=(p,t):=⟨_,_,rfl⟩;obtain⟨q,s2,h2⟩:∃p t,s1.long=(p,t):=⟨_,_,rfl⟩;obtain⟨c,P,h3⟩:∃p t,s2.long=(p,t):=⟨_,_,rfl⟩;have hv:mY s=(⟨p,q,c⟩,P):=by unfold mY;simp only [h1,h2,h3]
 rw [hv];unfold aB.agg;dsimp only;have hba:=Below.aI w (.cells #[↑(),↑(),↑()] 47);have R0:=af (h.below hba);have F:Ei (av (w.alloc (.cells #[↑(),↑(),↑()] 47)) ↑w 47 #[↑(),↑(),↑()]):=af (av.new _ _ _);have M:Ei (aK (fun g=>g=pr) w (w.alloc (.cells #[↑(),↑(),↑()] 47))):=af (Below.keeps hba);have A:Ei (w.heap.size≠pr):=af (by have:=h.lt;omega);have J:Ei (W.heap.size<=w.heap.size):=af h.aJ.size;have H1:=af h1;have H2:=af h2;have H3:=af h3;have V:Ei (w.heap.size<=w.heap.size):=af (Nat.le_refl _);clear h hba h1 h2 h3 hv;go_enter Tryz.func127,Tryz.ntmps127;go_upto_region 1 with(fail);obtain⟨g,hg⟩:=ai w.heap.size;have Q:=af (Nat.le_of_eq hg);rw [hg]at F A J⊢;clear hg;generalize w.alloc (.cells #[↑(),↑(),↑()] 47)=w1 at*;go_wp2_with fail;refine(Cm R0.o H1.o).mono ?_;rintro e w2 ⟨rfl,hr,hk⟩;have K:=af hr;have B:=af (F.o.keeps hk A.o);have H:=af (M.o.trans hk);clear hr hk F R0 M;go_wp2_with fail;refine(Cm K.o H2.o).mono ?_;rintro e w3 ⟨rfl,hr,hk⟩;have L:=af hr;have C:=af (B.o.keeps hk A.o);have I:=af (H.o.trans hk);clear hr hk B K H;go_wp2_with fail;refine(Cm L.o H3.o).mono ?_;rintro e E ⟨rfl,hr,hk⟩;have U:=af hr;have D:=af (C.o.keeps hk A.o);have R:=af (I.o.trans hk);clear hr hk C L I;obtain⟨l0,l1,l2⟩:=D.o.gQ;have fz:∀o,E.frozen? ⟨g,o,none⟩=false:=fun o=>D.o.frozen o;have G:=aK.vP E g ↑p ↑q ↑c;have N:=af (U.o.keep G (Ne.symm A.o) (fun b ht e=>ht.ne D.o.aE b9 e) (fun k hk=>by have hk2:k=g:=hk;rw [hk2];exact J.o));have T:=af (D.o.vP ↑p ↑q ↑c);have O:Ei (aK (fun g=>g=pr) w (((E.setCell ⟨g,0,none⟩ ↑p).setCell ⟨g,1,none⟩ ↑q).setCell ⟨g,2,none⟩ ↑c)):=af (R.o.step G (fun k hk he=>by have X:k=g:=he;have:=Q.o;omega));clear G;go_wp2_with fail;clear l0 l1 l2 fz;generalize ((E.setCell ↑g ↑p).setCell ⟨g,1,none⟩ ↑q).setCell ⟨g,2,none⟩ ↑c=wf at*;obtain⟨k0,k1,k2⟩:=T.o.gQ;refine bodyPost_ret (v:= .agg #[↑p,↑q,↑c]) (by simp [results,Tryz.results127,go_sem,k0,k1,k2]) rfl ⟨rfl,N.o,O.o⟩
end
section
variable {W w w':World} {pr:Nat} {s:bH}
theorem rV.aE (h:rV W w pr s):ck w pr 176:=by obtain⟨a,c,X,p,hb,_⟩:=h.box;exact hb.aE
theorem rV.lt (h:rV W w pr s):pr<w.heap.size:=h.aE.lt
theorem vF (h:rV W w pr s):
 Calls Tryz.prog 98 #[.pointer ↑pr] w fun e w'=>e= .returned (mY s).1.agg∧rV W w' pr (mY s).2∧aK (fun g=>g=pr) w w':=by
 obtain⟨p,s1,h1⟩:∃p t,s.long=(p,t):=⟨_,_,rfl⟩;obtain⟨q,s2,h2⟩:∃p t,s1.long=(p,t):=⟨_,_,rfl⟩;obtain⟨c,P,h3⟩:∃p t,s2.long=(p,t):=⟨_,_,rfl⟩;have hv:mY s=(⟨p,q,c⟩,P):=by unfold mY;simp only [h1,h2,h3]
 rw [hv];unfold aB.agg;dsimp only;have hba:=Below.aI w (.cells #[↑(),↑(),↑()] 101);have R0:=af (h.below hba);have F:Ei (av (w.alloc (.cells #[↑(),↑(),↑()] 101)) ↑w 101 #[↑(),↑(),↑()]):=af (av.new _ _ _);have M:Ei (aK (fun g=>g=pr) w (w.alloc (.cells #[↑(),↑(),↑()] 101))):=af (Below.keeps hba);have A:Ei (w.heap.size≠pr):=af (by have:=h.lt;omega);have J:Ei (W.heap.size<=w.heap.size):=af h.aJ.size;have H1:=af h1;have H2:=af h2;have H3:=af h3;have V:Ei (w.heap.size<=w.heap.size):=af (Nat.le_refl _);clear h hba h1 h2 h3 hv;go_enter Tryz.func98,Tryz.ntmps98;go_upto_region 1 with(fail);obtain⟨g,hg⟩:=ai w.heap.size;have Q:=af (Nat.le_of_eq hg);rw [hg]at F A J⊢;clear hg;generalize w.alloc (.cells #[↑(),↑(),↑()] 101)=w1 at*;go_wp2_with fail;refine(lV R0.o H1.o).mono ?_;rintro e w2 ⟨rfl,hr,hk⟩;have K:=af hr;have B:=af (F.o.keeps hk A.o);have H:=af (M.o.trans hk);clear hr hk F R0 M;go_wp2_with fail;refine(lV K.o H2.o).mono ?_;rintro e w3 ⟨rfl,hr,hk⟩;have L:=af hr;have C:=af (B.o.keeps hk A.o);have I:=af (H.o.trans hk);clear hr hk B K H;go_wp2_with fail;refine(lV L.o H3.o).mono ?_;rintro e D ⟨rfl,hr,hk⟩;have U:=af hr;have E:=af (C.o.keeps hk A.o);have R:=af (I.o.trans hk);clear hr hk C L I;obtain⟨l0,l1,l2⟩:=E.o.gQ;have fz:∀o,D.frozen? ⟨g,o,none⟩=false:=fun o=>E.o.frozen o;have G:=aK.vP D g ↑p ↑q ↑c;have N:=af (U.o.keep G (Ne.symm A.o) (fun k hk=>by have hk2:k=g:=hk;rw [hk2];exact J.o));have T:=af (E.o.vP ↑p ↑q ↑c);have O:Ei (aK (fun g=>g=pr) w (((D.setCell ⟨g,0,none⟩ ↑p).setCell ⟨g,1,none⟩ ↑q).setCell ⟨g,2,none⟩ ↑c)):=af (R.o.step G (fun k hk he=>by have X:k=g:=he;have:=Q.o;omega));clear G;go_wp2_with fail;clear l0 l1 l2 fz;generalize ((D.setCell ↑g ↑p).setCell ⟨g,1,none⟩ ↑q).setCell ⟨g,2,none⟩ ↑c=wf at*;obtain⟨k0,k1,k2⟩:=T.o.gQ;refine bodyPost_ret (v:= .agg #[↑p,↑q,↑c]) (by simp [results,Tryz.results98,go_sem,k0,k1,k2]) rfl ⟨rfl,N.o,O.o⟩
end
theorem TS {l:List aB} {k:Nat} {x:aB} {q:Int} (h:l[k]? =some x) (hf:fp l q=fp (l.drop k) q):fp l q=if x.ap=q then x else fp (l.drop (k+1)) q:=by obtain⟨h1,h2⟩:=List.getElem?_eq_some_iff.1 h;rw [hf,List.drop_eq_getElem_cons h1,h2,pn]
theorem Vt {w:World} {a:Option Addr} {c:Nat} {L:List aB} (h:bK.eT w (.slice a L.length c) L) (hl:L.length<=1000000) (q:Int):
 Calls Tryz.prog 73 #[.slice a L.length c,↑q] w fun e w'=>e= .returned (.agg #[.int .i64 (fp L q).ap,.int .i64 (fp L q).aq,.int .i64 (fp L q).count])∧Below ↑w w w':=by
 have hba:=Below.aI w (.cells #[↑(),↑(),↑()] 101);have I:=af (h.below hba);have E:=af hba;have D:Ei (av (w.alloc (.cells #[↑(),↑(),↑()] 101)) ↑w 101 #[↑(),↑(),↑()]):=af (av.new _ _ _);obtain⟨n,hn⟩:=ai L.length;rw [hn]at I hl⊢;have HN:=af hn;obtain⟨r,hr⟩:=ai (fp L q);rw [hr];have K:=af hr;clear h hba hn hr;go_enter Tryz.func73,Tryz.ntmps73;go_upto_region 1 with(fail);obtain⟨g,hg⟩:=ai w.heap.size;have M:=af hg;rw [hg]at D⊢;clear hg;generalize w.alloc (.cells _ 101)=w1 at*;have f0:∀o,w1.frozen? ⟨g,o,none⟩=false:=fun o=>D.o.frozen o;obtain⟨c0,c1,c2⟩:=D.o.gQ;go_wp2_with fail;go_loopw [5] (fun i w'=>∃k:Nat,i=↑k∧k<=n∧fp L q=fp (L.drop k) q∧w1=w') (fun i _=>n-(RowKit.intOf i).toNat)
 case atStart=>exact⟨0,rfl,Nat.zero_le _,rfl,rfl⟩
 obtain⟨k,rfl,hk,hf,rfl⟩:=hrel;have J:=af hf;clear hf;by_cases hlt:k<n
 ·have hlt':(k:Int)<(n:Int):=by omega
  obtain⟨x,hx⟩:=GB L k (by rw [HN.o];exact hlt);have F:=af (TS hx J.o);obtain⟨b,off,c',he,_,hc⟩:=I.o.get hx;injection he with he hne N;clear hne;subst he;subst N;obtain⟨x0,x1,C⟩:=x;have d0:w1.cell? ↑(b,off+k*3)=↑x0:=hc 0 _ rfl;have d1:w1.cell? ↑(b,off+k*3+1)=↑x1:=hc 1 _ rfl;have d2:w1.cell? ↑(b,off+k*3+2)=↑C:=hc 2 _ rfl;clear hc hx;by_cases he:x0=q
  ·subst he;have G:Ei (r=⟨x0,x1,C⟩):=af (by rw [<-K.o,F.o,if_pos rfl]);go_wp2_with fail;have A:=D.o.vP ↑x0 ↑x1 ↑C;have H:=E.o.trans ((aK.vP w1 g ↑x0 ↑x1 ↑C).below (B:=w.heap.size) (fun k hk=>by have e:k=g:=hk;rw [e];exact Nat.le_of_eq M.o) E.o.size);have e0:=A.cell 0;have e1:=A.cell 1;have e2:=A.cell 2;refine bodyPost_ret (v:= .agg #[↑x0,↑x1,↑C]) (by simp [results,Tryz.results73,go_sem,e0,e1,e2]) rfl ⟨by rw [G.o],H⟩
  rw [if_neg he]at F;have he':(x0==q)=false:=by rw [beq_eq_false_iff_ne];exact he
  go_wp2_with fail;go_roundw
  case rel=>exact⟨k+1,dR,hlt,F.o,cF⟩
  exact Ej
 have hkn:k=n:=bh;have G:Ei (r=⟨q,0,0⟩):=af (by rw [<-K.o,J.o,hkn,<-HN.o,List.drop_length];rfl);clear hkn;go_wp2_with fail;have A:=D.o.vP ↑q ↑() ↑();have H:=E.o.trans ((aK.vP w1 g ↑q ↑() ↑()).below (B:=w.heap.size) (fun k hk=>by have e:k=g:=hk;rw [e];exact Nat.le_of_eq M.o) E.o.size);have e0:=A.cell 0;have e1:=A.cell 1;have e2:=A.cell 2;refine bodyPost_ret (v:= .agg #[↑q,↑(),↑()]) (by simp [results,Tryz.results73,go_sem,e0,e1,e2]) rfl ⟨by rw [G.o],H⟩
end Go.Proofs.YtmaijkoopjocdaaGreat
