import Derived.Test.YtmaijkoopjocdaaGreatKW41
import Derived.Test.YtmaijkoopjocdaaGreatKW39
set_option maxRecDepth 100000
set_option maxHeartbeats 64000000
namespace Go.Proofs.YtmaijkoopjocdaaGreat
open Go.RowKit Go.Lib
theorem ajs {W w:World} {pv n:Nat} {hv:Value} {s:ig} {cc:Nat} (h:fA W w pv n hv s) (hk:pL n cc s) (oK:cc<=500000) {v:Value} {b:List Int} (hsl:cZ.eT w v b) (hl:b.length<=900000) (hok:∀z∈b,isByte z):
 Calls Tryz.prog 21 #[.pointer ↑pv,v] w fun e w'=>e= .returned (.int .i64 (r4 n s b).1)∧∃dF,fA W w' pv n dF (r4 n s b).2∧aK (wo pv hv) w w'∧∀g,dF.ownBlock=some g->hv.ownBlock=some g∨w.heap.size<=g:=by
 have hdec:=ajt hsl hl hok;obtain⟨M,D,A,hD⟩:∃x y z,ld b=(x,y,z):=⟨_,_,_,rfl⟩;rw [hD]at hdec;obtain⟨G,Q⟩:=ai (r4 n s b);have J:Ei (G=if M≠0 then(M,s)else if D.length≠n∨A<0 then(12,s)else if A<s.seq then(33,s)else(0,jN s.H D A)):=af (by rw [<-Q];unfold r4;rw [hD]);rw [Q];have dI:=af hD;have oy:=af hdec;have H0:=af h;have dJ:=af hk;clear hdec hD h hk hsl hok Q;go_enter Tryz.func21,Tryz.ntmps21;go_wp2_with fail;refine oy.o.mono ?_;rintro e w1 ⟨u,rfl,j,hb⟩;obtain⟨a,c,rfl⟩:=j.form;go_upto_region 2 with(fail);have hba:=Below.aI w1 (.cells #[.slice a D.length c] 43);have d:av (w1.alloc (.cells #[.slice a D.length c] 43)) ↑w1 43 #[.slice a D.length c]:=av.new _ _ _;have e5:=af ((j.below hba).base H0.o.aJ.size);have R:=af (hb.trans (hba.mono hb.size));obtain⟨aL,ju⟩:=ai w1.heap.size;rw [ju]at d⊢;have l:=af d;clear hba d ju j hb oy;generalize w1.alloc (.cells #[.slice a D.length c] 43)=w2 at*;have r:=af (H0.o.below R.o);have N:Ei (∀wx:World,Below ↑w2 w2 wx->fA W wx pv n hv s∧aK (wo pv hv) w wx∧∀g,hv.ownBlock=some g->hv.ownBlock=some g∨w.heap.size<=g):=af fun wx hb=>⟨r.o.below hb,Below.keeps (ag R hb).o,fun g hg=> .inl hg⟩;by_cases hw:M=0
 ·subst hw;have O:=af (wO dI.o);obtain⟨a2,c2,T,_⟩:=r.o.box;have jA:=af T;have k0:=T.GC;have v0:=l.o.GC;clear T;by_cases F:D.length=n
  ·rw [F]at v0 l;by_cases E:A<0
   ·have U:decide (A<0)=true:=decide_eq_true E;have B:Ei (G=(12,s)):=af (by rw [J.o,if_neg (fun h=>h rfl),if_pos (.inr E)]);clear E F;go_upto_region 4 with(fail);go_quiet (fail);have C:=N.o _ (Below.bO w2 nq);go_wp2_with fail;go_ret;exact⟨by rw [B.o];try rfl,_,by rw [B.o];exact C.1,C.2⟩
   have U:decide (A<0)=false:=decide_eq_false E;have k2:=jA.o.Je;by_cases I:A<s.seq
   ·have B:Ei (G=(33,s)):=af (by rw [J.o,if_neg (fun h=>h rfl),if_neg (by rintro(h|h);exact h F;exact E h),if_pos I]);have X:decide (A<s.seq)=true:=decide_eq_true I;clear E F I;go_upto_region 4 with(fail);go_quiet (fail);have C:=N.o _ (Below.bO w2 nq);go_wp2_with fail;go_ret;exact⟨by rw [B.o];try rfl,_,by rw [B.o];exact C.1,C.2⟩
   have B:Ei (G=(0,jN s.H D A)):=af (by rw [J.o,if_neg (fun h=>h rfl),if_neg (by rintro(h|h);exact h F;exact E h),if_neg I]);have X:decide (A<s.seq)=false:=decide_eq_false I;have jR:=af F;have Y:Ei (0<=A):=af bh;clear E F I;go_upto_region 4 with(fail);go_quiet (fail);have hb3:=Below.bO w2 nq;have k:=ag R hb3;have mb:=af (r.o.below hb3);have L:=af (jA.o.below hb3);have K:=af (e5.o.below hb3);have t:=af (l.o.below hb3);clear hb3 k0 v0 k2;have k0:(w2.drewN nq).cell? ↑pv=↑n:=L.o.cell 0;have k2:(w2.drewN nq).cell? ↑(pv,2)=↑s.seq:=L.o.cell 2;have v0:(w2.drewN nq).cell? ↑aL=some (.slice a n c):=t.o.cell 0;have k1:(w2.drewN nq).cell? ↑(pv,1)=some (.slice a2 s.V.length c2):=L.o.cell 1;have vt:∀o,(w2.drewN nq).frozen? ⟨pv,o,none⟩=false:=fun o=>L.o.frozen o;go_upto_region 9 with(fail);have f:=mb.o.Sc K.o;have P:=f.Sb A;rw [jR.o]at P;have q:aK (wo pv hv) w (((w2.drewN nq).setCell ↑(pv,1) (.slice a n c)).setCell ↑(pv,2) ↑A):=((Below.keeps k.o).setCell (p:=⟨pv,1,none⟩) (fun _=> .inl rfl) _).setCell (p:=⟨pv,2,none⟩) (fun _=> .inl rfl) _;have nr:=af P;have AL:=af q;have vW:=af (Wu P (by have:=O.o.2.2.1;exact this) ⟨255,O.o.2.1,by have:=dJ.o.hl;dsimp only;omega⟩ O.o.1 (by intro m hm;have:=dJ.o.hh m hm;dsimp only;rw [jR.o];exact this) Y.o O.o.2.2.2.2);have Z:Ei (w.heap.size<=(((w2.drewN nq).setCell ↑(pv,1) (.slice a n c)).setCell ↑(pv,2) ↑A).heap.size):=af q.size;clear f P q k0 k1 k2 v0 vt mb L K t k;generalize ((w2.drewN nq).setCell ⟨pv,1,none⟩ (.slice a n c)).setCell ⟨pv,2,none⟩ ↑A=aA at*;go_wp2_with fail;refine vW.o.mono ?_;rintro e aN ⟨rfl,dF,y3,fu,hfr⟩;have IP:=af (AL.o.step fu (fun i _ he=> .inl he));have uZ:=af y3;have S:=af hfr;clear y3 fu hfr vW;go_wp2_with fail;go_ret;exact⟨by rw [B.o];try rfl,dF,by rw [B.o];exact uZ.o,IP.o,fun g hg=>by rcases S.o g hg with h|h;exact .inl h;exact .inr (Nat.le_trans Z.o h)⟩
  have ans:((D.length:Int) !=(n:Int))=true:=by rw [bne_iff_ne];omega
  have B:Ei (G=(12,s)):=af (by rw [J.o,if_neg (fun h=>h rfl),if_pos (.inl F)]);go_upto_region 4 with(fail);go_quiet (fail);have C:=N.o _ (Below.bO w2 nq);go_wp2_with fail;go_ret;exact⟨by rw [B.o];try rfl,_,by rw [B.o];exact C.1,C.2⟩
 have xN:(M !=0)=true:=by simpa using hw
 have B:Ei (G=(M,s)):=af (by rw [J.o,if_pos hw]);have C:=N.o _ (Below.refl _ _);clear hw;go_wp2_with fail;go_ret;exact⟨by rw [B.o];try rfl,_,by rw [B.o];exact C.1,C.2⟩
structure yg (n:Nat) (c:ed):Prop where
 kind:1<=c.kind∧c.kind<=4
 id:1<=c.id∧c.id<=1000
 aq:1<=c.aq∧c.aq<=100
 ap: -2000000<=c.ap∧c.ap<=2000000
 label:c.label=⟨#[]⟩
 new:c.kind=1->(c.side=1∨c.side=2)∧(1<=c.time∧c.time<=3)∧(0<=c.least∧c.least<=c.aq)∧∃i:Nat,c.inst=i∧i<n
theorem GJ (c:ed) {n:Nat} (h:yg n c) (hn:n<=200) (w:World):
 Calls Tryz.prog 62 #[.agg c.cells] w fun e w'=>e= .returned ↑()∧Below ↑w w w':=by
 obtain⟨kd,id,inst,side,ap,aq,least,time,label⟩:=c;obtain⟨⟨N,I⟩,⟨U,hi1⟩,⟨P,hq1⟩,⟨T,E⟩,hlb,hnew⟩:=h;dsimp only at*;subst hlb;have hba:=Below.aI w (.cells #[↑kd,↑id,↑inst,↑side,↑ap,↑aq,↑least,↑time,.string ⟨#[]⟩] 80);have B:=af hba;have A:Ei (av (w.alloc (.cells #[↑kd,↑id,↑inst,↑side,↑ap,↑aq,↑least,↑time,.string ⟨#[]⟩] 80)) ↑w 80 #[↑kd,↑id,↑inst,↑side,↑ap,↑aq,↑least,↑time,.string ⟨#[]⟩]):=af (av.new _ _ _);clear hba;unfold ed.cells;go_enter Tryz.func62,Tryz.ntmps62;go_upto_region 1 with(fail);obtain⟨g,hg⟩:=ai w.heap.size;rw [hg]at A⊢;clear hg;generalize w.alloc (.cells _ 80)=w1 at*;have c0:=A.o.cell 0;have c1:=A.o.cell 1;have c2:=A.o.cell 2;have c3:=A.o.cell 3;have J:=A.o.cell 4;have H:=A.o.cell 5;have K:=A.o.cell 6;have L:=A.o.cell 7;have M:=A.o.cell 8;by_cases hk:kd=1
 ·obtain⟨D,⟨R,Q⟩,⟨F,O⟩,i,hin,hil⟩:=hnew hk;have C:0<=inst:=bh;have G:inst<=255:=bh;subst hk;clear hnew hin hil;rcases D with rfl|rfl
  ·go_wp2_with fail;go_ret;exact⟨cF,B.o⟩
  go_wp2_with fail;go_ret;exact⟨cF,B.o⟩
 clear hnew;have hcs:kd=2∨kd=3∨kd=4:=bh;rcases hcs with rfl|rfl|rfl
 ·go_wp2_with fail;go_ret;exact⟨cF,B.o⟩
 ·go_wp2_with fail;go_ret;exact⟨cF,B.o⟩
 go_wp2_with fail;go_ret;exact⟨cF,B.o⟩
end Go.Proofs.YtmaijkoopjocdaaGreat
