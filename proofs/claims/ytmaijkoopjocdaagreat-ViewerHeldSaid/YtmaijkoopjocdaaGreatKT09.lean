import Derived.Test.YtmaijkoopjocdaaGreatKT08
set_option maxRecDepth 100000
set_option maxHeartbeats 64000000
namespace Go.Proofs.YtmaijkoopjocdaaGreat
open Go.RowKit Go.Lib
section
variable {W w w':World} {pr:Nat} {s s':cg} {x:Int}
theorem Kg (h:jg W w pr s) (he:s.long=(x,s')):
 Calls Tryz.prog 80 #[.pointer (some ⟨pr,0,none⟩)] w fun e w'=>e= .returned (.int .i64 x)∧jg W w' pr s'∧aD (fun g=>g=pr) w w':=by
 have:=aaE h;rw [he]at this;exact this
theorem Nn (h:jg W w pr s) (he:s.num 1=(x,s')):
 Calls Tryz.prog 81 #[.pointer (some ⟨pr,0,none⟩)] w fun e w'=>e= .returned (.int .i64 x)∧jg W w' pr s'∧aD (fun g=>g=pr) w w':=by
 have:=aaF h;rw [he]at this;exact this
theorem SD {s s1 s2 mL At Kh Ki oh:cg} {q i d p t c n:Int} (h1:s.long=(q,s1)) (h2:s1.num 1=(i,s2)) (h3:s2.num 1=(d,mL)) (h4:mL.long=(p,At)) (h5:At.long=(t,Kh)) (h6:Kh.long=(c,Ki)) (h7:Ki.num 1=(n,oh)):
 yZ s=(⟨q,i,d,p,t,c,n==1⟩,n,oh):=by
 unfold yZ;simp only [h1,h2,h3,h4,h5,h6,h7]
def Au (m:aB) (n:Int) (s:cg):Option aB:=if(s.bad=true∨s.bs≠ [])∨1<n∨¬(m.side=1∨m.side=2)then none else some m
theorem SE {b:List Int} {m:aB} {n:Int} {s:cg} (h:yZ ⟨b,false⟩=(m,n,s)):ol b=Au m n s:=by
 unfold ol Au;rw [h]
def Av (o:Option aB):Value:= .tuple #[.agg (o.getD B3).cells.toArray,.int .i64 (if o.isSome=true then 0 else 12)]
theorem aaG {s:cg}:Eg s=0↔¬(s.bad=true∨s.bs≠ []):=by
 unfold Eg;by_cases h1:s.bad=true
 ·simp [h1]
 ·by_cases h2:s.bs= []
  ·simp [h1,h2]
  ·simp [h1,h2]
theorem B4 {w:World} {v:Value} {b:List Int} (h:e9.e8 w v b) (hl:b.length≤900000) (hok:∀z∈b,isByte z):
 Calls Tryz.prog 35 #[v] w fun e w'=>e= .returned (Av (ol b))∧Below w.heap.size w w':=by
 obtain⟨q,s1,h1⟩:∃q s1,(⟨b,false⟩:cg).long=(q,s1):=⟨_,_,rfl⟩;obtain⟨i,s2,h2⟩:∃q t,s1.num 1=(q,t):=⟨_,_,rfl⟩;obtain⟨d,mL,h3⟩:∃q t,s2.num 1=(q,t):=⟨_,_,rfl⟩;obtain⟨p,At,h4⟩:∃q t,mL.long=(q,t):=⟨_,_,rfl⟩;obtain⟨t,Kh,h5⟩:∃q t,At.long=(q,t):=⟨_,_,rfl⟩;obtain⟨c,Ki,h6⟩:∃q t,Kh.long=(q,t):=⟨_,_,rfl⟩;obtain⟨n,oh,h7⟩:∃q t,Ki.num 1=(q,t):=⟨_,_,rfl⟩;rw [SE (SD h1 h2 h3 h4 h5 h6 h7)];obtain⟨iV,hfl⟩:∃iV,(n==1)=iV:=⟨_,rfl⟩;rw [hfl];have H1:=af h1;have H2:=af h2;have H3:=af h3;have H4:=af h4;have H5:=af h5;have Gx:=af h6;have rE:=af h7;clear h1 h2 h3 h4 h5 h6 h7;have gZ:=af (Below.aA w (.cells B3.cells.toArray 86));have cv:Hid (aj (w.alloc (.cells B3.cells.toArray 86)) w.heap.size 86 B3.cells.toArray):=af (aj.new _ _ _);have xP:=af (aaH (h.below gZ.out) hl hok);clear h hl hok;unfold B3 aB.cells at gZ cv xP;dsimp only at gZ cv xP;go_enter Tryz.func35,Tryz.ntmps35
 go_wp2_with fail
 refine xP.out.mono ?_;rintro e w1 ⟨pr,rfl,hr⟩;obtain⟨g,hg⟩:∃g,w.heap.size=g:=⟨_,rfl⟩;have hne:g≠pr:=by have:=hr.base;have:=cv.out.lt;omega
 have iE:aj w1 g 86 #[.int .i64 0,.int .i64 0,.int .i64 0,.int .i64 0,.int .i64 0,.int .i64 0,.bool false]:=by rw [←hg];exact cv.out.below hr.aF
 have hb1:Below w.heap.size w w1:=gZ.out.trans (hr.aF.mono gZ.out.size);rw [hg]at⊢;have SF:=af iE;have R0:=af hr;have Np:=af hb1;have SG:=af hne;have vQ:=af hg;have kZ:Hid (w.heap.size≤_):=af gZ.out.size;have eu:=gZ;clear hr hne iE hb1 hg xP cv gZ;generalize w.alloc _=k3 at*;go_wp2_with fail
 refine(Kg R0.out H1.out).mono ?_;rintro e w2 ⟨rfl,hr,hk⟩;have SH:=af hr;have Kj:=af hk;clear hr hk;go_wp2_with fail
 refine(Nn SH.out H2.out).mono ?_;rintro e w3 ⟨rfl,hr,hk⟩;have SI:=af hr;have Kk:=af (Kj.out.trans hk);clear hr hk SH Kj;go_wp2_with fail
 refine(Nn SI.out H3.out).mono ?_;rintro e av ⟨rfl,hr,hk⟩;have SJ:=af hr;have uS:=af (Kk.out.trans hk);clear hr hk SI Kk;go_wp2_with fail
 refine(Kg SJ.out H4.out).mono ?_;rintro e au ⟨rfl,hr,hk⟩;have Ed:=af hr;have xQ:=af (uS.out.trans hk);clear hr hk SJ uS;go_wp2_with fail
 refine(Kg Ed.out H5.out).mono ?_;rintro e aK ⟨rfl,hr,hk⟩;have SK:=af hr;have SL:=af (xQ.out.trans hk);clear hr hk Ed xQ;go_wp2_with fail
 refine(Kg SK.out Gx.out).mono ?_;rintro e bw ⟨rfl,hr,hk⟩;have Kl:=af hr;have Nq:=af (SL.out.trans hk);clear hr hk SK SL;go_upto_region 3 with(fail)
 have iE:=SF.out.keeps Nq.out SG.out;have hba:=Below.aA bw (.cells #[.int .i64 q,.int .i64 i,.int .i64 d,.int .i64 p,.int .i64 t,.int .i64 c,.bool false] 86);have Aw:aj (bw.alloc (.cells #[.int .i64 q,.int .i64 i,.int .i64 d,.int .i64 p,.int .i64 t,.int .i64 c,.bool false] 86)) bw.heap.size 86 #[.int .i64 q,.int .i64 i,.int .i64 d,.int .i64 p,.int .i64 t,.int .i64 c,.bool false]:=aj.new _ _ _;have kz:Below w.heap.size w bw:=Np.out.trans ((Nq.out.below (B:=w.heap.size) (fun k hk=>by have hk':k=pr:=hk;rw [hk'];exact Nat.le_trans kZ.out R0.out.base) Np.out.size));obtain⟨ap,c4⟩:∃ap,bw.heap.size=ap:=⟨_,rfl⟩;have SM:=af (Kl.out.below hba);have SN:=af (iE.below hba);have qm:=af (kz.trans (hba.mono kz.size));have fl:Hid (ap≠pr):=af (by obtain⟨a,c,h,_⟩:=Kl.out.box;have:=h.lt;omega);have xH:Hid (ap≠g):=af (by have:=iE.lt;omega);have aaI:Hid (k3.heap.size≤ap):=af (by have:=Kl.out.aF.size;omega);have jc:Hid (w.heap.size≤ap):=af (by have:=kz.size;omega);rw [c4]at Aw⊢;have SP:=af Aw;clear iE hba Aw kz c4 Kl Nq SF Np;generalize bw.alloc _=tC at*;go_wp2_with fail
 refine(Nn SM.out rE.out).mono ?_;rintro e bW ⟨rfl,hr,hk⟩;have Gy:=SP.out.keeps hk fl.out;have Ax:=SN.out.keeps hk SG.out;have jv:=qm.out.trans (hk.below (B:=w.heap.size) (fun k hk=>by have hk':k=pr:=hk;rw [hk'];exact Nat.le_trans kZ.out R0.out.base) qm.out.size);have aaJ:=af (hr.keep (bS bW ap 6 (.bool iV)) (Ne.symm fl.out) (fun b ht e=>ht.ne Gy.aC (by decide) e) (fun k hk=>by have hk':k=ap:=hk;rw [hk'];exact aaI.out));have Nr:=Gy.aQ 6 (.bool iV);simp only [List.setIfInBounds_toArray,List.set_cons_zero,List.set_cons_succ]at Nr;have B5:=af Nr;have tD:=af (Ax.cm (p:=⟨ap,6,none⟩) (Ne.symm xH.out) (.bool iV));have xR:=af (jv.setCell (p:=⟨ap,6,none⟩) jc.out (.bool iV));have aaK:bW.frozen? ⟨ap,6,none⟩=false:=Gy.frozen 6;have aaL:bW.cell? ⟨ap,6,none⟩=some (.bool false):=Gy.cell 6;clear hr hk Gy Nr Ax jv SM SP SN qm;go_upto_region 5 with(fail)
 clear aaK aaL hfl;generalize bW.setCell ⟨ap,6,none⟩ (.bool iV)=bG at*;have m0:bG.cell? ⟨ap,0,none⟩=some (.int .i64 q):=B5.out.cell 0;have m1:bG.cell? ⟨ap,1,none⟩=some (.int .i64 i):=B5.out.cell 1;have m2:bG.cell? ⟨ap,2,none⟩=some (.int .i64 d):=B5.out.cell 2;have eH:bG.cell? ⟨ap,3,none⟩=some (.int .i64 p):=B5.out.cell 3;have dQ:bG.cell? ⟨ap,4,none⟩=some (.int .i64 t):=B5.out.cell 4;have eP:bG.cell? ⟨ap,5,none⟩=some (.int .i64 c):=B5.out.cell 5;have dH:bG.cell? ⟨ap,6,none⟩=some (.bool iV):=B5.out.cell 6;have l0:bG.cell? ⟨g,0,none⟩=some (.int .i64 0):=tD.out.cell 0;have l1:bG.cell? ⟨g,1,none⟩=some (.int .i64 0):=tD.out.cell 1;have l2:bG.cell? ⟨g,2,none⟩=some (.int .i64 0):=tD.out.cell 2;have l3:bG.cell? ⟨g,3,none⟩=some (.int .i64 0):=tD.out.cell 3;have l4:bG.cell? ⟨g,4,none⟩=some (.int .i64 0):=tD.out.cell 4;have fT:bG.cell? ⟨g,5,none⟩=some (.int .i64 0):=tD.out.cell 5;have Gz:bG.cell? ⟨g,6,none⟩=some (.bool false):=tD.out.cell 6;have fz:∀o,bG.frozen? ⟨g,o,none⟩=false:=fun o=>tD.out.frozen o;have bH:=af (aaM aaJ.out);have vR:=aaG (s:=oh);by_cases e0:Eg oh=0
 ·have hnb:=vR.1 e0
  rw [e0]at bH;by_cases e1:1<n
  ·have dm:Hid (Au ⟨q,i,d,p,t,c,iV⟩ n oh=none):=af (if_pos (.inr (.inl e1)))
   clear e0 hnb;clear vR;go_wp2_with fail
   refine bH.out.mono ?_;rintro e yS ⟨rfl,rfl⟩;clear bH;go_wp2_with fail
   clear fz l0 l1 l2 l3 l4 fT Gz m0 m1 m2 eH dQ eP dH;have hz:=tD.out.vS (.int .i64 0) (.int .i64 0) (.int .i64 0) (.int .i64 0) (.int .i64 0) (.int .i64 0) (.bool false);have hbz:=xR.out.trans ((aD.vS bG g (.int .i64 0) (.int .i64 0) (.int .i64 0) (.int .i64 0) (.int .i64 0) (.int .i64 0) (.bool false)).below (B:=w.heap.size) (fun k hk=>by have hk2:k=g:=hk;rw [hk2];exact Nat.le_of_eq vQ.out) xR.out.size);generalize (((((((bG.setCell ⟨g,0,none⟩ (.int .i64 0)).setCell ⟨g,1,none⟩ (.int .i64 0)).setCell ⟨g,2,none⟩ (.int .i64 0)).setCell ⟨g,3,none⟩ (.int .i64 0)).setCell ⟨g,4,none⟩ (.int .i64 0)).setCell ⟨g,5,none⟩ (.int .i64 0)).setCell ⟨g,6,none⟩ (.bool false))=ak at*;have k0:ak.cell? ⟨g,0,none⟩=some (.int .i64 0):=hz.cell 0;have k1:ak.cell? ⟨g,1,none⟩=some (.int .i64 0):=hz.cell 1;have k2:ak.cell? ⟨g,2,none⟩=some (.int .i64 0):=hz.cell 2;have e7:ak.cell? ⟨g,3,none⟩=some (.int .i64 0):=hz.cell 3;have gY:ak.cell? ⟨g,4,none⟩=some (.int .i64 0):=hz.cell 4;have kX:ak.cell? ⟨g,5,none⟩=some (.int .i64 0):=hz.cell 5;have iJ:ak.cell? ⟨g,6,none⟩=some (.bool false):=hz.cell 6;refine bodyPost_ret (v:= .tuple #[.agg #[.int .i64 0,.int .i64 0,.int .i64 0,.int .i64 0,.int .i64 0,.int .i64 0,.bool false],.int .i64 12]) (by simp [results,Tryz.results35,go_sem,k0,k1,k2,e7,gY,kX,iJ]) rfl ⟨by rw [dm.out];rfl,hbz⟩
  ·by_cases e2:d=1
   ·have dm:Hid (Au ⟨q,i,d,p,t,c,iV⟩ n oh=some ⟨q,i,d,p,t,c,iV⟩):=af (if_neg (by rintro(h|h|h);exact hnb h;exact e1 h;exact h (.inl e2)))
    have aaN:(d !=1)=false:=by rw [e2];rfl
    clear e0 hnb e2;clear vR;go_wp2_with fail
    refine bH.out.mono ?_;rintro e yS ⟨rfl,rfl⟩;clear bH;go_wp2_with fail
    clear fz l0 l1 l2 l3 l4 fT Gz m0 m1 m2 eH dQ eP dH;have hz:=tD.out.vS (.int .i64 q) (.int .i64 i) (.int .i64 d) (.int .i64 p) (.int .i64 t) (.int .i64 c) (.bool iV);have hbz:=xR.out.trans ((aD.vS bG g (.int .i64 q) (.int .i64 i) (.int .i64 d) (.int .i64 p) (.int .i64 t) (.int .i64 c) (.bool iV)).below (B:=w.heap.size) (fun k hk=>by have hk2:k=g:=hk;rw [hk2];exact Nat.le_of_eq vQ.out) xR.out.size);generalize (((((((bG.setCell ⟨g,0,none⟩ (.int .i64 q)).setCell ⟨g,1,none⟩ (.int .i64 i)).setCell ⟨g,2,none⟩ (.int .i64 d)).setCell ⟨g,3,none⟩ (.int .i64 p)).setCell ⟨g,4,none⟩ (.int .i64 t)).setCell ⟨g,5,none⟩ (.int .i64 c)).setCell ⟨g,6,none⟩ (.bool iV))=ak at*;have k0:ak.cell? ⟨g,0,none⟩=some (.int .i64 q):=hz.cell 0;have k1:ak.cell? ⟨g,1,none⟩=some (.int .i64 i):=hz.cell 1;have k2:ak.cell? ⟨g,2,none⟩=some (.int .i64 d):=hz.cell 2;have e7:ak.cell? ⟨g,3,none⟩=some (.int .i64 p):=hz.cell 3;have gY:ak.cell? ⟨g,4,none⟩=some (.int .i64 t):=hz.cell 4;have kX:ak.cell? ⟨g,5,none⟩=some (.int .i64 c):=hz.cell 5;have iJ:ak.cell? ⟨g,6,none⟩=some (.bool iV):=hz.cell 6;refine bodyPost_ret (v:= .tuple #[.agg #[.int .i64 q,.int .i64 i,.int .i64 d,.int .i64 p,.int .i64 t,.int .i64 c,.bool iV],.int .i64 0]) (by simp [results,Tryz.results35,go_sem,k0,k1,k2,e7,gY,kX,iJ]) rfl ⟨by rw [dm.out];rfl,hbz⟩
   ·have aaN:(d !=1)=true:=by simpa using e2
    by_cases bE:d=2
    ·have dm:Hid (Au ⟨q,i,d,p,t,c,iV⟩ n oh=some ⟨q,i,d,p,t,c,iV⟩):=af (if_neg (by rintro(h|h|h);exact hnb h;exact e1 h;exact h (.inr bE)))
     have aaO:(d !=2)=false:=by rw [bE];rfl
     clear e0 hnb e2 bE;clear vR;go_wp2_with fail
     refine bH.out.mono ?_;rintro e yS ⟨rfl,rfl⟩;clear bH;go_wp2_with fail
     clear fz l0 l1 l2 l3 l4 fT Gz m0 m1 m2 eH dQ eP dH;have hz:=tD.out.vS (.int .i64 q) (.int .i64 i) (.int .i64 d) (.int .i64 p) (.int .i64 t) (.int .i64 c) (.bool iV);have hbz:=xR.out.trans ((aD.vS bG g (.int .i64 q) (.int .i64 i) (.int .i64 d) (.int .i64 p) (.int .i64 t) (.int .i64 c) (.bool iV)).below (B:=w.heap.size) (fun k hk=>by have hk2:k=g:=hk;rw [hk2];exact Nat.le_of_eq vQ.out) xR.out.size);generalize (((((((bG.setCell ⟨g,0,none⟩ (.int .i64 q)).setCell ⟨g,1,none⟩ (.int .i64 i)).setCell ⟨g,2,none⟩ (.int .i64 d)).setCell ⟨g,3,none⟩ (.int .i64 p)).setCell ⟨g,4,none⟩ (.int .i64 t)).setCell ⟨g,5,none⟩ (.int .i64 c)).setCell ⟨g,6,none⟩ (.bool iV))=ak at*;have k0:ak.cell? ⟨g,0,none⟩=some (.int .i64 q):=hz.cell 0;have k1:ak.cell? ⟨g,1,none⟩=some (.int .i64 i):=hz.cell 1;have k2:ak.cell? ⟨g,2,none⟩=some (.int .i64 d):=hz.cell 2;have e7:ak.cell? ⟨g,3,none⟩=some (.int .i64 p):=hz.cell 3;have gY:ak.cell? ⟨g,4,none⟩=some (.int .i64 t):=hz.cell 4;have kX:ak.cell? ⟨g,5,none⟩=some (.int .i64 c):=hz.cell 5;have iJ:ak.cell? ⟨g,6,none⟩=some (.bool iV):=hz.cell 6;refine bodyPost_ret (v:= .tuple #[.agg #[.int .i64 q,.int .i64 i,.int .i64 d,.int .i64 p,.int .i64 t,.int .i64 c,.bool iV],.int .i64 0]) (by simp [results,Tryz.results35,go_sem,k0,k1,k2,e7,gY,kX,iJ]) rfl ⟨by rw [dm.out];rfl,hbz⟩
    ·have aaO:(d !=2)=true:=by simpa using bE
     have dm:Hid (Au ⟨q,i,d,p,t,c,iV⟩ n oh=none):=af (if_pos (.inr (.inr (by rintro(h|h);exact e2 h;exact bE h))));clear e0 hnb e2 bE;clear vR;go_wp2_with fail
     refine bH.out.mono ?_;rintro e yS ⟨rfl,rfl⟩;clear bH;go_wp2_with fail
     clear fz l0 l1 l2 l3 l4 fT Gz m0 m1 m2 eH dQ eP dH;have hz:=tD.out.vS (.int .i64 0) (.int .i64 0) (.int .i64 0) (.int .i64 0) (.int .i64 0) (.int .i64 0) (.bool false);have hbz:=xR.out.trans ((aD.vS bG g (.int .i64 0) (.int .i64 0) (.int .i64 0) (.int .i64 0) (.int .i64 0) (.int .i64 0) (.bool false)).below (B:=w.heap.size) (fun k hk=>by have hk2:k=g:=hk;rw [hk2];exact Nat.le_of_eq vQ.out) xR.out.size);generalize (((((((bG.setCell ⟨g,0,none⟩ (.int .i64 0)).setCell ⟨g,1,none⟩ (.int .i64 0)).setCell ⟨g,2,none⟩ (.int .i64 0)).setCell ⟨g,3,none⟩ (.int .i64 0)).setCell ⟨g,4,none⟩ (.int .i64 0)).setCell ⟨g,5,none⟩ (.int .i64 0)).setCell ⟨g,6,none⟩ (.bool false))=ak at*;have k0:ak.cell? ⟨g,0,none⟩=some (.int .i64 0):=hz.cell 0;have k1:ak.cell? ⟨g,1,none⟩=some (.int .i64 0):=hz.cell 1;have k2:ak.cell? ⟨g,2,none⟩=some (.int .i64 0):=hz.cell 2;have e7:ak.cell? ⟨g,3,none⟩=some (.int .i64 0):=hz.cell 3;have gY:ak.cell? ⟨g,4,none⟩=some (.int .i64 0):=hz.cell 4;have kX:ak.cell? ⟨g,5,none⟩=some (.int .i64 0):=hz.cell 5;have iJ:ak.cell? ⟨g,6,none⟩=some (.bool false):=hz.cell 6;refine bodyPost_ret (v:= .tuple #[.agg #[.int .i64 0,.int .i64 0,.int .i64 0,.int .i64 0,.int .i64 0,.int .i64 0,.bool false],.int .i64 12]) (by simp [results,Tryz.results35,go_sem,k0,k1,k2,e7,gY,kX,iJ]) rfl ⟨by rw [dm.out];rfl,hbz⟩
 ·have dm:Hid (Au ⟨q,i,d,p,t,c,iV⟩ n oh=none):=af (if_pos (.inl (Decidable.not_not.1 fun h=>e0 (vR.2 h))))
  have aic:(Eg oh !=0)=true:=by simpa using e0
  generalize Eg oh=ev at*;clear e0;clear vR;go_wp2_with fail
  refine bH.out.mono ?_;rintro e yS ⟨rfl,rfl⟩;clear bH;go_wp2_with fail
  clear fz l0 l1 l2 l3 l4 fT Gz m0 m1 m2 eH dQ eP dH;have hz:=tD.out.vS (.int .i64 0) (.int .i64 0) (.int .i64 0) (.int .i64 0) (.int .i64 0) (.int .i64 0) (.bool false);have hbz:=xR.out.trans ((aD.vS bG g (.int .i64 0) (.int .i64 0) (.int .i64 0) (.int .i64 0) (.int .i64 0) (.int .i64 0) (.bool false)).below (B:=w.heap.size) (fun k hk=>by have hk2:k=g:=hk;rw [hk2];exact Nat.le_of_eq vQ.out) xR.out.size);generalize (((((((bG.setCell ⟨g,0,none⟩ (.int .i64 0)).setCell ⟨g,1,none⟩ (.int .i64 0)).setCell ⟨g,2,none⟩ (.int .i64 0)).setCell ⟨g,3,none⟩ (.int .i64 0)).setCell ⟨g,4,none⟩ (.int .i64 0)).setCell ⟨g,5,none⟩ (.int .i64 0)).setCell ⟨g,6,none⟩ (.bool false))=ak at*;have k0:ak.cell? ⟨g,0,none⟩=some (.int .i64 0):=hz.cell 0;have k1:ak.cell? ⟨g,1,none⟩=some (.int .i64 0):=hz.cell 1;have k2:ak.cell? ⟨g,2,none⟩=some (.int .i64 0):=hz.cell 2;have e7:ak.cell? ⟨g,3,none⟩=some (.int .i64 0):=hz.cell 3;have gY:ak.cell? ⟨g,4,none⟩=some (.int .i64 0):=hz.cell 4;have kX:ak.cell? ⟨g,5,none⟩=some (.int .i64 0):=hz.cell 5;have iJ:ak.cell? ⟨g,6,none⟩=some (.bool false):=hz.cell 6;refine bodyPost_ret (v:= .tuple #[.agg #[.int .i64 0,.int .i64 0,.int .i64 0,.int .i64 0,.int .i64 0,.int .i64 0,.bool false],.int .i64 12]) (by simp [results,Tryz.results35,go_sem,k0,k1,k2,e7,gY,kX,iJ]) rfl ⟨by rw [dm.out];rfl,hbz⟩
end
theorem acm (side x y:Int) (w:World):
 Calls Tryz.prog 123 #[.int .i64 side,.int .i64 x,.int .i64 y] w fun e w'=>e= .returned (.bool (cV side x y))∧w=w':=by
 by_cases h:side=1
 ·subst h
  go_enter Tryz.func123,Tryz.ntmps123
  go_wp2_with fail
  go_ret;exact⟨by rfl,by trivial⟩
 ·have hv:cV side x y=decide (x<y):=if_neg h
  rw [hv];have h1:(side==1)=false:=by rw [beq_eq_false_iff_ne];exact h
  go_enter Tryz.func123,Tryz.ntmps123
  go_wp2_with fail
  go_ret;exact⟨by trivial,by trivial⟩
theorem acn (side x y:Int) (w:World):
 Calls Tryz.prog 72 #[.int .i64 side,.int .i64 x,.int .i64 y] w fun e w'=>e= .returned (.bool (cV side x y))∧w=w':=by
 unfold cV;by_cases h:side=1
 ·subst h
  go_enter Tryz.func72,Tryz.ntmps72
  go_wp2_with fail
  go_ret;exact⟨by trivial,by trivial⟩
 ·have hb:(side==1)=false:=by rw [beq_eq_false_iff_ne];exact h
  rw [if_neg h];go_enter Tryz.func72,Tryz.ntmps72
  go_wp2_with fail
  go_ret;exact⟨by trivial,by trivial⟩
def ax.agg (x:ax):Value:= .agg #[.int .i64 x.ag,.int .i64 x.ah,.int .i64 x.count]
def aB.agg (m:aB):Value:= .agg #[.int .i64 m.seq,.int .i64 m.inst,.int .i64 m.side,.int .i64 m.ag,.int .i64 m.ah,.int .i64 m.count,.bool m.imp]
theorem aco (x:ax) (ap:Nat) (p:Int) (w:World) (hg:ap<w.heap.size) (hc:w.cell? ⟨ap,3,none⟩=some (.int .i64 p)):
 Calls Tryz.prog 120 #[x.agg,.pointer (some ⟨ap,0,none⟩)] w fun e w'=>e= .returned (.bool (x.ag==p))∧Below w.heap.size w w':=by
 unfold ax.agg;have uk:(w.alloc (.cells #[.int .i64 x.ag,.int .i64 x.ah,.int .i64 x.count] 47)).cell? ⟨ap,3,none⟩=some (.int .i64 p):=((Below.aA w _).cell (p:=⟨ap,3,none⟩) hg).trans hc;have aE:=af (Below.aA w (.cells #[.int .i64 x.ag,.int .i64 x.ah,.int .i64 x.count] 47));clear hc;go_enter Tryz.func120,Tryz.ntmps120
 go_wp2_with fail
 go_ret;exact⟨by trivial,aE.out⟩
theorem acp (x:ax) (ap:Nat) (sd p:Int) (w:World) (hg:ap<w.heap.size) (uk:w.cell? ⟨ap,2,none⟩=some (.int .i64 sd)) (hc:w.cell? ⟨ap,3,none⟩=some (.int .i64 p)):
 Calls Tryz.prog 122 #[x.agg,.pointer (some ⟨ap,0,none⟩)] w fun e w'=>e= .returned (.bool (cV sd p x.ag))∧Below w.heap.size w w':=by
 unfold ax.agg;have NL:(w.alloc (.cells #[.int .i64 x.ag,.int .i64 x.ah,.int .i64 x.count] 47)).cell? ⟨ap,2,none⟩=some (.int .i64 sd):=((Below.aA w _).cell (p:=⟨ap,2,none⟩) hg).trans uk;have UL:(w.alloc (.cells #[.int .i64 x.ag,.int .i64 x.ah,.int .i64 x.count] 47)).cell? ⟨ap,3,none⟩=some (.int .i64 p):=((Below.aA w _).cell (p:=⟨ap,3,none⟩) hg).trans hc;have aE:=af (Below.aA w (.cells #[.int .i64 x.ag,.int .i64 x.ah,.int .i64 x.count] 47));clear hc uk;go_enter Tryz.func122,Tryz.ntmps122
 go_wp2_with fail
 refine(acm sd p x.ag _).mono ?_;rintro e w1 ⟨rfl,rfl⟩;go_wp2_with fail
 go_ret;exact⟨by trivial,aE.out⟩
def ni {α:Type} (f:α→Bool) (L:List α):Int:=match L.findIdx? f with|some k=>k|none=> -1
theorem UM {α:Type} {f:α→Bool} {L:List α} {k:Nat} {x:α} (hx:L[k]? =some x) (h:∀(j:Nat) (y:α),j<k→L[j]? =some y→f y=false) (hf:f x=true):ni f L=k:=by
 have:L.findIdx? f=some k:=by
  rw [List.findIdx?_eq_some_iff_getElem];obtain⟨h1,h2⟩:=lq hx;exact⟨h1,by rw [h2];exact hf,fun j hj=>by have:=h j _ hj (List.getElem?_eq_getElem (by omega));simpa using this⟩
 unfold ni;rw [this]
theorem UN {α:Type} {f:α→Bool} {L:List α} (h:∀(j:Nat) (y:α),L[j]? =some y→f y=false):ni f L= -1:=by
 have:L.findIdx? f=none:=by
  rw [List.findIdx?_eq_none_iff];intro x hx;obtain⟨j,hj⟩:=List.mem_iff_getElem?.1 hx;exact h j x hj
 unfold ni;rw [this]
theorem Gf {w:World} {v:Value} {L:List ax} (h:bL.e8 w v L) (hl:L.length≤900000) (ap:Nat) (p:Int) (hg:ap<w.heap.size) (hc:w.cell? ⟨ap,3,none⟩=some (.int .i64 p)):
 Calls Tryz.prog 119 #[v,.func (Fn.func 120) #[] #[.pointer (some ⟨ap,0,none⟩)]] w fun e w'=>e= .returned (.int .i64 (ni (fun y=>y.ag==p) L))∧Below w.heap.size w w':=by
 have aq:=af h;obtain⟨a,c,rfl,_,_⟩:=h;have cv:=af hg;have aU:=af hc;clear hg hc;go_enter Tryz.func119,Tryz.ntmps119
 go_wp2_with fail
 go_loopw [8] (fun i w'=>∃k:Nat,i= .int .i64 k∧k≤L.length∧(∀j y,j<k→L[j]? =some y→(fun y=>y.ag==p) y=false)∧Below w.heap.size w w') (fun i _=>L.length-(RowKit.intOf i).toNat)
 case atStart=>exact⟨0,rfl,Nat.zero_le _,fun j y hj=>absurd hj (by omega),Below.refl _ _⟩
 case round=>
  obtain⟨k,rfl,hk,hall,hb⟩:=hrel;obtain⟨ak,rfl⟩:∃bk:World,bk=wr:=⟨_,rfl⟩;have cG:=af hall;have aE:=af hb;have rK:ap<ak.heap.size:=Nat.lt_of_lt_of_le cv.out hb.size;have qg:ak.cell? ⟨ap,3,none⟩=some (.int .i64 p):=(hb.cell (p:=⟨ap,3,none⟩) cv.out).trans aU.out;have hsl:=aq.out.below hb;clear hall hb;by_cases hlt:k<L.length
  ·have hlt':(k:Int)<(L.length:Int):=by omega
   obtain⟨x,hx⟩:∃x,L[k]? =some x:=⟨_,List.getElem?_eq_getElem hlt⟩;obtain⟨b,off,c',he,_,hcs⟩:=hsl.get hx;injection he with he _ fu;subst he;subst fu;have c0:ak.cell? ⟨b,off+k*3,none⟩=some (.int .i64 x.ag):=hcs 0 _ rfl;have c1:ak.cell? ⟨b,off+k*3+1,none⟩=some (.int .i64 x.ah):=hcs 1 _ rfl;have c2:ak.cell? ⟨b,off+k*3+2,none⟩=some (.int .i64 x.count):=hcs 2 _ rfl;have jt:=af (aco x ap p _ rK qg);have bA:=af hx;unfold ax.agg at jt;clear hcs hx hsl qg rK;go_wp2_with fail
   refine jt.out.mono ?_;rintro e w1 ⟨rfl,hb1⟩;have bD:=af (aE.out.trans (hb1.mono aE.out.size));clear hb1 jt c0 c1 c2;by_cases ht:(fun y=>y.ag==p) x=true
   ·have oW:=ht
    dsimp only at oW;have dm:=af (UM bA.out cG.out ht);clear ht;go_wp2_with fail
    go_ret;exact⟨by rw [dm.out];try rfl,bD.out⟩
   ·have jw:(fun y=>y.ag==p) x=false:=by simpa using ht
    have oW:=jw;dsimp only at oW;have bK:=af jw;clear ht jw;go_wp2_with fail
    go_roundw
    case rel=>
     refine⟨k+1,by go_num,hlt,fun j y hj hy=>?_,bD.out⟩;rcases Nat.lt_or_ge j k with h1|h1
     ·exact cG.out j y h1 hy
     ·have:j=k:=by omega
      subst this;have h2:=bA.out;rw [hy]at h2;injection h2 with h2;rw [h2];exact bK.out
    case measure=>simp [RowKit.intOf];omega
  ·have dm:Hid (ni (fun y=>y.ag==p) L= -1):=af (UN fun j y hy=>cG.out j y (by have:=dc hy;omega) hy)
   clear hsl qg rK;go_wp2_with fail
   go_ret;exact⟨by rw [dm.out];try rfl,aE.out⟩
theorem Sb {w:World} {v:Value} {L:List ax} (h:bL.e8 w v L) (hl:L.length≤900000) (ap:Nat) (sd p:Int) (hg:ap<w.heap.size) (uk:w.cell? ⟨ap,2,none⟩=some (.int .i64 sd)) (hc:w.cell? ⟨ap,3,none⟩=some (.int .i64 p)):
 Calls Tryz.prog 119 #[v,.func (Fn.func 122) #[] #[.pointer (some ⟨ap,0,none⟩)]] w fun e w'=>e= .returned (.int .i64 (ni (fun y=>cV sd p y.ag) L))∧Below w.heap.size w w':=by
 have aq:=af h;obtain⟨a,c,rfl,_,_⟩:=h;have cv:=af hg;have aU:=af hc;have sN:=af uk;clear hg hc uk;go_enter Tryz.func119,Tryz.ntmps119
 go_wp2_with fail
 go_loopw [8] (fun i w'=>∃k:Nat,i= .int .i64 k∧k≤L.length∧(∀j y,j<k→L[j]? =some y→(fun y=>cV sd p y.ag) y=false)∧Below w.heap.size w w') (fun i _=>L.length-(RowKit.intOf i).toNat)
 case atStart=>exact⟨0,rfl,Nat.zero_le _,fun j y hj=>absurd hj (by omega),Below.refl _ _⟩
 case round=>
  obtain⟨k,rfl,hk,hall,hb⟩:=hrel;obtain⟨ak,rfl⟩:∃bk:World,bk=wr:=⟨_,rfl⟩;have cG:=af hall;have aE:=af hb;have rK:ap<ak.heap.size:=Nat.lt_of_lt_of_le cv.out hb.size;have qg:ak.cell? ⟨ap,3,none⟩=some (.int .i64 p):=(hb.cell (p:=⟨ap,3,none⟩) cv.out).trans aU.out;have uk:ak.cell? ⟨ap,2,none⟩=some (.int .i64 sd):=(hb.cell (p:=⟨ap,2,none⟩) cv.out).trans sN.out;have hsl:=aq.out.below hb;clear hall hb;by_cases hlt:k<L.length
  ·have hlt':(k:Int)<(L.length:Int):=by omega
   obtain⟨x,hx⟩:∃x,L[k]? =some x:=⟨_,List.getElem?_eq_getElem hlt⟩;obtain⟨b,off,c',he,_,hcs⟩:=hsl.get hx;injection he with he _ fu;subst he;subst fu;have c0:ak.cell? ⟨b,off+k*3,none⟩=some (.int .i64 x.ag):=hcs 0 _ rfl;have c1:ak.cell? ⟨b,off+k*3+1,none⟩=some (.int .i64 x.ah):=hcs 1 _ rfl;have c2:ak.cell? ⟨b,off+k*3+2,none⟩=some (.int .i64 x.count):=hcs 2 _ rfl;have jt:=af (acp x ap sd p _ rK uk qg);have bA:=af hx;unfold ax.agg at jt;clear hcs hx hsl qg uk rK;go_wp2_with fail
   refine jt.out.mono ?_;rintro e w1 ⟨rfl,hb1⟩;have bD:=af (aE.out.trans (hb1.mono aE.out.size));clear hb1 jt c0 c1 c2;by_cases ht:(fun y=>cV sd p y.ag) x=true
   ·have oW:=ht
    dsimp only at oW;have dm:=af (UM bA.out cG.out ht);clear ht;go_wp2_with fail
    go_ret;exact⟨by rw [dm.out];try rfl,bD.out⟩
   ·have jw:(fun y=>cV sd p y.ag) x=false:=by simpa using ht
    have oW:=jw;dsimp only at oW;have bK:=af jw;clear ht jw;go_wp2_with fail
    go_roundw
    case rel=>
     refine⟨k+1,by go_num,hlt,fun j y hj hy=>?_,bD.out⟩;rcases Nat.lt_or_ge j k with h1|h1
     ·exact cG.out j y h1 hy
     ·have:j=k:=by omega
      subst this;have h2:=bA.out;rw [hy]at h2;injection h2 with h2;rw [h2];exact bK.out
    case measure=>simp [RowKit.intOf];omega
  ·have dm:Hid (ni (fun y=>cV sd p y.ag) L= -1):=af (UN fun j y hy=>cG.out j y (by have:=dc hy;omega) hy)
   clear hsl qg uk rK;go_wp2_with fail
   go_ret;exact⟨by rw [dm.out];try rfl,aE.out⟩
end Go.Proofs.YtmaijkoopjocdaaGreat
