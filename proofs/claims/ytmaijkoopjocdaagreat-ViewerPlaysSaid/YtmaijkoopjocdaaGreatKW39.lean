import Derived.Test.YtmaijkoopjocdaaGreatKW38
import Derived.Test.YtmaijkoopjocdaaGreatKW35
set_option maxRecDepth 100000
set_option maxHeartbeats 64000000
namespace Go.Proofs.YtmaijkoopjocdaaGreat
open Go.RowKit Go.Lib
structure ed where
 kind:Int
 id:Int
 inst:Int
 side:Int
 ap:Int
 aq:Int
 least:Int
 time:Int
 label:ByteArray
def ed.cells (c:ed):Array Value:=#[.int .i64 c.kind,.int .i64 c.id,.int .i64 c.inst,.int .i64 c.side,.int .i64 c.ap,.int .i64 c.aq,.int .i64 c.least,.int .i64 c.time,.string c.label]
theorem Q4 {p:Prod} {S:List (List aC)} (hS:ei p S) (i:Nat) (side ap q:Int):(ou p S i side ap q).2.length<=250:=by unfold ou;dsimp only;exact Nat.le_trans (MX _ _ _ _) (by rw [MV];exact Nat.le_trans (JE _ _ _) (MT (hS.at_ i) _ _).1)
theorem agp {p:Prod} {S:List (List aC)} (hS:ei p S) {i:Nat} {side ap aq:Int} {r:List (List aC)×nt} (h:ur p S i side ap aq=some r):r.2.rR.length<=500:=by
 unfold ur at h;split at h
 ·injection h with h;subst h;exact Nat.le_trans (Q4 hS _ _ _ _) bh
 split at h
 ·cases h
 injection h with h;subst h;unfold Ke;dsimp only;rw [List.length_append];have h1:=Q4 hS (nu p S i side).1.i0.toNat (nu p S i side).1.s0 (Bq (ef S) (nu p S i side).1.i0 (nu p S i side).1.s0) (wz aq (nu p S i side).1.aq);have h2:=Q4 (hS.rR (nu p S i side).1.i0.toNat (nu p S i side).1.s0 (Bq (ef S) (nu p S i side).1.i0 (nu p S i side).1.s0) (wz aq (nu p S i side).1.aq)) (nu p S i side).1.i1.toNat (nu p S i side).1.s1 (Bq (ef S) (nu p S i side).1.i1 (nu p S i side).1.s1) (wz aq (nu p S i side).1.aq);omega
theorem X1 {p:Prod} {i:Nat} {side ap:Int} (hz:cR p=0):∀(f:Nat) (S:List (List aC)) (aq:Int),ei p S->0<=aq->(((gO p i side ap f S aq).2.1.length:Int)<=aq∧∀t∈(gO p i side ap f S aq).2.1,t.rR.length<=500)
 |0,S,aq,hS,h0=>⟨h0,fun t ht=>by cases ht⟩
 |f+1,S,aq,hS,h0=>by
  unfold gO;split
  ·exact⟨h0,fun t ht=>by cases ht⟩
  cases hr:ur p S i side ap aq with
  |none=>exact⟨h0,fun t ht=>by cases ht⟩
  |some r=>
   obtain⟨h1,h2,h3⟩:=Uo hz hS bh hr;obtain⟨g1,g2⟩:=X1 (i:=i) (side:=side) (ap:=ap) hz f r.1 (aq-r.2.aq) h1 bh;refine⟨by dsimp only;rw [List.length_cons];omega,fun t ht=>?_⟩;rcases List.mem_cons.1 ht with rfl|h4
   ·exact agp hS hr
   exact g2 t h4
def Kf (p:Prod) (S:List (List aC)) (i:Nat) (c:ed):Int:=(gO p i c.side c.ap c.aq.toNat S c.aq).2.2
def ru (p:Prod) (S:List (List aC)) (i:Nat) (c:ed):List (List aC):=
 if 0<Kf p S i c∧c.time=1 then(xm p (gO p i c.side c.ap c.aq.toNat S c.aq).1 i c.id c.side c.ap (Kf p S i c)).1 else(gO p i c.side c.ap c.aq.toNat S c.aq).1
theorem OY {p:Prod} {S:List (List aC)} (h:ei p S):tot S<=100000:=by
 have h1:∀S:List (List aC),(∀L∈S,L.length<=250)->tot S<=250*S.length:=fun S=>by
  induction S with
  |nil=>intro _;exact Nat.le_refl _
  |cons L t ih=>intro hh;have h2:=hh L (List.mem_cons_self ..);have h3:=ih fun K hK=>hh K (List.mem_cons_of_mem _ hK);unfold tot at h3⊢;rw [List.map_cons,List.sum_cons,List.length_cons];omega
 have h2:=h1 S fun L hL=>(h.each L hL).len;have h3:=h.le;omega
theorem SO.at_ {w:World} {B n:Nat} {a:Option Addr} {c:Nat} {T:List nt} (h:SO w B (.slice a n c) T) {k:Nat} {t:nt} (hk:T[k]? =some t):∃g fa A,a=some ⟨g,0,none⟩∧w.cell? ⟨g,k*4,none⟩=↑t.ap∧w.cell? ⟨g,k*4+1,none⟩=↑t.aq∧w.cell? ⟨g,k*4+2,none⟩=↑t.imp∧w.cell? ⟨g,k*4+3,none⟩=some (.slice fa t.rR.length A)∧qg.Row w B (.slice fa t.rR.length A) t.rR:=by
 obtain⟨H,h1,h2,h3⟩:=h;have hl:=dM hk;obtain⟨x,hx⟩:=GB H k bh;obtain⟨g,cap,e1,_,hc⟩:=h1.at_ k x hx;injection e1 with e1;obtain⟨o1,o2,D,C⟩:=h3 k x t hx hk;obtain⟨fa,A,e2⟩:=C.form;injection e2 with e2 bJ E;refine⟨g,x.a,x.c,e1,?_,?_,?_,?_,?_⟩
 ·rw [<-o1];exact hc 0 _ rfl
 ·rw [<-o2];exact hc 1 _ rfl
 ·rw [<-D];exact hc 2 _ rfl
 ·rw [<-bJ];exact hc 3 _ rfl
 rw [<-bJ];exact C
section
variable {W w w':World} {pm ps pb:Nat} {p:Prod} {Q:List Nat} {S S':List (List aC)} {E:List Int}
structure yD (W w w':World) (pm ps:Nat) (p:Prod) (Q:List Nat) (S:List (List aC)) (E:List Int) (aV:Nat) (c:ed) (v:Value) (T:List nt):Prop where
 gN:eF W w' pm ps p Q S E
 k:aK (fun g=>g∈Q) w w'
 g:av w' aV 80 c.cells
 so:SO w' ↑w v T
theorem yD.below {aV:Nat} {c:ed} {v:Value} {T:List nt} {w2:World} (h:yD W w w' pm ps p Q S E aV c v T) (hb:Below ↑w' w' w2):yD W w w2 pm ps p Q S E aV c v T:=
 ⟨h.gN.below hb,h.k.trans (Below.keeps hb),h.g.below hb,h.so.below hb⟩
theorem yD.grown {aV:Nat} {c:ed} {v:Value} {T:List nt} {w2:World} {F:Nat->Prop} (h:yD W w w' pm ps p Q S E aV c v T) (hk:aK F w' w2) (hF:∀g,F g->ck w' g 143) (hW:W.heap.size<=w.heap.size) (hb:∀g,F g->w.heap.size<=g):yD W w w2 pm ps p Q S E aV c v T:=
 ⟨h.gN.qT hk hF hW hb,h.k.step hk (fun x hx e=>absurd (hb x e) bh),h.g.keeps hk (fun e=>h.g.aE.ne (hF _ e) b9 rfl),h.so.keep hk (fun g hg e=>hg.ne (hF _ e) b9 rfl) (fun g hg e=>hg.ne (hF _ e) b9 rfl)⟩
theorem yD.told {aV:Nat} {c:ed} {v:Value} {T:List nt} {wx:World} (h:yD W w wx pm ps p Q S E aV c v T) {B:Nat} {F:List pG} {a:Option Addr} {n cc:Nat} (hF:qg.Row wx B (.slice a n cc) F) (hn:F.length=n) (hl:n<=100000) (inst sp I:Int) (K:Bool) (A r1 r2 C G H D J:Int):
 Calls Tryz.prog 112 #[.pointer ↑pm,↑inst,.agg #[↑sp,↑I,↑K,.slice a n cc],.agg #[↑A,↑r1,↑r2,↑C,↑G,↑H,↑D,↑J]] wx fun e w'=>∃v L,e= .returned v∧oa.Row w' ↑wx v L∧L.length<=3∧Below ↑wx wx w':=by
 obtain⟨M,N,h1,_⟩:=h.gN.box;exact agq h1 (h.gN.cr.pv.below h.gN.cr.aJ) hF.sl hn hl inst sp I K A r1 r2 C G H D J
theorem Ui (h:eF W w pm ps p Q S E) (hz:cR p=0) (hS:ei p S) (c:ed) {i:Nat} (n9:c.inst=i) (hi:i<S.length) (e3:c.side=1∨c.side=2) (jW:1<=c.aq) (hq1:c.aq<=100):
 Calls Tryz.prog 70 #[.pointer ↑pm,.agg c.cells] w fun e w'=>∃v L,e= .returned v∧oa.Row w' ↑w v L∧L.length<=160000∧eF W w' pm ps p Q (ru p S i c) E∧aK (fun g=>g∈Q) w w':=by
 have hb0:=Below.aI w (.cells #[↑c.kind,↑c.id,↑c.inst,↑c.side,↑c.ap,↑c.aq,↑c.least,↑c.time,.string c.label] 80);have fE:=af hb0;have jd:=af (h.below hb0);have O:Ei (av (w.alloc (.cells #[↑c.kind,↑c.id,↑c.inst,↑c.side,↑c.ap,↑c.aq,↑c.least,↑c.time,.string c.label] 80)) ↑w 80 c.cells):=af (av.new _ _ _);have ec:=af hz;have aD:=af hS;have m7:=af (II (i:=i) (side:=c.side) (ap:=c.ap) hz c.aq.toNat S c.aq hS bh);have jR:=af (X1 (i:=i) (side:=c.side) (ap:=c.ap) hz c.aq.toNat S c.aq hS bh);have lU:=af fun w (h:eH W w ps p Q S)=>Pg h hz hS hi c.side c.ap c.aq e3 jW bh;have Q5:=af h.cr.aJ.size;obtain⟨bH,hRS⟩:=ai (ru p S i c);rw [hRS];have qp:=af hRS;have Q6:Ei (Kf p S i c=(gO p i c.side c.ap c.aq.toNat S c.aq).2.2):=af rfl;have N:Ei (ru p S i c=if 0<Kf p S i c∧c.time=1 then(xm p (gO p i c.side c.ap c.aq.toNat S c.aq).1 i c.id c.side c.ap (Kf p S i c)).1 else(gO p i c.side c.ap c.aq.toNat S c.aq).1):=af rfl;rw [qp.o]at N;obtain⟨R,hR⟩:=ai (gO p i c.side c.ap c.aq.toNat S c.aq);simp only [hR]at m7 jR lU Q6 N;rw [Q6.o]at N;obtain⟨pK,T,rA⟩:=R;dsimp only at m7 jR lU N;have agr:=af hi;have amE:=af e3;clear h hz hS hb0 hRS hR Q6 hi e3;unfold ed.cells at O⊢;rw [n9]at O fE jd⊢;have ID:=af n9;clear n9;go_enter Tryz.func70,Tryz.ntmps70;go_upto_region 1 with(fail);obtain⟨aV,cj⟩:=ai w.heap.size;rw [cj]at O⊢;clear cj;generalize w.alloc (.cells _ 80)=w1 at*;have a1:=O.o.cell 1;have a2:=O.o.cell 2;have a3:=O.o.cell 3;have a4:=O.o.cell 4;have a5:=O.o.cell 5;have hba:=Below.aI w1 (.cells #[.int .i64 1,↑c.id,↑i,↑c.side,↑c.ap,↑c.aq,↑c.aq,↑()] 143);have e9:Ei (oa.Row (w1.alloc (.cells #[.int .i64 1,↑c.id,↑i,↑c.side,↑c.ap,↑c.aq,↑c.aq,↑()] 143)) ↑w (.slice ↑w1.heap.size 1 1) [⟨1,c.id,i,c.side,c.ap,c.aq,c.aq,0⟩]):=af ((bl.Row.CG oa (L:= [⟨1,c.id,i,c.side,c.ap,c.aq,c.aq,0⟩]) (av.new w1 143 _) cU).base fE.o.size);have aS:=ag fE hba;have hN:=af (jd.o.below hba);have dG:=af (O.o.below hba);clear hba fE jd;go_upto_region 2 with(fail);obtain⟨bt,gb⟩:=ai w1.heap.size;rw [gb]at e9⊢;clear gb a1 a2 a3 a4 a5 O;generalize w1.alloc (.cells _ 143)=w2 at*;have hd:=(Below.refl ↑w2 w2).drew;have bq:=af (hN.o.below hd);have u:=af (dG.o.below hd);have jg:=af (e9.o.below hd);have b6:=ag aS hd;obtain⟨AA,AB,hmb,_⟩:=bq.o.box;have dS:=hmb.MK;have a2:=u.o.cell 2;have a3:=u.o.cell 3;have a4:=u.o.cell 4;have a5:=u.o.cell 5;have xa:∀wv,eF W wv pm ps p Q S E->wv.cell? ↑(pm,11)=some (.pointer ↑ps):=fun wv hv=>by obtain⟨_,_,h1,_⟩:=hv.box;exact h1.cell 11
 clear hd hmb hN dG e9 aS;refine cP (S:=fun w'=>w'.cell? ⟨pm,11,none⟩=some (.pointer ↑ps)∧w'.cell? ⟨aV,2,none⟩=↑i∧w'.cell? ⟨aV,3,none⟩=↑c.side∧w'.cell? ⟨aV,4,none⟩=↑c.ap∧w'.cell? ⟨aV,5,none⟩=↑c.aq) ⟨dS,a2,a3,a4,a5⟩ fun hHeld=>?_;refine eX [0,1,2,3,4,5,6,7,8,9,10,11] ?_;clear dS a2 a3 a4 a5 xa;generalize w2.drew=w3 at*;have xV:=lU.o _ bq.o.cr;refine aU 12 fun K hK=>?_;go_simp;go_at_call 110;refine xV.mono ?_;rintro e az ⟨Q1,rfl,w9,Kg,iZ⟩;have w8:∀g,g∈Q->ck w3 g 181:=fun g hg=>(bq.o.cr.py hg).1;have zT:=u.o.keeps iZ (fun e=>u.o.aE.ne (w8 _ e) b9 rfl);have X2:=jg.o.keep iZ (fun g hg e=>hg.ne (w8 _ e) b9 rfl);have Q7:=bq.o.turn Kg iZ;have X3:aK (fun g=>g∈Q) w az:=(Below.keeps b6.o).trans iZ;obtain⟨ta,tc,pE⟩:=w9.form;obtain⟨tn,htn⟩:=ai T.length;rw [htn]at pE;subst pE;have X4:yD W w az pm ps p Q pK E aV c (.slice ta tn tc) T:=⟨Q7,X3,by unfold ed.cells;rw [ID.o];exact zT,w9.base b6.o.size⟩;have xa:az.cell? ↑(pm,11)=some (.pointer ↑ps):=by obtain⟨_,_,h1,_⟩:=Q7.box;exact h1.cell 11
 refine hK.out _ _ ⟨xa,zT.cell 2,zT.cell 3,zT.cell 4,zT.cell 5⟩ (fun hHeld=>?_);clear hK K;refine gu _ _ _ _ ?_;refine ej 13 ?_;refine ej 14 ?_;refine ej 15 ?_;refine ej 16 ?_;refine ej 17 ?_;refine gw ?_;have P:=af X4;have X5:=af X2;have z6:=af htn;have htb:(tn:Int)<=100:=by rw [<-htn];have:=jR.o.1;omega
 have a5:=zT.cell 5;clear hHeld w9 Kg iZ w8 zT X2 Q7 X3 X4 xa bq u jg b6 xV lU htn;go_wp2_with fail;clear a5;go_loopw [5,8,9] (fun v y j w'=>∃(k:Nat) (z:Int) (L:List xq),j=↑k∧k<=tn∧y=↑z∧oa.Row w' ↑w v L∧L.length<=1+k*1503∧yD W w w' pm ps p Q pK E aV c (.slice ta tn tc) T) (fun _ _ j _=>tn-(RowKit.intOf j).toNat)
 case atStart=>exact⟨0,c.aq,_,rfl,Nat.zero_le _,rfl,X5.o,cU,P.o⟩
 clear P X5;obtain⟨k,z,L,rfl,hk,rfl,hrow,hlen,hI⟩:=hrel;obtain⟨ax,rfl⟩:=aj wr;have Y:=af hrow;have A:=af hI;have c6:=af hlen;clear hrow hI hlen;obtain⟨ags,agt,hov⟩:=Y.o.form;obtain⟨on,hon⟩:=ai L.length;rw [hon]at hov c6;subst hov;have Kh:=af hon;clear hon;by_cases hlt:k<tn
 ·have hlt':(k:Int)<(tn:Int):=by omega
  obtain⟨t,kX⟩:=GB T k (by rw [z6.o];exact hlt);have hfl:=jR.o.2 t (List.mem_of_getElem? kX);obtain⟨gt,fa,oR,Q8,s0,s1,s2,H,hfr⟩:=A.o.so.at_ kX;subst Q8;obtain⟨tp,X,ti,F⟩:=t;dsimp only at hfl s0 s1 s2 H hfr;obtain⟨fn,hfn⟩:=ai F.length;rw [hfn]at hfl H hfr;have qR:=af hfn;have hba:=Below.aI ax (.cells #[↑tp,↑X,↑ti,.slice fa fn oR] 206);have gG:Ei (av (ax.alloc (.cells #[↑tp,↑X,↑ti,.slice fa fn oR] 206)) ↑ax 206 #[↑tp,↑X,↑ti,.slice fa fn oR]):=af (av.new _ _ _);have a:=af (Y.o.below hba);have pZ:=af (A.o.below hba);have kv:=af (hfr.below hba);clear hba hfr kX Y A hfn;go_upto_region 8 with(fail);clear s0 s1 s2 H;obtain⟨G9,Ki⟩:=ai ax.heap.size;rw [Ki]at gG⊢;clear Ki;generalize ax.alloc (.cells _ 206)=wa at*;have s1:=gG.o.GD;go_upto_region 9 with(fail);obtain⟨z2,eg⟩:=ai (wrap64 (z-X));rw [eg];clear s1 eg;go_wp2_with fail;go_loopw [5,11] (fun v j w'=>∃(m:Nat) (mz:List xq),j=↑m∧m<=fn∧oa.Row w' ↑w v mz∧mz.length<=1+k*1503+3*m∧yD W w w' pm ps p Q pK E aV c (.slice ↑gt tn tc) T∧av w' G9 206 #[↑tp,↑X,↑ti,.slice fa fn oR]∧qg.Row w' ↑w (.slice fa fn oR) F) (fun _ j _=>fn-(RowKit.intOf j).toNat)
  case atStart=>exact⟨0,L,rfl,Nat.zero_le _,a.o,by rw [Kh.o];exact c6.o,pZ.o,gG.o,kv.o⟩
  clear a pZ gG kv;obtain⟨m,mz,rfl,hm,hrow,hlen,hI,hst,hF⟩:=hrel;obtain⟨wy,rfl⟩:=aj wr;obtain⟨sH,xh,hov⟩:=hrow.form;obtain⟨qn,hon⟩:=ai mz.length;rw [hon]at hov hlen;subst hov;have o8:=af hon;have tL:=af hlen;have A6:qn<=160000:=by have h1:k*1503<=100*1503:=Nat.mul_le_mul_right _ bh;omega
  clear hon hlen;by_cases X6:m<fn
  ·have amF:(m:Int)<(fn:Int):=by omega
   obtain⟨f,CW⟩:=GB F m (by rw [qR.o];exact X6);obtain⟨ER,amG,e1,_,hc⟩:=hF.at_ m f CW;injection e1 with e1 e2 bJ;clear e2;subst e1;subst bJ;obtain⟨f0,f1,f2,f3,f4,f5⟩:=f;have d0:wy.cell? ↑(ER,m*6)=↑f0:=hc 0 _ rfl;have d1:wy.cell? ↑(ER,m*6+1)=↑f1:=hc 1 _ rfl;have d2:wy.cell? ↑(ER,m*6+2)=↑f2:=hc 2 _ rfl;have d3:wy.cell? ↑(ER,m*6+3)=↑f3:=hc 3 _ rfl;have d4:wy.cell? ↑(ER,m*6+4)=↑f4:=hc 4 _ rfl;have d5:wy.cell? ↑(ER,m*6+5)=↑f5:=hc 5 _ rfl;have H:=hst.Jf;have hba:=Below.aI wy (.cells #[↑f0,↑f1,↑f2,↑f3,↑f4,↑f5] 208);have n:Ei (av (wy.alloc (.cells #[↑f0,↑f1,↑f2,↑f3,↑f4,↑f5] 208)) ↑wy 208 #[↑f0,↑f1,↑f2,↑f3,↑f4,↑f5]):=af (av.new _ _ _);have rG:=af (hrow.below hba);have I:=af (hI.below hba);have B:=af (hst.below hba);have x:=af (hF.below hba);clear hba hc CW hrow hI hst hF;go_upto_region 13 with(fail);clear d0 d1 d2 d3 d4 d5 H;obtain⟨amH,X7⟩:=ai wy.heap.size;rw [X7]at n⊢;clear X7;generalize wy.alloc (.cells _ 208)=wb at*;have d0:=n.o.cell 0;have d1:=n.o.cell 1;have d2:=n.o.cell 2;have d3:=n.o.cell 3;have d4:=n.o.cell 4;have d5:=n.o.cell 5;have a2:=I.o.g.Je;have s0:=B.o.cell 0;have s1:=B.o.cell 1;have s2:=B.o.cell 2;have H:=B.o.cell 3;have kx:=I.o.told x.o qR.o bh c.inst tp X ti 3 f0 f1 f2 f3 f4 f5 0;go_wp2_with fail;refine kx.mono ?_;rintro e wc ⟨v9,M,rfl,r,hml,G⟩;have V:=af (rG.o.below G);have P:=af (I.o.below G);have s:=af (B.o.below G);have Kj:=af (x.o.below G);have jf:=af hml;obtain⟨ma,mc,hmv,Kk,Kl⟩:=r.rd;have Km:∀ad,ma=some ad->0<mc->∃b off,ad=⟨b,off,none⟩:=fun ad h h0=>by obtain⟨a9,kp,U,h9,_⟩:=r.sl;rw [hmv]at U;injection U with U _ tM;exact h9.2.1 ad (by rw [<-U];exact h) (by rw [<-tM];exact h0)
   subst hmv;have Kn:=af Kl;have Ko:=af Kk;have s3:=af Km;clear a2 s0 s1 s2 H d0 d1 d2 d3 d4 d5 r hml G kx Kk Kl Km rG I B x;go_wp2_with (first
    |(at_builtin;go_loud (refine oa.wV rfl (.tmp 71) (.tmp 89) rfl ↑w (.slice sH qn xh) mz rfl V.o ma mc M rfl Ko.o Kn.o s3.o (by rw [o8.o];have:=jf.o;omega) P.o.k.size ?_)))
   intro v' aN Z d eG;have D:=fK d;have C:=eo V.o;have l:=cS V.o;have He:=af (P.o.grown D C Q5.o l);have X8:=af (s.o.keeps D (fun e=>s.o.aE.ne (C _ e) b9 rfl));have Hf:=af (Kj.o.keep D (fun g hg e=>hg.ne (C _ e) b9 rfl));have k7:=af Z;clear Z d eG D C l V P s Kj Kn Ko s3;go_wp2_with fail;go_roundw
   case rel=>exact⟨m+1,_,dR,X6,k7.o,by rw [List.length_append,o8.o];have h1:=jf.o;have h2:=tL.o;omega,He.o,X8.o,Hf.o⟩
   exact Ej
  have agu:m=fn:=bh;subst agu;have rG:=af hrow;have I:=af hI;have B:=af hst;have x:=af hF;have H:=hst.Jf;clear hrow hI hst hF;go_upto_region 14 with(fail);clear H;obtain⟨wb,rfl⟩:=aj wy;have d1:=I.o.g.GD;have d3:=I.o.g.Jf;have a2:=I.o.g.Je;have s0:=B.o.cell 0;have s1:=B.o.cell 1;have s2:=B.o.cell 2;have H:=B.o.cell 3;have kx:=I.o.told x.o qR.o bh c.inst tp X ti 3 c.id c.inst c.side tp X z2 0;go_wp2_with fail;refine kx.mono ?_;rintro e wc ⟨v9,M,rfl,r,hml,G⟩;have V:=af (rG.o.below G);have P:=af (I.o.below G);have s:=af (B.o.below G);have Kj:=af (x.o.below G);have jf:=af hml;obtain⟨ma,mc,hmv,Kk,Kl⟩:=r.rd;have Km:∀ad,ma=some ad->0<mc->∃b off,ad=⟨b,off,none⟩:=fun ad h h0=>by obtain⟨a9,kp,U,h9,_⟩:=r.sl;rw [hmv]at U;injection U with U _ tM;exact h9.2.1 ad (by rw [<-U];exact h) (by rw [<-tM];exact h0)
  subst hmv;have Kn:=af Kl;have Ko:=af Kk;have s3:=af Km;clear a2 s0 s1 s2 H d1 d3 r hml G kx Kk Kl Km rG I B x;go_wp2_with (first
   |(at_builtin;go_loud (refine oa.wV rfl (.tmp 91) (.tmp 108) rfl ↑w (.slice sH qn xh) mz rfl V.o ma mc M rfl Ko.o Kn.o s3.o (by rw [o8.o];have:=jf.o;omega) P.o.k.size ?_)))
  intro v' aN Z d eG;have D:=fK d;have C:=eo V.o;have l:=cS V.o;have He:=af (P.o.grown D C Q5.o l);have X8:=af (s.o.keeps D (fun e=>s.o.aE.ne (C _ e) b9 rfl));have Hf:=af (Kj.o.keep D (fun g hg e=>hg.ne (C _ e) b9 rfl));have k7:=af Z;clear Z d eG D C l V P s Kj Kn Ko s3;go_wp2_with fail;go_roundw
  case rel=>exact⟨k+1,z2,_,dR,hlt,rfl,k7.o,by rw [List.length_append,o8.o];have h1:=jf.o;have h2:=tL.o;omega,He.o⟩
  exact Ej
 have hkn:¬(k:Int)<(tn:Int):=bh;have EU:Ei (on<=150301):=af (by have h1:k*1503<=100*1503:=Nat.mul_le_mul_right _ bh;have:=c6.o;omega);have a7:=A.o.g.My;by_cases hlf:0<rA
 ·by_cases q:c.time=1
  ·have jm:(c.time==1)=true:=by rw [q];rfl
   have nI:(c.time !=1)=false:=by rw [q];rfl
   rw [if_pos ⟨hlf,q⟩]at N;clear q;go_upto_region 16 with(fail);clear a7;have hd:=(Below.refl ↑ax ax).drew;have J:=af (A.o.below hd);have gZ:=af (Y.o.below hd);clear hd A Y;have dS:ax.drew.cell? ↑(pm,11)=some (.pointer ↑ps):=by obtain⟨_,_,h1,_⟩:=J.o.gN.box;exact h1.cell 11
   have a1:=J.o.g.GD;have a2:ax.drew.cell? ↑(aV,2)=↑i:=by rw [<-ID.o];exact J.o.g.cell 2
   have a3:=J.o.g.Jf;have a4:=J.o.g.Jg;refine cP (S:=fun w'=>w'.cell? ⟨pm,11,none⟩=some (.pointer ↑ps)∧w'.cell? ⟨aV,1,none⟩=↑c.id∧w'.cell? ⟨aV,2,none⟩=↑i∧w'.cell? ⟨aV,3,none⟩=↑c.side∧w'.cell? ⟨aV,4,none⟩=↑c.ap) ⟨dS,a1,a2,a3,a4⟩ fun hHeld=>?_;refine eX [0,1,2,3,4,5,6,7,8,9,10,11,12] ?_;clear dS a1 a2 a3 a4;generalize ax.drew=wd at*;have NB:=m7.o.1;have had:=agv J.o.gN.cr (by have:=NB.le;omega) (fun L hL=>(NB.each L hL).len) (OY NB) (i:=i) (by rw [NB.len,<-aD.o.len];exact agr.o) c.id c.side c.ap rA;refine dY 13 fun K hK=>?_;go_simp;go_at_call 113;refine had.mono ?_;rintro e fV ⟨rfl,hsb,yG⟩;refine hK.out _ _ ?_;clear hK K had;have EV:∀g,g∈Q->ck wd g 181:=fun g hg=>(J.o.gN.cr.py hg).1;have MS:=af (J.o.gN.turn hsb yG);have GQ:Ei (aK (fun g=>g∈Q) w fV):=af (J.o.k.trans yG);have A9:=af (gZ.o.keep yG (fun g hg e=>hg.ne (EV _ e) b9 rfl));have a7:=(J.o.g.keeps yG (fun e=>J.o.g.aE.ne (EV _ e) b9 rfl)).My;clear hsb yG EV hHeld;go_wp2_with fail;go_ret;exact⟨_,rfl,L,A9.o,by rw [Kh.o];have:=EU.o;omega,by rw [N.o];exact MS.o,GQ.o⟩
  have jm:(c.time==1)=false:=by rw [beq_eq_false_iff_ne];exact q
  have nI:(c.time !=1)=true:=by rw [bne_iff_ne];exact q
  rw [if_neg (fun hh=>q hh.2)]at N;clear q;have a1:=A.o.g.GD;have a2:=A.o.g.Je;have a3:=A.o.g.Jf;have a4:=A.o.g.Jg;have hba:=Below.aI ax (.cells #[.int .i64 4,↑c.id,↑c.inst,↑c.side,↑c.ap,↑rA,↑(),↑()] 143);have HN:Ei (av (ax.alloc (.cells #[.int .i64 4,↑c.id,↑c.inst,↑c.side,↑c.ap,↑rA,↑(),↑()] 143)) ↑ax 143 (⟨4,c.id,c.inst,c.side,c.ap,rA,0,0⟩:xq).cells.toArray):=af (av.new _ _ _);have a:=af (Y.o.below hba);have pZ:=af (A.o.below hba);clear hba Y A;go_wp2_with (first
   |(at_builtin;go_loud (refine oa.push rfl (.tmp 138) (.tmp 149) rfl ↑w _ L rfl a.o ↑ax ⟨4,c.id,c.inst,c.side,c.ap,rA,0,0⟩ rfl HN.o.lt HN.o.gH (by rw [Kh.o];have:=EU.o;omega) pZ.o.k.size ?_)))
  intro v' aN Z d eG;have D:=fK d;have C:=eo a.o;have l:=cS a.o;have He:=af (pZ.o.grown D C Q5.o l);have k7:=af Z;clear Z d eG D C l a pZ a1 a2 a3 a4 a7 HN;go_wp2_with fail;go_ret;exact⟨_,_,rfl,k7.o,by rw [List.length_append,Kh.o];have:=EU.o;simp only [List.length_cons,List.length_nil];omega,by rw [N.o];exact He.o.gN,He.o.k⟩
 rw [if_neg (fun hh=>hlf hh.1)]at N;go_wp2_with fail;go_ret;exact⟨_,rfl,L,Y.o,by rw [Kh.o];have:=EU.o;omega,by rw [N.o];exact A.o.gN,A.o.k⟩
end
end Go.Proofs.YtmaijkoopjocdaaGreat
