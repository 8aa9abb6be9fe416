import Derived.Test.YtmaijkoopjocdaaGreatKW39
import Derived.Test.YtmaijkoopjocdaaGreatKW44
set_option maxRecDepth 100000
set_option maxHeartbeats 64000000
namespace Go.Proofs.YtmaijkoopjocdaaGreat
open Go.RowKit Go.Lib
def vw (c:ed):Int:=if c.time=3 then c.aq else c.least
def r9 (p:Prod) (S:List (List aC)) (E:List Int) (i:Nat) (c:ed):List (List aC)×List Int:=
 if eW p i c.ap≠0 then(S,E)else if E.any (fun x=>x==c.id)=true then(S,E)else if 250<=tot S then(S,E)
 else if 0<vw c∧DL p S i c.side c.ap (vw c)<vw c then(S,E)
 else if c.time=1∧s4 p S i c.side c.ap c.aq=true then(S,E)else(ru p S i c,E++ [c.id])
section
variable {W w w':World} {pm ps pb:Nat} {p:Prod} {Q:List Nat} {S S':List (List aC)} {E:List Int}
theorem F8 (h:eF W w pm ps p Q S E) (hz:cR p=0) (hS:ei p S) (c:ed) {i:Nat} (n9:c.inst=i) (hi:i<S.length) (e3:c.side=1∨c.side=2) (jW:1<=c.aq) (hq1:c.aq<=100) (jF:c.least<=c.aq) (hE:E.length<=90000):
 Calls Tryz.prog 64 #[.pointer ↑pm,.agg c.cells] w fun e w'=>∃v,e= .returned v∧∃L,oa.Row w' ↑w v L∧L.length<=160000∧gy W w w' pm ps p Q (r9 p S E i c).1 (r9 p S E i c).2:=by
 have hb0:=Below.aI w (.cells #[↑c.kind,↑c.id,↑i,↑c.side,↑c.ap,↑c.aq,↑c.least,↑c.time,.string c.label] 80);have D:=af hb0;have N:=af h;have jG:=af (h.below hb0);have V:Ei (av (w.alloc (.cells #[↑c.kind,↑c.id,↑i,↑c.side,↑c.ap,↑c.aq,↑c.least,↑c.time,.string c.label] 80)) ↑w 80 #[↑c.kind,↑c.id,↑i,↑c.side,↑c.ap,↑c.aq,↑c.least,↑c.time,.string c.label]):=af (av.new _ _ _);have ec:=af hz;have g:=af hS;have iy:=af hi;have m8:=af e3;have bR:=af hE;have T9:vw c<=100∧(0<vw c->1<=vw c):=by unfold vw;split<;>omega
 obtain⟨R,hR⟩:=ai (r9 p S E i c);have A:Ei (R=if eW p i c.ap≠0 then(S,E)else if E.any (fun x=>x==c.id)=true then(S,E)else if 250<=tot S then(S,E)else if 0<vw c∧DL p S i c.side c.ap (vw c)<vw c then(S,E)else if c.time=1∧s4 p S i c.side c.ap c.aq=true then(S,E)else(ru p S i c,E++ [c.id])):=af (by rw [<-hR];rfl);rw [hR];have ID:=af n9;clear h hz hS hi e3 hE hb0 hR;unfold ed.cells;rw [n9];clear n9;go_enter Tryz.func64,Tryz.ntmps64;go_upto_region 1 with(fail);obtain⟨aV,cj⟩:=ai w.heap.size;rw [cj]at V⊢;clear cj;generalize w.alloc (.cells _ 80)=w1 at*;have hd:=(Below.refl ↑w1 w1).drew;have X:=af hd;have B:=af (jG.o.below hd);have C:=af (V.o.below hd);obtain⟨AA,AB,hmb,_⟩:=B.o.box;have u:(↑(w1.drew,pm,p):Prop):=⟨hmb.cell 0,hmb.cell 1,hmb.cell 2,hmb.cell 3,hmb.cell 4,hmb.cell 5,hmb.cell 6,hmb.cell 7,hmb.cell 8,hmb.cell 9,hmb.cell 10⟩;have q:Ei (∀wv,eF W wv pm ps p Q S E->↑(wv,pm,p)∧wv.cell? ↑(pm,11)=some (.pointer ↑ps)):=af fun wv hv=>by obtain⟨_,_,hmb,_⟩:=hv.box;exact⟨⟨hmb.cell 0,hmb.cell 1,hmb.cell 2,hmb.cell 3,hmb.cell 4,hmb.cell 5,hmb.cell 6,hmb.cell 7,hmb.cell 8,hmb.cell 9,hmb.cell 10⟩,hmb.cell 11⟩
 have a2:=C.o.Je;have a4:=C.o.Jg;have m:=DM p i c.ap w1.drew (B.o.cr.pv.below B.o.cr.aJ);obtain⟨pr,mo⟩:=ai (eW p i c.ap);rw [mo]at m A;unfold Prod.agg Prod.cells at m;have m:=af m;clear hmb hd mo;refine cP (S:=fun w'=>↑(w',pm,p)∧w'.cell? ⟨aV,2,none⟩=↑i∧w'.cell? ⟨aV,4,none⟩=↑c.ap) ⟨u,a2,a4⟩ fun hHeld=>?_;refine eX [0,1,2,3,4,5,6,7] ?_;clear u a2 a4;generalize w1.drew=w2 at*;refine aU 8 fun K hK=>?_;go_simp;go_at_call 67;refine m.o.mono ?_;rintro e w3 ⟨rfl,hb3⟩;have J:Ei (Below ↑w1 w1 w3):=ag X hb3;have Z:=af (jG.o.below J.o);have P:=af (V.o.below J.o);refine hK.out _ _ ⟨(q.o _ Z.o).1,P.o.cell 2,P.o.cell 4⟩ (fun hHeld=>?_);clear hK K hb3 m B C X;refine gu _ _ _ _ ?_;refine ej 9 ?_;refine gw ?_;clear hHeld;by_cases uq:pr=0
 ·subst uq;rw [if_neg (fun h=>h rfl)]at A;have OX:=QB Z.o (by have:=bR.o;omega) c.id;obtain⟨us,Ua⟩:=ai (E.any (fun x=>x==c.id));rw [Ua]at OX A;have a1:=P.o.GD;clear Ua;go_wp2_with fail;refine OX.mono ?_;rintro e az ⟨rfl,rfl⟩;clear OX a1;cases us with
  |true=>rw [if_pos rfl]at A;have a1:=(V.o.below J.o).GD;have I:=Ch c.id 25 w3;go_wp2_with fail;refine I.mono ?_;rintro e wn ⟨v,rfl,hr,G⟩;have U:=af (hr.base (Nat.le_trans D.o.size J.o.size));have H:=af (D.o.trans ((ag J G).o.mono D.o.size));clear a1 I hr G;go_wp2_with fail;go_ret;exact⟨_,rfl,_,U.o,cU,by rw [A.o];exact gy.ry N.o (N.o.below H.o) (Below.keeps H.o)⟩
  |false=>
   rw [if_neg cU]at A;have oc:=Ub Z.o.cr (by have:=g.o.le;omega) (OY g.o);obtain⟨tt,DN⟩:=ai (tot S);rw [DN]at oc A;have htb:tt<=100000:=by rw [<-DN];exact OY g.o
   have dS:=(q.o _ Z.o).2;clear DN;go_wp2_with fail;refine oc.mono ?_;rintro e az ⟨rfl,rfl⟩;clear oc dS;by_cases hfull:250<=tt
   ·have OZ:(250:Int)<=(tt:Int):=by omega
    rw [if_pos hfull]at A;have a1:=(V.o.below J.o).GD;have I:=Ch c.id 13 w3;go_wp2_with fail;refine I.mono ?_;rintro e wn ⟨v,rfl,hr,G⟩;have U:=af (hr.base (Nat.le_trans D.o.size J.o.size));have H:=af (D.o.trans ((ag J G).o.mono D.o.size));clear a1 I hr G;go_wp2_with fail;go_ret;exact⟨_,rfl,_,U.o,cU,by rw [A.o];exact gy.ry N.o (N.o.below H.o) (Below.keeps H.o)⟩
   have OZ:¬(250:Int)<=(tt:Int):=bh;rw [if_neg hfull]at A;obtain⟨nd,O0⟩:=ai (vw c);rw [O0]at A T9;have Uc:=af O0;have a6:=P.o.Ji;have a7:=P.o.My;have a5:=P.o.Jh;clear O0;go_upto_if 42 with(fail);go_cut [6] (fun v wx=>v=↑nd∧w3=wx)
   case first=>
    by_cases ht:c.time=3
    ·have ht':(c.time==3)=true:=by rw [ht];rfl
     have M:Ei (nd=c.aq):=af (by rw [<-Uc.o];unfold vw;rw [if_pos ht]);clear ht;go_wp2_with fail;go_meet;exact⟨by rw [M.o],cF⟩
    have ht':(c.time==3)=false:=by rw [beq_eq_false_iff_ne];exact ht
    have M:Ei (nd=c.least):=af (by rw [<-Uc.o];unfold vw;rw [if_neg ht]);clear ht;go_wp2_with fail;go_meet;exact⟨by rw [M.o],cF⟩
   case rest=>
   obtain⟨rfl,rfl⟩:=hcut;clear a5 a6 a7;obtain⟨b1,Ud⟩:∃b:Bool,decide (0<nd∧DL p S i c.side c.ap nd<nd)=b:=⟨_,rfl⟩;have d:=af Ud;clear Ud;go_upto_region 11 with(fail);go_cut [62] (fun v wx=>v=↑b1∧Below ↑w3 w3 wx)
   case first=>
    have hd:=(Below.refl ↑w3 w3).drew;have B:=af (Z.o.below hd);have C:=af (P.o.below hd);have dS:=(q.o _ B.o).2;have a2:=C.o.Je;have a3:=C.o.Jf;have a4:=C.o.Jg;have X:=af hd;clear hd;refine cP (S:=fun w'=>w'.cell? ⟨pm,11,none⟩=some (.pointer ↑ps)∧w'.cell? ⟨aV,2,none⟩=↑i∧w'.cell? ⟨aV,3,none⟩=↑c.side∧w'.cell? ⟨aV,4,none⟩=↑c.ap) ⟨dS,a2,a3,a4⟩ fun hHeld=>?_;clear dS a2 a3 a4;by_cases hn0:0<nd
    ·skip
     refine eX [0,1,2,3,4,5,6,7,8,9,10,11,12,13,15] ?_;generalize w3.drew=Y at*;have hJ:=QD B.o.cr ec.o g.o iy.o c.side c.ap nd m8.o bh bh;obtain⟨aY,hcv⟩:=ai (DL p S i c.side c.ap nd);rw [hcv]at hJ d;clear hcv;refine aU 14 fun K hK=>?_;go_simp;go_at_call 106;refine hJ.mono ?_;rintro e aN ⟨rfl,n⟩;have O1:=af (B.o.below n);have m9:=af (C.o.below n);have b7:=ag X n;refine hK.out _ _ ⟨(q.o _ O1.o).2,m9.o.cell 2,m9.o.cell 3,m9.o.cell 4⟩ (fun hHeld=>?_);clear hK K n hJ;have M:Ei (decide (aY<nd)=b1):=af (by rw [<-d.o];simp [hn0]);refine gu _ _ _ _ ?_;refine ej 16 ?_;refine ej 17 ?_;refine gw ?_;clear hHeld;go_wp2_with fail;go_meet;exact⟨by rw [<-M.o],b7.o⟩
    have M:Ei (b1=false):=af (by rw [<-d.o,decide_eq_false_iff_not];exact fun hh=>hn0 hh.1);refine eX [0,1,2] ?_;refine c7 3 ?_;refine c7 4 ?_;refine c7 5 ?_;refine c7 6 ?_;refine c7 7 ?_;refine c7 8 ?_;refine c7 9 ?_;refine c7 10 ?_;refine c7 11 ?_;refine c7 12 ?_;refine c7 13 ?_;refine c7 14 ?_;refine c7 15 ?_;refine c7 16 ?_;refine gu _ _ _ _ ?_;refine ej 17 ?_;refine gw ?_;clear hHeld;go_wp2_with fail;go_meet;exact⟨by rw [M.o],X.o⟩
   case rest=>
   obtain⟨rfl,T⟩:=hcut;have s:Ei (Below ↑w1 w1 wc):=ag J T;have sb:=af (Z.o.below T);have mJ:=af (P.o.below T);clear T Z P J;generalize wc=Y at*;cases b1 with
   |true=>have F:=d.o;rw [decide_eq_true_eq]at F;rw [if_pos F]at A;clear F;have a1:=(V.o.below s.o).GD;have I:=Ch c.id 28 Y;go_wp2_with fail;refine I.mono ?_;rintro e wn ⟨v,rfl,hr,G⟩;have U:=af (hr.base (Nat.le_trans D.o.size s.o.size));have H:=af (D.o.trans ((ag s G).o.mono D.o.size));clear a1 I hr G;go_wp2_with fail;go_ret;exact⟨_,rfl,_,U.o,cU,by rw [A.o];exact gy.ry N.o (N.o.below H.o) (Below.keeps H.o)⟩
   |false=>
    have F:=d.o;rw [decide_eq_false_iff_not]at F;rw [if_neg F]at A;clear F d;obtain⟨b2,Ue⟩:∃b:Bool,decide (c.time=1∧s4 p S i c.side c.ap c.aq=true)=b:=⟨_,rfl⟩;have r:=af Ue;clear Ue;go_upto_region 13 with(fail);go_cut [87] (fun v wx=>v=↑b2∧Below ↑Y Y wx)
    case first=>
     have hd:=(Below.refl ↑Y Y).drew;have B:=af (sb.o.below hd);have C:=af (mJ.o.below hd);have u:=q.o _ B.o;have a2:=C.o.Je;have a3:=C.o.Jf;have a4:=C.o.Jg;have a5:=C.o.Jh;have a7:=C.o.My;have X:=af hd;clear hd;refine cP (S:=fun w'=>(↑(w',pm,p)∧w'.cell? ⟨pm,11,none⟩=some (.pointer ↑ps))∧w'.cell? ⟨aV,2,none⟩=↑i∧w'.cell? ⟨aV,3,none⟩=↑c.side∧w'.cell? ⟨aV,4,none⟩=↑c.ap∧w'.cell? ⟨aV,5,none⟩=↑c.aq∧w'.cell? ⟨aV,7,none⟩=↑c.time) ⟨u,a2,a3,a4,a5,a7⟩ fun hHeld=>?_;clear u a2 a3 a4 a5 a7;by_cases l:c.time=1
     ·have ht':(c.time==1)=true:=by rw [l];rfl
      have M:Ei (s4 p S i c.side c.ap c.aq=b2):=af (by rw [<-r.o,l];simp);clear l;refine eX [0,1,2,3,4,5,6,7,8,9,10,11,12,13,14,15,16,17,18,19] ?_;generalize Y.drew=aN at*;have gG:=Uf B.o.cr ec.o g.o iy.o c.side c.ap c.aq m8.o jW bh;rw [M.o]at gG;unfold Prod.agg Prod.cells at gG;refine aU 20 fun K hK=>?_;go_simp;go_at_call 69;refine gG.mono ?_;rintro e bf ⟨rfl,jn⟩;have QI:=af (B.o.below jn);have y:=af (C.o.below jn);have dP:=ag X jn;refine hK.out _ _ ⟨q.o _ QI.o,y.o.cell 2,y.o.cell 3,y.o.cell 4,y.o.cell 5,y.o.cell 7⟩ (fun hHeld=>?_);clear hK K jn gG;refine gu _ _ _ _ ?_;refine ej 21 ?_;refine gw ?_;clear hHeld;go_wp2_with fail;go_meet;exact⟨cF,dP.o⟩
     have ht':(c.time==1)=false:=by rw [beq_eq_false_iff_ne];exact l
     have M:Ei (b2=false):=af (by rw [<-r.o,decide_eq_false_iff_not];exact fun hh=>l hh.1);clear l;refine eX [0,1,2,3] ?_;refine c7 4 ?_;refine c7 5 ?_;refine c7 6 ?_;refine c7 7 ?_;refine c7 8 ?_;refine c7 9 ?_;refine c7 10 ?_;refine c7 11 ?_;refine c7 12 ?_;refine c7 13 ?_;refine c7 14 ?_;refine c7 15 ?_;refine c7 16 ?_;refine c7 17 ?_;refine c7 18 ?_;refine c7 19 ?_;refine c7 20 ?_;refine gu _ _ _ _ ?_;refine ej 21 ?_;refine gw ?_;clear hHeld;go_wp2_with fail;go_meet;exact⟨by rw [M.o],X.o⟩
    case rest=>
    obtain⟨rfl,T⟩:=hcut;have z:Ei (Below ↑w1 w1 wc):=ag s T;have Ci:=af (sb.o.below T);have qF:=af (mJ.o.below T);clear T sb mJ s;generalize wc=t at*;cases b2 with
    |true=>have F:=r.o;rw [decide_eq_true_eq]at F;rw [if_pos F]at A;clear F;have a1:=(V.o.below z.o).GD;have I:=Ch c.id 23 t;go_wp2_with fail;refine I.mono ?_;rintro e wn ⟨v,rfl,hr,G⟩;have U:=af (hr.base (Nat.le_trans D.o.size z.o.size));have H:=af (D.o.trans ((ag z G).o.mono D.o.size));clear a1 I hr G;go_wp2_with fail;go_ret;exact⟨_,rfl,_,U.o,cU,by rw [A.o];exact gy.ry N.o (N.o.below H.o) (Below.keeps H.o)⟩
    |false=>
     have F:=r.o;rw [decide_eq_false_iff_not]at F;rw [if_neg F]at A;clear F r;obtain⟨sa,sc,aT,hrw⟩:=Ci.o.box;obtain⟨sn,qC⟩:=ai E.length;have hd:=(Below.refl ↑t t).drew;have O2:t.drew.cell? ↑(pm,12)=some (.slice sa sn sc):=by rw [<-qC];exact(aT.below hd).cell 12
     have a1:=(qF.o.below hd).GD;have B:=af (Ci.o.below hd);have C:=af (qF.o.below hd);have jX:=af (aT.below hd);have iz:=af (hrw.below hd);have b6:=ag z hd;have lR:=af qC;clear aT hrw hd qC Ci qF z;go_upto_region 15 with(fail);refine cP (S:=fun w'=>w'.cell? ⟨pm,12,none⟩=some (.slice sa sn sc)∧w'.cell? ⟨aV,1,none⟩=↑c.id) ⟨O2,a1⟩ fun hHeld=>?_;refine eX [0,1,2,3,4,5,6] ?_;clear O2 a1;generalize t.drew=j at*;refine aU 7 fun K hK=>?_;go_simp;have hba:=Below.aI j (.cells #[↑c.id] 2);have iA:av (j.alloc (.cells #[↑c.id] 2)) ↑j 2 (lA c.id).toArray:=av.new _ _ _;have a:=C.o.below hba;have Ug:=jX.o.below hba;have f:=iz.o.below hba;have Ra:=B.o.below hba;refine hK.out _ _ ⟨by rw [<-lR.o];exact Ug.cell 12,a.cell 1⟩ (fun hHeld=>?_);clear hK K;have cK:=af hba;clear hba Ug Ra;generalize j.alloc (.cells #[↑c.id] 2)=AE at*;rw [lR.o]at f;refine aU 8 fun K hK=>?_;refine e8.step rfl (.tmp 95) (.tmp 98) rfl ↑W _ E rfl f ↑j c.id rfl iA.lt iA.gH (by have:=bR.o;omega) (Nat.le_trans (eF.base B.o) (Nat.le_trans (Nat.le_of_lt B.o.aE.lt) cK.o.size)) ?_;intro v' Ga AF vz DP;have jH:=fK vz;have bT:=eo f;have O3:=a.keeps jH (fun e=>a.aE.ne (bT _ e) b9 rfl);obtain⟨va,vc,dF⟩:=AF.form;obtain⟨vn,s5⟩:=ai ((E++ [c.id]).length);rw [s5]at dF;subst dF;rw [<-lR.o]at vz DP;obtain⟨Cj,O4,Pb⟩:=gy.more B.o jX.o iz.o cK.o AF vz DP;rw [lR.o]at O4;have Uh:=O3.keeps (ct Ga pm 12 (.slice va vn vc)) (fun e=>by have e2:aV=pm:=e;have h1:=B.o.aE;have h2:=C.o.aE;exact h2.ne h1 b9 e2);refine hK.out _ _ ⟨O4,O3.cell 1⟩ (fun hHeld=>?_);clear hK K;have O5:=af Cj;have O:=af Uh;refine eX [9,10] ?_;clear hHeld Cj Uh O3 a jH bT AF vz DP iA f;refine dY 11 fun K hK=>?_;go_simp;refine hK.out _ _ ?_;clear hK K O4 Pb;generalize Ga.setCell ⟨pm,12,none⟩ (.slice va vn vc)=uI at*;have a0:=O.o.cell 0;have a1:=O.o.cell 1;have a2:=O.o.cell 2;have a3:=O.o.cell 3;have a4:=O.o.cell 4;have a5:=O.o.cell 5;have a6:=O.o.cell 6;have a7:=O.o.cell 7;have a8:=O.o.cell 8;have xV:=Ui O5.o.gN ec.o g.o c ID.o iy.o m8.o jW hq1;unfold ed.cells at xV;rw [ID.o]at xV;go_wp2_with fail;refine xV.mono ?_;rintro e alQ ⟨v,L,rfl,hr,hl,hmb,Uj⟩;have O6:w.heap.size<=j.heap.size:=Nat.le_trans D.o.size b6.o.size;have Uk:=gy.ry N.o B.o (Below.keeps (ah D b6).o);have O7:=Uk.trans O5.o O6;have O8:w.heap.size<=uI.heap.size:=O7.k.size;have Pc:=af (O7.trans (gy.ry O5.o.gN hmb Uj) O8);have iT:=af (hr.base O8);clear a0 a1 a2 a3 a4 a5 a6 a7 a8 xV hr hmb Uj Uk O7 O6 O8;go_wp2_with fail;go_ret;exact⟨_,rfl,L,iT.o,hl,by rw [A.o];exact Pc.o⟩
 rw [if_pos uq]at A;have a1:=(V.o.below J.o).GD;have I:=Ch c.id pr w3;go_wp2_with fail;refine I.mono ?_;rintro e wn ⟨v,rfl,hr,G⟩;have U:=af (hr.base (Nat.le_trans D.o.size J.o.size));have H:=af (D.o.trans ((ag J G).o.mono D.o.size));clear a1 I hr G;go_wp2_with fail;go_ret;exact⟨_,rfl,_,U.o,cU,by rw [A.o];exact gy.ry N.o (N.o.below H.o) (Below.keeps H.o)⟩
end
def mq (p:Prod) (S:List (List aC)) (E:List Int) (c:ed):List (List aC)×List Int:=
 if c.kind=1 then r9 p S E c.inst.toNat c
 else match gR c.id 0 S with
  |none=>(S,E)
  |some (i,x)=>
   if c.kind=2∨(c.kind=3∧x.aq<=c.aq)then((fW S c.id x.aq).1,E)
   else if c.kind=3 then((fW S c.id c.aq).1,E)
   else if eW p i c.ap≠0 then(S,E)
   else if c.ap=x.ap∧c.aq<=x.aq then(if c.aq<x.aq then((fW S c.id (x.aq-c.aq)).1,E)else(S,E))
   else if s4 p (fW S c.id x.aq).1 i x.side c.ap c.aq=true then(S,E)
   else(ru p (fW S c.id x.aq).1 i ⟨0,c.id,i,x.side,c.ap,c.aq,0,1,⟨#[]⟩⟩,E)
theorem ei.take {p:Prod} {S:List (List aC)} (h:ei p S) (id aq:Int):ei p (fW S id aq).1:=by
 cases hf:gR id 0 S with
 |none=>rw [V0 hf];exact h
 |some A=>obtain⟨i,x⟩:=A;obtain⟨_,L,hL,_⟩:=MP S 0 hf;rw [Nat.sub_zero]at hL;rw [V1 hf hL];exact h.set ((h.each L (List.mem_of_getElem? hL)).fill id aq)
theorem MQ {p:Prod} {S:List (List aC)} (h:ei p S) {id:Int} {i:Nat} {x:aC} (hf:gR id 0 S=some (i,x)):i<S.length∧(x.side=1∨x.side=2)∧1<=x.aq∧x.aq<=1000000:=by
 obtain⟨_,L,hL,hfo⟩:=MP S 0 hf;rw [Nat.sub_zero]at hL;have hm:x∈L:=by
  unfold vQ at hfo;cases hx:L.find? (fun o=>o.id==id)with
  |none=>rw [hx]at hfo;cases hfo
  |some o=>rw [hx]at hfo;injection hfo with h1;rw [<-h1];exact List.mem_of_find?_eq_some hx
 have:=(h.each L (List.mem_of_getElem? hL)).each x hm;exact⟨dM hL,this.2.1,this.1⟩
end Go.Proofs.YtmaijkoopjocdaaGreat
