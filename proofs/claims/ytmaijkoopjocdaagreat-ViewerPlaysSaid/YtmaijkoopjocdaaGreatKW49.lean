import Derived.Test.YtmaijkoopjocdaaGreatKW42
import Derived.Test.YtmaijkoopjocdaaGreatKW45
set_option maxRecDepth 100000
set_option maxHeartbeats 64000000
namespace Go.Proofs.YtmaijkoopjocdaaGreat
open Go.RowKit Go.Lib
section
variable {p:Prod} {S:List (List aC)} {E:List Int}
theorem ei.QM (h:ei p S) (i:Nat) (id side ap aq:Int) (hp: -2000000<=ap∧ap<=2000000):ei p (xm p S i id side ap aq).1:=by
 unfold xm;split
 ·exact h
 split
 ·exact h
 split
 ·exact h
 exact h.set ((h.at_ i).add id side ap aq hp)
theorem ei.run (h:ei p S) (hz:cR p=0) (i:Nat) (c:ed) (hq:1<=c.aq) (hp: -2000000<=c.ap∧c.ap<=2000000):ei p (ru p S i c):=by
 have h1:=(II (i:=i) (side:=c.side) (ap:=c.ap) hz c.aq.toNat S c.aq h bh).1;unfold ru;split
 ·exact h1.QM i c.id c.side c.ap _ hp
 exact h1
theorem ei.come (h:ei p S) (hz:cR p=0) (i:Nat) (c:ed) (hq:1<=c.aq) (hp: -2000000<=c.ap∧c.ap<=2000000):ei p (r9 p S E i c).1∧(r9 p S E i c).2.length<=E.length+1:=by
 unfold r9;split
 ·exact⟨h,Nat.le_succ _⟩
 split
 ·exact⟨h,Nat.le_succ _⟩
 split
 ·exact⟨h,Nat.le_succ _⟩
 split
 ·exact⟨h,Nat.le_succ _⟩
 split
 ·exact⟨h,Nat.le_succ _⟩
 exact⟨h.run hz i c hq hp,by rw [List.length_append];exact Nat.le_refl _⟩
theorem ei.J9 (h:ei p S) (hz:cR p=0) (c:ed) {n:Nat} (hc:yg n c):ei p (mq p S E c).1∧(mq p S E c).2.length<=E.length+1:=by
 unfold mq;split
 ·exact h.come hz _ c hc.aq.1 hc.ap
 split
 ·exact⟨h,Nat.le_succ _⟩
 rename_i i x hf;split
 ·exact⟨h.take _ _,Nat.le_succ _⟩
 split
 ·exact⟨h.take _ _,Nat.le_succ _⟩
 split
 ·exact⟨h,Nat.le_succ _⟩
 split
 ·split
  ·exact⟨h.take _ _,Nat.le_succ _⟩
  exact⟨h,Nat.le_succ _⟩
 split
 ·exact⟨h,Nat.le_succ _⟩
 exact⟨(h.take _ _).run hz i _ hc.aq.1 hc.ap,Nat.le_succ _⟩
theorem ei.new (p:Prod):ei p (List.replicate (countP p).toNat []):=
 ⟨List.length_replicate,fun L hL=>by rw [(List.mem_replicate.1 hL).2];exact j8.nil⟩
end
section
variable {W w w':World} {pm ps pb:Nat} {p:Prod} {Q:List Nat} {S S':List (List aC)} {E:List Int}
theorem UI (h:eF W w pm ps p Q S E) (hz:cR p=0) (hS:ei p S) (c:ed) (hc:yg S.length c) (hE:E.length<=90000) (Z:c.kind=1):
 Calls Tryz.prog 29 #[.pointer ↑pm,.agg c.cells] w fun e w'=>∃v,e= .returned v∧gy W w w' pm ps p Q (mq p S E c).1 (mq p S E c).2:=by
 have hb0:=Below.aI w (.cells c.cells 80);have O:=af hb0;have j:=af h;have Y:=af (h.below hb0);have A:Ei (av (w.alloc (.cells c.cells 80)) ↑w 80 c.cells):=af (av.new _ _ _);have P:=af fun w=>GJ c hc (by have:=hS.le;omega) w;have t:=af hz;have r:=af hS;have s:=af hE;have d:=af hc;have g:=af fun(wv:World) (hv:eF W wv pm ps p Q S E) (i:Nat) (l:c.inst=i) (hi:i<S.length) (C:c.side=1∨c.side=2) (D:c.least<=c.aq)=>F8 hv hz hS c l hi C hc.aq.1 hc.aq.2 D hE;obtain⟨R,hR⟩:=ai (mq p S E c);have V:Ei (R=if c.kind=1 then r9 p S E c.inst.toNat c
 else match gR c.id 0 S with
  |none=>(S,E)
  |some (i,x)=>
   if c.kind=2∨(c.kind=3∧x.aq<=c.aq)then((fW S c.id x.aq).1,E)
   else if c.kind=3 then((fW S c.id c.aq).1,E)
   else if eW p i c.ap≠0 then(S,E)
   else if c.ap=x.ap∧c.aq<=x.aq then(if c.aq<x.aq then((fW S c.id (x.aq-c.aq)).1,E)else(S,E))
   else if s4 p (fW S c.id x.aq).1 i x.side c.ap c.aq=true then(S,E)
   else(ru p (fW S c.id x.aq).1 i ⟨0,c.id,i,x.side,c.ap,c.aq,0,1,⟨#[]⟩⟩,E)):=af (by rw [<-hR];rfl)
 rw [hR];have q:=af Z;clear h hz hS hE hb0 hR hc Z;obtain⟨kd,id,inst,side,ap,aq,least,time,label⟩:=c;unfold ed.cells at*;dsimp only at*;go_enter Tryz.func29,Tryz.ntmps29;go_upto_region 1 with(fail);obtain⟨aV,U⟩:=ai w.heap.size;rw [U]at A⊢;clear U;generalize w.alloc (.cells _ 80)=w1 at*;have c0:=A.o.cell 0;have c1:=A.o.cell 1;have c2:=A.o.cell 2;have c3:=A.o.cell 3;have H:=A.o.cell 4;have G:=A.o.cell 5;have I:=A.o.cell 6;have J:=A.o.cell 7;have K:=A.o.cell 8;have h6:=P.o w1;go_wp2_with fail;refine h6.mono ?_;rintro e w2 ⟨rfl,hb2⟩;have N:=ag O hb2;have X:=af (Y.o.below hb2);have B:=af (A.o.below hb2);clear c0 c1 c2 c3 H G I J K h6 hb2 P Y A O;have c0:=B.o.cell 0;by_cases T:kd=1
 ·subst T;rw [if_pos rfl]at V;obtain⟨C,_,⟨_,D⟩,i,hin,hil⟩:=d.o.new rfl;dsimp only at C D hin;have F:=g.o w2 X.o i hin hil C D;have M:R=r9 p S E i ⟨1,id,inst,side,ap,aq,least,time,label⟩:=by rw [V.o,hin,Int.toNat_natCast]
  rw [<-M]at F;have c1:=B.o.cell 1;have c2:=B.o.cell 2;have c3:=B.o.cell 3;have H:=B.o.cell 4;have G:=B.o.cell 5;have I:=B.o.cell 6;have J:=B.o.cell 7;have K:=B.o.cell 8;have m:=af F;clear C D hin hil M F;go_wp2_with fail;refine m.o.mono ?_;rintro e w3 ⟨v,rfl,_,_,_,L⟩;have b:=af ((gy.ry j.o X.o (Below.keeps N.o)).trans L N.o.size);clear L c0 c1 c2 c3 H G I J K;go_wp2_with fail;go_ret;exact⟨_,rfl,b.o⟩
 exact absurd q.o T
theorem UJ (h:eF W w pm ps p Q S E) (hz:cR p=0) (hS:ei p S) (c:ed) (hc:yg S.length c) (hE:E.length<=90000) (rJ:c.kind≠1) (hfind:gR c.id 0 S=none):
 Calls Tryz.prog 29 #[.pointer ↑pm,.agg c.cells] w fun e w'=>∃v,e= .returned v∧gy W w w' pm ps p Q (mq p S E c).1 (mq p S E c).2:=by
 have hb0:=Below.aI w (.cells c.cells 80);have z:=af hb0;have jd:=af h;have jG:=af (h.below hb0);have B:Ei (av (w.alloc (.cells c.cells 80)) ↑w 80 c.cells):=af (av.new _ _ _);have a:=af fun w=>GJ c hc (by have:=hS.le;omega) w;have ec:=af hz;have t:=af hS;have bR:=af hE;have bg:=af hc;have hJ:=af fun(wv:World) (hv:eF W wv pm ps p Q S E) (i:Nat) (n9:c.inst=i) (hi:i<S.length) (e3:c.side=1∨c.side=2) (jF:c.least<=c.aq)=>F8 hv hz hS c n9 hi e3 hc.aq.1 hc.aq.2 jF hE;obtain⟨R,hR⟩:=ai (mq p S E c);have V:Ei (R=if c.kind=1 then r9 p S E c.inst.toNat c
 else match gR c.id 0 S with
  |none=>(S,E)
  |some (i,x)=>
   if c.kind=2∨(c.kind=3∧x.aq<=c.aq)then((fW S c.id x.aq).1,E)
   else if c.kind=3 then((fW S c.id c.aq).1,E)
   else if eW p i c.ap≠0 then(S,E)
   else if c.ap=x.ap∧c.aq<=x.aq then(if c.aq<x.aq then((fW S c.id (x.aq-c.aq)).1,E)else(S,E))
   else if s4 p (fW S c.id x.aq).1 i x.side c.ap c.aq=true then(S,E)
   else(ru p (fW S c.id x.aq).1 i ⟨0,c.id,i,x.side,c.ap,c.aq,0,1,⟨#[]⟩⟩,E)):=af (by rw [<-hR];rfl)
 rw [hR];have yh:=af rJ;have qR:=af hfind;clear h hz hS hE hb0 hR hc rJ hfind hJ;obtain⟨kd,id,inst,side,ap,aq,least,time,label⟩:=c;unfold ed.cells at*;dsimp only at*;go_enter Tryz.func29,Tryz.ntmps29;go_upto_region 1 with(fail);obtain⟨aV,k⟩:=ai w.heap.size;rw [k]at B⊢;clear k;generalize w.alloc (.cells _ 80)=w1 at*;have c0:=B.o.cell 0;have c1:=B.o.cell 1;have c2:=B.o.cell 2;have c3:=B.o.cell 3;have dH:=B.o.cell 4;have b8:=B.o.cell 5;have fJ:=B.o.cell 6;have gL:=B.o.cell 7;have iC:=B.o.cell 8;have h6:=a.o w1;go_wp2_with fail;refine h6.mono ?_;rintro e w2 ⟨rfl,hb2⟩;have y:=ag z hb2;have g:=af (jG.o.below hb2);have X:=af (B.o.below hb2);clear c0 c1 c2 c3 dH b8 fJ gL iC h6 hb2 a jG B z;have c0:=X.o.cell 0;have f:¬kd=1:=yh.o;have xd:(kd==1)=false:=by rw [beq_eq_false_iff_ne];exact f
 rw [if_neg f]at V;have mO:kd=2∨kd=3∨kd=4:=by have:=bg.o.kind;dsimp only at this;omega
 go_upto_region 6 with(fail);clear c0 xd;obtain⟨Z,px⟩:=ai (gR id 0 S);obtain⟨fi,o0,o1,o2,D,G,fb,kV,qP⟩:∃(fi o0 o1 o2 D:Int) (G fb:Bool),xe Z= .tuple #[↑fi,.agg #[↑o0,↑o1,↑o2,↑D,↑G],↑fb]∧((Z=none∧fb=false)∨∃(i:Nat),Z=some (i,⟨o0,o1,o2,D,G⟩)∧fb=true∧fi=i):=by
  cases Z with
  |none=>exact⟨0,0,0,0,0,false,false,rfl,.inl ⟨rfl,rfl⟩⟩
  |some rI=>obtain⟨i,x0,x1,aZ,cl,cw⟩:=rI;exact⟨i,x0,x1,aZ,cl,cw,true,rfl,.inr ⟨i,rfl,rfl,rfl⟩⟩
 have A5:=af qP;have m:=af px;clear qP px;go_cut [6,7,8] (fun u v b wx=>u=↑fi∧b=↑fb∧(∃aO:Nat,v= .pointer ↑aO∧av wx aO 139 #[↑o0,↑o1,↑o2,↑D,↑G])∧Below ↑w2 w2 wx)
 case first=>
  have hd:=(Below.refl ↑w2 w2).drew;have H:=af (g.o.below hd);have J:=af (X.o.below hd);have dI:=af hd;have j:∀wv,eF W wv pm ps p Q S E->wv.cell? ↑(pm,11)=some (.pointer ↑ps):=fun wv hv=>by obtain⟨_,_,h1,_⟩:=hv.box;exact h1.cell 11
  have P:=af j;have dS:=j _ H.o;have c1:=J.o.GD;clear hd j;refine cP (S:=(fun w'=>w'.cell? ⟨pm,11,none⟩=some (.pointer ↑ps)∧w'.cell? ⟨aV,1,none⟩=↑id)) ⟨dS,c1⟩ fun hHeld=>?_;refine eX [0,1,2,3,4,5] ?_;clear dS c1;generalize w2.drew=I at*;have uz:Ei (∀wv,eF W wv pm ps p Q S E->Calls Tryz.prog 65 #[.pointer ↑ps,↑id] wv fun e w'=>e= .returned (.tuple #[↑fi,.agg #[↑o0,↑o1,↑o2,↑D,↑G],↑fb])∧Below wv.heap.size wv w'):=af fun wv hv=>by have:=Ep hv.cr (by have:=t.o.le;omega) (fun L hL=>(t.o.each L hL).len) id;rw [m.o,kV]at this;exact this
  refine lZ 6 11 (fun K hK=>?_) fun K hK=>?_
  ·go_simp;go_at_call 65;refine(uz.o _ H.o).mono ?_;rintro e wa ⟨rfl,hba⟩;have T:=af hba;refine hK.out _ _ ⟨P.o _ (H.o.below hba),(J.o.below hba).cell 1⟩ (fun hHeld=>?_);clear hK K hba;refine eX [7,8,9,10] ?_;refine aU 11 fun K hK=>?_;go_simp;have C:=Below.aI wa (.cells #[↑(),↑(),↑(),↑(),.bool false] 139);have A:av (wa.alloc (.cells #[↑(),↑(),↑(),↑(),.bool false] 139)) ↑wa 139 #[↑(),↑(),↑(),↑(),.bool false]:=av.new _ _ _;have M:=ag T C;refine hK.out _ _ ⟨P.o _ (H.o.below M.o),(J.o.below M.o).cell 1⟩ (fun hHeld=>?_);clear hK K C;obtain⟨aO,O⟩:=ai wa.heap.size;have F:Ei (I.heap.size<=aO):=af (by rw [<-O];exact T.o.size);rw [O]at A⊢;clear O;generalize wa.alloc (.cells #[↑(),↑(),↑(),↑(),.bool false] 139)=wb at*;refine eX [12] ?_;have e0:=A.cell 0;have e1:=A.cell 1;have e2:=A.cell 2;have bJ:=A.cell 3;have d:=A.cell 4;have q:=A.frozen;have U:=A.qc ↑o0 ↑o1 ↑o2 ↑D ↑G;have N:=af (((((M.o.setCell (p:=⟨aO,0,none⟩) F.o ↑o0).setCell (p:=⟨aO,1,none⟩) F.o ↑o1).setCell (p:=⟨aO,2,none⟩) F.o ↑o2).setCell (p:=⟨aO,3,none⟩) F.o ↑D).setCell (p:=⟨aO,4,none⟩) F.o ↑G);have r:=af U;clear A U;refine aU 13 fun K hK=>?_;go_simp;clear e0 e1 e2 bJ d q;refine hK.out _ _ ⟨P.o _ (H.o.below N.o),(J.o.below N.o).cell 1⟩ (fun hHeld=>?_);clear hK K;generalize (((((wb.setCell ↑aO ↑o0).setCell ⟨aO,1,none⟩ ↑o1).setCell ⟨aO,2,none⟩ ↑o2).setCell ⟨aO,3,none⟩ ↑D).setCell ⟨aO,4,none⟩ ↑G)=wf at*;refine gu _ _ _ _ ?_;refine ej 14 ?_;refine gw ?_;clear hHeld;have l:=ah dI N;go_wp2_with fail;go_meet;exact⟨cF,cF,⟨aO,rfl,r.o⟩,l.o⟩
  go_simp;have C:=Below.aI I (.cells #[↑(),↑(),↑(),↑(),.bool false] 139);have s:av (I.alloc (.cells #[↑(),↑(),↑(),↑(),.bool false] 139)) ↑I 139 #[↑(),↑(),↑(),↑(),.bool false]:=av.new _ _ _;have T:=af C;refine hK.out _ _ ⟨P.o _ (H.o.below C),(J.o.below C).cell 1⟩ (fun hHeld=>?_);clear hK K C;obtain⟨aO,O⟩:=ai I.heap.size;have F:Ei (I.heap.size<=aO):=af (by rw [<-O];exact Nat.le_refl _);rw [O]at s⊢;clear O;generalize I.alloc (.cells #[↑(),↑(),↑(),↑(),.bool false] 139)=wa at*;refine aU 6 fun K hK=>?_;go_simp;go_at_call 65;refine(uz.o _ (H.o.below T.o)).mono ?_;rintro e wb ⟨rfl,C⟩;have M:=ag T C;have A:=s.below C;refine hK.out _ _ ⟨P.o _ (H.o.below M.o),(J.o.below M.o).cell 1⟩ (fun hHeld=>?_);clear hK K C s;refine eX [7,8,9,10,12] ?_;have e0:=A.cell 0;have e1:=A.cell 1;have e2:=A.cell 2;have bJ:=A.cell 3;have d:=A.cell 4;have q:=A.frozen;have U:=A.qc ↑o0 ↑o1 ↑o2 ↑D ↑G;have N:=af (((((M.o.setCell (p:=⟨aO,0,none⟩) F.o ↑o0).setCell (p:=⟨aO,1,none⟩) F.o ↑o1).setCell (p:=⟨aO,2,none⟩) F.o ↑o2).setCell (p:=⟨aO,3,none⟩) F.o ↑D).setCell (p:=⟨aO,4,none⟩) F.o ↑G);have r:=af U;clear A U;refine aU 13 fun K hK=>?_;go_simp;clear e0 e1 e2 bJ d q;refine hK.out _ _ ⟨P.o _ (H.o.below N.o),(J.o.below N.o).cell 1⟩ (fun hHeld=>?_);clear hK K;generalize (((((wb.setCell ↑aO ↑o0).setCell ⟨aO,1,none⟩ ↑o1).setCell ⟨aO,2,none⟩ ↑o2).setCell ⟨aO,3,none⟩ ↑D).setCell ⟨aO,4,none⟩ ↑G)=wf at*;refine gu _ _ _ _ ?_;refine ej 14 ?_;refine gw ?_;clear hHeld;have l:=ah dI N;go_wp2_with fail;go_meet;exact⟨cF,cF,⟨aO,rfl,r.o⟩,l.o⟩
 case rest=>
 obtain⟨rfl,rfl,⟨aO,rfl,uA⟩,Y⟩:=hcut;have aQ:=ag y Y;have jl:=af (g.o.below Y);have eA:=af (X.o.below Y);have nh:=af uA;clear Y uA g X y;generalize wc=w3 at*;rw [m.o]at V;rcases A5.o with⟨rfl,rfl⟩|⟨i,rfl,rfl,rfl⟩
 ·dsimp only at V;have c1:=eA.o.cell 1;have lu:=Ch id 26 w3;go_wp2_with fail;refine lu.mono ?_;rintro e wn ⟨v,rfl,_,n⟩;have je:=ag aQ n;clear c1 lu n;go_wp2_with fail;go_ret;exact⟨_,rfl,by rw [V.o];exact gy.ry jd.o (jd.o.below je.o) (Below.keeps je.o)⟩
 exact absurd (qR.o.symm.trans m.o) cU
end
section
variable {W w w':World} {pm ps pb:Nat} {p:Prod} {Q:List Nat} {S S':List (List aC)} {E:List Int}
theorem UO (h:eF W w pm ps p Q S E) (hz:cR p=0) (hS:ei p S) (c:ed) (hc:yg S.length c) (hE:E.length<=90000) (rJ:c.kind≠1) (hfind:gR c.id 0 S≠none) (s:∀(i:Nat) (x:aC),gR c.id 0 S=some (i,x)->c.kind=4∧(eW p i c.ap≠0∨(c.ap=x.ap∧c.aq<=x.aq))):
 Calls Tryz.prog 29 #[.pointer ↑pm,.agg c.cells] w fun e w'=>∃v,e= .returned v∧gy W w w' pm ps p Q (mq p S E c).1 (mq p S E c).2:=by
 have hb0:=Below.aI w (.cells c.cells 80);have bA:=af hb0;have jd:=af h;have jG:=af (h.below hb0);have H:Ei (av (w.alloc (.cells c.cells 80)) ↑w 80 c.cells):=af (av.new _ _ _);have cL:=af fun w=>GJ c hc (by have:=hS.le;omega) w;have ec:=af hz;have T:=af hS;have bR:=af hE;have bg:=af hc;have hJ:=af fun(wv:World) (hv:eF W wv pm ps p Q S E) (i:Nat) (n9:c.inst=i) (hi:i<S.length) (e3:c.side=1∨c.side=2) (jF:c.least<=c.aq)=>F8 hv hz hS c n9 hi e3 hc.aq.1 hc.aq.2 jF hE;obtain⟨R,hR⟩:=ai (mq p S E c);have I:Ei (R=if c.kind=1 then r9 p S E c.inst.toNat c
 else match gR c.id 0 S with
  |none=>(S,E)
  |some (i,x)=>
   if c.kind=2∨(c.kind=3∧x.aq<=c.aq)then((fW S c.id x.aq).1,E)
   else if c.kind=3 then((fW S c.id c.aq).1,E)
   else if eW p i c.ap≠0 then(S,E)
   else if c.ap=x.ap∧c.aq<=x.aq then(if c.aq<x.aq then((fW S c.id (x.aq-c.aq)).1,E)else(S,E))
   else if s4 p (fW S c.id x.aq).1 i x.side c.ap c.aq=true then(S,E)
   else(ru p (fW S c.id x.aq).1 i ⟨0,c.id,i,x.side,c.ap,c.aq,0,1,⟨#[]⟩⟩,E)):=af (by rw [<-hR];rfl)
 rw [hR];have yh:=af rJ;have qR:=af hfind;have Eo:=af s;clear h hz hS hE hb0 hR hc rJ hfind s hJ;obtain⟨kd,id,inst,side,ap,aq,least,time,label⟩:=c;unfold ed.cells at*;dsimp only at*;go_enter Tryz.func29,Tryz.ntmps29;go_upto_region 1 with(fail);obtain⟨aV,cj⟩:=ai w.heap.size;rw [cj]at H⊢;clear cj;generalize w.alloc (.cells _ 80)=w1 at*;have c0:=H.o.cell 0;have c1:=H.o.cell 1;have c2:=H.o.cell 2;have c3:=H.o.cell 3;have dH:=H.o.cell 4;have b8:=H.o.cell 5;have fJ:=H.o.cell 6;have gL:=H.o.cell 7;have iC:=H.o.cell 8;have h6:=cL.o w1;go_wp2_with fail;refine h6.mono ?_;rintro e w2 ⟨rfl,hb2⟩;have aS:=ag bA hb2;have hN:=af (jG.o.below hb2);have dG:=af (H.o.below hb2);clear c0 c1 c2 c3 dH b8 fJ gL iC h6 hb2 cL jG H bA;have c0:=dG.o.cell 0;have cN:¬kd=1:=yh.o;have xd:(kd==1)=false:=by rw [beq_eq_false_iff_ne];exact cN
 rw [if_neg cN]at I;have mO:kd=2∨kd=3∨kd=4:=by have:=bg.o.kind;dsimp only at this;omega
 go_upto_region 6 with(fail);clear c0 xd;obtain⟨mr,px⟩:=ai (gR id 0 S);obtain⟨fi,o0,o1,o2,A,N,fb,kV,qP⟩:∃(fi o0 o1 o2 A:Int) (N fb:Bool),xe mr= .tuple #[↑fi,.agg #[↑o0,↑o1,↑o2,↑A,↑N],↑fb]∧((mr=none∧fb=false)∨∃(i:Nat),mr=some (i,⟨o0,o1,o2,A,N⟩)∧fb=true∧fi=i):=by
  cases mr with
  |none=>exact⟨0,0,0,0,0,false,false,rfl,.inl ⟨rfl,rfl⟩⟩
  |some rI=>obtain⟨i,x0,x1,aZ,cl,cw⟩:=rI;exact⟨i,x0,x1,aZ,cl,cw,true,rfl,.inr ⟨i,rfl,rfl,rfl⟩⟩
 have A5:=af qP;have l5:=af px;clear qP px;go_cut [6,7,8] (fun u v b wx=>u=↑fi∧b=↑fb∧(∃aO:Nat,v= .pointer ↑aO∧av wx aO 139 #[↑o0,↑o1,↑o2,↑A,↑N])∧Below ↑w2 w2 wx)
 case first=>
  have hd:=(Below.refl ↑w2 w2).drew;have B:=af (hN.o.below hd);have D:=af (dG.o.below hd);have dI:=af hd;have jH:∀wv,eF W wv pm ps p Q S E->wv.cell? ↑(pm,11)=some (.pointer ↑ps):=fun wv hv=>by obtain⟨_,_,h1,_⟩:=hv.box;exact h1.cell 11
  have r:=af jH;have f:=jH _ B.o;have c1:=D.o.GD;clear hd jH;refine cP (S:=(fun w'=>w'.cell? ⟨pm,11,none⟩=some (.pointer ↑ps)∧w'.cell? ⟨aV,1,none⟩=↑id)) ⟨f,c1⟩ fun hHeld=>?_;refine eX [0,1,2,3,4,5] ?_;clear f c1;generalize w2.drew=F at*;have uz:Ei (∀wv,eF W wv pm ps p Q S E->Calls Tryz.prog 65 #[.pointer ↑ps,↑id] wv fun e w'=>e= .returned (.tuple #[↑fi,.agg #[↑o0,↑o1,↑o2,↑A,↑N],↑fb])∧Below wv.heap.size wv w'):=af fun wv hv=>by have:=Ep hv.cr (by have:=T.o.le;omega) (fun L hL=>(T.o.each L hL).len) id;rw [l5.o,kV]at this;exact this
  refine lZ 6 11 (fun K hK=>?_) fun K hK=>?_
  ·go_simp;go_at_call 65;refine(uz.o _ B.o).mono ?_;rintro e wa ⟨rfl,hba⟩;have a:=af hba;refine hK.out _ _ ⟨r.o _ (B.o.below hba),(D.o.below hba).cell 1⟩ (fun hHeld=>?_);clear hK K hba;refine eX [7,8,9,10] ?_;refine aU 11 fun K hK=>?_;go_simp;have J:=Below.aI wa (.cells #[↑(),↑(),↑(),↑(),.bool false] 139);have C:av (wa.alloc (.cells #[↑(),↑(),↑(),↑(),.bool false] 139)) ↑wa 139 #[↑(),↑(),↑(),↑(),.bool false]:=av.new _ _ _;have V:=ag a J;refine hK.out _ _ ⟨r.o _ (B.o.below V.o),(D.o.below V.o).cell 1⟩ (fun hHeld=>?_);clear hK K J;obtain⟨aO,Y⟩:=ai wa.heap.size;have M:Ei (F.heap.size<=aO):=af (by rw [<-Y];exact a.o.size);rw [Y]at C⊢;clear Y;generalize wa.alloc (.cells #[↑(),↑(),↑(),↑(),.bool false] 139)=wb at*;refine eX [12] ?_;have e0:=C.cell 0;have e1:=C.cell 1;have e2:=C.cell 2;have bJ:=C.cell 3;have cV:=C.cell 4;have l6:=C.frozen;have kW:=C.qc ↑o0 ↑o1 ↑o2 ↑A ↑N;have X:=af (((((V.o.setCell (p:=⟨aO,0,none⟩) M.o ↑o0).setCell (p:=⟨aO,1,none⟩) M.o ↑o1).setCell (p:=⟨aO,2,none⟩) M.o ↑o2).setCell (p:=⟨aO,3,none⟩) M.o ↑A).setCell (p:=⟨aO,4,none⟩) M.o ↑N);have qd:=af kW;clear C kW;refine aU 13 fun K hK=>?_;go_simp;clear e0 e1 e2 bJ cV l6;refine hK.out _ _ ⟨r.o _ (B.o.below X.o),(D.o.below X.o).cell 1⟩ (fun hHeld=>?_);clear hK K;generalize (((((wb.setCell ↑aO ↑o0).setCell ⟨aO,1,none⟩ ↑o1).setCell ⟨aO,2,none⟩ ↑o2).setCell ⟨aO,3,none⟩ ↑A).setCell ⟨aO,4,none⟩ ↑N)=wf at*;refine gu _ _ _ _ ?_;refine ej 14 ?_;refine gw ?_;clear hHeld;have kL:=ah dI X;go_wp2_with fail;go_meet;exact⟨cF,cF,⟨aO,rfl,qd.o⟩,kL.o⟩
  go_simp;have J:=Below.aI F (.cells #[↑(),↑(),↑(),↑(),.bool false] 139);have qf:av (F.alloc (.cells #[↑(),↑(),↑(),↑(),.bool false] 139)) ↑F 139 #[↑(),↑(),↑(),↑(),.bool false]:=av.new _ _ _;have a:=af J;refine hK.out _ _ ⟨r.o _ (B.o.below J),(D.o.below J).cell 1⟩ (fun hHeld=>?_);clear hK K J;obtain⟨aO,Y⟩:=ai F.heap.size;have M:Ei (F.heap.size<=aO):=af (by rw [<-Y];exact Nat.le_refl _);rw [Y]at qf⊢;clear Y;generalize F.alloc (.cells #[↑(),↑(),↑(),↑(),.bool false] 139)=wa at*;refine aU 6 fun K hK=>?_;go_simp;go_at_call 65;refine(uz.o _ (B.o.below a.o)).mono ?_;rintro e wb ⟨rfl,J⟩;have V:=ag a J;have C:=qf.below J;refine hK.out _ _ ⟨r.o _ (B.o.below V.o),(D.o.below V.o).cell 1⟩ (fun hHeld=>?_);clear hK K J qf;refine eX [7,8,9,10,12] ?_;have e0:=C.cell 0;have e1:=C.cell 1;have e2:=C.cell 2;have bJ:=C.cell 3;have cV:=C.cell 4;have l6:=C.frozen;have kW:=C.qc ↑o0 ↑o1 ↑o2 ↑A ↑N;have X:=af (((((V.o.setCell (p:=⟨aO,0,none⟩) M.o ↑o0).setCell (p:=⟨aO,1,none⟩) M.o ↑o1).setCell (p:=⟨aO,2,none⟩) M.o ↑o2).setCell (p:=⟨aO,3,none⟩) M.o ↑A).setCell (p:=⟨aO,4,none⟩) M.o ↑N);have qd:=af kW;clear C kW;refine aU 13 fun K hK=>?_;go_simp;clear e0 e1 e2 bJ cV l6;refine hK.out _ _ ⟨r.o _ (B.o.below X.o),(D.o.below X.o).cell 1⟩ (fun hHeld=>?_);clear hK K;generalize (((((wb.setCell ↑aO ↑o0).setCell ⟨aO,1,none⟩ ↑o1).setCell ⟨aO,2,none⟩ ↑o2).setCell ⟨aO,3,none⟩ ↑A).setCell ⟨aO,4,none⟩ ↑N)=wf at*;refine gu _ _ _ _ ?_;refine ej 14 ?_;refine gw ?_;clear hHeld;have kL:=ah dI X;go_wp2_with fail;go_meet;exact⟨cF,cF,⟨aO,rfl,qd.o⟩,kL.o⟩
 case rest=>
 obtain⟨rfl,rfl,⟨aO,rfl,uA⟩,ep⟩:=hcut;have aQ:=ag aS ep;have jl:=af (hN.o.below ep);have eA:=af (dG.o.below ep);have nh:=af uA;clear ep uA hN dG aS;generalize wc=w3 at*;rw [l5.o]at I;rcases A5.o with⟨rfl,rfl⟩|⟨i,rfl,rfl,rfl⟩
 ·exact absurd l5.o qR.o
 dsimp only at I;obtain⟨hil,hxs,hx0,hx1⟩:=MQ T.o l5.o;dsimp only at hxs hx0 hx1;have c1:=eA.o.cell 1;have e1:=nh.o.cell 1;have e2:=nh.o.cell 2;have bJ:=nh.o.cell 3;have hba:=Below.aI w3 (.cells #[.int .i64 4,↑id,↑i,↑o1,↑o2,↑A,↑(),↑()] 143);have y:Ei (av (w3.alloc (.cells #[.int .i64 4,↑id,↑i,↑o1,↑o2,↑A,↑(),↑()] 143)) ↑w3 143 #[.int .i64 4,↑id,↑i,↑o1,↑o2,↑A,↑(),↑()]):=af (av.new _ _ _);have j:=af (jl.o.below hba);have G:=af (eA.o.below hba);have P:=af (nh.o.below hba);have Z:=ag aQ hba;clear hba jl eA nh aQ;go_upto_region 10 with(fail);obtain⟨cI,gC⟩:=ai w3.heap.size;rw [gC]at y⊢;clear gC c1 e1 e2 bJ;generalize w3.alloc (.cells _ 143)=F at*;have c0:=G.o.cell 0;have b8:=G.o.cell 5;have bJ:=P.o.cell 3;have s:=Eo.o i _ l5.o;dsimp only at s;have vR:=af s;clear s;obtain⟨cb,hcb⟩:∃b:Bool,decide (kd=2∨(kd=3∧A<=aq))=b:=⟨_,rfl⟩;have gW:=af hcb;clear hcb;have rK:=bg.o.aq;dsimp only at rK;obtain⟨CD,A6⟩:=rK;go_cut [51] (fun v wx=>v=↑cb∧F=wx)
 case first=>
  rcases mO with rfl|rfl|rfl
  ·have n:Ei (cb=true):=af (by rw [<-gW.o];simp);go_wp2_with fail;go_meet;exact⟨by rw [n.o],cF⟩
  ·have n:Ei (cb=decide (A<=aq)):=af (by rw [<-gW.o];simp);go_wp2_with fail;go_meet;exact⟨by rw [n.o],cF⟩
  have n:Ei (cb=false):=af (by rw [<-gW.o];simp);go_wp2_with fail;go_meet;exact⟨by rw [n.o],cF⟩
 case rest=>
 obtain⟨rfl,rfl⟩:=hcut;clear c0 b8 bJ;obtain⟨iZ,Jr⟩:=vR.o;have oK:¬(kd=2∨(kd=3∧A<=aq)):=bh;obtain rfl:cb=false:=by rw [<-gW.o];exact decide_eq_false oK
 rw [if_neg oK,if_neg bh]at I;have c0:F.cell? ↑aV=some (.int .i64 4):=by rw [<-iZ];exact G.o.cell 0
 have GL:=af Jr;clear oK mO Jr iZ;go_upto_region 16 with(fail);clear c0;have hd:=(Below.refl ↑F F).drew;have B:=af (j.o.below hd);have D:=af (G.o.below hd);have d:=af (P.o.below hd);have q:=af (y.o.below hd);have z:=ag Z hd;clear hd j G P y Z;have uo:Ei (∀wv,eF W wv pm ps p Q S E->↑(wv,pm,p)∧wv.cell? ↑(pm,11)=some (.pointer ↑ps)):=af fun wv hv=>by obtain⟨_,_,hmb,_⟩:=hv.box;exact⟨⟨hmb.cell 0,hmb.cell 1,hmb.cell 2,hmb.cell 3,hmb.cell 4,hmb.cell 5,hmb.cell 6,hmb.cell 7,hmb.cell 8,hmb.cell 9,hmb.cell 10⟩,hmb.cell 11⟩
 have iR:=(uo.o _ B.o).1;have d4:=D.o.Jg;have mo:=DM p i ap F.drew (B.o.cr.pv.below B.o.cr.aJ);obtain⟨pr,yl⟩:=ai (eW p i ap);rw [yl]at mo I GL;unfold Prod.agg Prod.cells at mo;have kQ:=af mo;clear mo yl;refine cP (S:=fun w'=>↑(w',pm,p)∧w'.cell? ⟨aV,4,none⟩=↑ap) ⟨iR,d4⟩ fun hHeld=>?_;refine eX [0,1,2,3,4,5,6] ?_;clear iR d4;generalize F.drew=aA at*;refine aU 7 fun K hK=>?_;go_simp;go_at_call 67;refine kQ.o.mono ?_;rintro e U ⟨rfl,m⟩;have j:=af (B.o.below m);have G:=af (D.o.below m);have P:=af (d.o.below m);have y:=af (q.o.below m);have Z:=ag z m;refine hK.out _ _ ⟨(uo.o _ j.o).1,G.o.cell 4⟩ (fun hHeld=>?_);clear hK K m kQ B D d q z;refine gu _ _ _ _ ?_;refine ej 8 ?_;refine gw ?_;clear hHeld;by_cases uq:pr=0
 ·subst uq;obtain⟨iP,UR⟩:ap=o2∧aq<=A:=by
   rcases GL.o with h|h
   ·exact absurd rfl h
   exact h
  rw [if_neg (fun h=>h rfl),if_pos ⟨iP,UR⟩]at I;have A7:(ap==o2)=true:=by rw [iP];exact beq_self_eq_true _
  have d4:=G.o.cell 4;have d5:=G.o.cell 5;have e2:=P.o.cell 2;have bJ:=P.o.cell 3;clear iP;by_cases hlt:aq<A
  ·rw [if_pos hlt]at I;go_upto_region 21 with(fail);clear d4 d5 e2 bJ A7;have hd:=(Below.refl ↑U U).drew;have B:=af (j.o.below hd);have D:=af (G.o.below hd);have d:=af (P.o.below hd);have q:=af (y.o.below hd);have z:=ag Z hd;clear hd j G P y Z;have f:U.drew.cell? ↑(pm,11)=some (.pointer ↑ps):=by
    obtain⟨_,_,h1,_⟩:=B.o.box;exact h1.cell 11
   have yj:=D.o.GD;have CF:=d.o.Jf;have Js:=D.o.Jh;refine cP (S:=fun w'=>w'.cell? ⟨pm,11,none⟩=some (.pointer ↑ps)∧w'.cell? ⟨aV,1,none⟩=↑id∧w'.cell? ⟨aO,3,none⟩=↑A∧w'.cell? ⟨aV,5,none⟩=↑aq) ⟨f,yj,CF,Js⟩ fun hHeld=>?_;refine eX [0,1,2,3,4,5,6,7,8,9,10] ?_;rw [show IntKind.i64.wrap (A-aq)=A-aq from IntWalk.i64_in _ bh];clear f yj CF Js;generalize U.drew=wd at*;have kX:=Jq B.o.cr (by have:=T.o.le;omega) (fun L hL=>⟨(T.o.each L hL).len,(T.o.each L hL).nd,(T.o.each L hL).aq⟩) id (A-aq);refine dY 11 fun K hK=>?_;go_simp;go_at_call 66;refine kX.mono ?_;rintro e wt ⟨rfl,hsb,t⟩;refine hK.out _ _ ?_;clear hK K kX hHeld;have nP:∀g,g∈Q->ck wd g 181:=fun g hg=>(B.o.cr.py hg).1;have zM:=af (B.o.turn hsb t);have xf:=af (D.o.keeps t (fun e=>D.o.aE.ne (nP _ e) b9 rfl));have l:=af (d.o.keeps t (fun e=>d.o.aE.ne (nP _ e) b9 rfl));have vS:=af (q.o.keeps t (fun e=>q.o.aE.ne (nP _ e) b9 rfl));have zN:Ei (aK (fun g=>g∈Q) w wt):=af ((Below.keeps z.o).trans t);clear hsb t nP B D d q z;have d1:=xf.o.cell 1;have d5:=xf.o.cell 5;have e1:=l.o.cell 1;have e2:=l.o.cell 2;have bJ:=l.o.cell 3;go_wp2_with fail;go_ret;have k:=Below.aI wt (.cells #[.int .i64 5,↑id,↑i,↑o1,↑o2,.int .i64 (A-aq),↑aq,↑()] 143);have O:gy W w (wt.alloc (.cells #[.int .i64 5,↑id,↑i,↑o1,↑o2,.int .i64 (A-aq),↑aq,↑()] 143)) pm ps p Q R.1 R.2:=by rw [I.o];exact gy.ry jd.o (zM.o.below k) (zN.o.trans (Below.keeps k))
   first|exact O|exact⟨_,rfl,O⟩|exact⟨⟨_,rfl⟩,O⟩|exact⟨⟨_,rfl⟩,O⟩
  rw [if_neg hlt]at I;go_upto_region 22 with(fail);clear d4 d5 e2 bJ A7;have zM:=j;have xf:=G;have l:=P;have zN:Ei (aK (fun g=>g∈Q) w U):=af (Below.keeps Z.o);obtain⟨wt,rfl⟩:=aj U;have d1:=xf.o.cell 1;have d5:=xf.o.cell 5;have e1:=l.o.cell 1;have e2:=l.o.cell 2;have bJ:=l.o.cell 3;go_wp2_with fail;go_ret;have k:=Below.aI wt (.cells #[.int .i64 5,↑id,↑i,↑o1,↑o2,.int .i64 (A-aq),↑aq,↑()] 143);have O:gy W w (wt.alloc (.cells #[.int .i64 5,↑id,↑i,↑o1,↑o2,.int .i64 (A-aq),↑aq,↑()] 143)) pm ps p Q R.1 R.2:=by rw [I.o];exact gy.ry jd.o (zM.o.below k) (zN.o.trans (Below.keeps k))
  first|exact O|exact⟨_,rfl,O⟩|exact⟨⟨_,rfl⟩,O⟩|exact⟨⟨_,rfl⟩,O⟩
 rw [if_pos uq]at I;have c1:=G.o.cell 1;have lu:=Ch id pr U;go_wp2_with fail;refine lu.mono ?_;rintro e wn ⟨v,rfl,_,cn⟩;have je:=ag Z cn;clear c1 lu cn;go_wp2_with fail;go_ret;exact⟨_,rfl,by rw [I.o];exact gy.ry jd.o (jd.o.below je.o) (Below.keeps je.o)⟩
end
end Go.Proofs.YtmaijkoopjocdaaGreat
