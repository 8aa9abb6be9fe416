import Derived.Test.YtmaijkoopjocdaaGreatKV34
set_option maxRecDepth 100000
set_option maxHeartbeats 64000000
namespace Go.Proofs.YtmaijkoopjocdaaGreat
open Go.RowKit Go.Lib
section
variable {p:Prod} {S:List (List aC)} {E:List Int}
theorem ei.QM (h:ei p S) (i:Nat) (id side ap aq:Int) (hp: -2000000≤ap∧ap≤2000000):ei p (xm p S i id side ap aq).1:=by
 unfold xm;split
 ·exact h
 ·split
  ·exact h
  ·split
   ·exact h
   ·exact h.set ((h.at_ i).add id side ap aq hp)
theorem ei.run (h:ei p S) (hz:cR p=0) (i:Nat) (c:ed) (hq:1≤c.aq) (hp: -2000000≤c.ap∧c.ap≤2000000):ei p (ru p S i c):=by
 have h1:=(II (i:=i) (side:=c.side) (ap:=c.ap) hz c.aq.toNat S c.aq h (by omega)).1;unfold ru;split
 ·exact h1.QM i c.id c.side c.ap _ hp
 ·exact h1
theorem ei.come (h:ei p S) (hz:cR p=0) (i:Nat) (c:ed) (hq:1≤c.aq) (hp: -2000000≤c.ap∧c.ap≤2000000):ei p (r9 p S E i c).1∧(r9 p S E i c).2.length≤E.length+1:=by
 unfold r9;split
 ·exact⟨h,Nat.le_succ _⟩
 ·split
  ·exact⟨h,Nat.le_succ _⟩
  ·split
   ·exact⟨h,Nat.le_succ _⟩
   ·split
    ·exact⟨h,Nat.le_succ _⟩
    ·split
     ·exact⟨h,Nat.le_succ _⟩
     ·exact⟨h.run hz i c hq hp,by rw [List.length_append];exact Nat.le_refl _⟩
theorem ei.J9 (h:ei p S) (hz:cR p=0) (c:ed) {n:Nat} (hc:yg n c):ei p (mq p S E c).1∧(mq p S E c).2.length≤E.length+1:=by
 unfold mq;split
 ·exact h.come hz _ c hc.aq.1 hc.ap
 ·split
  ·exact⟨h,Nat.le_succ _⟩
  ·rename_i i x hf
   split
   ·exact⟨h.take _ _,Nat.le_succ _⟩
   ·split
    ·exact⟨h.take _ _,Nat.le_succ _⟩
    ·split
     ·exact⟨h,Nat.le_succ _⟩
     ·split
      ·split
       ·exact⟨h.take _ _,Nat.le_succ _⟩
       ·exact⟨h,Nat.le_succ _⟩
      ·split
       ·exact⟨h,Nat.le_succ _⟩
       ·exact⟨(h.take _ _).run hz i _ hc.aq.1 hc.ap,Nat.le_succ _⟩
theorem ei.new (p:Prod):ei p (List.replicate (countP p).toNat []):=
 ⟨List.length_replicate,fun L hL=>by rw [(List.mem_replicate.1 hL).2];exact j8.nil⟩
end
section
variable {W w w':World} {pm ps pb:Nat} {p:Prod} {Q:List Nat} {S S':List (List aC)} {E:List Int}
theorem aeM (h:eF W w pm ps p Q S E) (hz:cR p=0) (hS:ei p S) (c:ed) (hc:yg S.length c) (hE:E.length≤90000) (rJ:c.kind=1):
 Calls Tryz.prog 29 #[.pointer ↑pm,.agg c.cells] w fun e w'=>∃v,e= .returned v∧gy W w w' pm ps p Q (mq p S E c).1 (mq p S E c).2:=by
 have hb0:=Below.aI w (.cells c.cells 80);have bA:=af hb0;have jd:=af h;have jG:=af (h.below hb0);have cm:Hid (av (w.alloc (.cells c.cells 80)) w.heap.size 80 c.cells):=af (av.new _ _ _);have cL:=af fun w=>GJ c hc (by have:=hS.le;omega) w;have ec:=af hz;have aD:=af hS;have bR:=af hE;have bg:=af hc;have hJ:=af fun(wv:World) (hv:eF W wv pm ps p Q S E) (i:Nat) (n9:c.inst=i) (hi:i<S.length) (e3:c.side=1∨c.side=2) (jF:c.least≤c.aq)=>F8 hv hz hS c n9 hi e3 hc.aq.1 hc.aq.2 jF hE;obtain⟨R,hR⟩:=ai (mq p S E c);have cv:Hid (R=if c.kind=1 then r9 p S E c.inst.toNat c
 else match gR c.id 0 S with
  |none=>(S,E)
  |some (i,x)=>
   if c.kind=2∨(c.kind=3∧x.aq≤c.aq)then((fW S c.id x.aq).1,E)
   else if c.kind=3 then((fW S c.id c.aq).1,E)
   else if eW p i c.ap≠0 then(S,E)
   else if c.ap=x.ap∧c.aq≤x.aq then(if c.aq<x.aq then((fW S c.id (x.aq-c.aq)).1,E)else(S,E))
   else if s4 p (fW S c.id x.aq).1 i x.side c.ap c.aq=true then(S,E)
   else(ru p (fW S c.id x.aq).1 i ⟨0,c.id,i,x.side,c.ap,c.aq,0,1,⟨#[]⟩⟩,E)):=af (by rw [←hR];rfl)
 rw [hR];have yh:=af rJ;clear h hz hS hE hb0 hR hc rJ;obtain⟨kd,id,inst,side,ap,aq,least,time,label⟩:=c;unfold ed.cells at*;dsimp only at*;go_enter Tryz.func29,Tryz.ntmps29
 go_upto_region 1 with(fail)
 obtain⟨aV,cj⟩:=ai w.heap.size;rw [cj]at cm⊢;clear cj;generalize w.alloc (.cells _ 80)=w1 at*;have c0:=cm.out.cell 0;have c1:=cm.out.cell 1;have c2:=cm.out.cell 2;have c3:=cm.out.cell 3;have dH:=cm.out.cell 4;have b8:=cm.out.cell 5;have fJ:=cm.out.cell 6;have gL:=cm.out.cell 7;have iC:=cm.out.cell 8;have h6:=cL.out w1;go_wp2_with fail
 refine h6.mono ?_;rintro e w2 ⟨rfl,hb2⟩;have aS:=ag bA hb2;have hN:=af (jG.out.below hb2);have dG:=af (cm.out.below hb2);clear c0 c1 c2 c3 dH b8 fJ gL iC h6 hb2 cL jG cm bA;have c0:=dG.out.cell 0;by_cases cN:kd=1
 ·subst cN
  rw [if_pos rfl]at cv;obtain⟨e3,_,⟨_,jF⟩,i,hin,hil⟩:=bg.out.new rfl;dsimp only at e3 jF hin;have P3:=hJ.out w2 hN.out i hin hil e3 jF;have GK:R=r9 p S E i ⟨1,id,inst,side,ap,aq,least,time,label⟩:=by rw [cv.out,hin,Int.toNat_natCast]
  rw [←GK]at P3;have c1:=dG.out.cell 1;have c2:=dG.out.cell 2;have c3:=dG.out.cell 3;have dH:=dG.out.cell 4;have b8:=dG.out.cell 5;have fJ:=dG.out.cell 6;have gL:=dG.out.cell 7;have iC:=dG.out.cell 8;have vR:=af P3;clear e3 jF hin hil GK P3;go_wp2_with fail
  refine vR.out.mono ?_;rintro e w3 ⟨v,rfl,_,_,_,Cj⟩;have b5:=af ((gy.ry jd.out hN.out (Below.keeps aS.out)).trans Cj aS.out.size);clear Cj c0 c1 c2 c3 dH b8 fJ gL iC;go_wp2_with fail
  go_ret;exact⟨_,rfl,b5.out⟩
 ·exact absurd yh.out cN
theorem aeN (h:eF W w pm ps p Q S E) (hz:cR p=0) (hS:ei p S) (c:ed) (hc:yg S.length c) (hE:E.length≤90000) (rJ:c.kind≠1) (hfind:gR c.id 0 S=none):
 Calls Tryz.prog 29 #[.pointer ↑pm,.agg c.cells] w fun e w'=>∃v,e= .returned v∧gy W w w' pm ps p Q (mq p S E c).1 (mq p S E c).2:=by
 have hb0:=Below.aI w (.cells c.cells 80);have bA:=af hb0;have jd:=af h;have jG:=af (h.below hb0);have cm:Hid (av (w.alloc (.cells c.cells 80)) w.heap.size 80 c.cells):=af (av.new _ _ _);have cL:=af fun w=>GJ c hc (by have:=hS.le;omega) w;have ec:=af hz;have aD:=af hS;have bR:=af hE;have bg:=af hc;have hJ:=af fun(wv:World) (hv:eF W wv pm ps p Q S E) (i:Nat) (n9:c.inst=i) (hi:i<S.length) (e3:c.side=1∨c.side=2) (jF:c.least≤c.aq)=>F8 hv hz hS c n9 hi e3 hc.aq.1 hc.aq.2 jF hE;obtain⟨R,hR⟩:=ai (mq p S E c);have cv:Hid (R=if c.kind=1 then r9 p S E c.inst.toNat c
 else match gR c.id 0 S with
  |none=>(S,E)
  |some (i,x)=>
   if c.kind=2∨(c.kind=3∧x.aq≤c.aq)then((fW S c.id x.aq).1,E)
   else if c.kind=3 then((fW S c.id c.aq).1,E)
   else if eW p i c.ap≠0 then(S,E)
   else if c.ap=x.ap∧c.aq≤x.aq then(if c.aq<x.aq then((fW S c.id (x.aq-c.aq)).1,E)else(S,E))
   else if s4 p (fW S c.id x.aq).1 i x.side c.ap c.aq=true then(S,E)
   else(ru p (fW S c.id x.aq).1 i ⟨0,c.id,i,x.side,c.ap,c.aq,0,1,⟨#[]⟩⟩,E)):=af (by rw [←hR];rfl)
 rw [hR];have yh:=af rJ;have qR:=af hfind;clear h hz hS hE hb0 hR hc rJ hfind hJ;obtain⟨kd,id,inst,side,ap,aq,least,time,label⟩:=c;unfold ed.cells at*;dsimp only at*;go_enter Tryz.func29,Tryz.ntmps29
 go_upto_region 1 with(fail)
 obtain⟨aV,cj⟩:=ai w.heap.size;rw [cj]at cm⊢;clear cj;generalize w.alloc (.cells _ 80)=w1 at*;have c0:=cm.out.cell 0;have c1:=cm.out.cell 1;have c2:=cm.out.cell 2;have c3:=cm.out.cell 3;have dH:=cm.out.cell 4;have b8:=cm.out.cell 5;have fJ:=cm.out.cell 6;have gL:=cm.out.cell 7;have iC:=cm.out.cell 8;have h6:=cL.out w1;go_wp2_with fail
 refine h6.mono ?_;rintro e w2 ⟨rfl,hb2⟩;have aS:=ag bA hb2;have hN:=af (jG.out.below hb2);have dG:=af (cm.out.below hb2);clear c0 c1 c2 c3 dH b8 fJ gL iC h6 hb2 cL jG cm bA;have c0:=dG.out.cell 0;have cN:¬kd=1:=yh.out;have xd:(kd==1)=false:=by rw [beq_eq_false_iff_ne];exact cN
 rw [if_neg cN]at cv;have mO:kd=2∨kd=3∨kd=4:=by have:=bg.out.kind;dsimp only at this;omega
 go_upto_region 6 with(fail)
 clear c0 xd;obtain⟨mr,px⟩:=ai (gR id 0 S)
 obtain⟨fi,o0,o1,o2,bF,dX,fb,kV,qP⟩:∃(fi o0 o1 o2 bF:Int) (dX fb:Bool),xe mr= .tuple #[↑fi,.agg #[↑o0,↑o1,↑o2,↑bF,↑dX],↑fb]∧((mr=none∧fb=false)∨∃(i:Nat),mr=some (i,⟨o0,o1,o2,bF,dX⟩)∧fb=true∧fi=i):=by
  cases mr with
  |none=>exact⟨0,0,0,0,0,false,false,rfl,.inl ⟨rfl,rfl⟩⟩
  |some rI=>
   obtain⟨i,x0,x1,aZ,cl,cw⟩:=rI;exact⟨i,x0,x1,aZ,cl,cw,true,rfl,.inr ⟨i,rfl,rfl,rfl⟩⟩
 have A5:=af qP;have l5:=af px;clear qP px;go_cut [6,7,8] (fun u v b wx=>u=↑fi∧b=↑fb∧(∃aO:Nat,v= .pointer ↑aO∧av wx aO 139 #[↑o0,↑o1,↑o2,↑bF,↑dX])∧Below w2.heap.size w2 wx)
 case first=>
  have hd:=(Below.refl w2.heap.size w2).drew;have bq:=af (hN.out.below hd);have b9:=af (dG.out.below hd);have dI:=af hd
  have jH:∀wv,eF W wv pm ps p Q S E→wv.cell? ⟨pm,11,none⟩=some (.pointer ↑ps):=fun wv hv=>by
   obtain⟨_,_,h1,_⟩:=hv.box;exact h1.cell 11
  have iL:=af jH;have dS:=jH _ bq.out;have c1:w2.drew.cell? ⟨aV,1,none⟩=some ↑id:=b9.out.cell 1;clear hd jH;refine cP (S:=(fun w'=>w'.cell? ⟨pm,11,none⟩=some (.pointer ↑ps)∧w'.cell? ⟨aV,1,none⟩=some ↑id)) ⟨dS,c1⟩ fun hHeld=>?_;refine au 0 ?_;refine au 1 ?_;refine au 2 ?_;refine au 3 ?_;refine au 4 ?_;refine au 5 ?_;clear dS c1;generalize w2.drew=az at*
  have uz:Hid (∀wv,eF W wv pm ps p Q S E→Calls Tryz.prog 65 #[.pointer ↑ps,↑id] wv fun e w'=>e= .returned (.tuple #[↑fi,.agg #[↑o0,↑o1,↑o2,↑bF,↑dX],↑fb])∧Below wv.heap.size wv w'):=af fun wv hv=>by
   have:=Ep hv.cr (by have:=aD.out.le;omega) (fun L hL=>(aD.out.each L hL).len) id;rw [l5.out,kV]at this;exact this
  refine lZ 6 11 (fun K hK=>?_) fun K hK=>?_
  ·go_simp
   go_at_call 65
   refine(uz.out _ bq.out).mono ?_;rintro e wa ⟨rfl,hba⟩;have cK:=af hba;refine hK.out _ _ ⟨iL.out _ (bq.out.below hba),(b9.out.below hba).cell 1⟩ (fun hHeld=>?_);clear hK K hba;refine au 7 ?_;refine au 8 ?_;refine au 9 ?_;refine au 10 ?_;refine aU 11 fun K hK=>?_;go_simp;have aP:=Below.aI wa (.cells #[.int .i64 0,.int .i64 0,.int .i64 0,.int .i64 0,.bool false] 139);have cF:av (wa.alloc (.cells #[.int .i64 0,.int .i64 0,.int .i64 0,.int .i64 0,.bool false] 139)) wa.heap.size 139 #[.int .i64 0,.int .i64 0,.int .i64 0,.int .i64 0,.bool false]:=av.new _ _ _;have bp:=ag cK aP;refine hK.out _ _ ⟨iL.out _ (bq.out.below bp.out),(b9.out.below bp.out).cell 1⟩ (fun hHeld=>?_);clear hK K aP;obtain⟨aO,er⟩:=ai wa.heap.size;have bL:Hid (az.heap.size≤aO):=af (by rw [←er];exact cK.out.size);rw [er]at cF⊢;clear er;generalize wa.alloc (.cells #[.int .i64 0,.int .i64 0,.int .i64 0,.int .i64 0,.bool false] 139)=wb at*;refine au 12 ?_;have e0:=cF.cell 0;have e1:=cF.cell 1;have e2:=cF.cell 2;have bJ:=cF.cell 3;have cV:=cF.cell 4;have l6:=cF.frozen;have kW:=cF.qc ↑o0 ↑o1 ↑o2 ↑bF ↑dX;have cH:=af (((((bp.out.setCell (p:=⟨aO,0,none⟩) bL.out ↑o0).setCell (p:=⟨aO,1,none⟩) bL.out ↑o1).setCell (p:=⟨aO,2,none⟩) bL.out ↑o2).setCell (p:=⟨aO,3,none⟩) bL.out ↑bF).setCell (p:=⟨aO,4,none⟩) bL.out ↑dX);have qd:=af kW;clear cF kW;refine aU 13 fun K hK=>?_;go_simp;clear e0 e1 e2 bJ cV l6;refine hK.out _ _ ⟨iL.out _ (bq.out.below cH.out),(b9.out.below cH.out).cell 1⟩ (fun hHeld=>?_);clear hK K;generalize (((((wb.setCell ↑aO ↑o0).setCell ⟨aO,1,none⟩ ↑o1).setCell ⟨aO,2,none⟩ ↑o2).setCell ⟨aO,3,none⟩ ↑bF).setCell ⟨aO,4,none⟩ ↑dX)=wf at*;refine gu _ _ _ _ ?_;refine ej 14 ?_;refine gw ?_;clear hHeld;have kL:=ah dI cH;go_wp2_with fail
   go_meet;exact⟨by trivial,by trivial,⟨aO,rfl,qd.out⟩,kL.out⟩
  ·go_simp
   have aP:=Below.aI az (.cells #[.int .i64 0,.int .i64 0,.int .i64 0,.int .i64 0,.bool false] 139);have qf:av (az.alloc (.cells #[.int .i64 0,.int .i64 0,.int .i64 0,.int .i64 0,.bool false] 139)) az.heap.size 139 #[.int .i64 0,.int .i64 0,.int .i64 0,.int .i64 0,.bool false]:=av.new _ _ _;have cK:=af aP;refine hK.out _ _ ⟨iL.out _ (bq.out.below aP),(b9.out.below aP).cell 1⟩ (fun hHeld=>?_);clear hK K aP;obtain⟨aO,er⟩:=ai az.heap.size;have bL:Hid (az.heap.size≤aO):=af (by rw [←er];exact Nat.le_refl _);rw [er]at qf⊢;clear er;generalize az.alloc (.cells #[.int .i64 0,.int .i64 0,.int .i64 0,.int .i64 0,.bool false] 139)=wa at*;refine aU 6 fun K hK=>?_;go_simp;go_at_call 65
   refine(uz.out _ (bq.out.below cK.out)).mono ?_;rintro e wb ⟨rfl,aP⟩;have bp:=ag cK aP;have cF:=qf.below aP;refine hK.out _ _ ⟨iL.out _ (bq.out.below bp.out),(b9.out.below bp.out).cell 1⟩ (fun hHeld=>?_);clear hK K aP qf;refine au 7 ?_;refine au 8 ?_;refine au 9 ?_;refine au 10 ?_;refine au 12 ?_;have e0:=cF.cell 0;have e1:=cF.cell 1;have e2:=cF.cell 2;have bJ:=cF.cell 3;have cV:=cF.cell 4;have l6:=cF.frozen;have kW:=cF.qc ↑o0 ↑o1 ↑o2 ↑bF ↑dX;have cH:=af (((((bp.out.setCell (p:=⟨aO,0,none⟩) bL.out ↑o0).setCell (p:=⟨aO,1,none⟩) bL.out ↑o1).setCell (p:=⟨aO,2,none⟩) bL.out ↑o2).setCell (p:=⟨aO,3,none⟩) bL.out ↑bF).setCell (p:=⟨aO,4,none⟩) bL.out ↑dX);have qd:=af kW;clear cF kW;refine aU 13 fun K hK=>?_;go_simp;clear e0 e1 e2 bJ cV l6;refine hK.out _ _ ⟨iL.out _ (bq.out.below cH.out),(b9.out.below cH.out).cell 1⟩ (fun hHeld=>?_);clear hK K;generalize (((((wb.setCell ↑aO ↑o0).setCell ⟨aO,1,none⟩ ↑o1).setCell ⟨aO,2,none⟩ ↑o2).setCell ⟨aO,3,none⟩ ↑bF).setCell ⟨aO,4,none⟩ ↑dX)=wf at*;refine gu _ _ _ _ ?_;refine ej 14 ?_;refine gw ?_;clear hHeld;have kL:=ah dI cH;go_wp2_with fail
   go_meet;exact⟨by trivial,by trivial,⟨aO,rfl,qd.out⟩,kL.out⟩
 case rest=>
 obtain⟨rfl,rfl,⟨aO,rfl,uA⟩,ep⟩:=hcut;have aQ:=ag aS ep;have jl:=af (hN.out.below ep);have eA:=af (dG.out.below ep);have nh:=af uA;clear ep uA hN dG aS;generalize wc=w3 at*;rw [l5.out]at cv;rcases A5.out with⟨rfl,rfl⟩|⟨i,rfl,rfl,rfl⟩
 ·dsimp only at cv
  have c1:=eA.out.cell 1;have lu:=Ch id 26 w3;go_wp2_with fail
  refine lu.mono ?_;rintro e wn ⟨v,rfl,_,cn⟩;have je:=ag aQ cn;clear c1 lu cn;go_wp2_with fail
  go_ret;exact⟨_,rfl,by rw [cv.out];exact gy.ry jd.out (jd.out.below je.out) (Below.keeps je.out)⟩
 ·exact absurd (qR.out.symm.trans l5.out) (by simp)
end
section
variable {W w w':World} {pm ps pb:Nat} {p:Prod} {Q:List Nat} {S S':List (List aC)} {E:List Int}
theorem aeQ (h:eF W w pm ps p Q S E) (hz:cR p=0) (hS:ei p S) (c:ed) (hc:yg S.length c) (hE:E.length≤90000) (rJ:c.kind≠1) (hfind:gR c.id 0 S≠none) (jq:∀(i:Nat) (x:aC),gR c.id 0 S=some (i,x)→c.kind=4∧(eW p i c.ap≠0∨(c.ap=x.ap∧c.aq≤x.aq))):
 Calls Tryz.prog 29 #[.pointer ↑pm,.agg c.cells] w fun e w'=>∃v,e= .returned v∧gy W w w' pm ps p Q (mq p S E c).1 (mq p S E c).2:=by
 have hb0:=Below.aI w (.cells c.cells 80);have bA:=af hb0;have jd:=af h;have jG:=af (h.below hb0);have cm:Hid (av (w.alloc (.cells c.cells 80)) w.heap.size 80 c.cells):=af (av.new _ _ _);have cL:=af fun w=>GJ c hc (by have:=hS.le;omega) w;have ec:=af hz;have aD:=af hS;have bR:=af hE;have bg:=af hc;have hJ:=af fun(wv:World) (hv:eF W wv pm ps p Q S E) (i:Nat) (n9:c.inst=i) (hi:i<S.length) (e3:c.side=1∨c.side=2) (jF:c.least≤c.aq)=>F8 hv hz hS c n9 hi e3 hc.aq.1 hc.aq.2 jF hE;obtain⟨R,hR⟩:=ai (mq p S E c);have cv:Hid (R=if c.kind=1 then r9 p S E c.inst.toNat c
 else match gR c.id 0 S with
  |none=>(S,E)
  |some (i,x)=>
   if c.kind=2∨(c.kind=3∧x.aq≤c.aq)then((fW S c.id x.aq).1,E)
   else if c.kind=3 then((fW S c.id c.aq).1,E)
   else if eW p i c.ap≠0 then(S,E)
   else if c.ap=x.ap∧c.aq≤x.aq then(if c.aq<x.aq then((fW S c.id (x.aq-c.aq)).1,E)else(S,E))
   else if s4 p (fW S c.id x.aq).1 i x.side c.ap c.aq=true then(S,E)
   else(ru p (fW S c.id x.aq).1 i ⟨0,c.id,i,x.side,c.ap,c.aq,0,1,⟨#[]⟩⟩,E)):=af (by rw [←hR];rfl)
 rw [hR];have yh:=af rJ;have qR:=af hfind;have Eo:=af jq;clear h hz hS hE hb0 hR hc rJ hfind jq hJ;obtain⟨kd,id,inst,side,ap,aq,least,time,label⟩:=c;unfold ed.cells at*;dsimp only at*;go_enter Tryz.func29,Tryz.ntmps29
 go_upto_region 1 with(fail)
 obtain⟨aV,cj⟩:=ai w.heap.size;rw [cj]at cm⊢;clear cj;generalize w.alloc (.cells _ 80)=w1 at*;have c0:=cm.out.cell 0;have c1:=cm.out.cell 1;have c2:=cm.out.cell 2;have c3:=cm.out.cell 3;have dH:=cm.out.cell 4;have b8:=cm.out.cell 5;have fJ:=cm.out.cell 6;have gL:=cm.out.cell 7;have iC:=cm.out.cell 8;have h6:=cL.out w1;go_wp2_with fail
 refine h6.mono ?_;rintro e w2 ⟨rfl,hb2⟩;have aS:=ag bA hb2;have hN:=af (jG.out.below hb2);have dG:=af (cm.out.below hb2);clear c0 c1 c2 c3 dH b8 fJ gL iC h6 hb2 cL jG cm bA;have c0:=dG.out.cell 0;have cN:¬kd=1:=yh.out;have xd:(kd==1)=false:=by rw [beq_eq_false_iff_ne];exact cN
 rw [if_neg cN]at cv;have mO:kd=2∨kd=3∨kd=4:=by have:=bg.out.kind;dsimp only at this;omega
 go_upto_region 6 with(fail)
 clear c0 xd;obtain⟨mr,px⟩:=ai (gR id 0 S)
 obtain⟨fi,o0,o1,o2,bF,dX,fb,kV,qP⟩:∃(fi o0 o1 o2 bF:Int) (dX fb:Bool),xe mr= .tuple #[↑fi,.agg #[↑o0,↑o1,↑o2,↑bF,↑dX],↑fb]∧((mr=none∧fb=false)∨∃(i:Nat),mr=some (i,⟨o0,o1,o2,bF,dX⟩)∧fb=true∧fi=i):=by
  cases mr with
  |none=>exact⟨0,0,0,0,0,false,false,rfl,.inl ⟨rfl,rfl⟩⟩
  |some rI=>
   obtain⟨i,x0,x1,aZ,cl,cw⟩:=rI;exact⟨i,x0,x1,aZ,cl,cw,true,rfl,.inr ⟨i,rfl,rfl,rfl⟩⟩
 have A5:=af qP;have l5:=af px;clear qP px;go_cut [6,7,8] (fun u v b wx=>u=↑fi∧b=↑fb∧(∃aO:Nat,v= .pointer ↑aO∧av wx aO 139 #[↑o0,↑o1,↑o2,↑bF,↑dX])∧Below w2.heap.size w2 wx)
 case first=>
  have hd:=(Below.refl w2.heap.size w2).drew;have bq:=af (hN.out.below hd);have b9:=af (dG.out.below hd);have dI:=af hd
  have jH:∀wv,eF W wv pm ps p Q S E→wv.cell? ⟨pm,11,none⟩=some (.pointer ↑ps):=fun wv hv=>by
   obtain⟨_,_,h1,_⟩:=hv.box;exact h1.cell 11
  have iL:=af jH;have dS:=jH _ bq.out;have c1:w2.drew.cell? ⟨aV,1,none⟩=some ↑id:=b9.out.cell 1;clear hd jH;refine cP (S:=(fun w'=>w'.cell? ⟨pm,11,none⟩=some (.pointer ↑ps)∧w'.cell? ⟨aV,1,none⟩=some ↑id)) ⟨dS,c1⟩ fun hHeld=>?_;refine au 0 ?_;refine au 1 ?_;refine au 2 ?_;refine au 3 ?_;refine au 4 ?_;refine au 5 ?_;clear dS c1;generalize w2.drew=az at*
  have uz:Hid (∀wv,eF W wv pm ps p Q S E→Calls Tryz.prog 65 #[.pointer ↑ps,↑id] wv fun e w'=>e= .returned (.tuple #[↑fi,.agg #[↑o0,↑o1,↑o2,↑bF,↑dX],↑fb])∧Below wv.heap.size wv w'):=af fun wv hv=>by
   have:=Ep hv.cr (by have:=aD.out.le;omega) (fun L hL=>(aD.out.each L hL).len) id;rw [l5.out,kV]at this;exact this
  refine lZ 6 11 (fun K hK=>?_) fun K hK=>?_
  ·go_simp
   go_at_call 65
   refine(uz.out _ bq.out).mono ?_;rintro e wa ⟨rfl,hba⟩;have cK:=af hba;refine hK.out _ _ ⟨iL.out _ (bq.out.below hba),(b9.out.below hba).cell 1⟩ (fun hHeld=>?_);clear hK K hba;refine au 7 ?_;refine au 8 ?_;refine au 9 ?_;refine au 10 ?_;refine aU 11 fun K hK=>?_;go_simp;have aP:=Below.aI wa (.cells #[.int .i64 0,.int .i64 0,.int .i64 0,.int .i64 0,.bool false] 139);have cF:av (wa.alloc (.cells #[.int .i64 0,.int .i64 0,.int .i64 0,.int .i64 0,.bool false] 139)) wa.heap.size 139 #[.int .i64 0,.int .i64 0,.int .i64 0,.int .i64 0,.bool false]:=av.new _ _ _;have bp:=ag cK aP;refine hK.out _ _ ⟨iL.out _ (bq.out.below bp.out),(b9.out.below bp.out).cell 1⟩ (fun hHeld=>?_);clear hK K aP;obtain⟨aO,er⟩:=ai wa.heap.size;have bL:Hid (az.heap.size≤aO):=af (by rw [←er];exact cK.out.size);rw [er]at cF⊢;clear er;generalize wa.alloc (.cells #[.int .i64 0,.int .i64 0,.int .i64 0,.int .i64 0,.bool false] 139)=wb at*;refine au 12 ?_;have e0:=cF.cell 0;have e1:=cF.cell 1;have e2:=cF.cell 2;have bJ:=cF.cell 3;have cV:=cF.cell 4;have l6:=cF.frozen;have kW:=cF.qc ↑o0 ↑o1 ↑o2 ↑bF ↑dX;have cH:=af (((((bp.out.setCell (p:=⟨aO,0,none⟩) bL.out ↑o0).setCell (p:=⟨aO,1,none⟩) bL.out ↑o1).setCell (p:=⟨aO,2,none⟩) bL.out ↑o2).setCell (p:=⟨aO,3,none⟩) bL.out ↑bF).setCell (p:=⟨aO,4,none⟩) bL.out ↑dX);have qd:=af kW;clear cF kW;refine aU 13 fun K hK=>?_;go_simp;clear e0 e1 e2 bJ cV l6;refine hK.out _ _ ⟨iL.out _ (bq.out.below cH.out),(b9.out.below cH.out).cell 1⟩ (fun hHeld=>?_);clear hK K;generalize (((((wb.setCell ↑aO ↑o0).setCell ⟨aO,1,none⟩ ↑o1).setCell ⟨aO,2,none⟩ ↑o2).setCell ⟨aO,3,none⟩ ↑bF).setCell ⟨aO,4,none⟩ ↑dX)=wf at*;refine gu _ _ _ _ ?_;refine ej 14 ?_;refine gw ?_;clear hHeld;have kL:=ah dI cH;go_wp2_with fail
   go_meet;exact⟨by trivial,by trivial,⟨aO,rfl,qd.out⟩,kL.out⟩
  ·go_simp
   have aP:=Below.aI az (.cells #[.int .i64 0,.int .i64 0,.int .i64 0,.int .i64 0,.bool false] 139);have qf:av (az.alloc (.cells #[.int .i64 0,.int .i64 0,.int .i64 0,.int .i64 0,.bool false] 139)) az.heap.size 139 #[.int .i64 0,.int .i64 0,.int .i64 0,.int .i64 0,.bool false]:=av.new _ _ _;have cK:=af aP;refine hK.out _ _ ⟨iL.out _ (bq.out.below aP),(b9.out.below aP).cell 1⟩ (fun hHeld=>?_);clear hK K aP;obtain⟨aO,er⟩:=ai az.heap.size;have bL:Hid (az.heap.size≤aO):=af (by rw [←er];exact Nat.le_refl _);rw [er]at qf⊢;clear er;generalize az.alloc (.cells #[.int .i64 0,.int .i64 0,.int .i64 0,.int .i64 0,.bool false] 139)=wa at*;refine aU 6 fun K hK=>?_;go_simp;go_at_call 65
   refine(uz.out _ (bq.out.below cK.out)).mono ?_;rintro e wb ⟨rfl,aP⟩;have bp:=ag cK aP;have cF:=qf.below aP;refine hK.out _ _ ⟨iL.out _ (bq.out.below bp.out),(b9.out.below bp.out).cell 1⟩ (fun hHeld=>?_);clear hK K aP qf;refine au 7 ?_;refine au 8 ?_;refine au 9 ?_;refine au 10 ?_;refine au 12 ?_;have e0:=cF.cell 0;have e1:=cF.cell 1;have e2:=cF.cell 2;have bJ:=cF.cell 3;have cV:=cF.cell 4;have l6:=cF.frozen;have kW:=cF.qc ↑o0 ↑o1 ↑o2 ↑bF ↑dX;have cH:=af (((((bp.out.setCell (p:=⟨aO,0,none⟩) bL.out ↑o0).setCell (p:=⟨aO,1,none⟩) bL.out ↑o1).setCell (p:=⟨aO,2,none⟩) bL.out ↑o2).setCell (p:=⟨aO,3,none⟩) bL.out ↑bF).setCell (p:=⟨aO,4,none⟩) bL.out ↑dX);have qd:=af kW;clear cF kW;refine aU 13 fun K hK=>?_;go_simp;clear e0 e1 e2 bJ cV l6;refine hK.out _ _ ⟨iL.out _ (bq.out.below cH.out),(b9.out.below cH.out).cell 1⟩ (fun hHeld=>?_);clear hK K;generalize (((((wb.setCell ↑aO ↑o0).setCell ⟨aO,1,none⟩ ↑o1).setCell ⟨aO,2,none⟩ ↑o2).setCell ⟨aO,3,none⟩ ↑bF).setCell ⟨aO,4,none⟩ ↑dX)=wf at*;refine gu _ _ _ _ ?_;refine ej 14 ?_;refine gw ?_;clear hHeld;have kL:=ah dI cH;go_wp2_with fail
   go_meet;exact⟨by trivial,by trivial,⟨aO,rfl,qd.out⟩,kL.out⟩
 case rest=>
 obtain⟨rfl,rfl,⟨aO,rfl,uA⟩,ep⟩:=hcut;have aQ:=ag aS ep;have jl:=af (hN.out.below ep);have eA:=af (dG.out.below ep);have nh:=af uA;clear ep uA hN dG aS;generalize wc=w3 at*;rw [l5.out]at cv;rcases A5.out with⟨rfl,rfl⟩|⟨i,rfl,rfl,rfl⟩
 ·exact absurd l5.out qR.out
 ·dsimp only at cv
  obtain⟨hil,hxs,hx0,hx1⟩:=MQ aD.out l5.out;dsimp only at hxs hx0 hx1;have c1:=eA.out.cell 1;have e1:=nh.out.cell 1;have e2:=nh.out.cell 2;have bJ:=nh.out.cell 3;have hba:=Below.aI w3 (.cells #[.int .i64 4,↑id,↑i,↑o1,↑o2,↑bF,.int .i64 0,.int .i64 0] 143);have ni:Hid (av (w3.alloc (.cells #[.int .i64 4,↑id,↑i,↑o1,↑o2,↑bF,.int .i64 0,.int .i64 0] 143)) w3.heap.size 143 #[.int .i64 4,↑id,↑i,↑o1,↑o2,↑bF,.int .i64 0,.int .i64 0]):=af (av.new _ _ _);have mP:=af (jl.out.below hba);have hO:=af (eA.out.below hba);have kM:=af (nh.out.below hba);have j7:=ag aQ hba;clear hba jl eA nh aQ;go_upto_region 10 with(fail)
  obtain⟨cI,gC⟩:=ai w3.heap.size;rw [gC]at ni⊢;clear gC c1 e1 e2 bJ;generalize w3.alloc (.cells _ 143)=az at*;have c0:=hO.out.cell 0;have b8:=hO.out.cell 5;have bJ:=kM.out.cell 3;have jq:=Eo.out i _ l5.out;dsimp only at jq;have vR:=af jq;clear jq;obtain⟨cb,hcb⟩:∃b:Bool,decide (kd=2∨(kd=3∧bF≤aq))=b:=⟨_,rfl⟩;have gW:=af hcb;clear hcb;have rK:=bg.out.aq;dsimp only at rK;obtain⟨CD,A6⟩:=rK;go_cut [51] (fun v wx=>v=↑cb∧az=wx)
  case first=>
   rcases mO with rfl|rfl|rfl
   ·have gY:Hid (cb=true):=af (by rw [←gW.out];simp)
    go_wp2_with fail
    go_meet;exact⟨by rw [gY.out],by trivial⟩
   ·have gY:Hid (cb=decide (bF≤aq)):=af (by rw [←gW.out];simp)
    go_wp2_with fail
    go_meet;exact⟨by rw [gY.out],by trivial⟩
   ·have gY:Hid (cb=false):=af (by rw [←gW.out];simp)
    go_wp2_with fail
    go_meet;exact⟨by rw [gY.out],by trivial⟩
  case rest=>
  obtain⟨rfl,rfl⟩:=hcut;clear c0 b8 bJ;obtain⟨iZ,Jr⟩:=vR.out;have oK:¬(kd=2∨(kd=3∧bF≤aq)):=by omega
  obtain rfl:cb=false:=by rw [←gW.out];exact decide_eq_false oK
  rw [if_neg oK,if_neg (by omega)]at cv;have c0:az.cell? ↑aV=some (.int .i64 4):=by rw [←iZ];exact hO.out.cell 0
  have GL:=af Jr;clear oK mO Jr iZ;go_upto_region 16 with(fail)
  clear c0;have hd:=(Below.refl az.heap.size az).drew;have bq:=af (mP.out.below hd);have b9:=af (hO.out.below hd);have jg:=af (kM.out.below hd);have gZ:=af (ni.out.below hd);have b6:=ag j7 hd;clear hd mP hO kM ni j7
  have uo:Hid (∀wv,eF W wv pm ps p Q S E→(wv.cell? ↑pm=some (.string p.code)∧wv.cell? ⟨pm,1,none⟩=some (.slice p.ma p.months.length p.mc)∧wv.cell? ⟨pm,2,none⟩=some ↑p.tick∧wv.cell? ⟨pm,3,none⟩=some ↑p.low∧wv.cell? ⟨pm,4,none⟩=some ↑p.high∧wv.cell? ⟨pm,5,none⟩=some ↑p.wide∧wv.cell? ⟨pm,6,none⟩=some ↑p.rule∧wv.cell? ⟨pm,7,none⟩=some ↑p.top∧wv.cell? ⟨pm,8,none⟩=some ↑p.least∧wv.cell? ⟨pm,9,none⟩=some ↑p.part∧wv.cell? ⟨pm,10,none⟩=some (.slice p.sa p.settle.length p.sc))∧wv.cell? ⟨pm,11,none⟩=some (.pointer ↑ps)):=af fun wv hv=>by
   obtain⟨_,_,hmb,_⟩:=hv.box;exact⟨⟨hmb.cell 0,hmb.cell 1,hmb.cell 2,hmb.cell 3,hmb.cell 4,hmb.cell 5,hmb.cell 6,hmb.cell 7,hmb.cell 8,hmb.cell 9,hmb.cell 10⟩,hmb.cell 11⟩
  have iR:=(uo.out _ bq.out).1;have d4:az.drew.cell? ⟨aV,4,none⟩=some ↑ap:=b9.out.cell 4;have mo:=DM p i ap az.drew (bq.out.cr.pv.below bq.out.cr.aJ);obtain⟨pr,yl⟩:=ai (eW p i ap);rw [yl]at mo cv GL;unfold Prod.agg Prod.cells at mo;have kQ:=af mo;clear mo yl;refine cP (S:=fun w'=>(w'.cell? ↑pm=some (.string p.code)∧w'.cell? ⟨pm,1,none⟩=some (.slice p.ma p.months.length p.mc)∧w'.cell? ⟨pm,2,none⟩=some ↑p.tick∧w'.cell? ⟨pm,3,none⟩=some ↑p.low∧w'.cell? ⟨pm,4,none⟩=some ↑p.high∧w'.cell? ⟨pm,5,none⟩=some ↑p.wide∧w'.cell? ⟨pm,6,none⟩=some ↑p.rule∧w'.cell? ⟨pm,7,none⟩=some ↑p.top∧w'.cell? ⟨pm,8,none⟩=some ↑p.least∧w'.cell? ⟨pm,9,none⟩=some ↑p.part∧w'.cell? ⟨pm,10,none⟩=some (.slice p.sa p.settle.length p.sc))∧w'.cell? ⟨aV,4,none⟩=some ↑ap) ⟨iR,d4⟩ fun hHeld=>?_;refine au 0 ?_;refine au 1 ?_;refine au 2 ?_;refine au 3 ?_;refine au 4 ?_;refine au 5 ?_;refine au 6 ?_;clear iR d4;generalize az.drew=aA at*;refine aU 7 fun K hK=>?_;go_simp;go_at_call 67
  refine kQ.out.mono ?_;rintro e aN ⟨rfl,bI⟩;have mP:=af (bq.out.below bI);have hO:=af (b9.out.below bI);have kM:=af (jg.out.below bI);have ni:=af (gZ.out.below bI);have j7:=ag b6 bI;refine hK.out _ _ ⟨(uo.out _ mP.out).1,hO.out.cell 4⟩ (fun hHeld=>?_);clear hK K bI kQ bq b9 jg gZ b6;refine gu _ _ _ _ ?_;refine ej 8 ?_;refine gw ?_;clear hHeld;by_cases uq:pr=0
  ·subst uq
   obtain⟨iP,aeS⟩:ap=o2∧aq≤bF:=by
    rcases GL.out with h|h
    ·exact absurd rfl h
    ·exact h
   rw [if_neg (fun h=>h rfl),if_pos ⟨iP,aeS⟩]at cv;have A7:(ap==o2)=true:=by rw [iP];exact beq_self_eq_true _
   have d4:=hO.out.cell 4;have d5:=hO.out.cell 5;have e2:=kM.out.cell 2;have bJ:=kM.out.cell 3;clear iP;by_cases hlt:aq<bF
   ·rw [if_pos hlt]at cv
    go_upto_region 21 with(fail)
    clear d4 d5 e2 bJ A7;have hd:=(Below.refl aN.heap.size aN).drew;have bq:=af (mP.out.below hd);have b9:=af (hO.out.below hd);have jg:=af (kM.out.below hd);have gZ:=af (ni.out.below hd);have b6:=ag j7 hd;clear hd mP hO kM ni j7
    have dS:aN.drew.cell? ⟨pm,11,none⟩=some (.pointer ↑ps):=by
     obtain⟨_,_,h1,_⟩:=bq.out.box;exact h1.cell 11
    have yj:aN.drew.cell? ⟨aV,1,none⟩=some ↑id:=b9.out.cell 1;have CF:aN.drew.cell? ⟨aO,3,none⟩=some ↑bF:=jg.out.cell 3;have Js:aN.drew.cell? ⟨aV,5,none⟩=some ↑aq:=b9.out.cell 5;refine cP (S:=fun w'=>w'.cell? ⟨pm,11,none⟩=some (.pointer ↑ps)∧w'.cell? ⟨aV,1,none⟩=some ↑id∧w'.cell? ⟨aO,3,none⟩=some ↑bF∧w'.cell? ⟨aV,5,none⟩=some ↑aq) ⟨dS,yj,CF,Js⟩ fun hHeld=>?_;refine au 0 ?_;refine au 1 ?_;refine au 2 ?_;refine au 3 ?_;refine au 4 ?_;refine au 5 ?_;refine au 6 ?_;refine au 7 ?_;refine au 8 ?_;refine au 9 ?_;refine au 10 ?_;rw [show IntKind.i64.wrap (bF-aq)=bF-aq from IntWalk.i64_in _ (by omega)];clear dS yj CF Js;generalize aN.drew=wd at*;have kX:=Jq bq.out.cr (by have:=aD.out.le;omega) (fun L hL=>⟨(aD.out.each L hL).len,(aD.out.each L hL).nd,(aD.out.each L hL).aq⟩) id (bF-aq);refine dY 11 fun K hK=>?_;go_simp;go_at_call 66
    refine kX.mono ?_;rintro e wt ⟨rfl,hsb,kY⟩;refine hK.out _ _ ?_;clear hK K kX hHeld;have nP:∀g,g∈Q→ck wd g 181:=fun g hg=>(bq.out.cr.py hg).1;have zM:=af (bq.out.turn hsb kY);have xf:=af (b9.out.keeps kY (fun e=>b9.out.aE.ne (nP _ e) (by decide) rfl));have tu:=af (jg.out.keeps kY (fun e=>jg.out.aE.ne (nP _ e) (by decide) rfl));have vS:=af (gZ.out.keeps kY (fun e=>gZ.out.aE.ne (nP _ e) (by decide) rfl));have zN:Hid (aK (fun g=>g∈Q) w wt):=af ((Below.keeps b6.out).trans kY);clear hsb kY nP bq b9 jg gZ b6;have d1:=xf.out.cell 1;have d5:=xf.out.cell 5;have e1:=tu.out.cell 1;have e2:=tu.out.cell 2;have bJ:=tu.out.cell 3;go_wp2_with fail
    go_ret;have eU:=Below.aI wt (.cells #[.int .i64 5,↑id,↑i,↑o1,↑o2,.int .i64 (bF-aq),↑aq,.int .i64 0] 143);have iY:gy W w (wt.alloc (.cells #[.int .i64 5,↑id,↑i,↑o1,↑o2,.int .i64 (bF-aq),↑aq,.int .i64 0] 143)) pm ps p Q R.1 R.2:=by rw [cv.out];exact gy.ry jd.out (zM.out.below eU) (zN.out.trans (Below.keeps eU))
    first|exact iY|exact⟨_,rfl,iY⟩|exact⟨⟨_,rfl⟩,iY⟩|exact⟨⟨_,rfl⟩,iY⟩
   ·rw [if_neg hlt]at cv
    go_upto_region 22 with(fail)
    clear d4 d5 e2 bJ A7;have zM:=mP;have xf:=hO;have tu:=kM;have zN:Hid (aK (fun g=>g∈Q) w aN):=af (Below.keeps j7.out);obtain⟨wt,rfl⟩:=aj aN;have d1:=xf.out.cell 1;have d5:=xf.out.cell 5;have e1:=tu.out.cell 1;have e2:=tu.out.cell 2;have bJ:=tu.out.cell 3;go_wp2_with fail
    go_ret;have eU:=Below.aI wt (.cells #[.int .i64 5,↑id,↑i,↑o1,↑o2,.int .i64 (bF-aq),↑aq,.int .i64 0] 143);have iY:gy W w (wt.alloc (.cells #[.int .i64 5,↑id,↑i,↑o1,↑o2,.int .i64 (bF-aq),↑aq,.int .i64 0] 143)) pm ps p Q R.1 R.2:=by rw [cv.out];exact gy.ry jd.out (zM.out.below eU) (zN.out.trans (Below.keeps eU))
    first|exact iY|exact⟨_,rfl,iY⟩|exact⟨⟨_,rfl⟩,iY⟩|exact⟨⟨_,rfl⟩,iY⟩
  ·rw [if_pos uq]at cv
   have c1:=hO.out.cell 1;have lu:=Ch id pr aN;go_wp2_with fail
   refine lu.mono ?_;rintro e wn ⟨v,rfl,_,cn⟩;have je:=ag j7 cn;clear c1 lu cn;go_wp2_with fail
   go_ret;exact⟨_,rfl,by rw [cv.out];exact gy.ry jd.out (jd.out.below je.out) (Below.keeps je.out)⟩
end
end Go.Proofs.YtmaijkoopjocdaaGreat
