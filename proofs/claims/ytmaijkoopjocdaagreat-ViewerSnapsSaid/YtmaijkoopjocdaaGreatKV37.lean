import Derived.Test.YtmaijkoopjocdaaGreatKV34
set_option maxRecDepth 100000
set_option maxHeartbeats 64000000
namespace Go.Proofs.YtmaijkoopjocdaaGreat
open Go.RowKit Go.Lib
def lG (p:Prod) (S:List (List aC)) (i:Nat) (s:Int):aX:=
 ⟨k6 (S.getD i []) s,⟨(nS (mA p (ef S) i s) s).1,(nS (mA p (ef S) i s) s).2.1,(nS (mA p (ef S) i s) s).2.2.1⟩,(nS (mA p (ef S) i s) s).2.2.2⟩
def dz (p:Prod) (S:List (List aC)):bG:=(List.range S.length).map (fun i=>(lG p S i 1,lG p S i 2))
theorem CS (p:Prod) (S:List (List aC)):(dz p S).length=S.length:=by unfold dz;rw [List.length_map,List.length_range]
theorem af2 {p:Prod} {S:List (List aC)} {i:Nat} {x:aX×aX} (h:(dz p S)[i]? =some x):i<S.length∧x=(lG p S i 1,lG p S i 2):=by
 unfold dz at h;rw [List.getElem?_map]at h;cases hr:(List.range S.length)[i]? with
 |none=>rw [hr]at h;cases h
 |some j=>
  rw [hr]at h;obtain⟨h1,h2⟩:=List.getElem?_eq_some_iff.1 hr;rw [List.getElem_range]at h2;rw [List.length_range]at h1;subst h2;injection h with h;exact⟨h1,h.symm⟩
theorem Ns {p:Prod} {S:List (List aC)} {x:aX×aX} (h:x∈dz p S):∃i,i<S.length∧x=(lG p S i 1,lG p S i 2):=by
 obtain⟨i,hi⟩:=List.mem_iff_getElem?.1 h;exact⟨i,af2 hi⟩
theorem QO {L:List dK} {dA sa bi cr:Int} {less:Bool} {q:dg} (h:qh L dA sa bi cr less=some q):cz q.ap:=by
 have hz:cz 0:=by unfold cz;omega
 unfold qh at h;split at h
 ·split at h
  ·dsimp only at h
   have hr:∀a b:Int,cz (rN a b).1∧cz (qX a b).1:=fun a b=>by
    unfold rN qX;refine⟨?_,?_⟩
    ·split
     ·assumption
     ·exact hz
    ·split
     ·assumption
     ·exact hz
   split at h
   ·split at h
    ·injection h with h
     subst h;exact(hr _ _).2
    ·cases h
   ·split at h
    ·injection h with h
     subst h;exact(hr _ _).1
    ·cases h
  ·cases h
 ·cases h
theorem af3 {p:Prod} {L:List dK} {i side:Int} {q:dg} (h:q∈oM p L i side):cz q.ap:=by
 unfold oM at h;split at h
 ·cases h
 ·split at h
  ·simp only [Option.mem_toList,Option.map_eq_some_iff]at h
   obtain⟨q',h1,rfl⟩:=h;exact QO (q:=q') h1
  ·rw [List.mem_append]at h
   rcases h with h|h
   ·obtain⟨m,_,h⟩:=XD _ h
    exact QO h
   ·obtain⟨m,_,h⟩:=XE _ h
    exact QO h
theorem Nt {x:dg} {B:Int}:∀(l:List dg) (m:Int),(∀q∈l,q.aq≤B)→m≤B→m≤l.foldl (fun m q=>if q.ap=x.ap then(if m<q.aq then q.aq else m)else m) m∧l.foldl (fun m q=>if q.ap=x.ap then(if m<q.aq then q.aq else m)else m) m≤B
 | [],m,_,hm=>⟨Int.le_refl _,hm⟩
 |q::t,m,h,hm=>by
  rw [List.foldl_cons];have hq:=h q (List.mem_cons_self ..);have ht:=fun x hx=>h x (List.mem_cons_of_mem _ hx);split
  ·split
   ·have:=Nt (x:=x) t q.aq ht hq;omega
   ·exact Nt (x:=x) t m ht hm
  ·exact Nt (x:=x) t m ht hm
theorem XF {l:List dg} (side:Int) (h:∀q∈l,cz q.ap∧1≤q.aq∧q.aq≤250000000):
 ((nS l side).2.2.2=false→(nS l side).1=0∧(nS l side).2.1=0∧(nS l side).2.2.1=0)∧
 ((nS l side).2.2.2=true→cz (nS l side).1∧(1≤(nS l side).2.1∧(nS l side).2.1≤250000000)∧1≤(nS l side).2.2.1∧(nS l side).2.2.1≤l.length):=by
 unfold nS;split
 ·rename_i hb
  refine⟨fun h=>(by cases h),fun _=>?_⟩;have hm:=QR hb;have hx:=h _ hm;dsimp only;refine⟨hx.1,?_,?_,?_⟩
  ·unfold yx
   have:=Nt (x:=(qj l side).1) (B:=250000000) (l.take l.length) (qj l side).1.aq (fun q hq=>(h q (List.mem_of_mem_take hq)).2.2) hx.2.2;omega
  ·unfold yy
   rw [List.take_length];have:0<(l.filter (fun q=>q.ap==(qj l side).1.ap)).length:=List.length_pos_of_mem (List.mem_filter.2 ⟨hm,by simp⟩);omega
  ·have:=XG l (qj l side).1 l.length
   omega
 ·exact⟨fun _=>⟨rfl,rfl,rfl⟩,fun h=>(by cases h)⟩
section
variable {p:Prod} {S:List (List aC)}
theorem XH (hz:cR p=0) (hS:ei p S) (i:Nat) (s:Int):∀q∈mA p (ef S) i s,cz q.ap∧1≤q.aq∧q.aq≤250000000:=fun q hq=>by
 have h1:=(QS hz hS hq).2;unfold mA at hq;exact⟨af3 (List.mem_filter.1 hq).1,h1⟩
theorem QT (p:Prod) (S:List (List aC)) (i:Nat) (s:Int):(mA p (ef S) i s).length≤1000:=by
 unfold mA;exact Nat.le_trans (List.length_filter_le ..) G8
theorem XI (hz:cR p=0) (hS:ei p S) (i:Nat) (s:Int):vJ s (lG p S i s):=by
 have h:=XF s (XH hz hS i s);unfold lG;refine⟨(hS.at_ i).af4 s,(hS.at_ i).XJ s,fun hh=>?_,fun hh=>?_⟩
 ·obtain⟨h1,h2,h3⟩:=h.1 hh
  dsimp only;rw [h1,h2,h3];rfl
 ·obtain⟨h1,h2,h3⟩:=h.2 hh
  exact⟨h2.1,h3.1⟩
theorem XK (hz:cR p=0) (hS:ei p S) (i:Nat) (s:Int):(∀l∈(lG p S i s).lv,eB l.ap∧eB l.aq∧eB l.count)∧eB (lG p S i s).im.ap∧eB (lG p S i s).im.aq∧eB (lG p S i s).im.count:=by
 have h:=XF s (XH hz hS i s);have hl:=QT p S i s;unfold lG;dsimp only;refine⟨fun l hl=>?_,?_⟩
 ·have h1:=(hS.at_ i).XL s l hl
  have h2:=Ka (hS.at_ i) s l hl;unfold eB;omega
 ·cases hh:(nS (mA p (ef S) i s) s).2.2.2 with
  |false=>
   obtain⟨h1,h2,h3⟩:=h.1 hh;rw [h1,h2,h3];unfold eB;omega
  |true=>
   obtain⟨h1,h2,h3⟩:=h.2 hh;unfold cz at h1;unfold eB;omega
theorem XM {L:List aC} (h:j8 L) (s:Int):(k6 L s).length≤250:=by
 unfold k6;refine Nat.le_trans (QN _) (Nat.le_trans ?_ h.len);exact List.length_filter_le ..
theorem XN (hz:cR p=0) (hS:ei p S):AP (dz p S):=fun x hx=>by
 obtain⟨i,_,rfl⟩:=Ns hx;exact⟨XI hz hS i 1,XI hz hS i 2⟩
theorem QU (hz:cR p=0) (hS:ei p S):AQ (dz p S):=fun x hx=>by
 obtain⟨i,_,rfl⟩:=Ns hx;exact⟨XK hz hS i 1,XK hz hS i 2⟩
theorem QV (hS:ei p S):fX (dz p S) 250:=fun x hx=>by
 obtain⟨i,_,rfl⟩:=Ns hx;exact⟨XM (hS.at_ i) 1,XM (hS.at_ i) 2⟩
end
theorem XO {side:Int}:∀{l:List aB},kF side l→Pos l→yz side l=true
 | [],_,_=>rfl
 | [x],_,h=>by
   have:=h x (List.mem_cons_self ..);simp only [yz,decide_eq_true_eq];exact this
 |x::y::t,hs,h=>by
  have hc:=List.pairwise_cons.1 hs;have h1:=h x (List.mem_cons_self ..);simp only [yz,Bool.and_eq_true,decide_eq_true_eq];exact⟨⟨h1,hc.1 y (List.mem_cons_self ..)⟩,XO hc.2 (fun a ha=>h a (List.mem_cons_of_mem _ ha))⟩
theorem XP {side:Int} {x:aX} (h:vJ side x) (hl:x.lv.length≤255):ji side x=true:=by
 unfold ji;rw [Bool.and_eq_true,Bool.and_eq_true,decide_eq_true_eq];refine⟨⟨XO h.oH h.pos,hl⟩,?_⟩;cases hh:x.has with
 |false=>rw [if_neg (by simp),decide_eq_true_eq];exact h.no hh
 |true=>rw [if_pos rfl,decide_eq_true_eq];exact h.yes hh
theorem XQ {V:bG} (h:AP V) (hl:fX V 250) (hn:V.length≤255):ql V=true:=by
 unfold ql;rw [Bool.and_eq_true,decide_eq_true_eq,List.all_eq_true];refine⟨fun x hx=>?_,hn⟩;have h1:=h x hx;have h2:=hl x hx;rw [Bool.and_eq_true];exact⟨XP h1.1 (by omega),XP h1.2 (by omega)⟩
theorem AQ.ok {V:bG} (h:AQ V):QW V:=fun x hx=>⟨⟨(h x hx).1.1,(h x hx).1.2⟩,(h x hx).2.1,(h x hx).2.2⟩
structure Bm (n:Nat) (M:List aF) (V:List bG) (Q:List Int):Prop where
 ms:∀(j:Nat) (m:aF),M[j]? =some m→m.seq=(j:Int)+1∧Bc n m
 len:V.length=Q.length
 one:1≤V.length
 q0:Q[0]? =some 0
 at_:∀(k:Nat) (v:bG) (q:Int),V[k]? =some v→Q[k]? =some q→∃j:Nat,q=j∧j≤M.length∧v=(M.take j).foldl (fun V m=>gm m V) (rM n).V∧v.length=n∧AP v∧AQ v∧fX v 250
 last:∀(q:Int),Q[Q.length-1]? =some q→q=M.length
theorem Bm.start (n:Nat):Bm n [] [(rM n).V] [0]:=by
 refine⟨fun j m h=>by simp at h,rfl,Nat.le_refl _,rfl,fun k v q h1 h2=>?_,fun q h=>?_⟩
 ·cases k with
  |zero=>
   simp only [List.getElem?_cons_zero,Option.some.injEq]at h1 h2;subst h1;subst h2;have hz:∀x∈(rM n).V,x=(vI,vI):=fun x hx=>(List.mem_replicate.1 hx).2;have h0:eB 0:=by unfold eB;omega
   refine⟨0,rfl,Nat.le_refl _,rfl,List.length_replicate,fun x hx=>?_,fun x hx=>?_,fun x hx=>?_⟩
   ·rw [hz x hx];exact⟨UM 1,UM 2⟩
   ·rw [hz x hx];exact⟨⟨fun l hl=>(by cases hl),h0,h0,h0⟩,⟨fun l hl=>(by cases hl),h0,h0,h0⟩⟩
   ·rw [hz x hx];exact⟨Nat.zero_le _,Nat.zero_le _⟩
  |succ k=>simp at h1
 ·simp at h
  exact h.symm
theorem Bm.next {n:Nat} {M:List aF} {V:List bG} {Q:List Int} (h:Bm n M V Q) {A B:bG} (hA:V[V.length-1]? =some A) (hB:AP B) (XR:AQ B) (XS:fX B 250) (af5:B.length=n) (hn:n≤255) (fF:M.length≤1000000):
 Bm n (M++qK A B M.length) (V++ [B]) (Q++ [((M++qK A B M.length).length:Int)]):=by
 have hQ:∃q,Q[Q.length-1]? =some q:=⟨_,List.getElem?_eq_getElem (by have:=h.one;have:=h.len;omega)⟩;obtain⟨sH,CD⟩:=hQ;have QX:=h.last sH CD;obtain⟨af6,yA,Nu,XT,af7,af8,af9,aga⟩:=h.at_ (V.length-1) A sH hA (by rw [h.len];exact CD);have agb:af6=M.length:=by omega
 subst agb;rw [List.take_length]at XT;have hdl:=U1 aga XS (M.length:Int);have amt:A.length*(4*250+2)≤255*1002:=Nat.mul_le_mul (by omega) (Nat.le_refl _);refine⟨fun j m hj=>?_,?_,?_,?_,fun k v q h1 h2=>?_,fun q hq=>?_⟩
 ·rcases Nat.lt_or_ge j M.length with h3|h3
  ·rw [List.getElem?_append_left h3]at hj
   exact h.ms j m hj
  ·rw [List.getElem?_append_right h3]at hj
   have h4:=adP hj;have h5:=U0 (A:=A) (B:=B) (q:=(M.length:Int)) (by omega) (by omega) hB af9 XR (List.mem_of_getElem? hj) (by omega) (by omega);refine⟨by omega,?_,h5.2.1,by omega⟩;rw [←af7];exact h5.1
 ·rw [List.length_append,List.length_append,h.len];rfl
 ·rw [List.length_append];simp
 ·rw [List.getElem?_append_left (by have:=h.one;have:=h.len;omega)]
  exact h.q0
 ·rcases Nat.lt_or_ge k V.length with h3|h3
  ·rw [List.getElem?_append_left h3]at h1
   rw [List.getElem?_append_left (by rw [←h.len];exact h3)]at h2;obtain⟨j,b1,b2,b3,b4⟩:=h.at_ k v q h1 h2;refine⟨j,b1,by rw [List.length_append];omega,?_,b4⟩;rw [List.take_append_of_le_length b2];exact b3
  ·have hk:k=V.length:=by
    have:=(List.getElem?_eq_some_iff.1 h1).1;rw [List.length_append]at this;simp at this;omega
   subst hk;rw [List.getElem?_append_right (Nat.le_refl _),Nat.sub_self,List.getElem?_cons_zero]at h1;rw [List.getElem?_append_right (by rw [h.len];exact Nat.le_refl _),h.len,Nat.sub_self,List.getElem?_cons_zero]at h2;injection h1 with h1;injection h2 with h2;subst h1;refine⟨(M++qK A B M.length).length,h2.symm,Nat.le_refl _,?_,af5,hB,XR,XS⟩;rw [List.take_length,List.foldl_append,←XT];exact(adN (by omega) af8 hB _).symm
 ·rw [show(Q++ [((M++qK A B M.length).length:Int)]).length-1=Q.length by rw [List.length_append];rfl,List.getElem?_append_right (Nat.le_refl _),Nat.sub_self,List.getElem?_cons_zero]at hq
  injection hq with hq;exact hq.symm
def ia (k:Nat) (S:List (List aC)):Prop:=∀L∈S,L.length≤k
section
variable {p:Prod} {S:List (List aC)} {E:List Int} {k:Nat}
theorem ia.more (h:ia k S) {j:Nat} (hj:k≤j):ia j S:=fun L hL=>Nat.le_trans (h L hL) hj
theorem ia.at_ (h:ia k S) (i:Nat):(S.getD i []).length≤k:=by
 rw [List.getD_eq_getElem?_getD];cases hg:S[i]? with
 |none=>exact Nat.zero_le _
 |some L=>exact h L (List.mem_of_getElem? hg)
theorem ia.set (h:ia k S) {i:Nat} {L:List aC} (hL:L.length≤k):ia k (S.set i L):=fun K hK=>by
 rcases List.mem_or_eq_of_mem_set hK with h1|rfl
 ·exact h K h1
 ·exact hL
theorem XB:∀(z:List (aC×Int)) (L:List aC),(pz L z).length≤L.length
 | [],_=>Nat.le_refl _
 |x::t,L=>by
  have h1:=XB t (if 0<x.2 then(pF L x.1.id x.2).1 else L)
  have h2:(if 0<x.2 then(pF L x.1.id x.2).1 else L).length≤L.length:=by
   split
   ·exact XC ..
   ·exact Nat.le_refl _
  exact Nat.le_trans h1 h2
theorem ia.rR (h:ia k S) (i:Nat) (side ap q:Int):ia k (ou p S i side ap q).1:=
 h.set (Nat.le_trans (XB _ _) (h.at_ i))
theorem ia.step (h:ia k S) {i:Nat} {side ap aq:Int} {r:List (List aC)×nt} (hr:ur p S i side ap aq=some r):ia k r.1:=by
 unfold ur at hr;split at hr
 ·injection hr with hr
  subst hr;exact h.rR _ _ _ _
 ·split at hr
  ·cases hr
  ·injection hr with hr
   subst hr;exact(h.rR _ _ _ _).rR _ _ _ _
theorem ia.gO (i:Nat) (side ap:Int):∀(f:Nat) {S:List (List aC)} (aq:Int),ia k S→ia k (gO p i side ap f S aq).1
 |0,_,_,h=>h
 |f+1,S,aq,h=>by
  unfold Go.Proofs.YtmaijkoopjocdaaGreat.gO;split
  ·exact h
  ·cases hr:ur p S i side ap aq with
   |none=>exact h
   |some r=>exact ia.gO i side ap f (aq-r.2.aq) (h.step hr)
theorem ia.QM (h:ia k S) (i:Nat) (id side ap aq:Int):ia (k+1) (xm p S i id side ap aq).1:=by
 unfold xm;split
 ·exact h.more (Nat.le_succ _)
 ·split
  ·exact h.more (Nat.le_succ _)
  ·split
   ·exact h.more (Nat.le_succ _)
   ·exact(h.more (Nat.le_succ _)).set (Nat.le_trans (j8.af1 ..) (Nat.succ_le_succ (h.at_ i)))
theorem ia.run (h:ia k S) (i:Nat) (c:ed):ia (k+1) (ru p S i c):=by
 have h1:=ia.gO (p:=p) i c.side c.ap c.aq.toNat c.aq h;unfold ru;split
 ·exact h1.QM _ _ _ _ _
 ·exact h1.more (Nat.le_succ _)
theorem ia.take (h:ia k S) (id aq:Int):ia k (fW S id aq).1:=by
 unfold fW;split
 ·exact h
 ·exact h.set (Nat.le_trans (XC ..) (h.at_ _))
theorem ia.come (h:ia k S) (i:Nat) (c:ed):ia (k+1) (r9 p S E i c).1:=by
 unfold r9
 repeat' split
 all_goals first|exact h.more (Nat.le_succ _)|exact h.run i c
theorem ia.J9 (h:ia k S) (c:ed):ia (k+1) (mq p S E c).1:=by
 unfold mq;split
 ·exact h.come _ c
 ·split
  ·exact h.more (Nat.le_succ _)
  ·repeat' split
   all_goals first|exact h.more (Nat.le_succ _)|exact(h.take _ _).more (Nat.le_succ _)|exact(h.take _ _).run _ _
theorem ia.look (h:ia k S):fX (dz p S) k:=fun x hx=>by
 obtain⟨i,_,rfl⟩:=Ns hx
 have hl:∀s,(k6 (S.getD i []) s).length≤k:=fun s=>by
  unfold k6;exact Nat.le_trans (QN _) (Nat.le_trans (List.length_filter_le ..) (h.at_ i))
 exact⟨hl 1,hl 2⟩
end
theorem ia.new (n:Nat):ia 0 (List.replicate n ([]:List aC)):=fun L hL=>by
 rw [(List.mem_replicate.1 hL).2];exact Nat.le_refl _
section
variable {W w w':World} {pm ps pb:Nat} {p:Prod} {Q:List Nat} {S S':List (List aC)} {E:List Int}
theorem aeP (h:eF W w pm ps p Q S E) (hz:cR p=0) (hS:ei p S) (c:ed) (hc:yg S.length c) (hE:E.length≤90000) (rJ:c.kind≠1) (hfind:gR c.id 0 S≠none) (jq:∀(i:Nat) (x:aC),gR c.id 0 S=some (i,x)→c.kind=3∧c.aq<x.aq):
 Calls Tryz.prog 29 #[.pointer ↑pm,.agg c.cells] w fun e w'=>∃v,e= .returned v∧gy W w w' pm ps p Q (mq p S E c).1 (mq p S E c).2:=by
 have hb0:=Below.aI w (.cells c.cells 80);have bA:=af hb0;have jd:=af h;have jG:=af (h.below hb0);have cm:Hid (av (w.alloc (.cells c.cells 80)) w.heap.size 80 c.cells):=af (av.new _ _ _);have cL:=af fun w=>GJ c hc (by have:=hS.le;omega) w;have ec:=af hz;have aD:=af hS;have bR:=af hE;have bg:=af hc;have hJ:=af fun(wv:World) (hv:eF W wv pm ps p Q S E) (i:Nat) (n9:c.inst=i) (hi:i<S.length) (e3:c.side=1∨c.side=2) (jF:c.least≤c.aq)=>F8 hv hz hS c n9 hi e3 hc.aq.1 hc.aq.2 jF hE;obtain⟨R,hR⟩:=ai (mq p S E c);have cv:Hid (R=if c.kind=1 then r9 p S E c.inst.toNat c
 else match gR c.id 0 S with
  |none=>(S,E)
  |some (i,x)=>
   if c.kind=2∨(c.kind=3∧x.aq≤c.aq)then((fW S c.id x.aq).1,E)
   else if c.kind=3 then((fW S c.id c.aq).1,E)
   else if eW p i c.ap≠0 then(S,E)
   else if c.ap=x.ap∧c.aq≤x.aq then(if c.aq<x.aq then((fW S c.id (x.aq-c.aq)).1,E)else(S,E))
   else if s4 p (fW S c.id x.aq).1 i x.side c.ap c.aq=true then(S,E)
   else(ru p (fW S c.id x.aq).1 i ⟨0,c.id,i,x.side,c.ap,c.aq,0,1,⟨#[]⟩⟩,E)):=af (by rw [←hR];rfl)
 rw [hR];have yh:=af rJ;have qR:=af hfind;have Eo:=af jq;clear h hz hS hE hb0 hR hc rJ hfind jq hJ;obtain⟨kd,id,inst,side,ap,aq,least,time,label⟩:=c;unfold ed.cells at*;dsimp only at*;go_enter Tryz.func29,Tryz.ntmps29
 go_upto_region 1 with(fail)
 obtain⟨aV,cj⟩:=ai w.heap.size;rw [cj]at cm⊢;clear cj;generalize w.alloc (.cells _ 80)=w1 at*;have c0:=cm.out.cell 0;have c1:=cm.out.cell 1;have c2:=cm.out.cell 2;have c3:=cm.out.cell 3;have dH:=cm.out.cell 4;have b8:=cm.out.cell 5;have fJ:=cm.out.cell 6;have gL:=cm.out.cell 7;have iC:=cm.out.cell 8;have h6:=cL.out w1;go_wp2_with fail
 refine h6.mono ?_;rintro e w2 ⟨rfl,hb2⟩;have aS:=ag bA hb2;have hN:=af (jG.out.below hb2);have dG:=af (cm.out.below hb2);clear c0 c1 c2 c3 dH b8 fJ gL iC h6 hb2 cL jG cm bA;have c0:=dG.out.cell 0;have cN:¬kd=1:=yh.out;have xd:(kd==1)=false:=by rw [beq_eq_false_iff_ne];exact cN
 rw [if_neg cN]at cv;have mO:kd=2∨kd=3∨kd=4:=by have:=bg.out.kind;dsimp only at this;omega
 go_upto_region 6 with(fail)
 clear c0 xd;obtain⟨mr,px⟩:=ai (gR id 0 S)
 obtain⟨fi,o0,o1,o2,bF,dX,fb,kV,qP⟩:∃(fi o0 o1 o2 bF:Int) (dX fb:Bool),xe mr= .tuple #[↑fi,.agg #[↑o0,↑o1,↑o2,↑bF,↑dX],↑fb]∧((mr=none∧fb=false)∨∃(i:Nat),mr=some (i,⟨o0,o1,o2,bF,dX⟩)∧fb=true∧fi=i):=by
  cases mr with
  |none=>exact⟨0,0,0,0,0,false,false,rfl,.inl ⟨rfl,rfl⟩⟩
  |some rI=>
   obtain⟨i,x0,x1,aZ,cl,cw⟩:=rI;exact⟨i,x0,x1,aZ,cl,cw,true,rfl,.inr ⟨i,rfl,rfl,rfl⟩⟩
 have A5:=af qP;have l5:=af px;clear qP px;go_cut [6,7,8] (fun u v b wx=>u=↑fi∧b=↑fb∧(∃aO:Nat,v= .pointer ↑aO∧av wx aO 139 #[↑o0,↑o1,↑o2,↑bF,↑dX])∧Below w2.heap.size w2 wx)
 case first=>
  have hd:=(Below.refl w2.heap.size w2).drew;have bq:=af (hN.out.below hd);have b9:=af (dG.out.below hd);have dI:=af hd
  have jH:∀wv,eF W wv pm ps p Q S E→wv.cell? ⟨pm,11,none⟩=some (.pointer ↑ps):=fun wv hv=>by
   obtain⟨_,_,h1,_⟩:=hv.box;exact h1.cell 11
  have iL:=af jH;have dS:=jH _ bq.out;have c1:w2.drew.cell? ⟨aV,1,none⟩=some ↑id:=b9.out.cell 1;clear hd jH;refine cP (S:=(fun w'=>w'.cell? ⟨pm,11,none⟩=some (.pointer ↑ps)∧w'.cell? ⟨aV,1,none⟩=some ↑id)) ⟨dS,c1⟩ fun hHeld=>?_;refine au 0 ?_;refine au 1 ?_;refine au 2 ?_;refine au 3 ?_;refine au 4 ?_;refine au 5 ?_;clear dS c1;generalize w2.drew=az at*
  have uz:Hid (∀wv,eF W wv pm ps p Q S E→Calls Tryz.prog 65 #[.pointer ↑ps,↑id] wv fun e w'=>e= .returned (.tuple #[↑fi,.agg #[↑o0,↑o1,↑o2,↑bF,↑dX],↑fb])∧Below wv.heap.size wv w'):=af fun wv hv=>by
   have:=Ep hv.cr (by have:=aD.out.le;omega) (fun L hL=>(aD.out.each L hL).len) id;rw [l5.out,kV]at this;exact this
  refine lZ 6 11 (fun K hK=>?_) fun K hK=>?_
  ·go_simp
   go_at_call 65
   refine(uz.out _ bq.out).mono ?_;rintro e wa ⟨rfl,hba⟩;have cK:=af hba;refine hK.out _ _ ⟨iL.out _ (bq.out.below hba),(b9.out.below hba).cell 1⟩ (fun hHeld=>?_);clear hK K hba;refine au 7 ?_;refine au 8 ?_;refine au 9 ?_;refine au 10 ?_;refine aU 11 fun K hK=>?_;go_simp;have aP:=Below.aI wa (.cells #[.int .i64 0,.int .i64 0,.int .i64 0,.int .i64 0,.bool false] 139);have cF:av (wa.alloc (.cells #[.int .i64 0,.int .i64 0,.int .i64 0,.int .i64 0,.bool false] 139)) wa.heap.size 139 #[.int .i64 0,.int .i64 0,.int .i64 0,.int .i64 0,.bool false]:=av.new _ _ _;have bp:=ag cK aP;refine hK.out _ _ ⟨iL.out _ (bq.out.below bp.out),(b9.out.below bp.out).cell 1⟩ (fun hHeld=>?_);clear hK K aP;obtain⟨aO,er⟩:=ai wa.heap.size;have bL:Hid (az.heap.size≤aO):=af (by rw [←er];exact cK.out.size);rw [er]at cF⊢;clear er;generalize wa.alloc (.cells #[.int .i64 0,.int .i64 0,.int .i64 0,.int .i64 0,.bool false] 139)=wb at*;refine au 12 ?_;have e0:=cF.cell 0;have e1:=cF.cell 1;have e2:=cF.cell 2;have bJ:=cF.cell 3;have cV:=cF.cell 4;have l6:=cF.frozen;have kW:=cF.qc ↑o0 ↑o1 ↑o2 ↑bF ↑dX;have cH:=af (((((bp.out.setCell (p:=⟨aO,0,none⟩) bL.out ↑o0).setCell (p:=⟨aO,1,none⟩) bL.out ↑o1).setCell (p:=⟨aO,2,none⟩) bL.out ↑o2).setCell (p:=⟨aO,3,none⟩) bL.out ↑bF).setCell (p:=⟨aO,4,none⟩) bL.out ↑dX);have qd:=af kW;clear cF kW;refine aU 13 fun K hK=>?_;go_simp;clear e0 e1 e2 bJ cV l6;refine hK.out _ _ ⟨iL.out _ (bq.out.below cH.out),(b9.out.below cH.out).cell 1⟩ (fun hHeld=>?_);clear hK K;generalize (((((wb.setCell ↑aO ↑o0).setCell ⟨aO,1,none⟩ ↑o1).setCell ⟨aO,2,none⟩ ↑o2).setCell ⟨aO,3,none⟩ ↑bF).setCell ⟨aO,4,none⟩ ↑dX)=wf at*;refine gu _ _ _ _ ?_;refine ej 14 ?_;refine gw ?_;clear hHeld;have kL:=ah dI cH;go_wp2_with fail
   go_meet;exact⟨by trivial,by trivial,⟨aO,rfl,qd.out⟩,kL.out⟩
  ·go_simp
   have aP:=Below.aI az (.cells #[.int .i64 0,.int .i64 0,.int .i64 0,.int .i64 0,.bool false] 139);have qf:av (az.alloc (.cells #[.int .i64 0,.int .i64 0,.int .i64 0,.int .i64 0,.bool false] 139)) az.heap.size 139 #[.int .i64 0,.int .i64 0,.int .i64 0,.int .i64 0,.bool false]:=av.new _ _ _;have cK:=af aP;refine hK.out _ _ ⟨iL.out _ (bq.out.below aP),(b9.out.below aP).cell 1⟩ (fun hHeld=>?_);clear hK K aP;obtain⟨aO,er⟩:=ai az.heap.size;have bL:Hid (az.heap.size≤aO):=af (by rw [←er];exact Nat.le_refl _);rw [er]at qf⊢;clear er;generalize az.alloc (.cells #[.int .i64 0,.int .i64 0,.int .i64 0,.int .i64 0,.bool false] 139)=wa at*;refine aU 6 fun K hK=>?_;go_simp;go_at_call 65
   refine(uz.out _ (bq.out.below cK.out)).mono ?_;rintro e wb ⟨rfl,aP⟩;have bp:=ag cK aP;have cF:=qf.below aP;refine hK.out _ _ ⟨iL.out _ (bq.out.below bp.out),(b9.out.below bp.out).cell 1⟩ (fun hHeld=>?_);clear hK K aP qf;refine au 7 ?_;refine au 8 ?_;refine au 9 ?_;refine au 10 ?_;refine au 12 ?_;have e0:=cF.cell 0;have e1:=cF.cell 1;have e2:=cF.cell 2;have bJ:=cF.cell 3;have cV:=cF.cell 4;have l6:=cF.frozen;have kW:=cF.qc ↑o0 ↑o1 ↑o2 ↑bF ↑dX;have cH:=af (((((bp.out.setCell (p:=⟨aO,0,none⟩) bL.out ↑o0).setCell (p:=⟨aO,1,none⟩) bL.out ↑o1).setCell (p:=⟨aO,2,none⟩) bL.out ↑o2).setCell (p:=⟨aO,3,none⟩) bL.out ↑bF).setCell (p:=⟨aO,4,none⟩) bL.out ↑dX);have qd:=af kW;clear cF kW;refine aU 13 fun K hK=>?_;go_simp;clear e0 e1 e2 bJ cV l6;refine hK.out _ _ ⟨iL.out _ (bq.out.below cH.out),(b9.out.below cH.out).cell 1⟩ (fun hHeld=>?_);clear hK K;generalize (((((wb.setCell ↑aO ↑o0).setCell ⟨aO,1,none⟩ ↑o1).setCell ⟨aO,2,none⟩ ↑o2).setCell ⟨aO,3,none⟩ ↑bF).setCell ⟨aO,4,none⟩ ↑dX)=wf at*;refine gu _ _ _ _ ?_;refine ej 14 ?_;refine gw ?_;clear hHeld;have kL:=ah dI cH;go_wp2_with fail
   go_meet;exact⟨by trivial,by trivial,⟨aO,rfl,qd.out⟩,kL.out⟩
 case rest=>
 obtain⟨rfl,rfl,⟨aO,rfl,uA⟩,ep⟩:=hcut;have aQ:=ag aS ep;have jl:=af (hN.out.below ep);have eA:=af (dG.out.below ep);have nh:=af uA;clear ep uA hN dG aS;generalize wc=w3 at*;rw [l5.out]at cv;rcases A5.out with⟨rfl,rfl⟩|⟨i,rfl,rfl,rfl⟩
 ·exact absurd l5.out qR.out
 ·dsimp only at cv
  obtain⟨hil,hxs,hx0,hx1⟩:=MQ aD.out l5.out;dsimp only at hxs hx0 hx1;have c1:=eA.out.cell 1;have e1:=nh.out.cell 1;have e2:=nh.out.cell 2;have bJ:=nh.out.cell 3;have hba:=Below.aI w3 (.cells #[.int .i64 4,↑id,↑i,↑o1,↑o2,↑bF,.int .i64 0,.int .i64 0] 143);have ni:Hid (av (w3.alloc (.cells #[.int .i64 4,↑id,↑i,↑o1,↑o2,↑bF,.int .i64 0,.int .i64 0] 143)) w3.heap.size 143 #[.int .i64 4,↑id,↑i,↑o1,↑o2,↑bF,.int .i64 0,.int .i64 0]):=af (av.new _ _ _);have mP:=af (jl.out.below hba);have hO:=af (eA.out.below hba);have kM:=af (nh.out.below hba);have j7:=ag aQ hba;clear hba jl eA nh aQ;go_upto_region 10 with(fail)
  obtain⟨cI,gC⟩:=ai w3.heap.size;rw [gC]at ni⊢;clear gC c1 e1 e2 bJ;generalize w3.alloc (.cells _ 143)=az at*;have c0:=hO.out.cell 0;have b8:=hO.out.cell 5;have bJ:=kM.out.cell 3;have jq:=Eo.out i _ l5.out;dsimp only at jq;have vR:=af jq;clear jq;obtain⟨cb,hcb⟩:∃b:Bool,decide (kd=2∨(kd=3∧bF≤aq))=b:=⟨_,rfl⟩;have gW:=af hcb;clear hcb;have rK:=bg.out.aq;dsimp only at rK;obtain⟨CD,A6⟩:=rK;go_cut [51] (fun v wx=>v=↑cb∧az=wx)
  case first=>
   rcases mO with rfl|rfl|rfl
   ·have gY:Hid (cb=true):=af (by rw [←gW.out];simp)
    go_wp2_with fail
    go_meet;exact⟨by rw [gY.out],by trivial⟩
   ·have gY:Hid (cb=decide (bF≤aq)):=af (by rw [←gW.out];simp)
    go_wp2_with fail
    go_meet;exact⟨by rw [gY.out],by trivial⟩
   ·have gY:Hid (cb=false):=af (by rw [←gW.out];simp)
    go_wp2_with fail
    go_meet;exact⟨by rw [gY.out],by trivial⟩
  case rest=>
  obtain⟨rfl,rfl⟩:=hcut;clear c0 b8 bJ;obtain⟨kr,hlt⟩:=vR.out;have oK:¬(kd=2∨(kd=3∧bF≤aq)):=by omega
  obtain rfl:cb=false:=by rw [←gW.out];exact decide_eq_false oK
  rw [if_neg oK]at cv;have c0:=hO.out.cell 0;subst kr;rw [if_pos rfl]at cv;clear oK mO;go_upto_region 14 with(fail)
  clear c0;have hd:=(Below.refl az.heap.size az).drew;have bq:=af (mP.out.below hd);have b9:=af (hO.out.below hd);have jg:=af (kM.out.below hd);have gZ:=af (ni.out.below hd);have b6:=ag j7 hd;clear hd mP hO kM ni j7
  have dS:az.drew.cell? ⟨pm,11,none⟩=some (.pointer ↑ps):=by
   obtain⟨_,_,h1,_⟩:=bq.out.box;exact h1.cell 11
  have yj:az.drew.cell? ⟨aV,1,none⟩=some ↑id:=b9.out.cell 1;have Js:az.drew.cell? ⟨aV,5,none⟩=some ↑aq:=b9.out.cell 5;refine cP (S:=fun w'=>w'.cell? ⟨pm,11,none⟩=some (.pointer ↑ps)∧w'.cell? ⟨aV,1,none⟩=some ↑id∧w'.cell? ⟨aV,5,none⟩=some ↑aq) ⟨dS,yj,Js⟩ fun hHeld=>?_;refine au 0 ?_;refine au 1 ?_;refine au 2 ?_;refine au 3 ?_;refine au 4 ?_;refine au 5 ?_;refine au 6 ?_;refine au 7 ?_;clear dS yj Js;generalize az.drew=wd at*;have kX:=Jq bq.out.cr (by have:=aD.out.le;omega) (fun L hL=>⟨(aD.out.each L hL).len,(aD.out.each L hL).nd,(aD.out.each L hL).aq⟩) id aq;refine dY 8 fun K hK=>?_;go_simp;go_at_call 66
  refine kX.mono ?_;rintro e wt ⟨rfl,hsb,kY⟩;refine hK.out _ _ ?_;clear hK K kX hHeld;have nP:∀g,g∈Q→ck wd g 181:=fun g hg=>(bq.out.cr.py hg).1;have zM:=af (bq.out.turn hsb kY);have xf:=af (b9.out.keeps kY (fun e=>b9.out.aE.ne (nP _ e) (by decide) rfl));have tu:=af (jg.out.keeps kY (fun e=>jg.out.aE.ne (nP _ e) (by decide) rfl));have vS:=af (gZ.out.keeps kY (fun e=>gZ.out.aE.ne (nP _ e) (by decide) rfl));have zN:Hid (aK (fun g=>g∈Q) w wt):=af ((Below.keeps b6.out).trans kY);clear hsb kY nP bq b9 jg gZ b6;have d1:=xf.out.cell 1;have d5:=xf.out.cell 5;have e1:=tu.out.cell 1;have e2:=tu.out.cell 2;have bJ:=tu.out.cell 3;go_wp2_with fail
  go_ret;have eU:=Below.aI wt (.cells #[.int .i64 5,↑id,↑i,↑o1,↑o2,↑aq,.int .i64 (bF-aq),.int .i64 0] 143);have iY:gy W w (wt.alloc (.cells #[.int .i64 5,↑id,↑i,↑o1,↑o2,↑aq,.int .i64 (bF-aq),.int .i64 0] 143)) pm ps p Q R.1 R.2:=by rw [cv.out];exact gy.ry jd.out (zM.out.below eU) (zN.out.trans (Below.keeps eU))
  first|exact iY|exact⟨_,rfl,iY⟩|exact⟨⟨_,rfl⟩,iY⟩
end
end Go.Proofs.YtmaijkoopjocdaaGreat
namespace Go.Proofs.YtmaijkoopjocdaaGreat
open Go Go.Lib
def vm (n:Nat) (M:List aF) (j:Nat):bG:=(M.take j).foldl (fun V m=>gm m V) (rM n).V
theorem TR {n:Nat} {M:List aF} {j:Nat} {m:aF} (h:M[j]? =some m):vm n M (j+1)=gm m (vm n M j):=by
 unfold vm;rw [List.take_add_one,h,List.foldl_append];rfl
structure tX (n:Nat) (M:List aF) (s:ig):Prop where
 q:∃j:Nat,s.seq=j∧j≤M.length∧s.V=vm n M j
 a:sG s.H
 h:∀m∈s.H,(∃i:Nat,M[i]? =some m)∧s.seq+1<m.seq
section
variable {n:Nat} {M:List aF} {s:ig}
theorem ald:tX n M (rM n):=⟨⟨0,rfl,Nat.zero_le _,rfl⟩,List.Pairwise.nil,fun m hm=>by cases hm⟩
def Num (n:Nat) (M:List aF):Prop:=∀(j:Nat) (m:aF),M[j]? =some m→m.seq=(j:Int)+1∧Bc n m
theorem OM (fF:Num n M):∀(H:List aF) (j:Nat),j≤M.length→sG H→(∀m∈H,∃i:Nat,M[i]? =some m)→
 tX n M (jN H (vm n M j) j)∧(j:Int)≤(jN H (vm n M j) j).seq∧∀x,x∈(jN H (vm n M j) j).H↔x∈H∧(jN H (vm n M j) j).seq<x.seq
 | [],j,hj,_,_=>⟨⟨⟨j,rfl,hj,rfl⟩,List.Pairwise.nil,fun m hm=>by cases hm⟩,Int.le_refl _,fun x=>by simp [jN]⟩
 |m::t,j,hj,ha,hh=>by
  have hc:=List.pairwise_cons.1 ha;obtain⟨i,hi⟩:=hh m (List.mem_cons_self ..);have LR:=(fF i m hi).1;have hil:=(List.getElem?_eq_some_iff.1 hi).1;have ht:∀x∈t,∃i:Nat,M[i]? =some x:=fun x hx=>hh x (List.mem_cons_of_mem _ hx);unfold jN;by_cases h1:m.seq-1≤(j:Int)
  ·rw [if_pos h1]
   by_cases h2:m.seq-1=(j:Int)
   ·rw [if_pos h2]
    have hij:i=j:=by omega
    subst hij;have e1:m.seq=((i+1:Nat):Int):=by omega
    rw [←TR (n:=n) hi,e1];obtain⟨r1,r2,fG⟩:=OM fF t (i+1) (by omega) hc.2 ht;refine⟨r1,by omega,fun x=>?_⟩;rw [fG x];constructor
    ·rintro⟨h3,h4⟩;exact⟨List.mem_cons_of_mem _ h3,h4⟩
    ·rintro⟨h3,h4⟩
     rcases List.mem_cons.1 h3 with rfl|h3
     ·omega
     ·exact⟨h3,h4⟩
   ·rw [if_neg h2]
    obtain⟨r1,r2,fG⟩:=OM fF t j hj hc.2 ht;refine⟨r1,r2,fun x=>?_⟩;rw [fG x];constructor
    ·rintro⟨h3,h4⟩;exact⟨List.mem_cons_of_mem _ h3,h4⟩
    ·rintro⟨h3,h4⟩
     rcases List.mem_cons.1 h3 with rfl|h3
     ·omega
     ·exact⟨h3,h4⟩
  ·rw [if_neg h1]
   refine⟨⟨⟨j,rfl,hj,rfl⟩,ha,fun x hx=>⟨hh x hx,?_⟩⟩,Int.le_refl _,fun x=>⟨fun hx=>⟨hx,?_⟩,fun hx=>hx.1⟩⟩
   ·dsimp only
    rcases List.mem_cons.1 hx with rfl|hx
    ·omega
    ·have:=hc.1 x hx;omega
   ·dsimp only at hx⊢
    rcases List.mem_cons.1 hx with rfl|hx
    ·omega
    ·have:=hc.1 x hx;omega
theorem TS (fF:Num n M):∀(H:List aF) (j:Nat),j≤M.length→sG H→(∀m∈H,∃i:Nat,M[i]? =some m)→∀(k:Nat) (x:aF),M[k]? =some x→(j:Int)<x.seq→x.seq≤(jN H (vm n M j) j).seq→x∈H
 | [],j,_,_,_,k,x,_,h1,h2=>by
   have:(jN [] (vm n M j) (j:Int)).seq=j:=rfl;omega
 |m::t,j,hj,ha,hh,k,x,hk,h1,h2=>by
  have hc:=List.pairwise_cons.1 ha;obtain⟨i,hi⟩:=hh m (List.mem_cons_self ..);have LR:=(fF i m hi).1;have hxs:=(fF k x hk).1;have hil:=(List.getElem?_eq_some_iff.1 hi).1;have ht:∀x∈t,∃i:Nat,M[i]? =some x:=fun x hx=>hh x (List.mem_cons_of_mem _ hx);unfold jN at h2;by_cases e1:m.seq-1≤(j:Int)
  ·rw [if_pos e1]at h2
   by_cases e2:m.seq-1=(j:Int)
   ·rw [if_pos e2]at h2
    have hij:i=j:=by omega
    subst hij;by_cases hki:k=i
    ·subst hki
     rw [hi]at hk;injection hk with hk;rw [←hk];exact List.mem_cons_self ..
    ·have bJ:m.seq=((i+1:Nat):Int):=by omega
     rw [←TR (n:=n) hi,bJ]at h2;exact List.mem_cons_of_mem _ (TS fF t (i+1) (by omega) hc.2 ht k x hk (by omega) h2)
   ·rw [if_neg e2]at h2
    exact List.mem_cons_of_mem _ (TS fF t j hj hc.2 ht k x hk h1 h2)
  ·rw [if_neg e1]at h2
   dsimp only at h2;omega
theorem LS:∀(H:List aF) (V:bG) (q:Int),(jN H V q).H.length≤H.length
 | [],_,_=>Nat.le_refl _
 |m::t,V,q=>by
  unfold jN;split
  ·split
   ·exact Nat.le_succ_of_le (LS t _ _)
   ·exact Nat.le_succ_of_le (LS t _ _)
  ·exact Nat.le_refl _
theorem take_len (n:Nat) (s:ig) (b:List Int):(iF n s b).2.H.length≤s.H.length+1:=by
 unfold iF;split
 ·exact Nat.le_succ _
 ·split
  ·exact Nat.le_succ _
  ·split
   ·exact Nat.le_succ _
   ·split
    ·exact Nat.le_succ_of_le (LS _ _ _)
    ·split
     ·exact Nat.le_succ _
     ·dsimp only;rw [OO];exact Nat.le_refl _
theorem abP {m:aF} (h:Bc n m):zQ n m=true:=IA.2 h.f
theorem TF (fF:Num n M) (hs:tX n M s) (hl:s.H.length<4096) {i:Nat} {m:aF} (hi:M[i]? =some m):
 ((m.seq≤s.seq∨m∈s.H)∧iF n s (fL m)=(33,s))∨
 (m.seq=s.seq+1∧m ∉ s.H∧(iF n s (fL m)).1=0∧tX n M (iF n s (fL m)).2∧m.seq≤(iF n s (fL m)).2.seq∧(∀x,x∈(iF n s (fL m)).2.H↔x∈s.H∧(iF n s (fL m)).2.seq<x.seq)∧∀(k:Nat) (x:aF),M[k]? =some x→m.seq<x.seq→x.seq≤(iF n s (fL m)).2.seq→x∈s.H)∨
 (s.seq+1<m.seq∧m ∉ s.H∧(iF n s (fL m)).1=32∧tX n M (iF n s (fL m)).2∧(iF n s (fL m)).2.seq=s.seq∧(∀x,x∈(iF n s (fL m)).2.H↔x=m∨x∈s.H)∧(iF n s (fL m)).2.H.length=s.H.length+1):=by
 obtain⟨LR,hmo⟩:=fF i m hi;have hil:=(List.getElem?_eq_some_iff.1 hi).1;have hd:pg (fL m)=some m:=Nj hmo.o hmo.f.sd
 have hh:kP m.seq s.H=true↔m∈s.H:=by
  unfold kP;rw [List.any_eq_true];constructor
  ·rintro⟨x,hx,he⟩
   obtain⟨k,hk⟩:=(hs.h x hx).1;have h1:=(fF k x hk).1;have h2:x.seq=m.seq:=by simpa using he
   have h3:k=i:=by omega
   subst h3;rw [hi]at hk;injection hk with hk;rw [hk];exact hx
  ·intro hm;exact⟨m,hm,by simp⟩
 have hn:¬(m.seq<1∨zQ n m=false):=by
  rintro(h|h)
  ·omega
  ·rw [abP hmo]at h;cases h
 by_cases h1:m.seq≤s.seq∨m∈s.H
 ·refine .inl ⟨h1,?_⟩
  unfold iF;rw [hd];dsimp only;rw [if_neg hn,if_pos (by rcases h1 with h|h;exact .inl h;exact .inr (hh.2 h))]
 ·have h2:¬(m.seq≤s.seq∨kP m.seq s.H=true):=fun h=>h1 (by rcases h with h|h;exact .inl h;exact .inr (hh.1 h))
  have h3:m ∉ s.H:=fun h=>h1 (.inr h);have h4:¬m.seq≤s.seq:=fun h=>h1 (.inl h);by_cases h5:m.seq-1=s.seq
  ·refine .inr (.inl ⟨by omega,h3,?_⟩)
   have e:iF n s (fL m)=(0,jN s.H (gm m s.V) m.seq):=by
    unfold iF;rw [hd];dsimp only;rw [if_neg hn,if_neg h2,if_pos h5]
   obtain⟨j,sA,hj2,En⟩:=hs.q;have hij:i=j:=by omega
   subst hij;have e2:m.seq=((i+1:Nat):Int):=by omega
   rw [e,En,←TR hi,e2];dsimp only;obtain⟨r1,r2,fG⟩:=OM fF s.H (i+1) (by omega) hs.a (fun x hx=>(hs.h x hx).1);exact⟨rfl,r1,r2,fG,TS fF s.H (i+1) (by omega) hs.a (fun x hx=>(hs.h x hx).1)⟩
  ·refine .inr (.inr ⟨by omega,h3,?_⟩)
   have e:iF n s (fL m)=(32,⟨s.V,s.seq,aog m s.H⟩):=by
    unfold iF;rw [hd];dsimp only;rw [if_neg hn,if_neg h2,if_neg h5,if_neg (by omega)]
   rw [e];dsimp only;have hp:=OP m s.H;refine⟨rfl,⟨hs.q,ack hs.a ?_,fun x hx=>?_⟩,rfl,fun x=>?_,OO m s.H⟩
   ·cases hx:kP m.seq s.H with
    |false=>rfl
    |true=>exact absurd (.inr hx) h2
   ·rcases List.mem_cons.1 (hp.mem_iff.1 hx)with rfl|hx
    ·exact⟨⟨i,hi⟩,by dsimp only;omega⟩
    ·exact hs.h x hx
   ·rw [hp.mem_iff,List.mem_cons]
theorem alu (fF:Num n M) (hs:tX n M s) (hl:s.H.length<4096) {i:Nat} {m:aF} (hi:M[i]? =some m):
 tX n M (iF n s (fL m)).2∧s.seq≤(iF n s (fL m)).2.seq∧(iF n s (fL m)).2.H.length≤s.H.length+1:=by
 refine⟨?_,?_,take_len n s _⟩
 ·rcases TF fF hs hl hi with⟨_,e⟩|⟨_,_,_,h3,_⟩|⟨_,_,_,h3,_⟩
  ·rw [e];exact hs
  ·exact h3
  ·exact h3
 ·rcases TF fF hs hl hi with⟨_,e⟩|⟨h1,_,_,_,h4,_⟩|⟨_,_,_,_,h4,_⟩
  ·rw [e];exact Int.le_refl _
  ·omega
  ·omega
theorem alo (fF:Num n M) (hs:tX n M s) (h:(M.length:Int)≤s.seq):s.H= []∧s.seq=M.length:=by
 obtain⟨j,h1,h2,_⟩:=hs.q;refine⟨List.eq_nil_iff_forall_not_mem.2 fun m hm=>?_,by omega⟩;obtain⟨⟨i,hi⟩,h3⟩:=hs.h m hm;have h4:=(fF i m hi).1;have h5:=(List.getElem?_eq_some_iff.1 hi).1;omega
theorem ala (fF:Num n M) (hs:tX n M s) {j:Nat} (hj:j≤M.length) {v:bG} (hv:v=vm n M j) (hl:v.length=n) (hr:ql v=true) (hb:AQ v):
 (((j:Int)<s.seq)∧r4 n s (lK v j)=(33,s))∨(s.seq≤(j:Int)∧(r4 n s (lK v j)).1=0∧r4 n s (lK v j)=(0,jN s.H (vm n M j) j)∧tX n M (r4 n s (lK v j)).2∧(j:Int)≤(r4 n s (lK v j)).2.seq):=by
 have hq:eB (j:Int)∨True:= .inr trivial;by_cases hbig:(j:Int)≤9223372036854775807
 ·have hd:ld (lK v j)=(0,v,(j:Int)):=alC hb.ok hr (by unfold eB;omega)
  unfold r4;rw [hd];dsimp only;rw [if_neg (by simp),if_neg (by rintro(h|h);exact h hl;omega)];by_cases h1:(j:Int)<s.seq
  ·rw [if_pos h1];exact .inl ⟨h1,rfl⟩
  ·rw [if_neg h1,hv]
   obtain⟨r1,r2,_⟩:=OM fF s.H j hj hs.a (fun x hx=>(hs.h x hx).1);exact .inr ⟨by omega,rfl,rfl,r1,r2⟩
 ·exfalso
  have hjl:0<M.length:=by omega
  have h1:=fF (M.length-1) _ (List.getElem?_eq_getElem (by omega));have h2:=h1.2.o.seq.2;omega
def Ab (n:Nat) (M:List aF) (k:Nat):ig:=⟨vm n M k,k,[]⟩
end
end Go.Proofs.YtmaijkoopjocdaaGreat
