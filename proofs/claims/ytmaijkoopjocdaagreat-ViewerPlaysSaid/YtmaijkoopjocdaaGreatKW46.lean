import Derived.Test.YtmaijkoopjocdaaGreatKW45
import Derived.Test.YtmaijkoopjocdaaGreatKW42
set_option maxRecDepth 100000
set_option maxHeartbeats 64000000
namespace Go.Proofs.YtmaijkoopjocdaaGreat
open Go.RowKit Go.Lib
def lG (p:Prod) (S:List (List aC)) (i:Nat) (s:Int):aX:=
 ⟨k6 (S.getD i []) s,⟨(nS (mA p (ef S) i s) s).1,(nS (mA p (ef S) i s) s).2.1,(nS (mA p (ef S) i s) s).2.2.1⟩,(nS (mA p (ef S) i s) s).2.2.2⟩
def dz (p:Prod) (S:List (List aC)):bG:=(List.range S.length).map (fun i=>(lG p S i 1,lG p S i 2))
theorem CS (p:Prod) (S:List (List aC)):(dz p S).length=S.length:=by unfold dz;rw [List.length_map,List.length_range]
theorem XS {p:Prod} {S:List (List aC)} {i:Nat} {x:aX×aX} (h:(dz p S)[i]? =some x):i<S.length∧x=(lG p S i 1,lG p S i 2):=by
 unfold dz at h;rw [List.getElem?_map]at h;cases hr:(List.range S.length)[i]? with
 |none=>rw [hr]at h;cases h
 |some j=>rw [hr]at h;obtain⟨h1,h2⟩:=List.getElem?_eq_some_iff.1 hr;rw [List.getElem_range]at h2;rw [List.length_range]at h1;subst h2;injection h with h;exact⟨h1,h.symm⟩
theorem Ns {p:Prod} {S:List (List aC)} {x:aX×aX} (h:x∈dz p S):∃i,i<S.length∧x=(lG p S i 1,lG p S i 2):=by obtain⟨i,hi⟩:=List.mem_iff_getElem?.1 h;exact⟨i,XS hi⟩
theorem QO {L:List dK} {A sa bi cr:Int} {less:Bool} {q:dg} (h:qh L A sa bi cr less=some q):cz q.ap:=by
 have hz:cz 0:=by unfold cz;omega
 unfold qh at h;split at h
 ·split at h
  ·dsimp only at h;have hr:∀a b:Int,cz (rN a b).1∧cz (qX a b).1:=fun a b=>by
    unfold rN qX;refine⟨?_,?_⟩
    ·split
     ·assumption
     exact hz
    split
    ·assumption
    exact hz
   split at h
   ·split at h
    ·injection h with h;subst h;exact(hr _ _).2
    cases h
   split at h
   ·injection h with h;subst h;exact(hr _ _).1
   cases h
  cases h
 cases h
theorem XT {p:Prod} {L:List dK} {i side:Int} {q:dg} (h:q∈oM p L i side):cz q.ap:=by
 unfold oM at h;split at h
 ·cases h
 split at h
 ·simp only [Option.mem_toList,Option.map_eq_some_iff]at h;obtain⟨q',h1,rfl⟩:=h;exact QO (q:=q') h1
 rw [List.mem_append]at h;rcases h with h|h
 ·obtain⟨m,_,h⟩:=XD _ h;exact QO h
 obtain⟨m,_,h⟩:=XE _ h;exact QO h
theorem Nt {x:dg} {B:Int}:∀(l:List dg) (m:Int),(∀q∈l,q.aq<=B)->m<=B->m<=l.foldl (fun m q=>if q.ap=x.ap then(if m<q.aq then q.aq else m)else m) m∧l.foldl (fun m q=>if q.ap=x.ap then(if m<q.aq then q.aq else m)else m) m<=B
 | [],m,_,hm=>⟨Int.le_refl _,hm⟩
 |q::t,m,h,hm=>by
  rw [List.foldl_cons];have hq:=h q (List.mem_cons_self ..);have ht:=fun x hx=>h x (List.mem_cons_of_mem _ hx);split
  ·split
   ·have:=Nt (x:=x) t q.aq ht hq;omega
   exact Nt (x:=x) t m ht hm
  exact Nt (x:=x) t m ht hm
theorem XF {l:List dg} (side:Int) (h:∀q∈l,cz q.ap∧1<=q.aq∧q.aq<=250000000):
 ((nS l side).2.2.2=false->(nS l side).1=0∧(nS l side).2.1=0∧(nS l side).2.2.1=0)∧
 ((nS l side).2.2.2=true->cz (nS l side).1∧(1<=(nS l side).2.1∧(nS l side).2.1<=250000000)∧1<=(nS l side).2.2.1∧(nS l side).2.2.1<=l.length):=by
 unfold nS;split
 ·rename_i hb;refine⟨fun h=>(by cases h),fun _=>?_⟩;have hm:=QR hb;have hx:=h _ hm;dsimp only;refine⟨hx.1,?_,?_,?_⟩
  ·unfold yx;have:=Nt (x:=(qj l side).1) (B:=250000000) (l.take l.length) (qj l side).1.aq (fun q hq=>(h q (List.mem_of_mem_take hq)).2.2) hx.2.2;omega
  ·unfold yy;rw [List.take_length];have:0<(l.filter (fun q=>q.ap==(qj l side).1.ap)).length:=List.length_pos_of_mem (List.mem_filter.2 ⟨hm,cU⟩);omega
  have:=XG l (qj l side).1 l.length;omega
 exact⟨fun _=>⟨rfl,rfl,rfl⟩,fun h=>(by cases h)⟩
section
variable {p:Prod} {S:List (List aC)}
theorem XH (hz:cR p=0) (hS:ei p S) (i:Nat) (s:Int):∀q∈mA p (ef S) i s,cz q.ap∧1<=q.aq∧q.aq<=250000000:=fun q hq=>by have h1:=(QS hz hS hq).2;unfold mA at hq;exact⟨XT (List.mem_filter.1 hq).1,h1⟩
theorem QT (p:Prod) (S:List (List aC)) (i:Nat) (s:Int):(mA p (ef S) i s).length<=1000:=by unfold mA;exact Nat.le_trans (List.length_filter_le ..) G8
theorem XI (hz:cR p=0) (hS:ei p S) (i:Nat) (s:Int):vJ s (lG p S i s):=by
 have h:=XF s (XH hz hS i s);unfold lG;refine⟨(hS.at_ i).XV s,(hS.at_ i).XJ s,fun hh=>?_,fun hh=>?_⟩
 ·obtain⟨h1,h2,h3⟩:=h.1 hh;dsimp only;rw [h1,h2,h3];rfl
 obtain⟨h1,h2,h3⟩:=h.2 hh;exact⟨h2.1,h3.1⟩
theorem XK (hz:cR p=0) (hS:ei p S) (i:Nat) (s:Int):(∀l∈(lG p S i s).lv,eB l.ap∧eB l.aq∧eB l.count)∧eB (lG p S i s).im.ap∧eB (lG p S i s).im.aq∧eB (lG p S i s).im.count:=by
 have h:=XF s (XH hz hS i s);have hl:=QT p S i s;unfold lG;dsimp only;refine⟨fun l hl=>?_,?_⟩
 ·have h1:=(hS.at_ i).XL s l hl;have h2:=Ka (hS.at_ i) s l hl;unfold eB;omega
 cases hh:(nS (mA p (ef S) i s) s).2.2.2 with
 |false=>obtain⟨h1,h2,h3⟩:=h.1 hh;rw [h1,h2,h3];unfold eB;omega
 |true=>obtain⟨h1,h2,h3⟩:=h.2 hh;unfold cz at h1;unfold eB;omega
theorem XM {L:List aC} (h:j8 L) (s:Int):(k6 L s).length<=250:=by unfold k6;refine Nat.le_trans (QN _) (Nat.le_trans ?_ h.len);exact List.length_filter_le ..
theorem XN (hz:cR p=0) (hS:ei p S):AP (dz p S):=fun x hx=>by obtain⟨i,_,rfl⟩:=Ns hx;exact⟨XI hz hS i 1,XI hz hS i 2⟩
theorem QU (hz:cR p=0) (hS:ei p S):AQ (dz p S):=fun x hx=>by obtain⟨i,_,rfl⟩:=Ns hx;exact⟨XK hz hS i 1,XK hz hS i 2⟩
theorem QV (hS:ei p S):fX (dz p S) 250:=fun x hx=>by obtain⟨i,_,rfl⟩:=Ns hx;exact⟨XM (hS.at_ i) 1,XM (hS.at_ i) 2⟩
end
theorem XO {side:Int}:∀{l:List aB},kF side l->Pos l->yz side l=true
 | [],_,_=>rfl
 | [x],_,h=>by have:=h x (List.mem_cons_self ..);simp only [yz,decide_eq_true_eq];exact this
 |x::y::t,hs,h=>by have hc:=List.pairwise_cons.1 hs;have h1:=h x (List.mem_cons_self ..);simp only [yz,Bool.and_eq_true,decide_eq_true_eq];exact⟨⟨h1,hc.1 y (List.mem_cons_self ..)⟩,XO hc.2 (fun a ha=>h a (List.mem_cons_of_mem _ ha))⟩
theorem XP {side:Int} {x:aX} (h:vJ side x) (hl:x.lv.length<=255):ji side x=true:=by
 unfold ji;rw [Bool.and_eq_true,Bool.and_eq_true,decide_eq_true_eq];refine⟨⟨XO h.oH h.pos,hl⟩,?_⟩;cases hh:x.has with
 |false=>rw [if_neg cU,decide_eq_true_eq];exact h.no hh
 |true=>rw [if_pos rfl,decide_eq_true_eq];exact h.yes hh
theorem XQ {V:bG} (h:AP V) (hl:fX V 250) (hn:V.length<=255):ql V=true:=by unfold ql;rw [Bool.and_eq_true,decide_eq_true_eq,List.all_eq_true];refine⟨fun x hx=>?_,hn⟩;have h1:=h x hx;have h2:=hl x hx;rw [Bool.and_eq_true];exact⟨XP h1.1 bh,XP h1.2 bh⟩
theorem AQ.ok {V:bG} (h:AQ V):QW V:=fun x hx=>⟨⟨(h x hx).1.1,(h x hx).1.2⟩,(h x hx).2.1,(h x hx).2.2⟩
structure Bm (n:Nat) (M:List aF) (V:List bG) (Q:List Int):Prop where
 ms:∀(j:Nat) (m:aF),M[j]? =some m->m.seq=(j:Int)+1∧Bc n m
 len:V.length=Q.length
 one:1<=V.length
 q0:Q[0]? =some 0
 at_:∀(k:Nat) (v:bG) (q:Int),V[k]? =some v->Q[k]? =some q->∃j:Nat,q=j∧j<=M.length∧v.length=n∧AP v∧AQ v∧fX v 250
 last:∀(q:Int),Q[Q.length-1]? =some q->q=M.length
theorem Bm.start (n:Nat):Bm n [] [(rM n).V] [0]:=by
 refine⟨fun j m h=>by simp at h,rfl,Nat.le_refl _,rfl,fun k v q h1 h2=>?_,fun q h=>?_⟩
 ·cases k with
  |zero=>
   simp only [List.getElem?_cons_zero,Option.some.injEq]at h1 h2;subst h1;subst h2;have hz:∀x∈(rM n).V,x=(vI,vI):=fun x hx=>(List.mem_replicate.1 hx).2;have h0:eB 0:=by unfold eB;omega
   refine⟨0,rfl,Nat.le_refl _,List.length_replicate,fun x hx=>?_,fun x hx=>?_,fun x hx=>?_⟩
   ·rw [hz x hx];exact⟨UM 1,UM 2⟩
   ·rw [hz x hx];exact⟨⟨fun l hl=>(by cases hl),h0,h0,h0⟩,⟨fun l hl=>(by cases hl),h0,h0,h0⟩⟩
   rw [hz x hx];exact⟨Nat.zero_le _,Nat.zero_le _⟩
  |succ k=>simp at h1
 simp at h;exact h.symm
theorem Bm.next {n:Nat} {M:List aF} {V:List bG} {Q:List Int} (h:Bm n M V Q) {A B:bG} (hA:V[V.length-1]? =some A) (hB:AP B) (XR:AQ B) (J:fX B 250) (C:B.length=n) (hn:n<=255) (R:M.length<=1000000):
 Bm n (M++qK A B M.length) (V++ [B]) (Q++ [((M++qK A B M.length).length:Int)]):=by
 have hQ:∃q,Q[Q.length-1]? =some q:=⟨_,List.getElem?_eq_getElem (by have:=h.one;have:=h.len;omega)⟩;obtain⟨K,I⟩:=hQ;have P:=h.last K I;obtain⟨D,T,O,E,L,F,G⟩:=h.at_ (V.length-1) A K hA (by rw [h.len];exact I);have H:D=M.length:=bh;subst H;have hdl:=U1 G J (M.length:Int);have N:A.length*(4*250+2)<=255*1002:=Nat.mul_le_mul bh (Nat.le_refl _);refine⟨fun j m hj=>?_,?_,?_,?_,fun k v q h1 h2=>?_,fun q hq=>?_⟩
 ·rcases Nat.lt_or_ge j M.length with h3|h3
  ·rw [List.getElem?_append_left h3]at hj;exact h.ms j m hj
  rw [List.getElem?_append_right h3]at hj;have h4:=RH hj;have h5:=U0 (A:=A) (B:=B) (q:=(M.length:Int)) bh bh hB F XR (List.mem_of_getElem? hj) bh bh;refine⟨bh,?_,h5.2.1,bh⟩;rw [<-E];exact h5.1
 ·rw [List.length_append,List.length_append,h.len];rfl
 ·rw [List.length_append];simp
 ·rw [List.getElem?_append_left (by have:=h.one;have:=h.len;omega)];exact h.q0
 ·rcases Nat.lt_or_ge k V.length with h3|h3
  ·rw [List.getElem?_append_left h3]at h1;rw [List.getElem?_append_left (by rw [<-h.len];exact h3)]at h2;obtain⟨j,b1,b2,b4⟩:=h.at_ k v q h1 h2;exact⟨j,b1,by rw [List.length_append];omega,b4⟩
  have hk:k=V.length:=by have:=(List.getElem?_eq_some_iff.1 h1).1;rw [List.length_append]at this;simp at this;omega
  subst hk;rw [List.getElem?_append_right (Nat.le_refl _),Nat.sub_self,List.getElem?_cons_zero]at h1;rw [List.getElem?_append_right (by rw [h.len];exact Nat.le_refl _),h.len,Nat.sub_self,List.getElem?_cons_zero]at h2;injection h1 with h1;injection h2 with h2;subst h1;exact⟨(M++qK A B M.length).length,h2.symm,Nat.le_refl _,C,hB,XR,J⟩
 rw [show(Q++ [((M++qK A B M.length).length:Int)]).length-1=Q.length by rw [List.length_append];rfl,List.getElem?_append_right (Nat.le_refl _),Nat.sub_self,List.getElem?_cons_zero]at hq;injection hq with hq;exact hq.symm
def Dt (p:Prod) (c:ed) (i:Int):ed:=
 if(if 4<1+ew c.kind 0 8 then 1 else 1+ew c.kind 0 8)=1 then
  ⟨1,i+1,ew c.inst 0 (countP p-1),1+ew c.side 0 1,if(gf p (ew c.inst 0 (countP p-1))).2.2=true then p.tick*ew c.ap 0 9-4*p.tick else p.tick*ew c.ap 0 9+8*p.tick,1+ew c.aq 0 11,if c.least.tmod 4=1 then ew c.least 0 (1+ew c.aq 0 11)else 0,if c.time.tmod 5=3 then 3 else if c.time.tmod 5=2 then 2 else 1,⟨#[]⟩⟩
 else⟨1+ew c.kind 0 8,1+ew c.id 0 30,0,0,if 1+ew c.kind 0 8=4 then p.tick*ew c.ap 0 9+5*p.tick else p.tick*ew c.ap 0 9,1+ew c.aq 0 11,0,0,⟨#[]⟩⟩
structure E3 (c:ed):Prop where
 kind:cz c.kind
 id:cz c.id
 inst:cz c.inst
 side:cz c.side
 ap:cz c.ap
 aq:cz c.aq
 least:cz c.least
 time:cz c.time
theorem akw {p:Prod} (hc:1<=countP p) (ht:1<=p.tick∧p.tick<=10) (c:ed) {i:Int} (hi:0<=i∧i<=100):yg (countP p).toNat (Dt p c i):=by
 have h1:=oq c.kind 0 8 bh;have h2:=oq c.id 0 30 bh;have h3:=oq c.inst 0 (countP p-1) bh;have h4:=oq c.side 0 1 bh;have h5:=oq c.aq 0 11 bh;have h6:=oq c.ap 0 9 bh;have h7:=oq c.least 0 (1+ew c.aq 0 11) bh;have h8:=ED ht.1 (i:=ew c.ap 0 9) (a:=0) (b:=9) h6.1 h6.2;unfold Dt;generalize ew c.least 0 (1+ew c.aq 0 11)=l at*;generalize ew c.kind 0 8=k at*;generalize ew c.id 0 30=d at*;generalize ew c.inst 0 (countP p-1)=n at*;generalize ew c.side 0 1=s at*;generalize ew c.aq 0 11=q at*;generalize p.tick*ew c.ap 0 9=pr at*;by_cases hk:(if 4<1+k then(1:Int)else 1+k)=1
 ·rw [if_pos hk];refine⟨by(try dsimp only);omega,by(try dsimp only);omega,by(try dsimp only);omega,?_,rfl,fun _=>⟨by(try dsimp only);omega,?_,?_,n.toNat,by(try dsimp only);omega,bh⟩⟩
  ·(try dsimp only);split<;>omega
  ·(try dsimp only)
   split
   ·omega
   split<;>omega
  (try dsimp only);split<;>omega
 rw [if_neg hk];have A:¬4<1+k:=fun h=>hk (if_pos h);rw [if_neg A]at hk;refine⟨by(try dsimp only);omega,by(try dsimp only);omega,by(try dsimp only);omega,?_,rfl,fun h=>(by(try dsimp only at h);exact absurd h hk)⟩
 (try dsimp only);split<;>omega
def M3:ed:=⟨0,0,0,0,0,0,0,0,⟨#[]⟩⟩
structure r6 (w w':World) (p:Prod) (aR gc gr aL:Nat) (c x:ed):Prop where
 ek:av w' aR 25 p.cells
 bc:av w' gc 80 c.cells
 br:av w' gr 80 M3.cells
 cW:av w' aL 80 x.cells
 aJ:Below ↑w w w'
 n1:aR<aL∧gc<aL∧gr<aL∧w.heap.size<=aL∧w.heap.size<=gr
section
variable {w w' w2:World} {p:Prod} {aR gc gr aL:Nat} {c x:ed}
theorem r6.below (h:r6 w w' p aR gc gr aL c x) (hb:Below ↑w' w' w2):r6 w w2 p aR gc gr aL c x:=
 ⟨h.ek.below hb,h.bc.below hb,h.br.below hb,h.cW.below hb,h.aJ.trans (hb.mono h.aJ.size),h.n1⟩
theorem r6.put (h:r6 w w' p aR gc gr aL c x) (k:Nat) (v:Value) (x':ed) (he:x.cells.setIfInBounds k v=x'.cells:=by rfl):r6 w (w'.setCell ↑(aL,k) v) p aR gc gr aL c x':=by have hk:=ct w' aL k v;obtain⟨n1,n2,pJ,lT,qi⟩:=h.n1;exact⟨h.ek.keeps hk (by show¬aR=aL;omega),h.bc.keeps hk (by show¬gc=aL;omega),h.br.keeps hk (by show¬gr=aL;omega),by rw [<-he];exact h.cW.aW k v,h.aJ.setCell (p:=⟨aL,k,none⟩) lT v,h.n1⟩
theorem r6.pc (h:r6 w w' p aR gc gr aL c x):PC w' aR p:=PC.oQ h.ek
theorem av.LG {w:World} {g:Nat} {t:TypeId} {x0 x1 C D E F H G I:Value} (h:av w g t #[x0,x1,C,D,E,F,H,G,I]) (v0 v1 v2 v3 v4 v5 v6 A B:Value):av (((((((((w.setCell ↑g v0).setCell ↑(g,1) v1).setCell ↑(g,2) v2).setCell ↑(g,3) v3).setCell ↑(g,4) v4).setCell ↑(g,5) v5).setCell ↑(g,6) v6).setCell ↑(g,7) A).setCell ↑(g,8) B) g t #[v0,v1,v2,v3,v4,v5,v6,A,B]:=by have h1:=(((((((((h.aW 0 v0).aW 1 v1).aW 2 v2).aW 3 v3).aW 4 v4).aW 5 v5).aW 6 v6).aW 7 A).aW 8 B);simp only [List.setIfInBounds_toArray,List.set_cons_zero,List.set_cons_succ]at h1;exact h1
theorem aK.LG (w:World) (g:Nat) (v0 v1 v2 v3 v4 v5 v6 A B:Value):aK (fun k=>k=g) w (((((((((w.setCell ↑g v0).setCell ↑(g,1) v1).setCell ↑(g,2) v2).setCell ↑(g,3) v3).setCell ↑(g,4) v4).setCell ↑(g,5) v5).setCell ↑(g,6) v6).setCell ↑(g,7) A).setCell ↑(g,8) B):=(((((((((ct w g 0 v0).trans (ct _ g 1 v1)).trans (ct _ g 2 v2)).trans (ct _ g 3 v3)).trans (ct _ g 4 v4)).trans (ct _ g 5 v5)).trans (ct _ g 6 v6)).trans (ct _ g 7 A)).trans (ct _ g 8 B))
theorem akv (p:Prod) (w:World) (hp:gM w p) (hz:cR p=0) (ht:1<=p.tick∧p.tick<=10) (c:ed) (hc:E3 c) (i:Int) (hi:0<=i∧i<=100):
 Calls Tryz.prog 30 #[p.agg,.agg c.cells,↑i] w fun e w'=>e= .returned (.agg (Dt p c i).cells)∧Below ↑w w w':=by
 have s1:=ak;have anH:1<=countP p∧countP p<=21:=by have h1:countP p=nR p.months.length:=if_pos hz;have h2:=pI hz;have h3:=yN p.months.length h2.2;omega
 obtain⟨R,hR⟩:=ai (Dt p c i);have H:=af hR;rw [hR];unfold Dt at H;obtain⟨kd,id,ins,sd,C,A,G,tm,lb⟩:=c;obtain⟨⟨a0,a1⟩,⟨b0,b1⟩,⟨d0,d1⟩,⟨e0,e1⟩,⟨f0,f1⟩,⟨g0,g1⟩,⟨h0,h1⟩,_⟩:=hc;dsimp only at H a0 a1 b0 b1 d0 d1 e0 e1 f0 f1 g0 g1 h0 h1;have dx:=af hp;have H1:=af fun w=>v8 kd 0 8 w a0 a1 bh bh bh;have H2:=af fun w=>v8 id 0 30 w b0 b1 bh bh bh;have H3:=af fun w=>v8 ins 0 (countP p-1) w d0 d1 bh bh bh;have H4:=af fun w=>v8 sd 0 1 w e0 e1 bh bh bh;have H5:=af fun w=>v8 A 0 11 w g0 g1 bh bh bh;have IK:=af fun w=>v8 C 0 9 w f0 f1 bh bh bh;have hw1:=oq kd 0 8 bh;have vH:=oq id 0 30 bh;have JS:=oq ins 0 (countP p-1) bh;have Qx:=oq sd 0 1 bh;have WW:=oq A 0 11 bh;have r7:=oq C 0 9 bh;have s6:=af fun w=>v8 G 0 (1+ew A 0 11) w h0 h1 bh bh bh;have akU:=ED ht.1 (i:=ew C 0 9) (a:=0) (b:=9) r7.1 r7.2;generalize ew G 0 (1+ew A 0 11)=vl at*;generalize ew ins 0 (countP p-1)=n at*;generalize ew kd 0 8=v1 at*;generalize ew id 0 30=v2 at*;generalize ew sd 0 1=v4 at*;generalize ew A 0 11=v5 at*;generalize ew C 0 9=v6 at*;obtain⟨k0,iQ⟩:=ai (1+v1);obtain⟨d,hd⟩:=ai (1+v2);obtain⟨s,hs⟩:=ai (1+v4);obtain⟨q,hq⟩:=ai (1+v5);obtain⟨pr,mo⟩:=ai (p.tick*v6);have y1:IntKind.i64.wrap (1+v1)=k0:=by rw [iQ];exact IntWalk.i64_in _ bh
 have fI:IntKind.i64.wrap (1+v2)=d:=by rw [hd];exact IntWalk.i64_in _ bh
 have lF:IntKind.i64.wrap (countP p-1)=countP p-1:=IntWalk.i64_in _ bh;have qb:IntKind.i64.wrap (1+v4)=s:=by rw [hs];exact IntWalk.i64_in _ bh
 have CN:IntKind.i64.wrap (1+v5)=q:=by rw [hq];exact IntWalk.i64_in _ bh
 have Ln:IntKind.i64.wrap (p.tick*v6)=pr:=by rw [mo];exact IntWalk.i64_in _ bh
 have Im:IntKind.i64.wrap (i+1)=i+1:=IntWalk.i64_in _ bh;have Pk:IntKind.i64.wrap (8*p.tick)=8*p.tick:=IntWalk.i64_in _ bh;have anI:IntKind.i64.wrap (4*p.tick)=4*p.tick:=IntWalk.i64_in _ bh;have anJ:IntKind.i64.wrap (5*p.tick)=5*p.tick:=IntWalk.i64_in _ bh;have anK:IntKind.i64.wrap (pr+8*p.tick)=pr+8*p.tick:=IntWalk.i64_in _ bh;have anL:IntKind.i64.wrap (pr-4*p.tick)=pr-4*p.tick:=IntWalk.i64_in _ bh;have anM:IntKind.i64.wrap (pr+5*p.tick)=pr+5*p.tick:=IntWalk.i64_in _ bh;have hkb:1<=k0∧k0<=9:=bh;have A6:1<=q∧q<=12:=bh;rw [iQ,hd,hs,hq,mo]at H;rw [hq]at s6;obtain⟨kq,hK⟩:=ai (if 4<k0 then 1 else k0);have e7:=af hK;rw [hK]at H;clear hR hp hz iQ hd hs hq mo hK a0 a1 b0 b1 d0 d1 e0 e1 f0 f1 g0 g1 h0 h1 hw1 vH Qx WW r7 akU ht;unfold Prod.agg Prod.cells ed.cells;go_enter Tryz.func30,Tryz.ntmps30;go_upto_region 1 with(fail);have hb1:Below ↑w w (w.alloc (.cells ↑p 25)):=Below.aI _ _;have Dw:av (w.alloc (.cells ↑p 25)) ↑w 25 p.cells:=av.new _ _ _;have hz1:(w.alloc (.cells ↑p 25)).heap.size=w.heap.size+1:=s1 _ _;generalize (w.alloc (.cells ↑p 25))=w0 at*;have hb2:=hb1.trans ((Below.aI w0 (.cells #[↑kd,↑id,↑ins,↑sd,↑C,↑A,↑G,↑tm,.string lb] 80)).mono hb1.size);have hbc:av (w0.alloc (.cells #[↑kd,↑id,↑ins,↑sd,↑C,↑A,↑G,↑tm,.string lb] 80)) (w.heap.size+1) 80 #[↑kd,↑id,↑ins,↑sd,↑C,↑A,↑G,↑tm,.string lb]:=by have:=av.new w0 80 #[↑kd,↑id,↑ins,↑sd,↑C,↑A,↑G,↑tm,.string lb];rwa [hz1]at this
 have Dx:=Dw.below (Below.aI w0 (.cells #[↑kd,↑id,↑ins,↑sd,↑C,↑A,↑G,↑tm,.string lb] 80));have eg:(w0.alloc (.cells #[↑kd,↑id,↑ins,↑sd,↑C,↑A,↑G,↑tm,.string lb] 80)).heap.size=w.heap.size+1+1:=by rw [s1,hz1]
 generalize w0.alloc (.cells #[↑kd,↑id,↑ins,↑sd,↑C,↑A,↑G,↑tm,.string lb] 80)=W at*;have hb3:=hb2.trans ((Below.aI W (.cells #[↑(),↑(),↑(),↑(),↑(),↑(),↑(),↑(),.string ⟨#[]⟩] 80)).mono hb2.size);have xT:av (W.alloc (.cells #[↑(),↑(),↑(),↑(),↑(),↑(),↑(),↑(),.string ⟨#[]⟩] 80)) (w.heap.size+1+1) 80 #[↑(),↑(),↑(),↑(),↑(),↑(),↑(),↑(),.string ⟨#[]⟩]:=by have:=av.new W 80 #[↑(),↑(),↑(),↑(),↑(),↑(),↑(),↑(),.string ⟨#[]⟩];rwa [eg]at this
 have DK:=Dx.below (Below.aI W (.cells #[↑(),↑(),↑(),↑(),↑(),↑(),↑(),↑(),.string ⟨#[]⟩] 80));have Tk:=hbc.below (Below.aI W (.cells #[↑(),↑(),↑(),↑(),↑(),↑(),↑(),↑(),.string ⟨#[]⟩] 80));have yf:(W.alloc (.cells #[↑(),↑(),↑(),↑(),↑(),↑(),↑(),↑(),.string ⟨#[]⟩] 80)).heap.size=w.heap.size+1+1+1:=by rw [s1,eg]
 generalize W.alloc (.cells #[↑(),↑(),↑(),↑(),↑(),↑(),↑(),↑(),.string ⟨#[]⟩] 80)=w1 at*;have bz:Ei (∀x:ed,r6 w (w1.alloc (.cells x.cells 80)) p ↑w (w.heap.size+1) (w.heap.size+1+1) (w.heap.size+1+1+1) ⟨kd,id,ins,sd,C,A,G,tm,lb⟩ x):=af fun x=>⟨DK.alloc _,Tk.alloc _,xT.alloc _,by have:=av.new w1 80 x.cells;rwa [yf]at this,hb3.trans ((Below.aI w1 _).mono hb3.size),bh⟩;obtain⟨aL,fO⟩:=ai (w.heap.size+1+1+1);obtain⟨gr,fe⟩:=ai (w.heap.size+1+1);obtain⟨gc,we⟩:=ai (w.heap.size+1);obtain⟨aR,nT⟩:=ai w.heap.size;have xx:Ei (∀x:ed,r6 w (w1.alloc (.cells x.cells 80)) p aR gc gr aL ⟨kd,id,ins,sd,C,A,G,tm,lb⟩ x):=af (by have:=bz.o;rw [fO,fe,we]at this;intro x;have h2:=this x;exact⟨by have:=h2.ek;rwa [nT]at this,h2.bc,h2.br,h2.cW,h2.aJ,by have:=h2.n1;omega⟩);try rw [show w.heap.size+2=w.heap.size+1+1 from rfl]
 try rw [fe]
 rw [we];rw [show(Value.pointer ↑w.heap.size)= .pointer ↑aR by rw [nT]];have c0:w1.cell? ↑gc=↑kd:=by rw [<-we];exact Tk.cell 0
 have fy:Ei (w1.heap.size=aL):=af (by rw [yf];exact fO);clear bz fO fe we nT Dw hbc xT Dx DK Tk hb1 hb2 hb3 hz1 eg yf;go_wp2_with fail;refine(H1.o _).mono ?_;rintro e J ⟨rfl,rfl⟩;go_upto_region 2 with(fail);have D:=af (xx.o ⟨k0,0,0,0,0,0,0,0,⟨#[]⟩⟩);rw [fy.o];unfold ed.cells at D;dsimp only at D;clear c0 fy xx;generalize w1.alloc (.cells _ 80)=w2 at*;have c1:=D.o.bc.GD;have x1:=D.o.cW.GD;have fx:∀o,w2.frozen? ⟨aL,o,none⟩=false:=fun o=>D.o.cW.frozen o;go_wp2_with fail;refine(H2.o _).mono ?_;rintro e J ⟨rfl,rfl⟩;go_upto_region 3 with(fail);have u:=af (D.o.put 1 ↑d ⟨k0,d,0,0,0,0,0,0,⟨#[]⟩⟩);clear c1 x1 fx D;generalize w2.setCell ⟨aL,1,none⟩ ↑d=w3 at*;have x0:=u.o.cW.GC;have fx:∀o,w3.frozen? ⟨aL,o,none⟩=false:=fun o=>u.o.cW.frozen o;go_upto_if 24 with(fail);go_cut [] (fun wx=>r6 w wx p aR gc gr aL ⟨kd,id,ins,sd,C,A,G,tm,lb⟩ ⟨kq,d,0,0,0,0,0,0,⟨#[]⟩⟩)
 case first=>
  by_cases h4:4<k0
  ·have Fi:Ei (kq=1):=af (by rw [<-e7.o,if_pos h4]);go_wp2_with fail;go_meet;have:=u.o.put 0 (.int .i64 1) ⟨1,d,0,0,0,0,0,0,⟨#[]⟩⟩;rw [Fi.o];exact this
  have Fi:Ei (kq=k0):=af (by rw [<-e7.o,if_neg h4]);go_wp2_with fail;go_meet;rw [Fi.o];exact u.o
 case rest=>
 have Ox:=af hcut;clear hcut x0 fx u;generalize wc=az at*;have anN:Ei (1<=kq∧kq<=4):=af (by rw [<-e7.o];split<;>omega);have oc:=KA p az (dx.o.below Ox.o.aJ);unfold Prod.agg Prod.cells at oc;have oc:=af oc;obtain⟨jh,p1,p2,p3,y8,y9,za,zb,ze,zf,zg⟩:=Ox.o.pc;go_wp2_with fail;refine oc.o.mono ?_;rintro e J ⟨rfl,cx⟩;go_upto_region 6 with(fail);have T5:=af (Ox.o.below cx);clear cx oc Ox jh p1 p2 p3 y8 y9 za zb ze zf zg;generalize J=J at*;have c2:=T5.o.bc.Je;have L:=T5.o.cW.Je;have fx:∀o,J.frozen? ⟨aL,o,none⟩=false:=fun o=>T5.o.cW.frozen o;go_wp2_with fail;refine(H3.o _).mono ?_;rintro e J ⟨rfl,rfl⟩;go_upto_region 7 with(fail);have y:=af (T5.o.put 2 ↑n ⟨kq,d,n,0,0,0,0,0,⟨#[]⟩⟩);clear c2 L fx T5;generalize J.setCell ⟨aL,2,none⟩ ↑n=aN at*;have c3:=y.o.bc.Jf;have N:=y.o.cW.Jf;have fx:∀o,aN.frozen? ⟨aL,o,none⟩=false:=fun o=>y.o.cW.frozen o;go_wp2_with fail;refine(H4.o _).mono ?_;rintro e J ⟨rfl,rfl⟩;go_upto_region 8 with(fail);have z:=af (y.o.put 3 ↑s ⟨kq,d,n,s,0,0,0,0,⟨#[]⟩⟩);clear c3 N fx y;generalize aN.setCell ⟨aL,3,none⟩ ↑s=bf at*;have b8:=z.o.bc.Jh;have O:=z.o.cW.Jh;have fx:∀o,bf.frozen? ⟨aL,o,none⟩=false:=fun o=>z.o.cW.frozen o;go_wp2_with fail;refine(H5.o _).mono ?_;rintro e J ⟨rfl,rfl⟩;go_upto_region 9 with(fail);have n4:=af (z.o.put 5 ↑q ⟨kq,d,n,s,0,q,0,0,⟨#[]⟩⟩);clear b8 O fx z;generalize bf.setCell ⟨aL,5,none⟩ ↑q=bZ at*;go_cut [] (fun wx=>r6 w wx p aR gc gr aL ⟨kd,id,ins,sd,C,A,G,tm,lb⟩ ⟨kq,d,n,s,pr,q,0,0,⟨#[]⟩⟩)
 case first=>have hd:=(Below.refl ↑bZ bZ).drew;have f:=af (n4.o.below hd);clear hd;have p2:=f.o.ek.Je;have dH:=f.o.bc.Jg;have T:=f.o.cW.Jg;have fx:∀o,bZ.drew.frozen? ⟨aL,o,none⟩=false:=fun o=>f.o.cW.frozen o;refine cP (S:=fun w'=>w'.cell? ⟨aR,2,none⟩=↑p.tick∧w'.cell? ⟨gc,4,none⟩=↑C) ⟨p2,dH⟩ fun hHeld=>?_;refine eX [0,1,2,3] ?_;refine aU 4 fun K hK=>?_;go_simp;go_at_call 14;refine(IK.o _).mono ?_;rintro e J ⟨rfl,rfl⟩;refine hK.out _ _ ⟨p2,dH⟩ (fun hHeld=>?_);clear hK K;refine eX [5,6] ?_;refine dY 7 fun K hK=>?_;go_simp;refine hK.out _ _ ?_;clear hK K hHeld;go_wp2_with fail;go_meet;have h9:=f.o.put 4 ↑pr ⟨kq,d,n,s,pr,q,0,0,⟨#[]⟩⟩;exact h9
 case rest=>
 have V:=af hcut;clear hcut n4;generalize wc=bW at*;obtain⟨x0,x1,L,N,T,O,U,Q⟩:=V.o.cW.IR;have fx:∀o,bW.frozen? ⟨aL,o,none⟩=false:=fun o=>V.o.cW.frozen o;by_cases cN:kq=1
 ·subst cN;rw [if_pos rfl]at H;go_upto_region 13 with(fail);have Z:=af ((V.o.put 1 (.int .i64 (i+1)) ⟨1,i+1,n,s,pr,q,0,0,⟨#[]⟩⟩).put 7 (.int .i64 1) ⟨1,i+1,n,s,pr,q,0,1,⟨#[]⟩⟩);clear x0 x1 L N T O U Q fx V;generalize (bW.setCell ⟨aL,1,none⟩ (.int .i64 (i+1))).setCell ⟨aL,7,none⟩ (.int .i64 1)=u1 at*;have gL:=Z.o.bc.My;have Q:=Z.o.cW.My;have fx:∀o,u1.frozen? ⟨aL,o,none⟩=false:=fun o=>Z.o.cW.frozen o;obtain⟨wq,Tl⟩:=ai (tm.tmod 5);rw [Tl]at H;obtain⟨t,Hu⟩:=ai ((if wq=2 then 2 else 1):Int);rw [Hu]at H;have wE:=af Hu;have kx:=af Tl;clear Hu Tl;go_upto_if 61 with(fail);rw [kx.o];go_cut [] (fun wx=>r6 w wx p aR gc gr aL ⟨kd,id,ins,sd,C,A,G,tm,lb⟩ ⟨1,i+1,n,s,pr,q,0,t,⟨#[]⟩⟩)
  case first=>
   by_cases h2:wq=2
   ·have e1:(wq==2)=true:=by rw [h2];rfl
    have E:Ei (t=2):=af (by rw [<-wE.o,if_pos h2]);clear h2;go_wp2_with fail;go_meet;rw [E.o];have h9:=Z.o.put 7 (.int .i64 2) ⟨1,i+1,n,s,pr,q,0,2,⟨#[]⟩⟩;exact h9
   have e1:(wq==2)=false:=by rw [beq_eq_false_iff_ne];exact h2
   have E:Ei (t=1):=af (by rw [<-wE.o,if_neg h2]);go_wp2_with fail;go_meet;rw [E.o];exact Z.o
  case rest=>
  have M:=af hcut;clear hcut gL Q fx Z;generalize wc=u2 at*;have gL:=M.o.bc.My;have Q:=M.o.cW.My;have fx:∀o,u2.frozen? ⟨aL,o,none⟩=false:=fun o=>M.o.cW.frozen o;obtain⟨D,Tm⟩:=ai ((if wq=3 then 3 else t):Int);rw [Tm]at H;have nc:=af Tm;clear Tm;go_upto_if 66 with(fail);rw [kx.o];go_cut [] (fun wx=>r6 w wx p aR gc gr aL ⟨kd,id,ins,sd,C,A,G,tm,lb⟩ ⟨1,i+1,n,s,pr,q,0,D,⟨#[]⟩⟩)
  case first=>
   by_cases h2:wq=3
   ·have e1:(wq==3)=true:=by rw [h2];rfl
    have E:Ei (D=3):=af (by rw [<-nc.o,if_pos h2]);clear h2;go_wp2_with fail;go_meet;rw [E.o];have h9:=M.o.put 7 (.int .i64 3) ⟨1,i+1,n,s,pr,q,0,3,⟨#[]⟩⟩;exact h9
   have e1:(wq==3)=false:=by rw [beq_eq_false_iff_ne];exact h2
   have E:Ei (D=t):=af (by rw [<-nc.o,if_neg h2]);go_wp2_with fail;go_meet;rw [E.o];exact M.o
  case rest=>
  have X:=af hcut;clear hcut gL Q fx M kx;generalize wc=u3 at*;have fJ:=X.o.bc.Ji;have O:=X.o.cW.Jh;have U:=X.o.cW.Ji;have fx:∀o,u3.frozen? ⟨aL,o,none⟩=false:=fun o=>X.o.cW.frozen o;obtain⟨lr,hlr⟩:=ai (G.tmod 4);rw [hlr]at H;obtain⟨l,hl⟩:=ai ((if lr=1 then vl else 0):Int);rw [hl]at H;have c6:=af hl;have CQ:=af hlr;clear hl hlr;go_upto_if 71 with(fail);rw [CQ.o];go_cut [] (fun wx=>r6 w wx p aR gc gr aL ⟨kd,id,ins,sd,C,A,G,tm,lb⟩ ⟨1,i+1,n,s,pr,q,l,D,⟨#[]⟩⟩)
  case first=>
   by_cases h2:lr=1
   ·have e1:(lr==1)=true:=by rw [h2];rfl
    have E:Ei (l=vl):=af (by rw [<-c6.o,if_pos h2]);clear h2;go_wp2_with fail;refine(s6.o _).mono ?_;rintro e J ⟨rfl,rfl⟩;go_wp2_with fail;go_meet;rw [E.o];have h9:=X.o.put 6 ↑vl ⟨1,i+1,n,s,pr,q,vl,D,⟨#[]⟩⟩;exact h9
   have e1:(lr==1)=false:=by rw [beq_eq_false_iff_ne];exact h2
   have E:Ei (l=0):=af (by rw [<-c6.o,if_neg h2]);go_wp2_with fail;go_meet;rw [E.o];exact X.o
  case rest=>
  have h:=af hcut;clear hcut fJ O U fx X CQ;generalize wc=u4 at*;have Y:=Hv p n u4 (dx.o.below h.o.aJ);unfold Prod.agg Prod.cells at Y;have Y:=af Y;obtain⟨jh,p1,p2,p3,y8,y9,za,zb,ze,zf,zg⟩:=h.o.pc;have L:=h.o.cW.Je;obtain⟨⟨la,anO,lc⟩,mU⟩:=ai (gf p n);rw [mU]at H Y;dsimp only at H Y;clear mU;go_wp2_with fail;refine Y.o.mono ?_;rintro e J ⟨rfl,cx⟩;go_upto_region 20 with(fail);have g:=af (h.o.below cx);clear cx Y h jh p1 p2 p3 y8 y9 za zb ze zf zg L;generalize J=u5 at*;have p2:=g.o.ek.Je;have T:=g.o.cW.Jg;have fx:∀o,u5.frozen? ⟨aL,o,none⟩=false:=fun o=>g.o.cW.frozen o;obtain⟨P,hP⟩:=ai ((if lc=true then pr-4*p.tick else pr+8*p.tick):Int);rw [hP]at H;have dh:=af hP;clear hP;go_upto_if 87 with(fail);go_cut [] (fun wx=>r6 w wx p aR gc gr aL ⟨kd,id,ins,sd,C,A,G,tm,lb⟩ ⟨1,i+1,n,s,P,q,l,D,⟨#[]⟩⟩)
  case first=>
   cases lc with
   |false=>have E:Ei (P=pr+8*p.tick):=af (by rw [<-dh.o,if_neg cU]);go_wp2_with fail;go_meet;rw [E.o];have h9:=g.o.put 4 (.int .i64 (pr+8*p.tick)) ⟨1,i+1,n,s,pr+8*p.tick,q,l,D,⟨#[]⟩⟩;exact h9
   |true=>have E:Ei (P=pr-4*p.tick):=af (by rw [<-dh.o,if_pos rfl]);go_wp2_with fail;go_meet;rw [E.o];have h9:=g.o.put 4 (.int .i64 (pr-4*p.tick)) ⟨1,i+1,n,s,pr-4*p.tick,q,l,D,⟨#[]⟩⟩;exact h9
  case rest=>
  have I:=af hcut;clear hcut p2 T fx g;generalize wc=u6 at*;obtain⟨x0,x1,L,N,T,O,U,Q,k5⟩:=I.o.cW.uO;obtain⟨cu,r1,r2,fG,gS,gT,g3,iE,Tn⟩:=I.o.br.uO;have fr:∀o,u6.frozen? ⟨gr,o,none⟩=false:=fun o=>I.o.br.frozen o;go_wp2_with fail;have F:=av.LG I.o.br (.int .i64 1) (.int .i64 (i+1)) ↑n ↑s ↑P ↑q ↑l ↑D (.string ⟨#[]⟩);have lm:=aK.LG u6 gr (.int .i64 1) (.int .i64 (i+1)) ↑n ↑s ↑P ↑q ↑l ↑D (.string ⟨#[]⟩);clear x0 x1 L N T O U Q k5 cu r1 r2 fG gS gT g3 iE Tn fr;generalize (((((((((u6.setCell ↑gr (.int .i64 1)).setCell ⟨gr,1,none⟩ (.int .i64 (i+1))).setCell ⟨gr,2,none⟩ ↑n).setCell ⟨gr,3,none⟩ ↑s).setCell ⟨gr,4,none⟩ ↑P).setCell ⟨gr,5,none⟩ ↑q).setCell ⟨gr,6,none⟩ ↑l).setCell ⟨gr,7,none⟩ ↑D).setCell ⟨gr,8,none⟩ (.string ⟨#[]⟩))=akV at*;have hbz:=I.o.aJ.trans (lm.below (B:=w.heap.size) (fun k hk=>by have e:k=gr:=hk;rw [e];exact I.o.n1.2.2.2.2) I.o.aJ.size);have z0:=F.cell 0;have fw:=F.cell 1;have z2:=F.cell 2;have z3:=F.cell 3;have z4:=F.cell 4;have z5:=F.cell 5;have m:=F.cell 6;have r:=F.cell 7;have j:=F.cell 8;simp only [List.getElem?_toArray,List.getElem?_cons_zero,List.getElem?_cons_succ]at z0 fw z2 z3 z4 z5 m r j;refine bodyPost_ret (v:= .agg #[.int .i64 1,.int .i64 (i+1),↑n,↑s,↑P,↑q,↑l,↑D,.string ⟨#[]⟩]) (by simp [results,Tryz.results30,go_sem,z0,fw,z2,z3,z4,z5,m,r,j]) rfl ⟨by rw [<-H.o],hbz⟩
 rw [if_neg cN]at H;have e0:(kq==1)=false:=by rw [beq_eq_false_iff_ne];exact cN
 have lg:Ei (kq=k0):=af (by
  have:=e7.o;by_cases h4:4<k0
  ·rw [if_pos h4]at this;exact absurd this.symm cN
  rw [if_neg h4]at this;exact this.symm)
 rw [<-lg.o]at H;obtain⟨P,hP⟩:=ai ((if kq=4 then pr+5*p.tick else pr):Int);rw [hP]at H;have dh:=af hP;clear hP;have p2:=V.o.ek.Je;go_upto_if 105 with(fail);go_cut [] (fun wx=>r6 w wx p aR gc gr aL ⟨kd,id,ins,sd,C,A,G,tm,lb⟩ ⟨kq,d,n,s,P,q,0,0,⟨#[]⟩⟩)
 case first=>
  by_cases h2:kq=4
  ·have e1:(kq==4)=true:=by rw [h2];rfl
   have E:Ei (P=pr+5*p.tick):=af (by rw [<-dh.o,if_pos h2]);go_wp2_with fail;go_meet;rw [E.o];have h9:=V.o.put 4 (.int .i64 (pr+5*p.tick)) ⟨kq,d,n,s,pr+5*p.tick,q,0,0,⟨#[]⟩⟩;exact h9
  have e1:(kq==4)=false:=by rw [beq_eq_false_iff_ne];exact h2
  have E:Ei (P=pr):=af (by rw [<-dh.o,if_neg h2]);go_wp2_with fail;go_meet;rw [E.o];exact V.o
 case rest=>
 have M:=af hcut;clear hcut p2 x0 x1 L N T O U Q fx V;generalize wc=u2 at*;have N:=M.o.cW.Jf;have L:=M.o.cW.Je;have fx:∀o,u2.frozen? ⟨aL,o,none⟩=false:=fun o=>M.o.cW.frozen o;go_upto_region 28 with(fail);have I:=af ((M.o.put 3 ↑() ⟨kq,d,n,0,P,q,0,0,⟨#[]⟩⟩).put 2 ↑() ⟨kq,d,0,0,P,q,0,0,⟨#[]⟩⟩);clear L N fx M;generalize (u2.setCell ⟨aL,3,none⟩ ↑()).setCell ⟨aL,2,none⟩ ↑()=u6 at*;obtain⟨x0,x1,L,N,T,O,U,Q,k5⟩:=I.o.cW.uO;obtain⟨cu,r1,r2,fG,gS,gT,g3,iE,Tn⟩:=I.o.br.uO;have fr:∀o,u6.frozen? ⟨gr,o,none⟩=false:=fun o=>I.o.br.frozen o;go_wp2_with fail;have F:=av.LG I.o.br ↑kq ↑d ↑() ↑() ↑P ↑q ↑() ↑() (.string ⟨#[]⟩);have lm:=aK.LG u6 gr ↑kq ↑d ↑() ↑() ↑P ↑q ↑() ↑() (.string ⟨#[]⟩);clear x0 x1 L N T O U Q k5 cu r1 r2 fG gS gT g3 iE Tn fr;generalize (((((((((u6.setCell ↑gr ↑kq).setCell ⟨gr,1,none⟩ ↑d).setCell ⟨gr,2,none⟩ ↑()).setCell ⟨gr,3,none⟩ ↑()).setCell ⟨gr,4,none⟩ ↑P).setCell ⟨gr,5,none⟩ ↑q).setCell ⟨gr,6,none⟩ ↑()).setCell ⟨gr,7,none⟩ ↑()).setCell ⟨gr,8,none⟩ (.string ⟨#[]⟩))=akV at*;have hbz:=I.o.aJ.trans (lm.below (B:=w.heap.size) (fun k hk=>by have e:k=gr:=hk;rw [e];exact I.o.n1.2.2.2.2) I.o.aJ.size);have z0:=F.cell 0;have fw:=F.cell 1;have z2:=F.cell 2;have z3:=F.cell 3;have z4:=F.cell 4;have z5:=F.cell 5;have m:=F.cell 6;have r:=F.cell 7;have j:=F.cell 8;simp only [List.getElem?_toArray,List.getElem?_cons_zero,List.getElem?_cons_succ]at z0 fw z2 z3 z4 z5 m r j;refine bodyPost_ret (v:= .agg #[↑kq,↑d,↑(),↑(),↑P,↑q,↑(),↑(),.string ⟨#[]⟩]) (by simp [results,Tryz.results30,go_sem,z0,fw,z2,z3,z4,z5,m,r,j]) rfl ⟨by rw [<-H.o],hbz⟩
end
structure Hd where
 a:Option Addr
 n:Nat
 c:Nat
def Hd.v (h:Hd):Value:= .slice h.a h.n h.c
def Hd.cells (h:Hd):List Value:= [.slice h.a h.n h.c]
theorem Hd.kI (h:Hd):∀u∈h.cells,u.oneCell'=true:=by intro u hu;simp only [Hd.cells,List.mem_cons,List.not_mem_nil,or_false]at hu;rw [hu];rfl
def Ez:bl Hd:=⟨Hd.cells,1,fun _=>rfl,Hd.kI,bh,37,28,.slice none 0 0,24,Tryz.underlying28,eP,dn,bh⟩
def zR:bl Hd:=⟨Hd.cells,1,fun _=>rfl,Hd.kI,bh,54,29,.agg #[.slice none 0 0],24,Tryz.underlying29,eP,dn,bh⟩
def ed.list (c:ed):List Value:= [.int .i64 c.kind,.int .i64 c.id,.int .i64 c.inst,.int .i64 c.side,.int .i64 c.ap,.int .i64 c.aq,.int .i64 c.least,.int .i64 c.time,.string c.label]
theorem ed.kI (c:ed):∀u∈c.list,u.oneCell'=true:=by intro u hu;simp only [ed.list,List.mem_cons,List.not_mem_nil,or_false]at hu;rcases hu with rfl|rfl|rfl|rfl|rfl|rfl|rfl|rfl|rfl<;>rfl
def Qm:bl ed:=⟨ed.list,9,fun _=>rfl,ed.kI,bh,80,26,.agg M3.list.toArray,80,Tryz.underlying26,eP,dn,bh⟩
def mQ (w:World) (B:Nat) (v:Value) (M:List aF):Prop:=
 ∃P:List Hd,Ez.Row w B v P∧P.length=M.length∧∀(j:Nat) (h:Hd) (m:aF),P[j]? =some h->M[j]? =some m->cZ.Row w B (.slice h.a h.n h.c) (fL m)
def oL (w:World) (B:Nat) (v:Value) (V:List bG):Prop:=
 ∃P:List Hd,zR.Row w B v P∧P.length=V.length∧∀(j:Nat) (h:Hd) (x:bG),P[j]? =some h->V[j]? =some x->cg eJ bK w B (.slice h.a h.n h.c) x
section
variable {w w':World} {B B':Nat} {v v':Value} {M:List aF} {V:List bG} {F:Nat->Prop}
theorem mQ.nil (w:World) (B:Nat):mQ w B (.slice none 0 0) []:=⟨[],bl.Row.nil w B,rfl,fun j h m hp=>by simp at hp⟩
theorem mQ.keep (h:mQ w B v M) (hk:aK F w w') (hv:∀g,v.ownBlock=some g->¬F g) (hy:∀g,ck w g cZ.t->¬F g):mQ w' B v M:=by obtain⟨P,h1,h2,h3⟩:=h;exact⟨P,h1.Bd hk hv,h2,fun j x m hp hm=>(h3 j x m hp hm).keep hk hy⟩
theorem mQ.below (h:mQ w B v M) (hb:Below ↑w w w'):mQ w' B v M:=
 h.keep (F:=fun _=>False) (Below.keeps hb) (fun _ _ x=>x) (fun _ _ x=>x)
theorem mQ.base (h:mQ w B v M) (hB:B'<=B):mQ w B' v M:=by obtain⟨P,h1,h2,h3⟩:=h;exact⟨P,h1.base hB,h2,fun j x m hp hm=>(h3 j x m hp hm).base hB⟩
theorem mQ.snoc {P:List Hd} {x:Hd} {m:aF} (hr:Ez.Row w B v' (P++ [x])) (hl:P.length=M.length) (ho:∀(j:Nat) (h:Hd) (m:aF),P[j]? =some h->M[j]? =some m->cZ.Row w B (.slice h.a h.n h.c) (fL m)) (h1:cZ.Row w B (.slice x.a x.n x.c) (fL m)):mQ w B v' (M++ [m]):=by
 refine⟨_,hr,by rw [List.length_append,List.length_append,hl];rfl,fun j q z hq hz=>?_⟩;by_cases hj:j<P.length
 ·rw [List.getElem?_append_left hj]at hq;rw [List.getElem?_append_left bh]at hz;exact ho j q z hq hz
 rw [List.getElem?_append_right bh]at hq;rw [List.getElem?_append_right bh]at hz;have hj0:j-P.length=0:=by have:=dM hq;simp at this;omega
 rw [hj0]at hq;rw [<-hl,hj0]at hz;injection hq with hq;injection hz with hz;subst hq;subst hz;exact h1
theorem oL.keep (h:oL w B v V) (hk:aK F w w') (hv:∀g,v.ownBlock=some g->¬F g) (hz:∀g,ck w g eJ.t->¬F g) (hy:∀g,ck w g bK.t->¬F g):oL w' B v V:=by obtain⟨P,h1,h2,h3⟩:=h;exact⟨P,h1.Bd hk hv,h2,fun j x m hp hm=>(h3 j x m hp hm).keep hk hz hy⟩
theorem oL.below (h:oL w B v V) (hb:Below ↑w w w'):oL w' B v V:=
 h.keep (F:=fun _=>False) (Below.keeps hb) (fun _ _ x=>x) (fun _ _ x=>x) (fun _ _ x=>x)
theorem oL.base (h:oL w B v V) (hB:B'<=B):oL w B' v V:=by obtain⟨P,h1,h2,h3⟩:=h;exact⟨P,h1.base hB,h2,fun j x m hp hm=>(h3 j x m hp hm).base hB⟩
theorem oL.snoc {P:List Hd} {x:Hd} {m:bG} (hr:zR.Row w B v' (P++ [x])) (hl:P.length=V.length) (ho:∀(j:Nat) (h:Hd) (m:bG),P[j]? =some h->V[j]? =some m->cg eJ bK w B (.slice h.a h.n h.c) m) (h1:cg eJ bK w B (.slice x.a x.n x.c) m):oL w B v' (V++ [m]):=by
 refine⟨_,hr,by rw [List.length_append,List.length_append,hl];rfl,fun j q z hq hz=>?_⟩;by_cases hj:j<P.length
 ·rw [List.getElem?_append_left hj]at hq;rw [List.getElem?_append_left bh]at hz;exact ho j q z hq hz
 rw [List.getElem?_append_right bh]at hq;rw [List.getElem?_append_right bh]at hz;have hj0:j-P.length=0:=by have:=dM hq;simp at this;omega
 rw [hj0]at hq;rw [<-hl,hj0]at hz;injection hq with hq;injection hz with hz;subst hq;subst hz;exact h1
theorem mQ.get (h:mQ w B v M) {j:Nat} {m:aF} (hj:M[j]? =some m):∃(g cap:Nat) (x:Hd),v= .slice ↑g M.length cap∧g<w.heap.size∧w.cell? ↑(g,j)=some (.slice x.a x.n x.c)∧cZ.Row w B (.slice x.a x.n x.c) (fL m):=by obtain⟨P,h1,h2,h3⟩:=h;have hl:=dM hj;have hp:P[j]? =some (P[j]' bh):=List.getElem?_eq_getElem bh;obtain⟨g,cap,e1,e2,bJ⟩:=h1.at_ j _ hp;have A:=bJ 0 _ rfl;rw [show j*Ez.m+0=j by show j*1+0=j;omega]at A;exact⟨g,cap,_,by rw [e1,h2],e2,A,h3 j _ m hp hj⟩
theorem oL.get (h:oL w B v V) {j:Nat} {m:bG} (hj:V[j]? =some m):∃(g cap:Nat) (x:Hd),v= .slice ↑g V.length cap∧g<w.heap.size∧w.cell? ↑(g,j)=some (.slice x.a x.n x.c)∧cg eJ bK w B (.slice x.a x.n x.c) m:=by obtain⟨P,h1,h2,h3⟩:=h;have hl:=dM hj;have hp:P[j]? =some (P[j]' bh):=List.getElem?_eq_getElem bh;obtain⟨g,cap,e1,e2,bJ⟩:=h1.at_ j _ hp;have A:=bJ 0 _ rfl;rw [show j*zR.m+0=j by show j*1+0=j;omega]at A;exact⟨g,cap,_,by rw [e1,h2],e2,A,h3 j _ m hp hj⟩
theorem mQ.form (h:mQ w B v M):∃a c,v= .slice a M.length c:=by obtain⟨P,h1,h2,_⟩:=h;obtain⟨a,c,e⟩:=h1.form;exact⟨a,c,by rw [e,h2]⟩
theorem oL.form (h:oL w B v V):∃a c,v= .slice a V.length c:=by obtain⟨P,h1,h2,_⟩:=h;obtain⟨a,c,e⟩:=h1.form;exact⟨a,c,by rw [e,h2]⟩
end
theorem Ul {p:Prod} (hz:cR p=0) {L:List dK} (h:∀x∈L,∀s,x.has s=false) (i:Nat) (s:Int):oM p L i s= []:=by refine List.eq_nil_iff_forall_not_mem.2 fun q hq=>?_;obtain⟨_,x,_,h2,_,h3,_⟩:=(Wy hz hq).a;rw [h x (List.mem_of_getElem? h2)]at h3;cases h3
theorem Z7 {p:Prod} (hz:cR p=0) (n:Nat):dz p (List.replicate n [])=(rM n).V:=by
 have ht:∀x∈ef (List.replicate n ([]:List aC)),∀s,x.has s=false:=fun x hx s=>by unfold ef at hx;obtain⟨L,hL,rfl⟩:=List.mem_map.1 hx;rw [(List.mem_replicate.1 hL).2];unfold xj dK.has;split<;>rfl
 have hs:∀i s,lG p (List.replicate n []) i s=vI:=fun i s=>by
  have hq:mA p (ef (List.replicate n [])) i s= []:=by unfold mA;rw [Ul hz ht];rfl
  have hg:(List.replicate n ([]:List aC)).getD i []= []:=by rw [List.getD_eq_getElem?_getD,List.getElem?_replicate];split<;>rfl
  unfold lG;rw [hq,hg];rfl
 unfold dz;rw [List.length_replicate];show _=List.replicate n (vI,vI);refine List.ext_getElem? fun j=>?_;rw [List.getElem?_map,List.getElem?_replicate];by_cases hj:j<n
 ·rw [List.getElem?_range hj,if_pos hj];simp only [Option.map_some,hs]
 rw [if_neg hj,List.getElem?_eq_none (by rw [List.length_range];omega)];rfl
end Go.Proofs.YtmaijkoopjocdaaGreat
