import Derived.Test.YtmaijkoopjocdaaGreatKT37
import Derived.Test.YtmaijkoopjocdaaGreatKT38
set_option maxRecDepth 100000
set_option maxHeartbeats 64000000
namespace Go.Proofs.YtmaijkoopjocdaaGreat
open Go.RowKit Go.Lib
def kL (p:Prod) (S:List (List ay)) (i:Nat) (s:Int):aV:=
 ⟨j9 (S.getD i []) s,⟨(m3 (lF p (dF S) i s) s).1,(m3 (lF p (dF S) i s) s).2.1,(m3 (lF p (dF S) i s) s).2.2.1⟩,(m3 (lF p (dF S) i s) s).2.2.2⟩
def cT (p:Prod) (S:List (List ay)):bP:=(List.range S.length).map (fun i=>(kL p S i 1,kL p S i 2))
theorem A8 (p:Prod) (S:List (List ay)):(cT p S).length=S.length:=by unfold cT;rw [List.length_map,List.length_range]
theorem ado {p:Prod} {S:List (List ay)} {i:Nat} {x:aV×aV} (h:(cT p S)[i]? =some x):i<S.length∧x=(kL p S i 1,kL p S i 2):=by
 unfold cT at h;rw [List.getElem?_map]at h;cases hr:(List.range S.length)[i]? with
 |none=>rw [hr]at h;cases h
 |some j=>
  rw [hr]at h;obtain⟨h1,h2⟩:=List.getElem?_eq_some_iff.1 hr;rw [List.getElem_range]at h2;rw [List.length_range]at h1;subst h2;injection h with h;exact⟨h1,h.symm⟩
theorem LD {p:Prod} {S:List (List ay)} {x:aV×aV} (h:x∈cT p S):∃i,i<S.length∧x=(kL p S i 1,kL p S i 2):=by
 obtain⟨i,hi⟩:=List.mem_iff_getElem?.1 h;exact⟨i,ado hi⟩
theorem Pn {L:List cZ} {cU sa bi bZ:Int} {less:Bool} {q:cK} (h:ph L cU sa bi bZ less=some q):b8 q.ag:=by
 have hz:b8 0:=by unfold b8;omega
 unfold ph at h;split at h
 ·split at h
  ·dsimp only at h
   have hr:∀a b:Int,b8 (qx a b).1∧b8 (pW a b).1:=fun a b=>by
    unfold qx pW;refine⟨?_,?_⟩
    ·split
     ·assumption
     ·exact hz
    ·split
     ·assumption
     ·exact hz
   split at h
   ·split at h
    ·injection h with h
     subst h;exact(hr _ _).2
    ·cases h
   ·split at h
    ·injection h with h
     subst h;exact(hr _ _).1
    ·cases h
  ·cases h
 ·cases h
theorem adp {p:Prod} {L:List cZ} {i side:Int} {q:cK} (h:q∈nP p L i side):b8 q.ag:=by
 unfold nP at h;split at h
 ·cases h
 ·split at h
  ·simp only [Option.mem_toList,Option.map_eq_some_iff]at h
   obtain⟨q',h1,rfl⟩:=h;exact Pn (q:=q') h1
  ·rw [List.mem_append]at h
   rcases h with h|h
   ·obtain⟨m,_,h⟩:=VL _ h
    exact Pn h
   ·obtain⟨m,_,h⟩:=VM _ h
    exact Pn h
theorem LF {x:cK} {B:Int}:∀(l:List cK) (m:Int),(∀q∈l,q.ah≤B)→m≤B→m≤l.foldl (fun m q=>if q.ag=x.ag then(if m<q.ah then q.ah else m)else m) m∧l.foldl (fun m q=>if q.ag=x.ag then(if m<q.ah then q.ah else m)else m) m≤B
 | [],m,_,hm=>⟨Int.le_refl _,hm⟩
 |q::t,m,h,hm=>by
  rw [List.foldl_cons];have hq:=h q (List.mem_cons_self ..);have ht:=fun x hx=>h x (List.mem_cons_of_mem _ hx);split
  ·split
   ·have:=LF (x:=x) t q.ah ht hq;omega
   ·exact LF (x:=x) t m ht hm
  ·exact LF (x:=x) t m ht hm
theorem VN {l:List cK} (side:Int) (h:∀q∈l,b8 q.ag∧1≤q.ah∧q.ah≤250000000):
 ((m3 l side).2.2.2=false→(m3 l side).1=0∧(m3 l side).2.1=0∧(m3 l side).2.2.1=0)∧
 ((m3 l side).2.2.2=true→b8 (m3 l side).1∧(1≤(m3 l side).2.1∧(m3 l side).2.1≤250000000)∧1≤(m3 l side).2.2.1∧(m3 l side).2.2.1≤l.length):=by
 unfold m3;split
 ·rename_i hb
  refine⟨fun h=>(by cases h),fun _=>?_⟩;have hm:=Po hb;have hx:=h _ hm;dsimp only;refine⟨hx.1,?_,?_,?_⟩
  ·unfold wM
   have:=LF (x:=(pp l side).1) (B:=250000000) (l.take l.length) (pp l side).1.ah (fun q hq=>(h q (List.mem_of_mem_take hq)).2.2) hx.2.2;omega
  ·unfold wN
   rw [List.take_length];have:0<(l.filter (fun q=>q.ag==(pp l side).1.ag)).length:=List.length_pos_of_mem (List.mem_filter.2 ⟨hm,by simp⟩);omega
  ·have:=VO l (pp l side).1 l.length
   omega
 ·exact⟨fun _=>⟨rfl,rfl,rfl⟩,fun h=>(by cases h)⟩
section
variable {p:Prod} {S:List (List ay)}
theorem VP (hz:cz p=0) (hS:dJ p S) (i:Nat) (s:Int):∀q∈lF p (dF S) i s,b8 q.ag∧1≤q.ah∧q.ah≤250000000:=fun q hq=>by
 have h1:=(Pp hz hS hq).2;unfold lF at hq;exact⟨adp (List.mem_filter.1 hq).1,h1⟩
theorem Pq (p:Prod) (S:List (List ay)) (i:Nat) (s:Int):(lF p (dF S) i s).length≤1000:=by
 unfold lF;exact Nat.le_trans (List.length_filter_le ..) Fo
theorem VQ (hz:cz p=0) (hS:dJ p S) (i:Nat) (s:Int):uW s (kL p S i s):=by
 have h:=VN s (VP hz hS i s);unfold kL;refine⟨(hS.at_ i).adq s,(hS.at_ i).VR s,fun hh=>?_,fun hh=>?_⟩
 ·obtain⟨h1,h2,h3⟩:=h.1 hh
  dsimp only;rw [h1,h2,h3];rfl
 ·obtain⟨h1,h2,h3⟩:=h.2 hh
  exact⟨h2.1,h3.1⟩
theorem VS (hz:cz p=0) (hS:dJ p S) (i:Nat) (s:Int):(∀l∈(kL p S i s).lv,eD l.ag∧eD l.ah∧eD l.count)∧eD (kL p S i s).im.ag∧eD (kL p S i s).im.ah∧eD (kL p S i s).im.count:=by
 have h:=VN s (VP hz hS i s);have hl:=Pq p S i s;unfold kL;dsimp only;refine⟨fun l hl=>?_,?_⟩
 ·have h1:=(hS.at_ i).VT s l hl
  have h2:=Ij (hS.at_ i) s l hl;unfold eD;omega
 ·cases hh:(m3 (lF p (dF S) i s) s).2.2.2 with
  |false=>
   obtain⟨h1,h2,h3⟩:=h.1 hh;rw [h1,h2,h3];unfold eD;omega
  |true=>
   obtain⟨h1,h2,h3⟩:=h.2 hh;unfold b8 at h1;unfold eD;omega
theorem VU {L:List ay} (h:jm L) (s:Int):(j9 L s).length≤250:=by
 unfold j9;refine Nat.le_trans (Pm _) (Nat.le_trans ?_ h.len);exact List.length_filter_le ..
theorem VV (hz:cz p=0) (hS:dJ p S):AB (cT p S):=fun x hx=>by
 obtain⟨i,_,rfl⟩:=LD hx;exact⟨VQ hz hS i 1,VQ hz hS i 2⟩
theorem Pr (hz:cz p=0) (hS:dJ p S):B9 (cT p S):=fun x hx=>by
 obtain⟨i,_,rfl⟩:=LD hx;exact⟨VS hz hS i 1,VS hz hS i 2⟩
theorem Ps (hS:dJ p S):g7 (cT p S) 250:=fun x hx=>by
 obtain⟨i,_,rfl⟩:=LD hx;exact⟨VU (hS.at_ i) 1,VU (hS.at_ i) 2⟩
end
theorem B9.ok {V:bP} (h:B9 V):adr V:=fun x hx=>⟨⟨(h x hx).1.1,(h x hx).1.2⟩,(h x hx).2.1,(h x hx).2.2⟩
structure zv (n:Nat) (M:List aB) (V:List bP) (Q:List Int):Prop where
 ms:∀(j:Nat) (m:aB),M[j]? =some m→m.seq=(j:Int)+1∧zj n m
 len:V.length=Q.length
 one:1≤V.length
 q0:Q[0]? =some 0
 at_:∀(k:Nat) (v:bP) (q:Int),V[k]? =some v→Q[k]? =some q→∃j:Nat,q=j∧j≤M.length∧v=(M.take j).foldl (fun V m=>fO m V) (qY n).V∧v.length=n∧AB v∧B9 v∧g7 v 250
 last:∀(q:Int),Q[Q.length-1]? =some q→q=M.length
theorem zv.start (n:Nat):zv n [] [(qY n).V] [0]:=by
 refine⟨fun j m h=>by simp at h,rfl,Nat.le_refl _,rfl,fun k v q h1 h2=>?_,fun q h=>?_⟩
 ·cases k with
  |zero=>
   simp only [List.getElem?_cons_zero,Option.some.injEq]at h1 h2;subst h1;subst h2;have hz:∀x∈(qY n).V,x=(tJ,tJ):=fun x hx=>(List.mem_replicate.1 hx).2;have h0:eD 0:=by unfold eD;omega
   refine⟨0,rfl,Nat.le_refl _,rfl,List.length_replicate,fun x hx=>?_,fun x hx=>?_,fun x hx=>?_⟩
   ·rw [hz x hx];exact⟨S0 1,S0 2⟩
   ·rw [hz x hx];exact⟨⟨fun l hl=>(by cases hl),h0,h0,h0⟩,⟨fun l hl=>(by cases hl),h0,h0,h0⟩⟩
   ·rw [hz x hx];exact⟨Nat.zero_le _,Nat.zero_le _⟩
  |succ k=>simp at h1
 ·simp at h
  exact h.symm
theorem zv.next {n:Nat} {M:List aB} {V:List bP} {Q:List Int} (h:zv n M V Q) {A B:bP} (hA:V[V.length-1]? =some A) (hB:AB B) (VW:B9 B) (VX:g7 B 250) (ads:B.length=n) (hn:n≤255) (og:M.length≤1000000):
 zv n (M++pN A B M.length) (V++ [B]) (Q++ [((M++pN A B M.length).length:Int)]):=by
 have hQ:∃q,Q[Q.length-1]? =some q:=⟨_,List.getElem?_eq_getElem (by have:=h.one;have:=h.len;omega)⟩;obtain⟨q3,AW⟩:=hQ;have Pt:=h.last q3 AW;obtain⟨adt,wO,LG,VY,adu,adv,adw,adx⟩:=h.at_ (V.length-1) A q3 hA (by rw [h.len];exact AW);have ady:adt=M.length:=by omega
 subst ady;rw [List.take_length]at VY;have hdl:=Td adx VX (M.length:Int);have aiL:A.length*(4*250+2)≤255*1002:=Nat.mul_le_mul (by omega) (Nat.le_refl _);refine⟨fun j m hj=>?_,?_,?_,?_,fun k v q h1 h2=>?_,fun q hq=>?_⟩
 ·rcases Nat.lt_or_ge j M.length with h3|h3
  ·rw [List.getElem?_append_left h3]at hj
   exact h.ms j m hj
  ·rw [List.getElem?_append_right h3]at hj
   have h4:=abh hj;have h5:=Tc (A:=A) (B:=B) (q:=(M.length:Int)) (by omega) (by omega) hB adw VW (List.mem_of_getElem? hj) (by omega) (by omega);refine⟨by omega,?_,h5.2.1,by omega⟩;rw [←adu];exact h5.1
 ·rw [List.length_append,List.length_append,h.len];rfl
 ·rw [List.length_append];simp
 ·rw [List.getElem?_append_left (by have:=h.one;have:=h.len;omega)]
  exact h.q0
 ·rcases Nat.lt_or_ge k V.length with h3|h3
  ·rw [List.getElem?_append_left h3]at h1
   rw [List.getElem?_append_left (by rw [←h.len];exact h3)]at h2;obtain⟨j,b1,b2,b3,b4⟩:=h.at_ k v q h1 h2;refine⟨j,b1,by rw [List.length_append];omega,?_,b4⟩;rw [List.take_append_of_le_length b2];exact b3
  ·have hk:k=V.length:=by
    have:=(List.getElem?_eq_some_iff.1 h1).1;rw [List.length_append]at this;simp at this;omega
   subst hk;rw [List.getElem?_append_right (Nat.le_refl _),Nat.sub_self,List.getElem?_cons_zero]at h1;rw [List.getElem?_append_right (by rw [h.len];exact Nat.le_refl _),h.len,Nat.sub_self,List.getElem?_cons_zero]at h2;injection h1 with h1;injection h2 with h2;subst h1;refine⟨(M++pN A B M.length).length,h2.symm,Nat.le_refl _,?_,ads,hB,VW,VX⟩;rw [List.take_length,List.foldl_append,←VY];exact(abf (by omega) adv hB _).symm
 ·rw [show(Q++ [((M++pN A B M.length).length:Int)]).length-1=Q.length by rw [List.length_append];rfl,List.getElem?_append_right (Nat.le_refl _),Nat.sub_self,List.getElem?_cons_zero]at hq
  injection hq with hq;exact hq.symm
theorem q4.why {W w:World} {pr:Nat} {s:cg} (h:q4 W w pr s):w.cell? ⟨pr,2,none⟩=some (.int .i64 (Wy s)):=by
 obtain⟨a,c,X,p,hb,_⟩:=h.box;exact hb.cell 2
structure ajk (W w:World) (pr c8 n:Nat) (s0:cg) (m:Nat) (v:Value) (f:Bool) (acc:bP) (t:cg):Prop where
 rd:q4 W w pr t
 cY:aj w c8 54 #[v]
 fG:cl eF bC w W.heap.size v acc
 e1:acc++(zN m t).1=(zN n s0).1
 e2:(f&&(zN m t).2.1)=(zN n s0).2.1
 bE:(zN m t).2.2=(zN n s0).2.2
 len:acc.length+m≤n
 le:g7 acc 255
structure I0 (W w:World) (pr c8 kP:Nat) (v:Value) (acc:bP) (x y:eI) (t:cg):Prop where
 rd:q4 W w pr t
 cY:aj w c8 54 #[v]
 fG:cl eF bC w W.heap.size v acc
 j8:∀g,v.ownBlock=some g→g≠kP
 bo:aj w kP 104 #[.slice x.a x.n x.c,.int .i64 x.im.ag,.int .i64 x.im.ah,.int .i64 x.im.count,.bool x.has,.slice y.a y.n y.c,.int .i64 y.im.ag,.int .i64 y.im.ah,.int .i64 y.im.count,.bool y.has]
structure ajl (W ak w:World) (pr kP n:Nat) (s0:cg) (m:Nat) (x y:eI) (v:Value) (L:List ax) (t:cg):Prop where
 rd:q4 W w pr t
 bo:aj w kP 104 #[.slice x.a x.n x.c,.int .i64 x.im.ag,.int .i64 x.im.ah,.int .i64 x.im.count,.bool x.has,.slice y.a y.n y.c,.int .i64 y.im.ag,.int .i64 y.im.ah,.int .i64 y.im.count,.bool y.has]
 row:bC.Row w ak.heap.size v L
 kK:aD (fun g=>g=pr∨g=kP) ak w
 e1:L++(Bo m t).1=(Bo n s0).1
 e2:(Bo m t).2=(Bo n s0).2
 len:L.length+m≤n
section
variable {W ak w w':World} {pr c8 kP:Nat} {v:Value} {acc:bP} {x y:eI} {t t':cg}
theorem I0.put {w2:World} {x' y':eI} (h:I0 W w pr c8 kP v acc x y t) (yt:c8≠kP) (np:pr≠kP) (hb:W.heap.size≤kP) (hk:aD (fun g=>g=kP) w w2)
 (h2:aj w2 kP 104 #[.slice x'.a x'.n x'.c,.int .i64 x'.im.ag,.int .i64 x'.im.ah,.int .i64 x'.im.count,.bool x'.has,.slice y'.a y'.n y'.c,.int .i64 y'.im.ag,.int .i64 y'.im.ah,.int .i64 y'.im.count,.bool y'.has]):I0 W w2 pr c8 kP v acc x' y' t:=
 ⟨h.rd.keep hk np (fun k hk=>by have hk2:k=kP:=hk;rw [hk2];exact hb),h.cY.keeps hk yt,h.fG.Ls hk (fun g hg e=>h.j8 g hg e) (fun g hg e=>hg.ne h.bo.aC (by decide) e),h.j8,h2⟩
theorem cl.O0 {B:Nat} {v':Value} {P:List bz} {p:bz} {d:aV×aV} (hr:eF.Row w B v' (P++ [p])) (hl:P.length=acc.length) (ho:∀(j:Nat) (p:bz) (x:aV×aV),P[j]? =some p→acc[j]? =some x→bN bC w B p.s x.1∧bN bC w B p.t x.2) (h1:bN bC w B p.s d.1) (h2:bN bC w B p.t d.2):cl eF bC w B v' (acc++ [d]):=by
 refine⟨_,hr,by rw [List.length_append,List.length_append,hl];rfl,fun j q z hq hz=>?_⟩;by_cases hj:j<P.length
 ·rw [List.getElem?_append_left hj]at hq
  rw [List.getElem?_append_left (by omega)]at hz;exact ho j q z hq hz
 ·rw [List.getElem?_append_right (by omega)]at hq
  rw [List.getElem?_append_right (by omega)]at hz;have hj0:j-P.length=0:=by have:=dc hq;simp at this;omega
  rw [hj0]at hq;rw [←hl,hj0]at hz;injection hq with hq;injection hz with hz;subst hq;subst hz;exact⟨h1,h2⟩
theorem I0.grow {wb au:World} {P:List bz} {v':Value} {d1 d2:aV} (h:I0 W w pr c8 kP v acc x y t) (hb:Below w.heap.size w wb) (hP:eF.Row wb W.heap.size v P) (hl:P.length=acc.length) (hs:∀(j:Nat) (p:bz) (x:aV×aV),P[j]? =some p→acc[j]? =some x→bN bC wb W.heap.size p.s x.1∧bN bC wb W.heap.size p.t x.2)
 (h1:bN bC w W.heap.size x d1) (h2:bN bC w W.heap.size y d2) (hr:eF.Row au W.heap.size v' (P++ [⟨x,y⟩])) (hg:wb.grownBy au v.ownBlock) (gJ:W.heap.size≤c8) (yt:pr≠c8):
 q4 W (au.setCell ⟨c8,0,none⟩ v') pr t∧aj (au.setCell ⟨c8,0,none⟩ v') c8 54 #[v']∧cl eF bC (au.setCell ⟨c8,0,none⟩ v') W.heap.size v' (acc++ [(d1,d2)])∧au.cell? ⟨c8,0,none⟩=some v∧au.frozen? ⟨c8,0,none⟩=false:=by
 have hk:=fe hg;have bI:∀g,v.ownBlock=some g→bV wb g eF.t:=fun g hg=>dR hP g hg;have dO:∀g,v.ownBlock=some g→W.heap.size≤g:=cx hP;have r1:=h.rd.below hb;have b1:=h.cY.below hb;have gu:=r1.keep hk (fun e=>(bI _ e).ne r1.aC (by decide) rfl) dO;have aW:=b1.keeps hk (fun e=>(bI _ e).ne b1.aC (by decide) rfl);have fT:∀{s:eI} {d:aV},bN bC wb W.heap.size s d→bN bC au W.heap.size s d:=fun hh=>hh.keep hk (fun g hg e=>(bI _ e).ne hg (by decide) rfl);have CX:cl eF bC au W.heap.size v' (acc++ [(d1,d2)]):=cl.O0 hr hl (fun j p x hp hx=>⟨fT (hs j p x hp hx).1,fT (hs j p x hp hx).2⟩) (fT (h1.below hb)) (fT (h2.below hb));have fS:=bS au c8 0 v';have bF:=aW.aQ 0 v';simp only [List.setIfInBounds_toArray,List.set_cons_zero]at bF;exact⟨gu.keep fS yt (fun k hk=>by have hk2:k=c8:=hk;rw [hk2];exact gJ),bF,CX.keep fS (fun g hg e=>hg.ne aW.aC (by decide) e) (fun g hg e=>hg.ne aW.aC (by decide) e),aW.cell 0,aW.frozen 0⟩
end
end Go.Proofs.YtmaijkoopjocdaaGreat
