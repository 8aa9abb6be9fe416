import Derived.Test.YtmaijkoopjocdaaGreatKW28
import Derived.Test.YtmaijkoopjocdaaGreatKW36
set_option maxRecDepth 100000
set_option maxHeartbeats 64000000
namespace Go.Proofs.YtmaijkoopjocdaaGreat
open Go.RowKit Go.Lib
def xj (L:List aC):dK:=⟨(jS L 1).2,(jS L 2).2,(jS L 1).1.ap,(jS L 2).1.ap,(jS L 1).1.aq,(jS L 2).1.aq⟩
def ef (S:List (List aC)):List dK:=S.map xj
def Dr (L:List aC) (m:Nat):dK:=⟨if 0<m then(jS L 1).2 else false,if 1<m then(jS L 2).2 else false,if 0<m then(jS L 1).1.ap else 0,if 1<m then(jS L 2).1.ap else 0,if 0<m then(jS L 1).1.aq else 0,if 1<m then(jS L 2).1.aq else 0⟩
theorem akf (L:List aC):Dr L 2=xj L:=rfl
section
variable {W w w':World} {ps pb:Nat} {p:Prod} {Q:List Nat} {S:List (List aC)} {L L':List aC}
theorem akg {k:Nat} (h:S[k]? =some L):ef (S.take (k+1))=ef (S.take k)++ [xj L]:=by unfold ef;rw [kH h,List.map_append];rfl
theorem Q0 (h:eH W w ps p Q S) (hl:S.length<=100) (hL:∀L∈S,L.length<=250∧∀o∈L,1<=o.aq∧o.aq<=1000000):
 Calls Tryz.prog 58 #[.pointer ↑ps] w fun e w'=>∃v,e= .returned v∧qW.Row w' ↑w v (ef S)∧Below ↑w w w':=by
 have H:=af h;have iu:=af hL;obtain⟨n,hn⟩:=ai Q.length;have z:S.length=n:=by rw [<-h.len];exact hn
 have y:=af z;have f:=af hn;rw [z]at hl;clear h hL z hn;go_enter Tryz.func58,Tryz.ntmps58;go_wp2_with fail;go_loopw [4,3] (fun i v w'=>∃k:Nat,i=↑k∧k<=n∧qW.Row w' ↑w v (ef (S.take k))∧Below ↑w w w') (fun i _ _=>n-(RowKit.intOf i).toNat)
 case atStart=>exact⟨0,rfl,Nat.zero_le _,by rw [List.take_zero];exact bl.Row.nil _ _,Below.refl _ _⟩
 obtain⟨k,rfl,hk,hr,hb⟩:=hrel;obtain⟨ax,rfl⟩:=aj wr;have r:=af hr;have N:=af hb;obtain⟨a,c,q,hrow⟩:=(H.o.below hb).box;rw [f.o]at q hrow;have t:=q.MK;clear hr hb q hrow;by_cases hlt:k<n
 ·have hlt':(k:Int)<(n:Int):=by omega
  go_upto_region 6 with(fail);obtain⟨pb,L,hq,hs,hrb⟩:=(H.o.below N.o).get (by rw [y.o];exact hlt);have T:=iu.o L (List.mem_of_getElem? hs);have sJ:=af (akg hs);obtain⟨g,c1,hb1,mh,q0⟩:=(H.o.below N.o).ptr hq;have X:=af hrb;have ie:=af hq;have V:Ei (av (ax.alloc (.cells #[.bool false,.bool false,↑(),↑(),↑(),↑()] 185)) ↑ax 185 (Dr L 0).cells.toArray):=af (av.new _ _ _);have bA:Ei (Below ↑ax ax (ax.alloc (.cells #[.bool false,.bool false,↑(),↑(),↑(),↑()] 185))):=af (Below.aI ax _);obtain⟨gt,hgt⟩:=ai ax.heap.size;have nV:=af hgt;rw [f.o]at hb1;have j:=hb1.MK;have he:a=some ⟨g,0,none⟩∧c=c1:=by rw [t]at j;injection j with e;injection e with e1 _ bJ;exact⟨e1,bJ⟩
  obtain⟨rfl,rfl⟩:=he;rw [hgt]at V⊢;clear hgt hq hs hrb mh j t q0 hb1;generalize ax.alloc (.cells _ 185)=w1 at*;go_wp2_with fail;go_loopw [6] (fun s w'=>∃m:Nat,s=↑((m:Int)+1)∧m<=2∧av w' gt 185 (Dr L m).cells.toArray∧Below ↑ax ax w') (fun s _=>4-(RowKit.intOf s).toNat)
  case atStart=>exact⟨0,rfl,bh,V.o,bA.o⟩
  obtain⟨m,rfl,hm,g7,b⟩:=hrel;obtain⟨wy,rfl⟩:=aj wr;have P:=af g7;have O:=af b;have H2:=af ((H.o.below N.o).below b);have l:=af (X.o.below b);obtain⟨g2,c2,hb2,_,q0⟩:=H2.o.ptr ie.o;rw [f.o]at hb2;have t:=hb2.MK;clear g7 b hb2;have jq:m=0∨m=1∨m=2:=bh;rcases jq with rfl|rfl|rfl
  ·have Y:=af (Ru l.o T.1 T.2 1);obtain⟨bo,R⟩:=ai (jS L 1);obtain⟨⟨A,C,lc⟩,lb⟩:=bo;go_wp2_with fail;refine Y.o.mono ?_;rintro e w2 ⟨he,hb2⟩;rw [R]at he;simp only [aB.cells,List.toArray]at he;subst he;have hba:=Below.aI w2 (.cells #[↑A,↑C,↑lc] 101);have E:Ei (av (w2.alloc (.cells #[↑A,↑C,↑lc] 101)) ↑w2 101 #[↑A,↑C,↑lc]):=af (av.new _ _ _);have D:=af ((P.o.below hb2).below hba);have U:=af ((ag O hb2).o.trans (hba.mono (ag O hb2).o.size));have K:Ei (gt<w2.heap.size):=af (Nat.lt_of_lt_of_le P.o.lt hb2.size);clear hb2 hba Y;go_upto_region 10 with(fail);obtain⟨aM,Z⟩:=ai w2.heap.size;rw [Z]at E K⊢;clear Z;have n1:aM≠gt:=by have:=K.o;omega
   have n2:gt≠aM:=by have:=K.o;omega
   generalize w2.alloc (.cells _ 101)=w3 at*;have v0:=E.o.GC;have v1:=E.o.GD;have t0:=D.o.GC;have t2:=D.o.Je;have t4:=D.o.Jg;have fz:∀o,w3.frozen? ⟨gt,o,none⟩=false:=fun o=>D.o.frozen o;go_wp2_with fail;go_roundw
   case rel=>
    have hb3:=((D.o.aW 0 ↑lb).aW 2 ↑A).aW 4 ↑C;have u:Dr L 1=⟨lb,false,A,0,C,0⟩:=by unfold Dr;rw [R];rfl
    refine⟨1,rfl,bh,by rw [u];exact hb3,?_⟩;exact U.o.trans (((((aK.refl (fun k=>k=gt) w3).setCell (p:=⟨gt,0,none⟩) (fun _=>rfl) _).setCell (p:=⟨gt,2,none⟩) (fun _=>rfl) _).setCell (p:=⟨gt,4,none⟩) (fun _=>rfl) _).below (B:=ax.heap.size) (fun k hk=>by have e:k=gt:=hk;rw [e];exact Nat.le_of_eq nV.o) U.o.size)
   simp [RowKit.intOf]
  ·have Y:=af (Ru l.o T.1 T.2 2);obtain⟨bo,R⟩:=ai (jS L 2);obtain⟨⟨A,C,lc⟩,lb⟩:=bo;go_wp2_with fail;refine Y.o.mono ?_;rintro e w2 ⟨he,hb2⟩;rw [R]at he;simp only [aB.cells,List.toArray]at he;subst he;have hba:=Below.aI w2 (.cells #[↑A,↑C,↑lc] 101);have E:Ei (av (w2.alloc (.cells #[↑A,↑C,↑lc] 101)) ↑w2 101 #[↑A,↑C,↑lc]):=af (av.new _ _ _);have D:=af ((P.o.below hb2).below hba);have U:=af ((ag O hb2).o.trans (hba.mono (ag O hb2).o.size));have K:Ei (gt<w2.heap.size):=af (Nat.lt_of_lt_of_le P.o.lt hb2.size);clear hb2 hba Y;go_upto_region 10 with(fail);obtain⟨aM,Z⟩:=ai w2.heap.size;rw [Z]at E K⊢;clear Z;have n1:aM≠gt:=by have:=K.o;omega
   have n2:gt≠aM:=by have:=K.o;omega
   generalize w2.alloc (.cells _ 101)=w3 at*;have v0:=E.o.GC;have v1:=E.o.GD;have t0:=D.o.GD;have t2:=D.o.Jf;have t4:=D.o.Jh;have fz:∀o,w3.frozen? ⟨gt,o,none⟩=false:=fun o=>D.o.frozen o;go_wp2_with fail;go_roundw
   case rel=>
    have hb3:=((D.o.aW 1 ↑lb).aW 3 ↑A).aW 5 ↑C;have u:Dr L 2=⟨(jS L 1).2,lb,(jS L 1).1.ap,A,(jS L 1).1.aq,C⟩:=by unfold Dr;rw [R];rfl
    refine⟨2,rfl,bh,by rw [u];exact hb3,?_⟩;exact U.o.trans (((((aK.refl (fun k=>k=gt) w3).setCell (p:=⟨gt,1,none⟩) (fun _=>rfl) _).setCell (p:=⟨gt,3,none⟩) (fun _=>rfl) _).setCell (p:=⟨gt,5,none⟩) (fun _=>rfl) _).below (B:=ax.heap.size) (fun k hk=>by have e:k=gt:=hk;rw [e];exact Nat.le_of_eq nV.o) U.o.size)
   simp [RowKit.intOf]
  obtain⟨x0,x1,F,G,I,J,hT⟩:∃x0 x1 F G I J,Dr L 2=⟨x0,x1,F,G,I,J⟩:=⟨_,_,_,_,_,_,rfl⟩;have d:=P.o;rw [hT]at d;obtain⟨t0,t1,t2,t3,t4,t5⟩:=d.amy;have uX:Ei (ef (S.take (k+1))=ef (S.take k)++ [⟨x0,x1,F,G,I,J⟩]):=af (by rw [sJ.o,<-akf,hT]);have jf:Ei ((ef (S.take k)).length<=100):=af (by unfold ef;rw [List.length_map,List.length_take];have:=y.o;omega);have hba:=Below.aI wy (.cells #[↑x0,↑x1,↑F,↑G,↑I,↑J] 185);have hbz:Below ↑w w wy:=N.o.trans (O.o.mono N.o.size);have iz:=af ((r.o.below O.o).below hba);have x:=af (hbz.trans (hba.mono hbz.size));have c8:Ei (av (wy.alloc (.cells #[↑x0,↑x1,↑F,↑G,↑I,↑J] 185)) ↑wy 185 (⟨x0,x1,F,G,I,J⟩:dK).cells.toArray):=af (av.new _ _ _);clear hT d sJ hba hbz T l X H2 q0 P ie;generalize ef (S.take k)=M at*;obtain⟨a1,c1,hv⟩:=r.o.form;subst hv;go_wp2_with (first
   |(at_builtin;go_loud (refine qW.push rfl (.tmp 51) (.tmp 53) rfl ↑w _ M rfl iz.o ↑wy ⟨x0,x1,F,G,I,J⟩ rfl c8.o.lt c8.o.gH (by have:=jf.o;omega) x.o.size ?_)))
  intro v' aN bX cQ eG;have cL:=af bX;have dP:=af (iJ cQ x.o (cS iz.o));clear bX cQ eG;go_wp2_with fail;go_roundw
  case rel=>exact⟨k+1,dR,hlt,by rw [uX.o];exact cL.o,dP.o⟩
  exact Ej
 have hkn:k=n:=bh;have bR:Ei (ef (S.take k)=ef S):=af (by rw [hkn,<-y.o,List.take_length]);clear hkn;go_wp2_with fail;go_ret;exact⟨_,rfl,by rw [<-bR.o];exact r.o,N.o⟩
end
structure nt where
 ap:Int
 aq:Int
 imp:Bool
 rR:List pG
structure ei (p:Prod) (S:List (List aC)):Prop where
 len:S.length=(countP p).toNat
 each:∀L∈S,j8 L
theorem ei.le {p:Prod} {S:List (List aC)} (h:ei p S):S.length<=21:=by have:=(BA p).2;rw [h.len];omega
theorem ei.count {p:Prod} {S:List (List aC)} (h:ei p S):(S.length:Int)=countP p:=by have:=(BA p).1;rw [h.len];omega
theorem ei.set {p:Prod} {S:List (List aC)} (h:ei p S) {i:Nat} {L:List aC} (hL:j8 L):ei p (S.set i L):=
 ⟨by rw [List.length_set];exact h.len,fun K hK=>by
  rcases List.mem_or_eq_of_mem_set hK with h1|rfl
  ·exact h.each K h1
  exact hL⟩
theorem ei.at_ {p:Prod} {S:List (List aC)} (h:ei p S) (i:Nat):j8 (S.getD i []):=by
 rw [List.getD_eq_getElem?_getD];cases hg:S[i]? with
 |none=>exact j8.nil
 |some L=>exact h.each L (List.mem_of_getElem? hg)
theorem ei.rR {p:Prod} {S:List (List aC)} (h:ei p S) (i:Nat) (side ap q:Int):ei p (ou p S i side ap q).1:=h.set ((h.at_ i).pz _)
theorem Ka {L:List aC} (h:j8 L) (s:Int):∀l∈k6 L s,1<=l.aq∧l.aq<=250000000∧1<=l.count∧l.count<=250:=fun l hl=>by have h1:=h.XJ s l hl;have h2:=Ys (S:=q5 L s) (fun o ho=>h.aq o (List.mem_filter.1 ho).1) l hl;have h3:(q5 L s).length<=L.length:=List.length_filter_le ..;have h4:=h.len;omega
theorem ZU {L:List aC} {s:Int} (hs:s=1∨s=2) (hh:(xj L).has s=true):∃l∈k6 L s,jS L s=(l,true)∧(xj L).ap s=l.ap∧(xj L).aq s=l.aq:=by
 rcases Rd L s with h1|⟨l,h1,h2⟩
 ·exfalso
  unfold xj dK.has at hh;rcases hs with rfl|rfl
  ·rw [if_pos rfl,h1]at hh;cases hh
  rw [if_neg bh,h1]at hh;cases hh
 refine⟨l,h1,h2,?_,?_⟩
 ·unfold xj dK.ap;rcases hs with rfl|rfl
  ·rw [if_pos rfl,h2]
  rw [if_neg bh,h2]
 unfold xj dK.aq;rcases hs with rfl|rfl
 ·rw [if_pos rfl,h2]
 rw [if_neg bh,h2]
theorem ZV {L:List aC} (h:j8 L) (s:Int):(-2000000<=(jS L s).1.ap∧(jS L s).1.ap<=2000000)∧0<=(jS L s).1.aq∧(jS L s).1.aq<=250000000:=by
 rcases Rd L s with h1|⟨l,h1,h2⟩
 ·rw [h1];exact⟨⟨by show(-2000000:Int)<=0;omega,by show(0:Int)<=2000000;omega⟩,by show(0:Int)<=0;omega,by show(0:Int)<=250000000;omega⟩
 rw [h2];have h3:=h.XL s l h1;have h4:=Ka h s l h1;exact⟨h3,by dsimp only;omega,by dsimp only;omega⟩
theorem ai0 {L:List aC} (h:j8 L):(xj L).ok:=by have h1:=ZV h 1;have h2:=ZV h 2;refine⟨?_,?_,?_,?_⟩<;>(unfold xj cz;dsimp only;omega)
theorem ei.CT {p:Prod} {S:List (List aC)} (h:ei p S):∀x∈ef S,x.ok:=fun x hx=>by unfold ef at hx;obtain⟨L,hL,rfl⟩:=List.mem_map.1 hx;exact ai0 (h.each L hL)
theorem Nx (S:List (List aC)):(ef S).length=S.length:=by unfold ef;rw [List.length_map]
theorem ai1 {L:List dK} {A sa bi cr:Int} {less:Bool} {q:dg} (h:qh L A sa bi cr less=some q):
 ∃x y,L[A.toNat]? =some x∧L[bi.toNat]? =some y∧x.has sa=true∧y.has cr=true∧q.i0=A∧q.s0=sa∧q.i1=bi∧q.s1=cr∧q.aq=min (x.aq sa) (y.aq cr):=by
 unfold qh at h;split at h
 ·rename_i x y hx hy;split at h
  ·rename_i hh;dsimp only at h;generalize (if less=true then qX (y.ap cr) (x.ap sa)else rN (x.ap sa) (y.ap cr))=r at h;split at h
   ·injection h with h;subst h;exact⟨x,y,hx,hy,hh.1,hh.2,rfl,rfl,rfl,rfl,rfl⟩
   cases h
  cases h
 cases h
theorem XD {p:Prod} {L:List dK} {i:Nat} {side:Int} {q:dg}:∀k,q∈qY p L i side k->∃m,m<k∧qh L (rO p (i:Int) ((i+1+m:Nat):Int)).1 side ((i+1+m:Nat):Int) side false=some q:=by
 intro k;induction k with
 |zero=>intro h;cases h
 |succ k ih=>
  intro h;rw [qY,List.mem_append]at h;rcases h with h|h
  ·obtain⟨m,h1,h2⟩:=ih h;exact⟨m,bh,h2⟩
  exact⟨k,bh,by simpa using h⟩
theorem XE {p:Prod} {L:List dK} {i:Nat} {side:Int} {q:dg}:∀k,q∈uC p L i side k->∃m,m<k∧qh L (rO p (m:Int) (i:Int)).1 (3-side) (m:Int) side true=some q:=by
 intro k;induction k with
 |zero=>intro h;cases h
 |succ k ih=>
  intro h;rw [uC,List.mem_append]at h;rcases h with h|h
  ·obtain⟨m,h1,h2⟩:=ih h;exact⟨m,bh,h2⟩
  exact⟨k,bh,by simpa using h⟩
structure HO (L:List dK) (q:dg):Prop where
 a:∃(i:Nat) (x:dK),q.i0=(i:Int)∧L[i]? =some x∧(q.s0=1∨q.s0=2)∧x.has q.s0=true∧q.aq<=x.aq q.s0
 b:∃(i:Nat) (x:dK),q.i1=(i:Int)∧L[i]? =some x∧(q.s1=1∨q.s1=2)∧x.has q.s1=true∧q.aq<=x.aq q.s1
 ne:q.i0≠q.i1
 q:∃x∈L,∃y∈L,∃s t,(s=1∨s=2)∧(t=1∨t=2)∧x.has s=true∧y.has t=true∧q.aq=min (x.aq s) (y.aq t)
theorem Sz {L:List dK} {A bi:Nat} {sa cr:Int} {less:Bool} {q:dg} (ha:sa=1∨sa=2) (hb:cr=1∨cr=2) (hne:A≠bi) (h:qh L A sa bi cr less=some q):HO L q:=by obtain⟨x,y,h1,h2,h3,h4,h5,h6,h7,h8,h9⟩:=ai1 h;rw [Int.toNat_natCast]at h1 h2;exact⟨⟨A,x,h5,h1,by rw [h6];exact ha,by rw [h6];exact h3,by rw [h9,h6];omega⟩,⟨bi,y,h7,h2,by rw [h8];exact hb,by rw [h8];exact h4,by rw [h9,h8];omega⟩,by rw [h5,h7];omega,x,List.mem_of_getElem? h1,y,List.mem_of_getElem? h2,sa,cr,ha,hb,h3,h4,h9⟩
theorem HO.swap {L:List dK} {q:dg} (h:HO L q):HO L (G0 q):=⟨h.b,h.a,fun e=>h.ne e.symm,h.q⟩
theorem Wy {p:Prod} {L:List dK} {i:Nat} {side:Int} {q:dg} (hz:cR p=0) (h:q∈oM p L i side):HO L q:=by
 unfold oM at h;split at h
 ·cases h
 rename_i hbad;unfold CL at hbad;have hs:side=1∨side=2:=bh;have hi:(i:Int)<countP p:=bh;split at h
 ·rename_i hsp;simp only [Option.mem_toList,Option.map_eq_some_iff]at h;obtain⟨q',h1,rfl⟩:=h;obtain⟨_,a,b,he,hab,hb,_⟩:=RI hsp;rw [he]at h1;exact(Sz bh hs bh h1).swap
 rename_i hsp;have A:(gf p i).2.2=false:=by rwa [Bool.not_eq_true]at hsp
 obtain⟨a,he,ha⟩:=YP (p:=p) (inst:=i) bh hi A;have hm:i<p.months.length:=by have:=Y8 (p:=p) (inst:=i) bh hi;rw [A,eq_comm,decide_eq_false_iff_not]at this;omega
 rw [List.mem_append,Int.toNat_natCast]at h;rcases h with h|h
 ·obtain⟨m,B,h⟩:=XD _ h;obtain⟨s,hs1,C,_⟩:=M5 hz (bh:i<i+1+m) (bh:i+1+m<p.months.length);rw [hs1]at h;exact Sz hs hs bh h
 obtain⟨m,B,h⟩:=XE _ h;obtain⟨s,hs1,C,_⟩:=M5 hz (bh:m<i) hm;rw [hs1]at h;exact Sz bh hs bh h
theorem QR {l:List dg} {side:Int} (h:(qj l side).2=true):(qj l side).1∈l:=by
 cases l with
 |nil=>cases h
 |cons x t=>
  show t.foldl (xy side) x∈x::t;clear h;induction t generalizing x with
  |nil=>exact List.mem_cons_self ..
  |cons y t ih=>
   rw [List.foldl_cons];have h1:=ih (xy side x y);rcases List.mem_cons.1 h1 with h2|h2
   ·rw [h2];unfold xy;split<;>simp
   exact List.mem_cons_of_mem _ (List.mem_cons_of_mem _ h2)
theorem QS {p:Prod} {S:List (List aC)} (hz:cR p=0) (hS:ei p S) {i:Nat} {side:Int} {q:dg} (h:q∈mA p (ef S) i side):HO (ef S) q∧1<=q.aq∧q.aq<=250000000:=by unfold mA at h;have h1:=Wy hz (List.mem_filter.1 h).1;refine⟨h1,?_⟩;obtain⟨x,hx,y,hy,s,t,hs,ht,h2,h3,h4⟩:=h1.q;unfold ef at hx hy;obtain⟨L,hL,rfl⟩:=List.mem_map.1 hx;obtain⟨K,hK,rfl⟩:=List.mem_map.1 hy;obtain⟨l,l1,_,_,l2⟩:=ZU (L:=L) hs h2;obtain⟨k,k1,_,_,k2⟩:=ZU (L:=K) ht h3;have:=Ka (hS.each L hL) s l l1;have:=Ka (hS.each K hK) t k k1;rw [h4,l2,k2];omega
theorem G8 {p:Prod} {L:List dK} {i:Nat} {side:Int}:(oM p L i side).length<=1000:=by
 unfold oM;split
 ·simp
 rename_i hb;split
 ·have:=Qn ((qh L (gf p i).2.1 (3-side) (gf p i).1 side true).map G0);omega
 rw [List.length_append];have h1:=Qo p L (i:Int).toNat side (p.months.length-((i:Int).toNat+1));have h2:=WK p L (i:Int).toNat side (i:Int).toNat;unfold CL at hb;have hc:countP p≠0:=bh;have hl:=(pI (RW hc)).2;have:=BA p;omega
def wz (aq x:Int):Int:=if aq<x then aq else x
def Bq (T:List dK) (i s:Int):Int:=(T.getD i.toNat WE).ap s
def N4 (p:Prod) (S:List (List aC)) (i:Nat) (o:Int) (l:aB) (aq:Int):List (List aC)×nt:=
 ((ou p S i o l.ap (wz aq l.aq)).1,⟨l.ap,wz aq l.aq,false,(ou p S i o l.ap (wz aq l.aq)).2⟩)
def Ke (p:Prod) (S:List (List aC)) (q:dg) (aq:Int):List (List aC)×nt:=
 let k:=wz aq q.aq
 let f:=ou p S q.i0.toNat q.s0 (Bq (ef S) q.i0 q.s0) k
 let g:=ou p f.1 q.i1.toNat q.s1 (Bq (ef S) q.i1 q.s1) k
 (g.1,⟨q.ap,k,true,f.2++g.2⟩)
def xE (S:List (List aC)) (i:Nat) (side:Int):aB×Bool:=jS (S.getD i []) (3-side)
def nu (p:Prod) (S:List (List aC)) (i:Nat) (side:Int):dg×Bool:=qj (mA p (ef S) i (3-side)) (3-side)
def KV (S:List (List aC)) (i:Nat) (side ap:Int):Bool:=(xE S i side).2&& !cT side (xE S i side).1.ap ap
def HJ (p:Prod) (S:List (List aC)) (i:Nat) (side ap:Int):Bool:=(nu p S i side).2&& !cT side (nu p S i side).1.ap ap
def ur (p:Prod) (S:List (List aC)) (i:Nat) (side ap aq:Int):Option (List (List aC)×nt):=
 if(KV S i side ap&&(!HJ p S i side ap|| !cT (3-side) (nu p S i side).1.ap (xE S i side).1.ap))=true then some (N4 p S i (3-side) (xE S i side).1 aq)
 else if HJ p S i side ap=false then none
 else some (Ke p S (nu p S i side).1 aq)
def gO (p:Prod) (i:Nat) (side ap:Int):Nat->List (List aC)->Int->List (List aC)×List nt×Int
 |0,S,aq=>(S,[],aq)
 |f+1,S,aq=>if aq<=0 then(S,[],aq)else match ur p S i side ap aq with
  |none=>(S,[],aq)
  |some r=>((gO p i side ap f r.1 (aq-r.2.aq)).1,r.2::(gO p i side ap f r.1 (aq-r.2.aq)).2.1,(gO p i side ap f r.1 (aq-r.2.aq)).2.2)
theorem N5 {aq x:Int} (h1:1<=aq) (h2:1<=x):1<=wz aq x∧wz aq x<=aq∧wz aq x<=x:=by unfold wz;split<;>omega
theorem ZE {p:Prod} {S:List (List aC)} (hS:ei p S) {i:Nat} {side:Int} (h:(xE S i side).2=true):1<=(xE S i side).1.aq∧(xE S i side).1.aq<=250000000:=by
 unfold xE at*;rcases Rd (S.getD i []) (3-side)with h1|⟨l,h1,h2⟩
 ·rw [h1]at h;cases h
 rw [h2];have:=Ka (hS.at_ i) _ l h1;exact⟨this.1,this.2.1⟩
theorem Uo {p:Prod} {S:List (List aC)} (hz:cR p=0) (hS:ei p S) {i:Nat} {side ap aq:Int} (hq:1<=aq) {r:List (List aC)×nt} (h:ur p S i side ap aq=some r):
 ei p r.1∧1<=r.2.aq∧r.2.aq<=aq:=by
 unfold ur at h;split at h
 ·rename_i hg;injection h with h;subst h;simp only [Bool.and_eq_true]at hg;have h1:(xE S i side).2=true:=by
   have:=hg.1;unfold KV at this;simp only [Bool.and_eq_true]at this;exact this.1
  have h2:=ZE hS h1;have h3:=N5 hq h2.1;exact⟨hS.rR _ _ _ _,h3.1,h3.2.1⟩
 split at h
 ·cases h
 rename_i hg;injection h with h;subst h;have h1:(nu p S i side).2=true:=by rw [Bool.not_eq_false]at hg;unfold HJ at hg;simp only [Bool.and_eq_true]at hg;exact hg.1
 have h2:=QS hz hS (QR h1);have h3:=N5 hq h2.2.1;exact⟨(hS.rR _ _ _ _).rR _ _ _ _,h3.1,h3.2.1⟩
theorem aiZ {p:Prod} {i:Nat} {side ap:Int} {f:Nat} {S:List (List aC)} {aq:Int} (h:aq<=0):gO p i side ap f S aq=(S,[],aq):=by
 cases f with
 |zero=>rfl
 |succ f=>unfold gO;rw [if_pos h]
theorem aiP {p:Prod} {i:Nat} {side ap:Int} {f:Nat} {S:List (List aC)} {aq:Int} (h:ur p S i side ap aq=none):gO p i side ap f S aq=(S,[],aq):=by
 cases f with
 |zero=>rfl
 |succ f=>unfold gO;rw [h];split<;>rfl
theorem ZL {p:Prod} {i:Nat} {side ap:Int} {f:Nat} {S:List (List aC)} {aq:Int} {r:List (List aC)×nt} (h0:0<aq) (hf:aq.toNat<=f) (h:ur p S i side ap aq=some r):
 ∃f',f=f'+1∧gO p i side ap f S aq=((gO p i side ap f' r.1 (aq-r.2.aq)).1,r.2::(gO p i side ap f' r.1 (aq-r.2.aq)).2.1,(gO p i side ap f' r.1 (aq-r.2.aq)).2.2):=by
 cases f with
 |zero=>omega
 |succ f=>refine⟨f,rfl,?_⟩;rw [gO,if_neg bh,h]
structure q7 where
 ap:Int
 aq:Int
 imp:Bool
 a:Option Addr
 n:Nat
 c:Nat
def q7.cells (x:q7):List Value:= [.int .i64 x.ap,.int .i64 x.aq,.bool x.imp,.slice x.a x.n x.c]
def ai2:q7:=⟨0,0,false,none,0,0⟩
theorem q7.kI (x:q7):∀u∈x.cells,u.oneCell'=true:=by intro u hu;simp only [q7.cells,List.mem_cons,List.not_mem_nil,or_false]at hu;rcases hu with rfl|rfl|rfl|rfl<;>rfl
def HL:bl q7:=⟨q7.cells,4,fun _=>rfl,q7.kI,bh,206,200,.agg ai2.cells.toArray,48,Tryz.underlying200,eP,dn,bh⟩
structure HP (w:World) (B:Nat) (h:q7) (t:nt):Prop where
 ap:h.ap=t.ap
 aq:h.aq=t.aq
 imp:h.imp=t.imp
 row:qg.Row w B (.slice h.a h.n h.c) t.rR
def SO (w:World) (B:Nat) (v:Value) (T:List nt):Prop:=
 ∃H:List q7,HL.Row w B v H∧H.length=T.length∧∀(j:Nat) (h:q7) (t:nt),H[j]? =some h->T[j]? =some t->HP w B h t
section
variable {w w':World} {B:Nat} {v v':Value} {T:List nt} {F:Nat->Prop}
theorem HP.keep {h:q7} {t:nt} (k:HP w B h t) (hk:aK F w w') (hf:∀g,ck w g qg.t->¬F g):HP w' B h t:=⟨k.ap,k.aq,k.imp,k.row.keep hk hf⟩
theorem SO.keep (h:SO w B v T) (hk:aK F w w') (hs:∀g,ck w g HL.t->¬F g) (hf:∀g,ck w g qg.t->¬F g):SO w' B v T:=by obtain⟨H,h1,h2,h3⟩:=h;exact⟨H,h1.keep hk hs,h2,fun j h t a b=>(h3 j h t a b).keep hk hf⟩
theorem SO.below (h:SO w B v T) (hb:Below ↑w w w'):SO w' B v T:=h.keep (F:=fun _=>False) (Below.keeps hb) (fun _ _ e=>e.elim) (fun _ _ e=>e.elim)
theorem SO.base {B':Nat} (h:SO w B v T) (hB:B'<=B):SO w B' v T:=by obtain⟨H,h1,h2,h3⟩:=h;exact⟨H,h1.base hB,h2,fun j h t a b=>⟨(h3 j h t a b).ap,(h3 j h t a b).aq,(h3 j h t a b).imp,(h3 j h t a b).row.base hB⟩⟩
theorem SO.nil (w:World) (B:Nat):SO w B (.slice none 0 0) []:=⟨[],bl.Row.nil w B,rfl,fun j h t a=>by simp at a⟩
theorem SO.form (h:SO w B v T):∃a c,v= .slice a T.length c:=by obtain⟨H,h1,h2,_⟩:=h;obtain⟨a,c,e⟩:=h1.form;exact⟨a,c,by rw [e,h2]⟩
theorem SO.push {H:List q7} {h:q7} {t:nt} (h2:H.length=T.length) (h3:∀(j:Nat) (h:q7) (t:nt),H[j]? =some h->T[j]? =some t->HP w B h t)
 (hr:HL.Row w' B v' (H++ [h])) (hk:aK F w w') (hf:∀g,F g->ck w g HL.t) (ht:HP w B h t):SO w' B v' (T++ [t]):=by
 have hne:∀g,ck w g qg.t->¬F g:=fun g hg e=>hg.ne (hf g e) b9 rfl;refine⟨H++ [h],hr,by rw [List.length_append,List.length_append,h2];rfl,fun j h' t' a b=>?_⟩;by_cases hj:j<H.length
 ·rw [List.getElem?_append_left hj]at a;rw [List.getElem?_append_left bh]at b;exact(h3 j h' t' a b).keep hk hne
 rw [List.getElem?_append_right bh]at a;rw [List.getElem?_append_right bh,<-h2]at b;have hj0:j-H.length=0:=by have:=dM a;simp at this;omega
 rw [hj0]at a b;injection a with a;injection b with b;subst a;subst b;exact ht.keep hk hne
end
theorem aiL {w:World} {ops:Array Oper} {o:Oper} {a:Act} {K:Act->World->Prop} {Q:Exit->Act->World->Prop} {E:Prop} {f0 f1:Int} {f2:Bool} {b:Option Addr} {n c:Nat} (hgd:o.guard=none) (t:Nat)
 (ho:o.op= .buildSlice 200 1 #[(0,.tmp t)]) (hx:a.tmps[t]?.getD undef= .agg #[↑f0,↑f1,↑f2,.slice b n c])
 (h:K (a.put o.dst (.slice ↑w.heap.size 1 1)) (w.alloc (.cells #[↑f0,↑f1,↑f2,.slice b n c] 206))):
 if Region.wanted o (yielded ops a.tmps)=true then Oper.wp Tryz.prog o a w K Q else E:=by
 have hw:Region.wanted o (yielded ops a.tmps)=true:=by simp [Region.wanted,hgd]
 rw [if_pos hw];unfold Oper.wp execOp;simp only [ho];go_simp;exact h
end Go.Proofs.YtmaijkoopjocdaaGreat
