import Derived.Test.YtmaijkoopjocdaaGreatKW08
import Derived.Test.YtmaijkoopjocdaaGreatKW09
set_option maxRecDepth 100000
set_option maxHeartbeats 64000000
namespace Go.Proofs.YtmaijkoopjocdaaGreat
open Go.RowKit Go.Lib
def bB.put (p:bB) (s:Nat) (x:eO):bB:=if s=0 then⟨x,p.t⟩else⟨p.s,x⟩
def c9 (x:aX×aX) (s:Nat):aX:=if s=0 then x.1 else x.2
def Me (x:aX×aX) (s:Nat) (d:aX):aX×aX:=if s=0 then(d,x.2)else(x.1,d)
theorem bB.Ma (p:bB) (s:Nat) (x y:eO):(p.put s x).put s y=p.put s y:=by unfold bB.put;split<;>rfl
theorem bB.Av (p:bB) (s:Nat) (x:eO):(p.put s x).sh s=x:=by unfold bB.put bB.sh;split<;>rfl
section
variable {w w':World} {B go cap i s:Nat} {P:List bB} {p:bB} {V:bG}
theorem pR {α:Type} {L:List α} {i:Nat} {x:α} (h:L[i]? =some x) (y:α):(L.set i y)[i]? =some y:=by rw [List.getElem?_set_self (by have:=dM h;exact this)]
theorem Row.DB (h:ey.Row w B (.slice ↑go V.length cap) P) (hp:P[i]? =some p) (hs:s<2) {f:Nat} (hf:f<5) {x:eO} {u:Value} (he:x.cells=(p.sh s).cells.set f u):
 ey.Row (w.setCell ⟨go,i*10+s*5+f,none⟩ u) B (.slice ↑go V.length cap) (P.set i (p.put s x)):=by
 rw [show i*10+s*5+f=i*ey.m+(s*5+f)by show _=i*10+(s*5+f);omega];refine h.aW hp (by show s*5+f<10;omega) ?_;have e:∀q:bB,ey.cells q=q.s.cells++q.t.cells:=fun _=>rfl;have A:∀y:eO,y.cells.length=5:=fun _=>rfl;rw [e,e];rcases(bh:s=0∨s=1)with rfl|rfl
 ·show x.cells++p.t.cells=_;rw [List.set_append_left _ _ (by rw [A];omega),he,show 0*5+f=f by omega];rfl
 show p.s.cells++x.cells=_;rw [List.set_append_right _ _ (by rw [A];omega),he,A,show 1*5+f-5=f by omega];rfl
theorem Row.TV (h:ey.Row w B (.slice ↑go V.length cap) P) (hp:P[i]? =some p) (hs:s<2) (l:aB):
 ey.Row (((w.setCell ⟨go,i*10+s*5+1,none⟩ ↑l.ap).setCell ⟨go,i*10+s*5+1+1,none⟩ ↑l.aq).setCell ⟨go,i*10+s*5+1+2,none⟩ ↑l.count) B (.slice ↑go V.length cap) (P.set i (p.put s ⟨(p.sh s).a,(p.sh s).n,(p.sh s).c,l,(p.sh s).has⟩)):=by
 have h1:=Row.DB h hp hs (f:=1) b9 (x:=⟨(p.sh s).a,(p.sh s).n,(p.sh s).c,⟨l.ap,(p.sh s).im.aq,(p.sh s).im.count⟩,(p.sh s).has⟩) (u:=↑l.ap) rfl;have h2:=Row.DB h1 (pR hp _) hs (f:=2) b9 (x:=⟨(p.sh s).a,(p.sh s).n,(p.sh s).c,⟨l.ap,l.aq,(p.sh s).im.count⟩,(p.sh s).has⟩) (u:=↑l.aq) (by rw [bB.Av];rfl);rw [List.set_set,bB.Ma]at h2;have h3:=Row.DB h2 (pR hp _) hs (f:=3) b9 (x:=⟨(p.sh s).a,(p.sh s).n,(p.sh s).c,l,(p.sh s).has⟩) (u:=↑l.count) (by rw [bB.Av];rfl);rw [List.set_set,bB.Ma]at h3;exact h3
theorem L6 (w:World) (go o:Nat) (a b c:Value):aK (fun g=>g=go) w (((w.setCell ↑(go,o+1) a).setCell ↑(go,o+1+1) b).setCell ↑(go,o+1+2) c):=
 ((ct w go _ a).trans (ct _ go _ b)).trans (ct _ go _ c)
theorem nB (h:ey.Row w B (.slice ↑go V.length cap) P) (hp:P[i]? =some p) (hs:s<2) {f:Nat} {u:Value} (he:(p.sh s).cells[f]? =some u):w.cell? ↑(go,i*10+s*5+f)=some u:=by
 obtain⟨g',cap',e1,_,bJ⟩:=h.at_ i p hp;have C:g'=go:=by injection e1 with e1;injection e1 with e1;injection e1 with e1;exact e1.symm
 subst C;have hf:f<5:=by have:=dM he;exact this
 have:=bJ (s*5+f) u (by
  have e:ey.cells p=p.s.cells++p.t.cells:=rfl;have A:∀y:eO,y.cells.length=5:=fun _=>rfl;rw [e];rcases(bh:s=0∨s=1)with rfl|rfl
  ·rw [List.getElem?_append_left (by rw [A];omega),show 0*5+f=f by omega];exact he
  rw [List.getElem?_append_right (by rw [A];omega),A,show 1*5+f-5=f by omega];exact he)
 rw [show i*10+s*5+f=i*ey.m+(s*5+f)by show _=i*10+(s*5+f);omega];exact this
theorem F5.fin {x:aX×aX} {sh:eO} {d:aX} {F:Nat->Prop} (hl:P.length=V.length) (hsh:∀(j:Nat) (p:bB) (x:aX×aX),P[j]? =some p->V[j]? =some x->bV bS w B p.s x.1∧bV bS w B p.t x.2) (hap:Iz P (2*V.length))
 (hp:P[i]? =some p) (hx:V[i]? =some x) (hs:s<2) (hk:aK F w w') (hF:∀g,ck w g bS.t->F g->(p.sh s).own=some g)
 (hr:ey.Row w' B (.slice ↑go V.length cap) (P.set i (p.put s sh))) (hd:bV bS w' B sh d):cg ey bS w' B (.slice ↑go V.length cap) (V.set i (Me x s d)):=by
 have hil:=dM hx;have A:∀(j t:Nat) (q:bB) (y:aX×aX),P[j]? =some q->V[j]? =some y->t<2->2*j+t≠2*i+s->bV bS w' B (q.sh t) (c9 y t):=by
  intro j t q y hq hy ht hne;have hjl:=dM hy;have hh:bV bS w B (q.sh t) (c9 y t):=by
   have:=hsh j q y hq hy;unfold bB.sh c9;split
   ·exact this.1
   exact this.2
  refine⟨hh.n,zv hh.row hk fun g hg hf=>?_,hh.im,hh.has⟩;have h1:=hF g (eo hh.row g hg) hf;exact hap j i t s q p g hq hp ht hs bh bh hne (by unfold eO.own;exact hg) h1
 refine⟨P.set i (p.put s sh),hr,by rw [List.length_set,List.length_set];exact hl,fun j q y hq hy=>?_⟩;by_cases hj:j=i
 ·subst hj;rw [pR hp]at hq;rw [pR hx]at hy;injection hq with hq;injection hy with hy;subst hq;subst hy;rcases(bh:s=0∨s=1)with rfl|rfl
  ·exact⟨hd,A j 1 p x hp hx b9 bh⟩
  exact⟨A j 0 p x hp hx b9 bh,hd⟩
 rw [List.getElem?_set_ne (Ne.symm hj)]at hq hy;exact⟨A j 0 q y hq hy b9 bh,A j 1 q y hq hy b9 bh⟩
theorem T3 {m:aF} {x:aX×aX} (hi:m.inst=i) (hs:m.side=(s:Int)+1) (A:s<2) (hx:V[i]? =some x):gm m V=V.set i (Me x s ((c9 x s).app m)):=by
 unfold gm;rw [hi,Int.toNat_natCast];apply List.ext_getElem?;intro j;rw [List.getElem?_modify];by_cases hj:i=j
 ·subst hj;rw [pR hx,hx];simp only [if_true,Option.map_eq_map,Option.map_some];unfold vv Me c9;rcases(bh:s=0∨s=1)with rfl|rfl
  ·rw [if_pos bh];rfl
  rw [if_neg bh];rfl
 rw [List.getElem?_set_ne hj];simp only [hj,if_false];cases V[j]? <;>rfl
structure sS (w0 w:World) (aM ay gr aH go cap:Nat) (V:bG) (P:List bB) (q p t c:Int) (i s:Nat) (im:Bool):Prop where
 bv:av w aM 43 #[.slice ↑go V.length cap]
 bm:av w ay 86 #[↑q,↑i,↑((s:Int)+1),↑p,↑t,↑c,↑im]
 br:av w gr 43 #[.slice none 0 0]
 nA:av w aH 47 #[↑p,↑t,↑c]
 row:ey.Row w ↑w0 (.slice ↑go V.length cap) P
 sh:∀(j:Nat) (p:bB) (x:aX×aX),P[j]? =some p->V[j]? =some x->bV bS w ↑w0 p.s x.1∧bV bS w ↑w0 p.t x.2
 aJ:Below ↑w0 w0 w
theorem sS.below {w0 w w':World} {aM ay gr aH go cap:Nat} {V:bG} {P:List bB} {q p t c:Int} {i s:Nat} {im:Bool} (h:sS w0 w aM ay gr aH go cap V P q p t c i s im) (hb:Below ↑w w w'):sS w0 w' aM ay gr aH go cap V P q p t c i s im:=
 ⟨h.bv.below hb,h.bm.below hb,h.br.below hb,h.nA.below hb,h.row.below hb,fun j p x hp hx=>⟨(h.sh j p x hp hx).1.below hb,(h.sh j p x hp hx).2.below hb⟩,h.aJ.trans (hb.mono h.aJ.size)⟩
theorem sS.fz {w0 w:World} {aM ay gr aH go cap:Nat} {V:bG} {P:List bB} {q p t c:Int} {i s:Nat} {im:Bool} (h:sS w0 w aM ay gr aH go cap V P q p t c i s im) {B:bB} (hp:P[i]? =some B) (o:Nat):w.frozen? ↑(go,o)=false:=by obtain⟨g',cap',cur,A,_,hbk⟩:=h.row.Cd (by intro h0;rw [h0]at hp;simp at hp);injection A with A;injection A with A;injection A with A;subst A;exact hbk.frozen _
theorem Row.Ip {w:World} {B go n cap i:Nat} {P:List bB} {C:bB} (h:ey.Row w B (.slice ↑go n cap) P) (hp:P[i]? =some C) (o:Nat):w.frozen? ↑(go,o)=false:=by obtain⟨g',cap',cur,A,_,hbk⟩:=h.Cd (by intro h0;rw [h0]at hp;simp at hp);injection A with A;injection A with A;injection A with A;subst A;exact hbk.frozen _
theorem sS.oZ {w0 w:World} {aM ay gr aH go cap:Nat} {V:bG} {P:List bB} {q p t c:Int} {i s:Nat} {im:Bool} (h:sS w0 w aM ay gr aH go cap V P q p t c i s im) {A:bB} {x:aX×aX} (hp:P[i]? =some A) (hx:V[i]? =some x):bV bS w ↑w0 (A.sh s) (c9 x s):=by
 have:=h.sh i A x hp hx;unfold bB.sh c9;split
 ·exact this.1
 exact this.2
theorem sS.done {w0 w w':World} {aM ay gr aH go cap:Nat} {V:bG} {P:List bB} {q p t c:Int} {i s:Nat} {im:Bool} (h:sS w0 w aM ay gr aH go cap V P q p t c i s im) {A:bB} {x:aX×aX} (hl:P.length=V.length) (hap:Iz P (2*V.length)) (hp:P[i]? =some A) (hx:V[i]? =some x) (hs:s<2) {F:Nat->Prop} (hk:aK F w w') (hF:∀g,ck w g bS.t->F g->(A.sh s).own=some g)
 {sh:eO} {d:aX} (hr:ey.Row w' ↑w0 (.slice ↑go V.length cap) (P.set i (A.put s sh))) (hd:bV bS w' ↑w0 sh d) (B:ck w' gr 43) (hm:(c9 x s).app ⟨q,i,(s:Int)+1,p,t,c,im⟩=d) (u:Value):
 cg ey bS (w'.setCell ↑gr u) w0.heap.size (.slice ↑go V.length cap) (gm ⟨q,i,(s:Int)+1,p,t,c,im⟩ V):=by
 rw [T3 (m:=⟨q,i,(s:Int)+1,p,t,c,im⟩) rfl rfl hs hx,hm];have h1:=F5.fin (w':=w') (F:=F) hl h.sh hap hp hx hs hk hF hr hd;exact h1.keep (ct w' gr 0 u) (fun g hg e=>hg.ne B b9 e) (fun g hg e=>hg.ne B b9 e)
theorem DD {w:World} {B g n cap k:Nat} {L:List aB} {z:aB} (h:bS.Row w B (.slice ↑g n cap) L) (hz:L[k]? =some z):w.cell? ↑(g,k*3)=↑z.ap∧w.cell? ↑(g,k*3+1)=↑z.aq∧w.cell? ↑(g,k*3+2)=↑z.count∧∀o,w.frozen? ⟨g,o,none⟩=false:=by
 obtain⟨g1,C,e1,_,hc⟩:=h.at_ k z hz;obtain⟨g2,D,cur,e2,_,hbk⟩:=h.Cd (by intro h0;rw [h0]at hz;simp at hz);have h1:g1=g:=by injection e1 with e1;injection e1 with e1;injection e1 with e1;exact e1.symm
 have h2:g2=g:=by injection e2 with e2;injection e2 with e2;injection e2 with e2;exact e2.symm
 subst h1;rw [h2]at hbk;have A:iI w g1 (k*3) [↑z.ap,↑z.aq,↑z.count]:=hc;refine⟨?_,A 1 _ rfl,A 2 _ rfl,fun o=>hbk.frozen o⟩;have:=A 0 _ rfl;rwa [Nat.add_zero]at this
theorem PZ {w:World} {B g n cap k:Nat} {L:List aB} {z:aB} (h:bS.Row w B (.slice ↑g n cap) L) (hz:L[k]? =some z) (l:aB):
 bS.Row (((w.setCell ⟨g,k*3,none⟩ ↑l.ap).setCell ⟨g,k*3+1,none⟩ ↑l.aq).setCell ⟨g,k*3+2,none⟩ ↑l.count) B (.slice ↑g n cap) (L.set k l):=by
 have h1:=h.aW (e':=⟨l.ap,z.aq,z.count⟩) (k:=0) (u:=↑l.ap) hz b9 rfl;have h2:=h1.aW (e':=⟨l.ap,l.aq,z.count⟩) (k:=1) (u:=↑l.aq) (pR hz _) b9 rfl;rw [List.set_set]at h2;have h3:=h2.aW (e':=l) (k:=2) (u:=↑l.count) (pR hz _) b9 rfl;rw [List.set_set]at h3;have e0:k*bS.m+0=k*3:=by show k*3+0=k*3;omega
 have e1:k*bS.m+1=k*3+1:=rfl;have e2:k*bS.m+2=k*3+2:=rfl;rw [e0,e1,e2]at h3;exact h3
theorem PW (w:World) (g o:Nat) (a b c:Value):aK (fun k=>k=g) w (((w.setCell ↑(g,o) a).setCell ↑(g,o+1) b).setCell ↑(g,o+2) c):=
 ((ct w g _ a).trans (ct _ g _ b)).trans (ct _ g _ c)
theorem TY {P:List bB} {i s:Nat} {A:bB} (h:P[i]? =some A):P.set i (A.put s (A.sh s))=P:=by
 have e:A.put s (A.sh s)=A:=by unfold bB.put bB.sh;split<;>rfl
 rw [e];apply List.ext_getElem?;intro j;by_cases hj:i=j
 ·subst hj;rw [pR h,h]
 rw [List.getElem?_set_ne hj]
end
end Go.Proofs.YtmaijkoopjocdaaGreat
namespace Go.Proofs.YtmaijkoopjocdaaGreat
open Go Go.Lib
def zE (side:Int) (l:List aB) (b:aB):Nat:=(l.takeWhile (fun a=>cT side a.ap b.ap)).length
def DZ (l:List aB) (k:Nat) (b:aB):Bool:=match l[k]? with
 |some a=>a.ap==b.ap
 |none=>false
def sj (side:Int) (l:List aB) (b:aB):List aB:=
 if DZ l (zE side l b) b=true then l else l.take (zE side l b)++ [b]++l.drop (zE side l b)
def sk (side:Int) (x y:List aB):List aB:=y.foldl (sj side) x
def fp (l:List aB) (q:Int):aB:=match l.find? (fun a=>a.ap==q)with
 |some a=>a
 |none=>⟨q,0,0⟩
def ph (i side:Int) (l:aB) (imp:Bool):aF:=⟨0,i,side,l.ap,l.aq,l.count,imp⟩
def j0 (i side:Int) (x y:List aB) (a:aB):List aF:=if fp x a.ap≠fp y a.ap then [ph i side (fp y a.ap) false]else []
def Ct (i side:Int) (x y:aX):List aF:=if x.has≠y.has∨x.im≠y.im then [ph i side y.im true]else []
def wX (i side:Int) (x y:List aB):List aF:=(sk side x y).flatMap (j0 i side x y)
def wY (i side:Int) (x y:aX):List aF:=wX i side x.lv y.lv++Ct i side x y
def wZ (i:Int) (x y:aX×aX):List aF:=wY i 1 x.1 y.1++wY i 2 x.2 y.2
def w4:aX×aX:=(vI,vI)
def gA (A B:bG) (k:Nat):List aF:=(List.range k).flatMap (fun(i:Nat)=>wZ (i:Int) (A.getD i w4) (B.getD i w4))
def kU (q:Int):List aF->List aF
 | []=> []
 |m::t=>{m with seq:=q+1}::kU (q+1) t
def qK (A B:bG) (q:Int):List aF:=if A.length≠B.length then []else kU q (gA A B A.length)
theorem Gi:∀(q:Int) (L:List aF),(kU q L).length=L.length
 |_,[]=>rfl
 |q,m::t=>by rw [kU,List.length_cons,List.length_cons,Gi]
theorem UD:∀(q:Int) (L K:List aF),kU q (L++K)=kU q L++kU (q+L.length) K
 |q,[],K=>by simp [kU]
 |q,m::t,K=>by rw [List.cons_append,kU,kU,UD,List.cons_append,List.length_cons];have:q+1+(t.length:Int)=q+((t.length+1:Nat):Int):=bh;rw [this]
theorem TG (q:Int) (L:List aF) (m:aF):kU q (L++ [m])=kU q L++ [{m with seq:=q+L.length+1}]:=by rw [UD];rfl
theorem Pu:∀{q:Int} {L:List aF} {k:Nat} {m:aF},(kU q L)[k]? =some m->∃m',L[k]? =some m'∧m={m' with seq:=q+1+k}
 |q,[],k,m,h=>by simp [kU]at h
 |q,x::t,0,m,h=>by simp only [kU,List.getElem?_cons_zero,Option.some.injEq]at h;exact⟨x,rfl,by rw [<-h];simp⟩
 |q,x::t,k+1,m,h=>by
  simp only [kU,List.getElem?_cons_succ]at h;obtain⟨m',h1,h2⟩:=Pu h;refine⟨m',by rw [List.getElem?_cons_succ];exact h1,?_⟩;rw [h2]
  congr 1
  omega
theorem TH {q:Int} {L:List aF} {m:aF} (h:m∈kU q L):∃m'∈L,∃s,q<s∧s<=q+L.length∧m={m' with seq:=s}:=by
 obtain⟨k,hk⟩:=List.mem_iff_getElem?.1 h;have hl:k<L.length:=by
  rw [<-Gi q L];rcases Nat.lt_or_ge k (kU q L).length with h1|h1
  ·exact h1
  rw [List.getElem?_eq_none h1]at hk;cases hk
 obtain⟨m',h1,h2⟩:=Pu hk;exact⟨m',List.mem_of_getElem? h1,_,bh,bh,h2⟩
theorem TI (side:Int) (l:List aB) (b:aB):(sj side l b).length<=l.length+1:=by
 unfold sj;split
 ·exact Nat.le_succ _
 simp only [List.length_append,List.length_take,List.length_drop,List.length_cons,List.length_nil];omega
theorem RD {side:Int} {l:List aB} {a b:aB} (h:a∈sj side l b):a∈l∨a=b:=by
 unfold sj at h;split at h
 ·exact .inl h
 rcases List.mem_append.1 h with h|h
 ·rcases List.mem_append.1 h with h|h
  ·exact .inl (List.mem_of_mem_take h)
  exact .inr (List.mem_singleton.1 h)
 exact .inl (List.mem_of_mem_drop h)
theorem UE:∀(side:Int) (y x:List aB),(sk side x y).length<=x.length+y.length
 |_,[],x=>Nat.le_refl _
 |side,b::t,x=>by have h1:=UE side t (sj side x b);have h2:=TI side x b;rw [List.length_cons];show(sk side (sj side x b) t).length<=_;omega
theorem UG:∀{side:Int} {y x:List aB} {a:aB},a∈sk side x y->a∈x∨a∈y
 |_,[],_,_,h=> .inl h
 |side,b::t,x,a,h=>by
  rcases UG (y:=t) (x:=sj side x b) h with h|h
  ·rcases RD h with h|h
   ·exact .inl h
   exact .inr (by simp [h])
  exact .inr (List.mem_cons_of_mem _ h)
theorem pn (x:aB) (t:List aB) (q:Int):fp (x::t) q=if x.ap=q then x else fp t q:=by
 unfold fp;rw [List.find?_cons];by_cases h:x.ap=q
 ·rw [if_pos h,show(x.ap==q)=true by simpa using h]
 rw [if_neg h,show(x.ap==q)=false by simpa using h]
theorem Pw (l:List aB) (q:Int):fp l q=⟨q,0,0⟩∨fp l q∈l:=by
 induction l with
 |nil=>exact .inl rfl
 |cons x t ih=>
  rw [pn];split
  ·exact .inr (List.mem_cons_self ..)
  rcases ih with h|h
  ·exact .inl h
  exact .inr (List.mem_cons_of_mem _ h)
def Pos (l:List aB):Prop:=∀a∈l,1<=a.aq∧1<=a.count
structure vJ (side:Int) (x:aX):Prop where
 oH:kF side x.lv
 pos:Pos x.lv
 no:x.has=false->x.im=jD
 yes:x.has=true->1<=x.im.aq∧1<=x.im.count
def AP (V:bG):Prop:=∀p∈V,vJ 1 p.1∧vJ 2 p.2
theorem UM (side:Int):vJ side vI:=⟨List.Pairwise.nil,fun a ha=>(by cases ha),fun _=>rfl,fun h=>(by cases h)⟩
theorem IY {i side:Int} {x y:aX} {m:aF} (h:m∈wY i side x y):(m.inst=i∧m.side=side)∧∃l b,m=ph i side l b∧((b=false∧(l∈y.lv∨∃a,(a∈x.lv∨a∈y.lv)∧l=⟨a.ap,0,0⟩))∨(b=true∧l=y.im)):=by
 unfold wY at h;rcases List.mem_append.1 h with h|h
 ·obtain⟨a,h1,h2⟩:=List.mem_flatMap.1 h;unfold j0 at h2;split at h2
  ·rw [List.mem_singleton]at h2;refine⟨by rw [h2];exact⟨rfl,rfl⟩,fp y.lv a.ap,false,h2,.inl ⟨rfl,?_⟩⟩;rcases Pw y.lv a.ap with h3|h3
   ·exact .inr ⟨a,UG h1,h3⟩
   exact .inl h3
  cases h2
 unfold Ct at h;split at h
 ·rw [List.mem_singleton]at h;exact⟨by rw [h];exact⟨rfl,rfl⟩,y.im,true,h,.inr ⟨rfl,rfl⟩⟩
 cases h
theorem Mn (i side:Int) (x y:aX):(wY i side x y).length<=x.lv.length+y.lv.length+1:=by
 unfold wY wX;rw [List.length_append];have h1:∀K:List aB,(K.flatMap (j0 i side x.lv y.lv)).length<=K.length:=by
  intro K;induction K with
  |nil=>simp
  |cons a K ih=>
   rw [List.flatMap_cons,List.length_append,List.length_cons];have:(j0 i side x.lv y.lv a).length<=1:=by unfold j0;split<;>simp
   omega
 have h2:=h1 (sk side x.lv y.lv);have h3:=UE side y.lv x.lv;have h4:(Ct i side x y).length<=1:=by unfold Ct;split<;>simp
 omega
theorem Gk {A:bG} {k:Nat} (h:k<A.length):A.getD k w4∈A∧A[k]? =some (A.getD k w4):=by rw [List.getD_eq_getElem?_getD,List.getElem?_eq_getElem h];exact⟨List.getElem_mem h,rfl⟩
def AQ (V:bG):Prop:=∀p∈V,((∀l∈p.1.lv,eB l.ap∧eB l.aq∧eB l.count)∧eB p.1.im.ap∧eB p.1.im.aq∧eB p.1.im.count)∧((∀l∈p.2.lv,eB l.ap∧eB l.aq∧eB l.count)∧eB p.2.im.ap∧eB p.2.im.aq∧eB p.2.im.count)
theorem RF {side:Int} {x:aX} (h:vJ side x):(x.im.aq=0∧x.im.count=0)∨(1<=x.im.aq∧1<=x.im.count):=by
 cases hh:x.has with
 |false=>rw [h.no hh];exact .inl ⟨rfl,rfl⟩
 |true=>exact .inr (h.yes hh)
theorem UZ {i:Nat} {n:Nat} {side:Int} {x y:aX} {m:aF} (hi:i<n) (hn:n<=255) (hs:side=1∨side=2) (hy:vJ side y)
 (cW:∀l∈x.lv,eB l.ap) (x2:∀l∈y.lv,eB l.ap∧eB l.aq∧eB l.count) (bi:eB y.im.ap∧eB y.im.aq∧eB y.im.count) (h:m∈wY (i:Int) side x y) (s:Int) (hq:eB s):Az n {m with seq:=s}∧({m with seq:=s}:aF).Gl:=by
 obtain⟨_,l,b,rfl,hb⟩:=IY h;have hz:eB 0:=by unfold eB;omega
 have key:(0<=l.aq∧0<=l.count∧(l.aq=0↔l.count=0))∧eB l.ap∧eB l.aq∧eB l.count:=by
  rcases hb with⟨_,hb|⟨a,ha,rfl⟩⟩|⟨_,rfl⟩
  ·have h1:=hy.pos l hb;exact⟨bh,x2 l hb⟩
  ·refine⟨cU,?_,hz,hz⟩;rcases ha with ha|ha
   ·exact cW a ha
   exact(x2 a ha).1
  refine⟨?_,bi⟩;rcases RF hy with h1|h1<;>omega
 unfold ph;exact⟨⟨by dsimp only;omega,by dsimp only;omega,hs,key.1.1,key.1.2.1,key.1.2.2⟩,⟨hq,by dsimp only;omega,key.2.1,key.2.2.1,key.2.2.2⟩⟩
theorem U0 {A B:bG} {q:Int} (hn:A.length<=255) (hl:A.length=B.length) (hb:AP B) (ba:AQ A) (bb:AQ B) {m:aF} (h:m∈qK A B q) (hq:0<=q) (hq2:q+(qK A B q).length<=9223372036854775807):Az A.length m∧m.Gl∧q<m.seq∧m.seq<=q+(qK A B q).length:=by
 unfold qK at*;rw [if_neg (by rw [hl];simp)]at*;rw [Gi]at*;obtain⟨m',h1,s,h2,h3,rfl⟩:=TH h;unfold gA at h1;obtain⟨i,hi,h4⟩:=List.mem_flatMap.1 h1;have hi:i<A.length:=List.mem_range.1 hi;have a1:=(Gk (A:=A) (k:=i) hi).1;have b1:=(Gk (A:=B) (k:=i) bh).1;have hs:eB s:=by unfold eB;omega
 have hok:Az A.length {m' with seq:=s}∧({m' with seq:=s}:aF).Gl:=by
  unfold wZ at h4;rcases List.mem_append.1 h4 with h4|h4
  ·exact UZ hi hn (.inl rfl) (hb _ b1).1 (fun l hl=>((ba _ a1).1.1 l hl).1) (bb _ b1).1.1 (bb _ b1).1.2 h4 s hs
  exact UZ hi hn (.inr rfl) (hb _ b1).2 (fun l hl=>((ba _ a1).2.1 l hl).1) (bb _ b1).2.1 (bb _ b1).2.2 h4 s hs
 exact⟨hok.1,hok.2,h2,h3⟩
theorem RH {A B:bG} {q:Int} {k:Nat} {m:aF} (h:(qK A B q)[k]? =some m):m.seq=q+1+k:=by
 unfold qK at h;split at h
 ·simp at h
 obtain⟨m',_,h2⟩:=Pu h;rw [h2]
theorem PA {A B:bG} {K:Nat} (hA:fX A K) (hB:fX B K) (hl:A.length=B.length):∀k,k<=A.length->(gA A B k).length<=k*(4*K+2)
 |0,_=>by simp [gA]
 |k+1,hk=>by
  have ih:=PA hA hB hl k bh;have e:gA A B (k+1)=gA A B k++wZ (k:Int) (A.getD k w4) (B.getD k w4):=by unfold gA;rw [List.range_succ,List.flatMap_append];simp
  have a1:=(Gk (A:=A) (k:=k) bh).1;have b1:=(Gk (A:=B) (k:=k) bh).1;have hA:=hA _ a1;have hB:=hB _ b1;have h1:=Mn (k:Int) 1 (A.getD k w4).1 (B.getD k w4).1;have h2:=Mn (k:Int) 2 (A.getD k w4).2 (B.getD k w4).2;rw [e,List.length_append];unfold wZ;rw [List.length_append,Nat.succ_mul];omega
theorem U1 {A B:bG} {K:Nat} (hA:fX A K) (hB:fX B K) (q:Int):(qK A B q).length<=A.length*(4*K+2):=by
 unfold qK;split
 ·exact Nat.zero_le _
 rename_i h;rw [Gi];exact PA hA hB (Decidable.not_not.1 h) _ (Nat.le_refl _)
end Go.Proofs.YtmaijkoopjocdaaGreat
