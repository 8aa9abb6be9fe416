import Derived.Test.YtmaijkoopjocdaaGreatKT09
set_option maxRecDepth 100000
set_option maxHeartbeats 64000000
namespace Go.Proofs.YtmaijkoopjocdaaGreat
open Go Go.Lib
def xU (side:Int) (l:List ax) (b:ax):Nat:=(l.takeWhile (fun a=>cV side a.ag b.ag)).length
def B6 (l:List ax) (k:Nat) (b:ax):Bool:=match l[k]? with
 |some a=>a.ag==b.ag
 |none=>false
def qQ (side:Int) (l:List ax) (b:ax):List ax:=
 if B6 l (xU side l b) b=true then l else l.take (xU side l b)++ [b]++l.drop (xU side l b)
def qR (side:Int) (x y:List ax):List ax:=y.foldl (qQ side) x
def eR (l:List ax) (q:Int):ax:=match l.find? (fun a=>a.ag==q)with
 |some a=>a
 |none=>⟨q,0,0⟩
def mM (i side:Int) (l:ax) (imp:Bool):aB:=⟨0,i,side,l.ag,l.ah,l.count,imp⟩
def ji (i side:Int) (x y:List ax) (a:ax):List aB:=if eR x a.ag≠eR y a.ag then [mM i side (eR y a.ag) false]else []
def Az (i side:Int) (x y:aV):List aB:=if x.has≠y.has∨x.im≠y.im then [mM i side y.im true]else []
def tI (i side:Int) (x y:List ax):List aB:=(qR side x y).flatMap (ji i side x y)
def uT (i side:Int) (x y:aV):List aB:=tI i side x.lv y.lv++Az i side x y
def uU (i:Int) (x y:aV×aV):List aB:=uT i 1 x.1 y.1++uT i 2 x.2 y.2
def uV:aV×aV:=(tJ,tJ)
def fI (A B:bP) (k:Nat):List aB:=(List.range k).flatMap (fun(i:Nat)=>uU (i:Int) (A.getD i uV) (B.getD i uV))
def jy (q:Int):List aB→List aB
 | []=> []
 |m::t=>{m with seq:=q+1}::jy (q+1) t
def pN (A B:bP) (q:Int):List aB:=if A.length≠B.length then []else jy q (fI A B A.length)
theorem B7:∀(q:Int) (L:List aB),(jy q L).length=L.length
 |_,[]=>rfl
 |q,m::t=>by rw [jy,List.length_cons,List.length_cons,B7]
theorem SQ:∀(q:Int) (L K:List aB),jy q (L++K)=jy q L++jy (q+L.length) K
 |q,[],K=>by simp [jy]
 |q,m::t,K=>by
  rw [List.cons_append,jy,jy,SQ,List.cons_append,List.length_cons];have:q+1+(t.length:Int)=q+((t.length+1:Nat):Int):=by omega
  rw [this]
theorem aaW (q:Int) (L:List aB) (m:aB):jy q (L++ [m])=jy q L++ [{m with seq:=q+L.length+1}]:=by
 rw [SQ];rfl
theorem Nv:∀{q:Int} {L:List aB} {k:Nat} {m:aB},(jy q L)[k]? =some m→∃m',L[k]? =some m'∧m={m' with seq:=q+1+k}
 |q,[],k,m,h=>by simp [jy]at h
 |q,x::t,0,m,h=>by
  simp only [jy,List.getElem?_cons_zero,Option.some.injEq]at h;exact⟨x,rfl,by rw [←h];simp⟩
 |q,x::t,k+1,m,h=>by
  simp only [jy,List.getElem?_cons_succ]at h;obtain⟨m',h1,h2⟩:=Nv h;refine⟨m',by rw [List.getElem?_cons_succ];exact h1,?_⟩;rw [h2]
  congr 1
  omega
theorem aaX {q:Int} {L:List aB} {m:aB} (h:m∈jy q L):∃m'∈L,∃s,q<s∧s≤q+L.length∧m={m' with seq:=s}:=by
 obtain⟨k,hk⟩:=List.mem_iff_getElem?.1 h
 have hl:k<L.length:=by
  rw [←B7 q L];rcases Nat.lt_or_ge k (jy q L).length with h1|h1
  ·exact h1
  ·rw [List.getElem?_eq_none h1]at hk;cases hk
 obtain⟨m',h1,h2⟩:=Nv hk;exact⟨m',List.mem_of_getElem? h1,_,by omega,by omega,h2⟩
theorem aaY (side:Int) (l:List ax) (b:ax):(qQ side l b).length≤l.length+1:=by
 unfold qQ;split
 ·exact Nat.le_succ _
 ·simp only [List.length_append,List.length_take,List.length_drop,List.length_cons,List.length_nil];omega
theorem aaZ {side:Int} {l:List ax} {a b:ax} (h:a∈l):a∈qQ side l b:=by
 unfold qQ;split
 ·exact h
 ·rw [←List.take_append_drop (xU side l b) l]at h
  rcases List.mem_append.1 h with h|h
  ·simp [h]
  ·simp [h]
theorem aa0 (side:Int) (l:List ax) (b:ax):∃a∈qQ side l b,a.ag=b.ag:=by
 unfold qQ;split
 ·rename_i h
  unfold B6 at h;split at h
  ·rename_i a ha
   exact⟨a,List.mem_of_getElem? ha,by simpa using h⟩
  ·cases h
 ·exact⟨b,by simp,rfl⟩
theorem aa1 {side:Int} {l:List ax} {a b:ax} (h:a∈qQ side l b):a∈l∨a=b:=by
 unfold qQ at h;split at h
 ·exact .inl h
 ·rcases List.mem_append.1 h with h|h
  ·rcases List.mem_append.1 h with h|h
   ·exact .inl (List.mem_of_mem_take h)
   ·exact .inr (List.mem_singleton.1 h)
  ·exact .inl (List.mem_of_mem_drop h)
theorem SR:∀(side:Int) (y x:List ax),(qR side x y).length≤x.length+y.length
 |_,[],x=>Nat.le_refl _
 |side,b::t,x=>by
  have h1:=SR side t (qQ side x b);have h2:=aaY side x b;rw [List.length_cons];show(qR side (qQ side x b) t).length≤_;omega
theorem Nw:∀{side:Int} {y x:List ax} {a:ax},a∈x→a∈qR side x y
 |_,[],_,_,h=>h
 |_,b::t,_,_,h=>Nw (y:=t) (aaZ (b:=b) h)
theorem SS:∀{side:Int} {y x:List ax} {b:ax},b∈y→∃a∈qR side x y,a.ag=b.ag
 |_,[],_,_,h=>by simp at h
 |side,c::t,x,b,h=>by
  rcases List.mem_cons.1 h with rfl|h
  ·obtain⟨a,h1,h2⟩:=aa0 side x b
   exact⟨a,Nw (y:=t) h1,h2⟩
  ·exact SS (y:=t) (x:=qQ side x c) h
theorem SU:∀{side:Int} {y x:List ax} {a:ax},a∈qR side x y→a∈x∨a∈y
 |_,[],_,_,h=> .inl h
 |side,b::t,x,a,h=>by
  rcases SU (y:=t) (x:=qQ side x b) h with h|h
  ·rcases aa1 h with h|h
   ·exact .inl h
   ·exact .inr (by simp [h])
  ·exact .inr (List.mem_cons_of_mem _ h)
theorem SV (q:Int):eR [] q=⟨q,0,0⟩:=rfl
theorem oo (x:ax) (t:List ax) (q:Int):eR (x::t) q=if x.ag=q then x else eR t q:=by
 unfold eR;rw [List.find?_cons];by_cases h:x.ag=q
 ·rw [if_pos h,show(x.ag==q)=true by simpa using h]
 ·rw [if_neg h,show(x.ag==q)=false by simpa using h]
theorem aa2 (l:List ax) (q:Int):(eR l q).ag=q:=by
 induction l with
 |nil=>rfl
 |cons x t ih=>
  rw [oo];split
  ·assumption
  ·exact ih
theorem AA {l:List ax} {q:Int} (h:∀a∈l,a.ag≠q):eR l q=⟨q,0,0⟩:=by
 induction l with
 |nil=>rfl
 |cons x t ih=>
  rw [oo,if_neg (h x (List.mem_cons_self ..)),ih (fun a ha=>h a (List.mem_cons_of_mem _ ha))]
theorem Nx (l:List ax) (q:Int):eR l q=⟨q,0,0⟩∨eR l q∈l:=by
 induction l with
 |nil=>exact .inl rfl
 |cons x t ih=>
  rw [oo];split
  ·exact .inr (List.mem_cons_self ..)
  ·rcases ih with h|h
   ·exact .inl h
   ·exact .inr (List.mem_cons_of_mem _ h)
def Pos (l:List ax):Prop:=∀a∈l,1≤a.ah∧1≤a.count
theorem aa3 {l:List ax} (h:Pos l) {q:Int} (hz:¬0<(eR l q).ah):eR l q=⟨q,0,0⟩:=by
 rcases Nx l q with h1|h1
 ·exact h1
 ·have:=(h _ h1).1
  omega
theorem SW {m:aB} (hq:0≤m.ah):∀{l:List ax} (_:kp m.side l) (q:Int),eR (jz m l) q=if q=m.ag then(if 0<m.ah then m.lv else⟨q,0,0⟩)else eR l q
 | [],_,q=>by
   unfold jz;by_cases h:0<m.ah
   ·rw [if_pos h,oo,if_pos h]
    by_cases h2:q=m.ag
    ·rw [if_pos h2,if_pos (show m.lv.ag=q from h2.symm)]
    ·rw [if_neg h2,if_neg (show¬m.lv.ag=q from fun e=>h2 e.symm)]
   ·rw [if_neg h,if_neg h]
    split
    ·rfl
    ·rfl
 |x::t,hs,q=>by
  have hst:kp m.side t:=(List.pairwise_cons.1 hs).2;unfold jz;by_cases hx:x.ag=m.ag
  ·rw [if_pos hx]
   have hn:=Ny hs (.inl hx);by_cases h0:m.ah=0
   ·rw [if_pos h0,if_neg (show¬0<m.ah by omega),oo]
    by_cases h2:q=m.ag
    ·rw [if_pos h2,h2,AA hn]
    ·rw [if_neg h2,if_neg (by rw [hx];exact fun e=>h2 e.symm)]
   ·rw [if_neg h0,if_pos (show 0<m.ah by omega),oo,oo]
    by_cases h2:q=m.ag
    ·rw [if_pos h2,if_pos (show m.lv.ag=q from h2.symm)]
    ·rw [if_neg h2,if_neg (show¬m.lv.ag=q from fun e=>h2 e.symm),if_neg (by rw [hx];exact fun e=>h2 e.symm)]
  ·rw [if_neg hx]
   by_cases hb:cV m.side m.ag x.ag=true
   ·rw [if_pos hb]
    have hn:=Ny hs (.inr hb);by_cases h0:0<m.ah
    ·rw [if_pos h0,if_pos h0,oo]
     by_cases h2:q=m.ag
     ·rw [if_pos h2,if_pos (show m.lv.ag=q from h2.symm)]
     ·rw [if_neg h2,if_neg (show¬m.lv.ag=q from fun e=>h2 e.symm)]
    ·rw [if_neg h0,if_neg h0]
     by_cases h2:q=m.ag
     ·rw [if_pos h2,oo,if_neg (by rw [h2];exact hx),h2,AA hn]
     ·rw [if_neg h2]
   ·rw [if_neg hb,oo,oo,SW hq hst q]
    by_cases h2:q=m.ag
    ·rw [if_pos h2,if_neg (by rw [h2];exact hx),if_pos h2]
    ·rw [if_neg h2,if_neg h2]
theorem SX {m:aB} (hq:0≤m.ah) (hc:0<m.ah→1≤m.count):∀{l:List ax},Pos l→Pos (jz m l)
 | [],_=>by
   unfold jz;split
   ·rename_i h
    intro a ha;rw [List.mem_singleton]at ha;subst ha;exact⟨h,hc h⟩
   ·intro a ha;cases ha
 |x::t,hp=>by
  have ht:Pos t:=fun a ha=>hp a (List.mem_cons_of_mem _ ha)
  have hm:∀{k:List ax},Pos k→0<m.ah→Pos (m.lv::k):=fun hk h a ha=>by
   rcases List.mem_cons.1 ha with rfl|ha
   ·exact⟨h,hc h⟩
   ·exact hk a ha
  unfold jz;split
  ·split
   ·exact ht
   ·exact hm ht (by omega)
  ·split
   ·split
    ·rename_i h;exact hm hp h
    ·exact hp
   ·intro a ha
    rcases List.mem_cons.1 ha with rfl|ha
    ·exact hp _ (List.mem_cons_self ..)
    ·exact SX hq hc ht a ha
theorem SY {side:Int}:∀{l k:List ax},kp side l→kp side k→Pos l→Pos k→(∀q,eR l q=eR k q)→l=k
 | [],[],_,_,_,_,_=>rfl
 | [],b::k,_,_,_,hp,h=>by
   have h1:=h b.ag;rw [SV,oo,if_pos rfl]at h1;have:=(hp b (List.mem_cons_self ..)).1;rw [←h1]at this;exact absurd this (by show¬(1:Int)≤0;omega)
 |a::l,[],_,_,hp,_,h=>by
  have h1:=h a.ag;rw [SV,oo,if_pos rfl]at h1;have:=(hp a (List.mem_cons_self ..)).1;rw [h1]at this;exact absurd this (by show¬(1:Int)≤0;omega)
 |a::l,b::k,hl,hk,hp,hr,h=>by
  have B8:=List.pairwise_cons.1 hl;have Nz:=List.pairwise_cons.1 hk
  have nb:∀{x:ax} {y:ax} {t:List ax},cV side x.ag y.ag=true→(∀z∈t,cV side y.ag z.ag=true)→∀z∈y::t,z.ag≠x.ag:=fun hxy aa4 z hz=>by
   rcases List.mem_cons.1 hz with rfl|hz
   ·exact fun e=>Ej hxy e.symm
   ·exact fun e=>Ej (Ek hxy (aa4 z hz)) e.symm
  have aa5:a.ag=b.ag:=by
   refine Decidable.byContradiction fun hne=>?_;cases hb:cV side a.ag b.ag with
   |true=>
    have h1:=h a.ag;rw [oo,if_pos rfl,AA (nb hb Nz.1)]at h1;have:=(hp a (List.mem_cons_self ..)).1;rw [h1]at this;exact absurd this (by show¬(1:Int)≤0;omega)
   |false=>
    have hb2:cV side b.ag a.ag=true:=by
     rw [SZ side b.ag a.ag (Ne.symm hne),hb];rfl
    have h1:=h b.ag;rw [oo (x:=b),if_pos rfl,AA (nb hb2 B8.1)]at h1;have:=(hr b (List.mem_cons_self ..)).1;rw [←h1]at this;exact absurd this (by show¬(1:Int)≤0;omega)
  have hab:a=b:=by
   have h1:=h a.ag
   rwa [oo,if_pos rfl,oo,if_pos aa5.symm]at h1
  subst hab
  congr 1
  refine SY B8.2 Nz.2 (fun x hx=>hp x (List.mem_cons_of_mem _ hx)) (fun x hx=>hr x (List.mem_cons_of_mem _ hx)) fun q=>?_;by_cases hq:a.ag=q
  ·rw [AA (fun z hz e=>Ej (B8.1 z hz) (hq.trans e.symm)),AA (fun z hz e=>Ej (Nz.1 z hz) (hq.trans e.symm))]
  ·have h1:=h q
   rwa [oo,if_neg hq,oo,if_neg hq]at h1
structure uW (side:Int) (x:aV):Prop where
 oq:kp side x.lv
 pos:Pos x.lv
 no:x.has=false→x.im=oP
 yes:x.has=true→1≤x.im.ah∧1≤x.im.count
def AB (V:bP):Prop:=∀p∈V,uW 1 p.1∧uW 2 p.2
theorem S0 (side:Int):uW side tJ:=⟨List.Pairwise.nil,fun a ha=>(by cases ha),fun _=>rfl,fun h=>(by cases h)⟩
theorem S1 {i side:Int} {x y:List ax}:∀(K:List ax) (s:aV),(K.flatMap (ji i side x y)).foldl (fun s m=>s.app m) s=⟨(K.flatMap (ji i side x y)).foldl (fun l m=>jz m l) s.lv,s.im,s.has⟩
 | [],_=>rfl
 |a::K,s=>by
  rw [List.flatMap_cons,List.foldl_append,List.foldl_append,S1];unfold ji;split
  ·simp only [List.foldl_cons,List.foldl_nil]
   unfold aV.app;rw [if_neg (by unfold mM;simp)]
  ·rfl
theorem S2 {i side:Int} {x y:List ax} (hy:Pos y):∀(K:List ax) (D:List Int) (l:List ax),kp side l→Pos l→(∀q,eR l q=if q∈D then eR y q else eR x q)→
 kp side ((K.flatMap (ji i side x y)).foldl (fun l m=>jz m l) l)∧Pos ((K.flatMap (ji i side x y)).foldl (fun l m=>jz m l) l)∧∀q,eR ((K.flatMap (ji i side x y)).foldl (fun l m=>jz m l) l) q=if q∈D∨q∈K.map ax.ag then eR y q else eR x q
 | [],D,l,h1,h2,h3=>⟨h1,h2,fun q=>by simpa using h3 q⟩
 |a::K,D,l,h1,h2,h3=>by
  rw [List.flatMap_cons,List.foldl_append]
  have key:kp side ((ji i side x y a).foldl (fun l m=>jz m l) l)∧Pos ((ji i side x y a).foldl (fun l m=>jz m l) l)∧∀q,eR ((ji i side x y a).foldl (fun l m=>jz m l) l) q=if q∈a.ag::D then eR y q else eR x q:=by
   unfold ji;split
   ·rename_i hne
    simp only [List.foldl_cons,List.foldl_nil]
    have mG:0≤(eR y a.ag).ah∧(0<(eR y a.ag).ah→1≤(eR y a.ag).count):=by
     rcases Nx y a.ag with h|h
     ·rw [h];exact⟨Int.le_refl 0,fun h=>by simp at h⟩
     ·have:=hy _ h
      exact⟨by omega,fun _=>this.2⟩
    refine⟨NA (m:=mM i side (eR y a.ag) false) h1,SX (m:=mM i side (eR y a.ag) false) mG.1 mG.2 h2,fun q=>?_⟩;rw [SW (m:=mM i side (eR y a.ag) false) mG.1 h1 q];rw [show(mM i side (eR y a.ag) false).ag=a.ag from aa2 _ _];by_cases hq:q=a.ag
    ·subst hq
     rw [if_pos rfl,if_pos (List.mem_cons_self ..)];by_cases hz:0<(eR y a.ag).ah
     ·rw [if_pos (show 0<(mM i side (eR y a.ag) false).ah from hz)];rfl
     ·rw [if_neg (show¬0<(mM i side (eR y a.ag) false).ah from hz),aa3 hy hz]
    ·rw [if_neg hq,h3 q]
     simp only [List.mem_cons,hq,false_or]
   ·rename_i he
    have he:eR x a.ag=eR y a.ag:=Decidable.not_not.1 he;refine⟨h1,h2,fun q=>?_⟩;rw [List.foldl_nil,h3 q];by_cases hq:q=a.ag
    ·rw [hq,if_pos (List.mem_cons_self ..)]
     split
     ·rfl
     ·exact he
    ·simp only [List.mem_cons,hq,false_or]
  obtain⟨k1,k2,e7⟩:=key;obtain⟨r1,r2,fV⟩:=S2 (i:=i) hy K (a.ag::D) _ k1 k2 e7;refine⟨r1,r2,fun q=>?_⟩;rw [fV q]
  have:(q∈a.ag::D∨q∈K.map ax.ag)↔(q∈D∨q∈(a::K).map ax.ag):=by
   simp only [List.mem_cons,List.map_cons];exact⟨fun h=>by rcases h with(h|h)|h<;>simp [h],fun h=>by rcases h with h|h|h<;>simp [h]⟩
  simp only [this]
theorem aa6 {i side:Int} {x y:List ax} (hx:kp side x) (ct:Pos x) (hy:kp side y) (tK:Pos y):(tI i side x y).foldl (fun l m=>jz m l) x=y:=by
 obtain⟨h1,h2,h3⟩:=S2 (i:=i) tK (qR side x y) [] x hx ct (fun q=>(by rw [if_neg (by simp)]:eR x q=if q∈([]:List Int)then eR y q else eR x q));refine SY h1 hy h2 tK fun q=>?_;unfold tI;rw [h3 q];split
 ·rfl
 ·rename_i hn
  have hn:q ∉ (qR side x y).map ax.ag:=fun h=>hn (.inr h);have aa7:∀a∈x,a.ag≠q:=fun a ha e=>hn (List.mem_map.2 ⟨a,Nw ha,e⟩)
  have aa8:∀a∈y,a.ag≠q:=fun a ha e=>by
   obtain⟨b,hb,he⟩:=SS (side:=side) (x:=x) ha;exact hn (List.mem_map.2 ⟨b,hb,he.trans e⟩)
  rw [AA aa7,AA aa8]
theorem S3 {i side:Int} {x y:aV} (hx:uW side x) (hy:uW side y):(uT i side x y).foldl (fun s m=>s.app m) x=y:=by
 unfold uT;rw [List.foldl_append]
 have h1:(tI i side x.lv y.lv).foldl (fun s m=>s.app m) x=⟨y.lv,x.im,x.has⟩:=by
  have:=aa6 (i:=i) hx.oq hx.pos hy.oq hy.pos;unfold tI at*;rw [S1,this]
 rw [h1];obtain⟨aid,⟨fJ,fK,iy⟩,S4⟩:=y;unfold Az;dsimp only;split
 ·simp only [List.foldl_cons,List.foldl_nil]
  unfold aV.app mM aB.lv;dsimp only;rw [if_pos rfl];cases S4 with
  |true=>
   have:=(hy.yes rfl).1;dsimp only at this;rw [if_pos (by omega)]
  |false=>
   have hz:=hy.no rfl;unfold oP at hz;simp only [ax.mk.injEq]at hz;rw [if_neg (by omega),hz.1,hz.2.1,hz.2.2];rfl
 ·rename_i hn
  have e1:x.has=S4:=Decidable.not_not.1 fun h=>hn (.inl h);have e2:x.im=⟨fJ,fK,iy⟩:=Decidable.not_not.1 fun h=>hn (.inr h);rw [List.foldl_nil,e1,e2]
theorem GD {i side:Int} {x y:aV} {m:aB} (h:m∈uT i side x y):(m.inst=i∧m.side=side)∧∃l b,m=mM i side l b∧((b=false∧(l∈y.lv∨∃a,(a∈x.lv∨a∈y.lv)∧l=⟨a.ag,0,0⟩))∨(b=true∧l=y.im)):=by
 unfold uT at h;rcases List.mem_append.1 h with h|h
 ·obtain⟨a,h1,h2⟩:=List.mem_flatMap.1 h
  unfold ji at h2;split at h2
  ·rw [List.mem_singleton]at h2
   refine⟨by rw [h2];exact⟨rfl,rfl⟩,eR y.lv a.ag,false,h2,.inl ⟨rfl,?_⟩⟩;rcases Nx y.lv a.ag with h3|h3
   ·exact .inr ⟨a,SU h1,h3⟩
   ·exact .inl h3
  ·cases h2
 ·unfold Az at h
  split at h
  ·rw [List.mem_singleton]at h
   exact⟨by rw [h];exact⟨rfl,rfl⟩,y.im,true,h,.inr ⟨rfl,rfl⟩⟩
  ·cases h
theorem Kn (i side:Int) (x y:aV):(uT i side x y).length≤x.lv.length+y.lv.length+1:=by
 unfold uT tI;rw [List.length_append]
 have h1:∀K:List ax,(K.flatMap (ji i side x.lv y.lv)).length≤K.length:=by
  intro K
  induction K with
  |nil=>simp
  |cons a K ih=>
   rw [List.flatMap_cons,List.length_append,List.length_cons];have:(ji i side x.lv y.lv a).length≤1:=by unfold ji;split<;>simp
   omega
 have h2:=h1 (qR side x.lv y.lv);have h3:=SR side y.lv x.lv;have h4:(Az i side x y).length≤1:=by unfold Az;split<;>simp
 omega
theorem S5:∀(L:List aB) (p:aV×aV),(∀m∈L,m.side=1)→L.foldl (fun p m=>tu m p) p=(L.foldl (fun s m=>s.app m) p.1,p.2)
 | [],_,_=>rfl
 |m::t,p,h=>by
  rw [List.foldl_cons,S5 t _ (fun x hx=>h x (List.mem_cons_of_mem _ hx)),List.foldl_cons];have hm:=h m (List.mem_cons_self ..);unfold tu;rw [if_pos hm]
theorem S6:∀(L:List aB) (p:aV×aV),(∀m∈L,m.side=2)→L.foldl (fun p m=>tu m p) p=(p.1,L.foldl (fun s m=>s.app m) p.2)
 | [],_,_=>rfl
 |m::t,p,h=>by
  rw [List.foldl_cons,S6 t _ (fun x hx=>h x (List.mem_cons_of_mem _ hx)),List.foldl_cons];have hm:=h m (List.mem_cons_self ..);unfold tu;rw [if_neg (by omega)]
theorem aa9 {i:Int} {x y:aV×aV} (h1:uW 1 x.1) (h2:uW 2 x.2) (k1:uW 1 y.1) (k2:uW 2 y.2):(uU i x y).foldl (fun p m=>tu m p) x=y:=by
 unfold uU;rw [List.foldl_append,S5 _ _ (fun m hm=>(GD hm).1.2),S6 _ _ (fun m hm=>(GD hm).1.2),S3 h1 k1,S3 h2 k2]
theorem S7 {i:Nat}:∀(L:List aB) (V:bP),(∀m∈L,m.inst=(i:Int))→L.foldl (fun V m=>fO m V) V=V.modify i (fun p=>L.foldl (fun p m=>tu m p) p)
 | [],V,_=>by
   simp only [List.foldl_nil];refine List.ext_getElem? fun j=>?_;rw [List.getElem?_modify];split
   ·cases V[j]? <;>rfl
   ·cases V[j]? <;>rfl
 |m::t,V,h=>by
  rw [List.foldl_cons,S7 t _ (fun x hx=>h x (List.mem_cons_of_mem _ hx))];have hm:=h m (List.mem_cons_self ..);unfold fO;rw [hm,Int.toNat_natCast];refine List.ext_getElem? fun j=>?_;simp only [List.getElem?_modify];cases V[j]? with
  |none=>rfl
  |some p=>
   simp only [Option.map_eq_map,Option.map_some];split<;>rfl
theorem abb {i:Int} {x y:aV×aV} {m:aB} (h:m∈uU i x y):m.inst=i:=by
 unfold uU at h;rcases List.mem_append.1 h with h|h
 ·exact(GD h).1.1
 ·exact(GD h).1.1
theorem El {A:bP} {k:Nat} (h:k<A.length):A.getD k uV∈A∧A[k]? =some (A.getD k uV):=by
 rw [List.getD_eq_getElem?_getD,List.getElem?_eq_getElem h];exact⟨List.getElem_mem h,rfl⟩
theorem S8 {A B:bP} (hl:A.length=B.length) (ha:AB A) (hb:AB B):∀k,k≤A.length→(fI A B k).foldl (fun V m=>fO m V) A=B.take k++A.drop k
 |0,_=>by simp [fI]
 |k+1,hk=>by
  have ih:=S8 hl ha hb k (by omega)
  have e:fI A B (k+1)=fI A B k++uU (k:Int) (A.getD k uV) (B.getD k uV):=by
   unfold fI;rw [List.range_succ,List.flatMap_append];simp
  obtain⟨a1,a2⟩:=El (A:=A) (k:=k) (by omega);obtain⟨b1,b2⟩:=El (A:=B) (k:=k) (by omega);rw [e,List.foldl_append,ih,S7 (i:=k) _ _ (fun m hm=>abb hm)];have hp:=aa9 (i:=(k:Int)) (ha _ a1).1 (ha _ a1).2 (hb _ b1).1 (hb _ b1).2;refine List.ext_getElem? fun j=>?_;rw [List.getElem?_modify];have hlk:(B.take k).length=k:=by rw [List.length_take];omega
  have abd:(B.take (k+1)).length=k+1:=by rw [List.length_take];omega
  rcases Nat.lt_trichotomy j k with h|h|h
  ·rw [List.getElem?_append_left (by omega),List.getElem?_append_left (by omega),List.getElem?_take_of_lt h,List.getElem?_take_of_lt (by omega)]
   have hne:¬k=j:=by omega
   simp only [if_neg hne];cases B[j]? <;>rfl
  ·subst h
   rw [List.getElem?_append_right (by omega),List.getElem?_append_left (by omega),hlk,List.getElem?_drop,List.getElem?_take_of_lt (by omega),b2];rw [show j+(j-j)=j by omega,a2];simp only [Option.map_eq_map,Option.map_some,if_true,hp]
  ·rw [List.getElem?_append_right (by omega),List.getElem?_append_right (by omega),hlk,abd,List.getElem?_drop,List.getElem?_drop]
   have hne:¬k=j:=by omega
   simp only [if_neg hne];rw [show k+(j-k)=j by omega,show k+1+(j-(k+1))=j by omega];cases A[j]? <;>rfl
theorem S9 (m:aB) (s:Int):∀l:List ax,jz {m with seq:=s} l=jz m l
 | []=>rfl
 |x::t=>by
  unfold jz;rw [S9 m s t];rfl
theorem abe (m:aB) (s:Int) (V:bP):fO {m with seq:=s} V=fO m V:=by
 unfold fO
 have:tu {m with seq:=s}=tu m:=by
  funext p
  unfold tu aV.app;simp only [S9];rfl
 rw [this]
theorem Ta:∀(q:Int) (L:List aB) (V:bP),(jy q L).foldl (fun V m=>fO m V) V=L.foldl (fun V m=>fO m V) V
 |_,[],_=>rfl
 |q,m::t,V=>by rw [jy,List.foldl_cons,List.foldl_cons,Ta,abe]
theorem abf {A B:bP} (hl:A.length=B.length) (ha:AB A) (hb:AB B) (q:Int):(pN A B q).foldl (fun V m=>fO m V) A=B:=by
 unfold pN;rw [if_neg (by rw [hl];simp),Ta,S8 hl ha hb _ (Nat.le_refl _)];rw [List.drop_length,List.append_nil,hl,List.take_length]
def B9 (V:bP):Prop:=∀p∈V,((∀l∈p.1.lv,eD l.ag∧eD l.ah∧eD l.count)∧eD p.1.im.ag∧eD p.1.im.ah∧eD p.1.im.count)∧((∀l∈p.2.lv,eD l.ag∧eD l.ah∧eD l.count)∧eD p.2.im.ag∧eD p.2.im.ah∧eD p.2.im.count)
theorem abg {side:Int} {x:aV} (h:uW side x):(x.im.ah=0∧x.im.count=0)∨(1≤x.im.ah∧1≤x.im.count):=by
 cases hh:x.has with
 |false=>rw [h.no hh];exact .inl ⟨rfl,rfl⟩
 |true=>exact .inr (h.yes hh)
theorem Tb {i:Nat} {n:Nat} {side:Int} {x y:aV} {m:aB} (hi:i<n) (hn:n≤255) (hs:side=1∨side=2) (hy:uW side y)
 (cY:∀l∈x.lv,eD l.ag) (vT:∀l∈y.lv,eD l.ag∧eD l.ah∧eD l.count) (bi:eD y.im.ag∧eD y.im.ah∧eD y.im.count) (h:m∈uT (i:Int) side x y) (s:Int) (hq:eD s):yP n {m with seq:=s}∧({m with seq:=s}:aB).Em:=by
 obtain⟨_,l,b,rfl,hb⟩:=GD h;have hz:eD 0:=by unfold eD;omega
 have key:(0≤l.ah∧0≤l.count∧(l.ah=0↔l.count=0))∧eD l.ag∧eD l.ah∧eD l.count:=by
  rcases hb with⟨_,hb|⟨a,ha,rfl⟩⟩|⟨_,rfl⟩
  ·have h1:=hy.pos l hb
   exact⟨by omega,vT l hb⟩
  ·refine⟨by simp,?_,hz,hz⟩
   rcases ha with ha|ha
   ·exact cY a ha
   ·exact(vT a ha).1
  ·refine⟨?_,bi⟩
   rcases abg hy with h1|h1<;>omega
 unfold mM;exact⟨⟨by dsimp only;omega,by dsimp only;omega,hs,key.1.1,key.1.2.1,key.1.2.2⟩,⟨hq,by dsimp only;omega,key.2.1,key.2.2.1,key.2.2.2⟩⟩
theorem Tc {A B:bP} {q:Int} (hn:A.length≤255) (hl:A.length=B.length) (hb:AB B) (ba:B9 A) (bb:B9 B) {m:aB} (h:m∈pN A B q) (hq:0≤q) (hq2:q+(pN A B q).length≤9223372036854775807):yP A.length m∧m.Em∧q<m.seq∧m.seq≤q+(pN A B q).length:=by
 unfold pN at*;rw [if_neg (by rw [hl];simp)]at*;rw [B7]at*;obtain⟨m',h1,s,h2,h3,rfl⟩:=aaX h;unfold fI at h1;obtain⟨i,hi,h4⟩:=List.mem_flatMap.1 h1;have hi:i<A.length:=List.mem_range.1 hi;have a1:=(El (A:=A) (k:=i) hi).1;have b1:=(El (A:=B) (k:=i) (by omega)).1;have hs:eD s:=by unfold eD;omega
 have hok:yP A.length {m' with seq:=s}∧({m' with seq:=s}:aB).Em:=by
  unfold uU at h4;rcases List.mem_append.1 h4 with h4|h4
  ·exact Tb hi hn (.inl rfl) (hb _ b1).1 (fun l hl=>((ba _ a1).1.1 l hl).1) (bb _ b1).1.1 (bb _ b1).1.2 h4 s hs
  ·exact Tb hi hn (.inr rfl) (hb _ b1).2 (fun l hl=>((ba _ a1).2.1 l hl).1) (bb _ b1).2.1 (bb _ b1).2.2 h4 s hs
 exact⟨hok.1,hok.2,h2,h3⟩
theorem abh {A B:bP} {q:Int} {k:Nat} {m:aB} (h:(pN A B q)[k]? =some m):m.seq=q+1+k:=by
 unfold pN at h;split at h
 ·simp at h
 ·obtain⟨m',_,h2⟩:=Nv h
  rw [h2]
theorem NB {A B:bP} {K:Nat} (hA:g7 A K) (hB:g7 B K) (hl:A.length=B.length):∀k,k≤A.length→(fI A B k).length≤k*(4*K+2)
 |0,_=>by simp [fI]
 |k+1,hk=>by
  have ih:=NB hA hB hl k (by omega)
  have e:fI A B (k+1)=fI A B k++uU (k:Int) (A.getD k uV) (B.getD k uV):=by
   unfold fI;rw [List.range_succ,List.flatMap_append];simp
  have a1:=(El (A:=A) (k:=k) (by omega)).1;have b1:=(El (A:=B) (k:=k) (by omega)).1;have hA:=hA _ a1;have hB:=hB _ b1;have h1:=Kn (k:Int) 1 (A.getD k uV).1 (B.getD k uV).1;have h2:=Kn (k:Int) 2 (A.getD k uV).2 (B.getD k uV).2;rw [e,List.length_append];unfold uU;rw [List.length_append,Nat.succ_mul];omega
theorem Td {A B:bP} {K:Nat} (hA:g7 A K) (hB:g7 B K) (q:Int):(pN A B q).length≤A.length*(4*K+2):=by
 unfold pN;split
 ·exact Nat.zero_le _
 ·rename_i h
  rw [B7];exact NB hA hB (Decidable.not_not.1 h) _ (Nat.le_refl _)
theorem ZF:∀(k:Nat) (n:Int),0≤n→n<256^k→leZ (lu n k)=n
 |0,n,h0,h1=>by rw [Int.pow_zero]at h1;rw [lu,ahT];omega
 |k+1,n,h0,h1=>by
  rw [Int.pow_succ]at h1;have:=ZF k (n / 256) (by omega) (by omega);rw [lu,leZ,this];omega
def uM (z:Int):List Int:=lu (z % 18446744073709551616) 8
theorem ZG (z:Int):(uM z).length=8:=yY _ 8
theorem MW (z:Int):∀x∈uM z,isByte x:=ZH _ 8
theorem ZI (l t:List Int):(⟨l++t,false⟩:cg).take l.length=(l,⟨t,false⟩):=by
 unfold cg.take;rw [if_neg (by simp)];simp
theorem MX {z:Int} (h:eD z) (t:List Int):(⟨uM z++t,false⟩:cg).long=(z,⟨t,false⟩):=by
 have h1:=ZI (uM z) t;rw [ZG]at h1;unfold cg.long cg.num;rw [h1];have h3:(256:Int)^8=18446744073709551616:=by decide
 have h2:leZ (uM z)=z % 18446744073709551616:=ZF 8 _ (by omega) (by rw [h3];omega);show(IntKind.i64.wrap (leZ (uM z)),(⟨t,false⟩:cg))=_;rw [h2]
 congr 1
 rw [IntKind.wrap_i64];unfold eD at h;omega
theorem RY (x:Int) (t:List Int):(⟨x::t,false⟩:cg).num 1=(x,⟨t,false⟩):=by
 have h1:=ZI [x] t;rw [List.length_singleton]at h1;unfold cg.num;rw [show x::t= [x]++t from rfl,h1]
 congr 1
 show x+256*0=x;omega
def j6 (m:aB):List Int:=uM m.seq++(m.inst % 256::m.side % 256::(uM m.ag++(uM m.ah++(uM m.count++ [if m.imp=true then 1 else 0]))))
theorem Ly (m:aB):(j6 m).length=35:=by
 unfold j6;simp only [List.length_append,List.length_cons,ZG,List.length_nil]
theorem C4 (m:aB):∀x∈j6 m,isByte x:=by
 intro x hx;unfold j6 at hx;simp only [List.mem_append,List.mem_cons,List.not_mem_nil,or_false]at hx;rcases hx with h|h|h|h|h|h|h
 ·exact MW _ x h
 ·unfold isByte;omega
 ·unfold isByte;omega
 ·exact MW _ x h
 ·exact MW _ x h
 ·exact MW _ x h
 ·rw [h];unfold isByte;split<;>omega
theorem Lw {m:aB} (ho:m.Em) (hs:m.side=1∨m.side=2):ol (j6 m)=some m:=by
 obtain⟨q,i,d,p,t,c,im⟩:=m;obtain⟨h1,h2,h3,h4,h5⟩:=ho;dsimp only at h1 h2 h3 h4 h5 hs;have e2:i % 256=i:=by omega
 have bE:d % 256=d:=by omega
 have hr:=SD (MX h1 (i % 256::d % 256::(uM p++(uM t++(uM c++ [if im=true then 1 else 0]))))) (RY _ _) (RY _ _) (MX h3 _) (MX h4 _) (MX h5 _) (RY _ []);have:=SE (b:=j6 ⟨q,i,d,p,t,c,im⟩) hr;rw [this];unfold Au;rw [e2,bE];rw [if_neg]
 ·cases im<;>rfl
 ·rintro(h|h|h)
  ·simp at h
  ·cases im<;>simp at h
  ·exact h hs
def ZJ (l:ax):Prop:=eD l.ag∧eD l.ah∧eD l.count
def ZK (x:aV):Prop:=(∀l∈x.lv,ZJ l)∧ZJ x.im
def adr (V:bP):Prop:=∀p∈V,ZK p.1∧ZK p.2
end Go.Proofs.YtmaijkoopjocdaaGreat
