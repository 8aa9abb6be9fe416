import Derived.Test.YtmaijkoopjocdaaGreatKT24
set_option maxRecDepth 100000
set_option maxHeartbeats 64000000
namespace Go.Proofs.YtmaijkoopjocdaaGreat
open Go.RowKit
theorem adW {s x y:Int} (h:cV s x y=true):cV s y x=false:=by
 cases hc:cV s y x with
 |false=>rfl
 |true=>
  have:=Ek h hc;rw [Wi]at this;cases this
theorem Wj {s x y:Int} (h:cV s x y=false) (hne:x≠y):cV s y x=true:=by
 unfold cV at*;split at h<;>rename_i hs
 ·rw [if_pos hs]
  simp only [decide_eq_true_eq,decide_eq_false_iff_not]at*;omega
 ·rw [if_neg hs]
  simp only [decide_eq_true_eq,decide_eq_false_iff_not]at*;omega
theorem Dg (side:Int) (o:ay):(lf side o).side=o.side∧(lf side o).ag=o.ag∧(lf side o).id=o.id∧(lf side o).ah=o.ah:=by
 unfold lf;split<;>exact⟨rfl,rfl,rfl,rfl⟩
theorem adX {L:List ay} {id side ag ah:Int} (hs:side=1∨side=2) (hq:1≤ah∧ah≤1000000) (hid:∀o∈L,o.id≠id) (hl:L.length<250):
 lW L id side ag ah=((if lV L side ag=true then L.map (lf side)else L).take (m5 L side ag)++ [⟨id,side,ag,ah,lV L side ag⟩]++(if lV L side ag=true then L.map (lf side)else L).drop (m5 L side ag),0):=by
 have hf:(L.find? (fun o=>o.id==id)).isSome=false:=by
  rw [Bool.eq_false_iff,ne_eq,List.find?_isSome];rintro⟨o,ho,he⟩;exact hid o ho (by simpa using he)
 unfold lW;rw [if_neg (by rw [adV hs];simp),if_neg (by omega),if_neg (by rw [hf];simp),if_neg (by omega)]
theorem adY {L:List ay} {id side ag ah:Int} {o:ay} {k:Nat} {b:Bool} (ho:o∈(if b=true then L.map (lf side)else L).take k++ [⟨id,side,ag,ah,b⟩]++(if b=true then L.map (lf side)else L).drop k):o=⟨id,side,ag,ah,b⟩∨∃o'∈L,o=if b=true then lf side o' else o':=by
 have h1:o=⟨id,side,ag,ah,b⟩∨o∈(if b=true then L.map (lf side)else L):=by
  rcases List.mem_append.1 ho with h|h
  ·rcases List.mem_append.1 h with h|h
   ·exact .inr (List.mem_of_mem_take h)
   ·exact .inl (List.mem_singleton.1 h)
  ·exact .inr (List.mem_of_mem_drop h)
 rcases h1 with h|h
 ·exact .inl h
 ·refine .inr ?_
  cases b with
  |true=>
   rw [if_pos rfl]at h;obtain⟨o',h2,h3⟩:=List.mem_map.1 h;exact⟨o',h2,by rw [if_pos rfl];exact h3.symm⟩
  |false=>
   rw [if_neg (by simp)]at h;exact⟨o,h,by rw [if_neg (by simp)]⟩
theorem Wk {L:List ay} {x:ay} {side:Int} {k:Nat} {b:Bool}:((if b=true then L.map (lf side)else L).take k++ [x]++(if b=true then L.map (lf side)else L).drop k).length=L.length+1:=by
 have hl:(if b=true then L.map (lf side)else L).length=L.length:=by
  split
  ·exact List.length_map _
  ·rfl
 rw [List.length_append,List.length_append,List.length_take,List.length_drop,hl];simp only [List.length_cons,List.length_nil];omega
theorem VK (L:List ay) (id ah:Int):(oz L id ah).1.length≤L.length:=by
 unfold oz;split
 ·exact Nat.le_refl _
 ·split
  ·exact Nat.le_refl _
  ·split
   ·exact List.length_filter_le ..
   ·simp
def yq (x y:ay):Prop:=x.side<y.side∨(x.side=y.side∧cV x.side y.ag x.ag=false)
theorem adZ {side ag:Int} {x y:ay} (h:yq x y) (hx:lM side ag x=false):lM side ag y=false:=by
 unfold lM at*;simp only [Bool.or_eq_false_iff,decide_eq_false_iff_not,Bool.and_eq_false_iff,Bool.not_eq_false']at hx⊢;obtain⟨h1,h2⟩:=hx;rcases h with h3|⟨h3,h4⟩
 ·exact⟨by omega,.inl (by omega)⟩
 ·refine⟨by omega,?_⟩
  by_cases hc:y.side=side
  ·refine .inr ?_
   rcases h2 with h2|h2
   ·omega
   ·rw [h3,hc]at h4
    by_cases he:y.ag=x.ag
    ·rw [he];exact h2
    ·exact Ek h2 (Wj h4 he)
  ·exact .inl hc
theorem ad0 {L:List ay} (h:L.Pairwise yq) (side ag:Int):(∀o∈L.take (m5 L side ag),lM side ag o=true)∧∀o∈L.drop (m5 L side ag),lM side ag o=false:=by
 have ad1:∀P D:List ay,P++D=L→L.take P.length=P∧L.drop P.length=D:=by
  rintro P D rfl;exact⟨List.take_left,List.drop_left⟩
 obtain⟨e1,e2⟩:=ad1 _ _ (List.takeWhile_append_dropWhile (p:=lM side ag) (l:=L));unfold m5;rw [e1,e2];refine⟨fun o ho=>?_,fun o ho=>?_⟩
 ·have:=List.all_takeWhile (p:=lM side ag) (l:=L)
  rw [List.all_eq_true]at this;exact this o ho
 ·cases hd:L.dropWhile (lM side ag)with
  |nil=>rw [hd]at ho;simp at ho
  |cons y D=>
   have hy:lM side ag y=false:=by
    have h2:=List.head?_dropWhile_not (p:=lM side ag) (l:=L);rw [hd]at h2
    simpa using h2
   rw [hd]at ho
   have hs:(y::D).Pairwise yq:=by
    rw [←hd];exact h.sublist (List.dropWhile_sublist _)
   rcases List.mem_cons.1 ho with rfl|h3
   ·exact hy
   ·exact adZ ((List.pairwise_cons.1 hs).1 o h3) hy
structure jm (L:List ay):Prop where
 len:L.length≤250
 nd:(L.map ay.id).Nodup
 each:∀o∈L,(1≤o.ah∧o.ah≤1000000)∧(o.side=1∨o.side=2)∧-2000000≤o.ag∧o.ag≤2000000
 oq:L.Pairwise yq
theorem jm.nil:jm []:=⟨by decide,List.nodup_nil,fun o h=>by simp at h,List.Pairwise.nil⟩
theorem jm.ah {L:List ay} (h:jm L):∀o∈L,1≤o.ah∧o.ah≤1000000:=fun o ho=>(h.each o ho).1
theorem ad2 {L:List ay} {id:Int} {o:ay} (h:L.find? (fun o=>o.id==id)=some o):o∈L∧o.id=id:=
 ⟨List.mem_of_find?_eq_some h,by simpa using List.find?_some h⟩
theorem jm.fill {L:List ay} (h:jm L) (id ah:Int):jm (oz L id ah).1:=by
 cases hf:L.find? (fun o=>o.id==id)with
 |none=>rw [Wh hf];exact h
 |some o=>
  rw [LQ hf];obtain⟨ho,hid⟩:=ad2 hf;split
  ·exact h
  ·rename_i hq
   split
   ·exact⟨Nat.le_trans (List.length_filter_le ..) h.len,h.nd.sublist ((List.filter_sublist ..).map _),fun x hx=>h.each x (List.mem_filter.1 hx).1,h.oq.sublist (List.filter_sublist ..)⟩
   ·rename_i hne
    have hm:∀x∈L,x.id=id→x=o:=fun x hx he=>by
     obtain⟨i,hi,rfl⟩:=List.getElem_of_mem hx;obtain⟨j,hj,rfl⟩:=List.getElem_of_mem ho;have:i=j:=(List.getElem_inj (h₀:=by rw [List.length_map];exact hi) (h₁:=by rw [List.length_map];exact hj) h.nd).1 (by rw [List.getElem_map,List.getElem_map,he,hid]);subst this;rfl
    refine⟨by rw [List.length_map];exact h.len,?_,fun x hx=>?_,?_⟩
    ·dsimp only
     rw [List.map_map,show((fun x:ay=>x.id)∘fun x=>if x.id=id then {x with ah:=x.ah-ah}else x)=ay.id from funext fun x=>by show(if x.id=id then {x with ah:=x.ah-ah}else x).id=x.id;split<;>rfl];exact h.nd
    ·obtain⟨y,hy,rfl⟩:=List.mem_map.1 hx
     have he:=h.each y hy;split
     ·rename_i ad3
      have LR:=hm y hy ad3;subst LR;dsimp only;exact⟨by omega,he.2⟩
     ·exact he
    ·dsimp only
     rw [List.pairwise_map];refine h.oq.imp fun {x y} hxy=>?_;unfold yq at*;split<;>split<;>exact hxy
theorem jm.add {L:List ay} (h:jm L) (id side ag ah:Int) (hp: -2000000≤ag∧ag≤2000000):jm (lW L id side ag ah).1:=by
 cases hb:yp side with
 |false=>unfold lW;rw [if_pos hb];exact h
 |true=>
  have hs:side=1∨side=2:=by unfold yp at hb;simpa using hb
  by_cases hq:ah<1∨1000000<ah
  ·unfold lW;rw [if_neg (by rw [hb];simp),if_pos hq];exact h
  ·by_cases ht:(L.find? (fun o=>o.id==id)).isSome=true
   ·unfold lW;rw [if_neg (by rw [hb];simp),if_neg hq,if_pos ht];exact h
   ·by_cases hl:250≤L.length
    ·unfold lW;rw [if_neg (by rw [hb];simp),if_neg hq,if_neg ht,if_pos hl];exact h
    ·have hid:∀o∈L,o.id≠id:=fun o ho he=>ht (List.find?_isSome.2 ⟨o,ho,by simpa using he⟩)
     rw [adX hs (by omega) hid (by omega)];obtain⟨p1,p2⟩:=ad0 h.oq side ag
     have vo:∃f:ay→ay,(if lV L side ag=true then L.map (lf side)else L)=L.map f∧∀o,(f o).side=o.side∧(f o).ag=o.ag∧(f o).id=o.id∧(f o).ah=o.ah:=by
      split
      ·exact⟨lf side,rfl,fun o=>⟨(Dg side o).1,(Dg side o).2.1,(Dg side o).2.2.1,(Dg side o).2.2.2⟩⟩
      ·exact⟨fun o=>o,by simp,fun o=>⟨rfl,rfl,rfl,rfl⟩⟩
     refine⟨?_,?_,?_,?_⟩
     ·rw [Wk];omega
     ·dsimp only
      obtain⟨f,hf,hk⟩:=vo;rw [hf,←List.map_take,←List.map_drop,List.map_append,List.map_append,List.map_map,List.map_map,show ay.id∘f=ay.id from funext fun o=>(hk o).2.2.1];have Dh:L.take (m5 L side ag)++L.drop (m5 L side ag)=L:=List.take_append_drop _ _;have hn:=h.nd;rw [←Dh,List.map_append,List.nodup_append]at hn;rw [List.append_assoc,List.nodup_append];refine⟨hn.1,?_,?_⟩
      ·rw [List.nodup_append]
       refine⟨by simp,hn.2.1,fun a ha b hb2=>?_⟩;simp only [List.map_cons,List.map_nil,List.mem_singleton]at ha;subst ha;obtain⟨o,ho,rfl⟩:=List.mem_map.1 hb2;exact fun e=>hid o (List.mem_of_mem_drop ho) e.symm
      ·intro a ha b hb2
       rcases List.mem_append.1 hb2 with h3|h3
       ·simp only [List.map_cons,List.map_nil,List.mem_singleton]at h3
        subst h3;obtain⟨o,ho,rfl⟩:=List.mem_map.1 ha;exact hid o (List.mem_of_mem_take ho)
       ·exact hn.2.2 a ha b h3
     ·intro o ho
      rcases adY ho with rfl|⟨o',ho',rfl⟩
      ·exact⟨by dsimp only;omega,hs,hp⟩
      ·have:=h.each o' ho'
       split
       ·rw [(Dg side o').1,(Dg side o').2.1,(Dg side o').2.2.2];exact this
       ·exact this
     ·dsimp only
      obtain⟨f,hf,hk⟩:=vo;rw [hf,←List.map_take,←List.map_drop];have Dh:L.take (m5 L side ag)++L.drop (m5 L side ag)=L:=List.take_append_drop _ _;have hp:=h.oq;rw [←Dh,List.pairwise_append]at hp
      have PK:∀x y,yq x y→yq (f x) (f y):=fun x y hxy=>by
       unfold yq;rw [(hk x).1,(hk x).2.1,(hk y).1,(hk y).2.1];exact hxy
      rw [List.append_assoc,List.pairwise_append,List.pairwise_append,List.pairwise_map,List.pairwise_map];refine⟨hp.1.imp (fun h=>PK _ _ h),⟨List.pairwise_singleton _ _,hp.2.1.imp (fun h=>PK _ _ h),?_⟩,?_⟩
      ·intro x hx y hy
       rw [List.mem_singleton]at hx;subst hx;obtain⟨y0,hy0,rfl⟩:=List.mem_map.1 hy;have:=p2 y0 hy0;unfold lM at this;simp only [Bool.or_eq_false_iff,decide_eq_false_iff_not,Bool.and_eq_false_iff,Bool.not_eq_false']at this;unfold yq;rw [(hk y0).1,(hk y0).2.1];dsimp only;by_cases hc:y0.side=side
       ·rcases this.2 with h4|h4
        ·exact absurd hc h4
        ·exact .inr ⟨hc.symm,adW h4⟩
       ·exact .inl (by omega)
      ·intro x hx y hy
       obtain⟨x0,hx0,rfl⟩:=List.mem_map.1 hx;rcases List.mem_append.1 hy with h1|h1
       ·rw [List.mem_singleton]at h1
        subst h1;have:=p1 x0 hx0;unfold lM at this;simp only [Bool.or_eq_true,decide_eq_true_eq,Bool.and_eq_true,Bool.not_eq_true']at this;unfold yq;rw [(hk x0).1,(hk x0).2.1];dsimp only;rcases this with h4|⟨h4,h5⟩
        ·exact .inl h4
        ·exact .inr ⟨h4,by rw [h4];exact h5⟩
       ·obtain⟨y0,hy0,rfl⟩:=List.mem_map.1 h1
        exact PK _ _ (hp.2.2 x0 hx0 y0 hy0)
theorem jm.adn {L:List ay} (id side ag ah:Int):(lW L id side ag ah).1.length≤L.length+1:=by
 unfold lW;split
 ·exact Nat.le_succ _
 ·split
  ·exact Nat.le_succ _
  ·split
   ·exact Nat.le_succ _
   ·split
    ·exact Nat.le_succ _
    ·rw [Wk];exact Nat.le_refl _
theorem PL (o:ay) (x:ax) (t:List ax):oH o (x::t)=if x.ag=o.ag then⟨o.ag,o.ah+x.ah,1+x.count⟩::t else⟨o.ag,o.ah,1⟩::x::t:=rfl
theorem ad4 {o:ay} {M:List ax} {l:ax} (h:l∈oH o M):l.ag=o.ag∨l∈M:=by
 cases M with
 |nil=>
  simp only [oH,List.mem_singleton]at h;subst h;exact .inl rfl
 |cons x t=>
  rw [PL]at h;split at h
  ·rcases List.mem_cons.1 h with rfl|h2
   ·exact .inl rfl
   ·exact .inr (List.mem_cons_of_mem _ h2)
  ·rcases List.mem_cons.1 h with rfl|h2
   ·exact .inl rfl
   ·exact .inr h2
theorem PN:∀{M:List ay} {l:ax},l∈iO M→∃o∈M,l.ag=o.ag
 | [],l,h=>by simp [iO]at h
 |o::t,l,h=>by
  rcases ad4 (M:=iO t) h with h1|h1
  ·exact⟨o,List.mem_cons_self ..,h1⟩
  ·obtain⟨o',h2,h3⟩:=PN h1
   exact⟨o',List.mem_cons_of_mem _ h2,h3⟩
theorem Wl:∀{M:List ay},(∀o∈M,1≤o.ah)→∀l∈iO M,1≤l.ah∧1≤l.count
 | [],_,l,h=>by simp [iO]at h
 |o::t,hq,l,h=>by
  have ih:=Wl (M:=t) fun x hx=>hq x (List.mem_cons_of_mem _ hx);have ho:=hq o (List.mem_cons_self ..);have h:l∈oH o (iO t):=h;cases hg:iO t with
  |nil=>
   rw [hg]at h;simp only [oH,List.mem_singleton]at h;subst h;exact⟨ho,by dsimp only;omega⟩
  |cons x u=>
   rw [hg]at h ih;have hx:=ih x (List.mem_cons_self ..);rw [PL]at h;split at h
   ·rcases List.mem_cons.1 h with rfl|h2
    ·dsimp only;omega
    ·exact ih l (List.mem_cons_of_mem _ h2)
   ·rcases List.mem_cons.1 h with rfl|h2
    ·dsimp only;omega
    ·exact ih l h2
theorem Wm {s:Int}:∀{M:List ay},M.Pairwise (fun x y=>cV s y.ag x.ag=false)→kp s (iO M)
 | [],_=>List.Pairwise.nil
 |o::t,h=>by
  obtain⟨h1,h2⟩:=List.pairwise_cons.1 h;have ih:=Wm h2;show kp s (oH o (iO t));cases hg:iO t with
  |nil=>exact List.pairwise_singleton _ _
  |cons x u=>
   rw [hg]at ih;obtain⟨g1,g2⟩:=List.pairwise_cons.1 ih;rw [PL];split
   ·rename_i he
    refine List.pairwise_cons.2 ⟨fun y hy=>?_,g2⟩;dsimp only;rw [←he];exact g1 y hy
   ·rename_i he
    obtain⟨o',ho',hp⟩:=PN (M:=t) (l:=x) (by rw [hg];exact List.mem_cons_self ..)
    have hb:cV s o.ag x.ag=true:=by
     have:=h1 o' ho';rw [←hp]at this;exact Wj this he
    refine List.pairwise_cons.2 ⟨fun y hy=>?_,ih⟩;rcases List.mem_cons.1 hy with rfl|h3
    ·exact hb
    ·exact Ek hb (g1 y h3)
theorem jm.adq {L:List ay} (h:jm L) (s:Int):kp s (j9 L s):=by
 unfold j9;refine Wm ?_;unfold p6;rw [List.pairwise_filter];refine h.oq.imp fun {x y} hxy hx hy=>?_;simp only [decide_eq_true_eq]at hx hy;rcases hxy with h1|⟨_,h2⟩
 ·omega
 ·rw [hx]at h2;exact h2
theorem jm.VR {L:List ay} (h:jm L) (s:Int):∀l∈j9 L s,1≤l.ah∧1≤l.count:=
 Wl fun o ho=>(h.each o (List.mem_filter.1 ho).1).1.1
theorem jm.VT {L:List ay} (h:jm L) (s:Int):∀l∈j9 L s,-2000000≤l.ag∧l.ag≤2000000:=fun l hl=>by
 obtain⟨o,ho,he⟩:=PN hl;rw [he];exact(h.each o (List.mem_filter.1 ho).1).2.2
theorem PO (L:List ay) (s:Int):((ja L s)=(oP,false))∨∃l∈j9 L s,ja L s=(l,true):=by
 unfold ja;cases h:j9 L s with
 |nil=>exact .inl rfl
 |cons l t=>exact .inr ⟨l,List.mem_cons_self ..,rfl⟩
end Go.Proofs.YtmaijkoopjocdaaGreat
namespace Go.Proofs.YtmaijkoopjocdaaGreat
open Go.RowKit Go.Lib
section
variable {W w w':World} {ps pb:Nat} {p:Prod} {Q:List Nat} {S:List (List ay)} {L L':List ay}
theorem ek.push {wb au:World} {a:Option Addr} {c fp:Nat} {v':Value} (h:ek W w ps p Q S) (aP:aj w ps 129 (s6 p (.slice a Q.length c))) (hb:Below w.heap.size w wb) (hn:w.heap.size≤fp) (yV:gC W wb fp L)
 (hrow:Bx.Row wb W.heap.size (.slice a Q.length c) Q) (hr:Bx.Row au W.heap.size v' (Q++ [fp])) (hg:wb.grownBy au (Value.slice a Q.length c).ownBlock):
 ek W (au.setCell ⟨ps,11,none⟩ v') ps p (Q++ [fp]) (S++ [L])∧au.cell? ⟨ps,11,none⟩=some (.slice a Q.length c)∧au.frozen? ⟨ps,11,none⟩=false∧aj (au.setCell ⟨ps,11,none⟩ v') ps 129 (s6 p v'):=by
 have hk:=fe hg;have bI:∀g,(Value.slice a Q.length c).ownBlock=some g→bV wb g Bx.t:=dR hrow;have dO:=cx hrow;have Jv:=aP.below hb;have vC:=Jv.keeps hk (fun e=>(bI _ e).ne Jv.aC (by decide) rfl);have iJ:=bS au ps 11 v';have By:=vC.aQ 11 v'
 have hrb:∀{g:Nat} {K:List ay},gC W wb g K→gC W (au.setCell ⟨ps,11,none⟩ v') g K:=fun {g K} h1=>by
  have h5:=h1.keep hk (fun e=>(bI _ e).ne h1.aC (by decide) rfl) (fun g hg e=>(bI _ e).ne hg (by decide) rfl) dO;exact h5.keep iJ (fun e=>h5.aC.ne vC.aC (by decide) e) (fun g hg e=>hg.ne vC.aC (by decide) e) (fun g e=>by have e2:g=ps:=e;rw [e2];exact h.base)
 obtain⟨a',c',dl⟩:=hr.form;subst dl;have OZ:=((h.aF.trans (hb.mono h.aF.size)).trans (hk.below dO (Nat.le_trans h.aF.size hb.size))).setCell (p:=⟨ps,11,none⟩) h.base (.slice a' (Q++ [fp]).length c')
 have Yp:aj (au.setCell ⟨ps,11,none⟩ (.slice a' (Q++ [fp]).length c')) ps 129 (s6 p (.slice a' (Q++ [fp]).length c')):=by
  unfold s6 at By⊢;simp only [List.setIfInBounds_toArray,List.set_cons_zero,List.set_cons_succ]at By;exact By
 refine⟨⟨⟨a',c',?_,hr.keep iJ (fun g hg e=>hg.ne vC.aC (by decide) e)⟩,by rw [List.length_append,List.length_append,h.len];rfl,?_,fun i g K hq hs=>?_,h.pv,h.base,OZ⟩,vC.cell 11,vC.frozen 11,Yp⟩
 ·exact Yp
 ·rw [List.nodup_append]
  refine⟨h.nd,by simp,fun x hx y hy=>?_⟩;rw [List.mem_singleton]at hy;subst hy;rintro rfl;have:=(h.ow hx).1.lt;omega
 ·by_cases hi:i<Q.length
  ·rw [List.getElem?_append_left hi]at hq
   rw [List.getElem?_append_left (by rw [←h.len];exact hi)]at hs;exact hrb ((h.CL i g K hq hs).below hb)
  ·rw [List.getElem?_append_right (by omega)]at hq
   rw [List.getElem?_append_right (by rw [←h.len];omega),←h.len]at hs;have ya:i-Q.length=0:=by have:=dc hq;simp at this;omega
   rw [ya]at hq hs;injection hq with hq;injection hs with hs;subst hq;subst hs;exact hrb yV
theorem agK (h:gC W w pb L):
 Calls Tryz.prog 109 #[.pointer (some ⟨pb,0,none⟩)] w fun e w'=>∃fp,e= .returned (.pointer (some ⟨fp,0,none⟩))∧gC W w' fp L∧w.heap.size≤fp∧Below w.heap.size w w':=by
 obtain⟨a,c,hb,hr⟩:=h.box;have k0:w.cell? ⟨pb,0,none⟩=some (.slice a L.length c):=hb.cell 0;have H:=af h;have cM:=af hr;clear h hb hr;go_enter Tryz.func109,Tryz.ntmps109
 go_wp2_with fail
 go_ret;have hba:=Below.aA w (.cells #[.slice a L.length c] 181);exact⟨_,rfl,⟨⟨a,c,aj.new _ _ _,cM.out.below hba⟩,H.out.aF.size,H.out.aF.trans (hba.mono H.out.aF.size)⟩,Nat.le_refl _,hba⟩
theorem adU (p:Prod) (w:World) (hp:fZ w p):
 Calls Tryz.prog 57 #[p.agg] w fun e w'=>∃ps Q,e= .returned (.pointer (some ⟨ps,0,none⟩))∧ek w w' ps p Q (List.replicate (countP p).toNat []):=by
 obtain⟨n,hn,aju⟩:=afG p;have HN:=af hn;rw [hn,Int.toNat_natCast];have hz:∀(w:World) (o:Obj),(w.alloc o).heap.size=w.heap.size+1:=fun w o=>by simp
 have hb1:=Below.aA w (.cells p.cells 25);have hb2:=hb1.trans ((Below.aA (w.alloc (.cells p.cells 25)) (.cells (s6 p (.slice none 0 0)) 129)).mono hb1.size)
 have Bz:Hid (ek w ((w.alloc (.cells p.cells 25)).alloc (.cells (s6 p (.slice none 0 0)) 129)) (w.heap.size+1) p [] (List.replicate 0 [])):=af
  ⟨⟨none,0,by have:=aj.new (w.alloc (.cells p.cells 25)) 129 (s6 p (.slice none 0 0));rwa [hz]at this,aY.Row.nil _ _⟩,rfl,List.nodup_nil,fun i pb L h=>by simp at h,hp,by omega,hb2⟩
 have cv:Hid (aj ((w.alloc (.cells p.cells 25)).alloc (.cells (s6 p (.slice none 0 0)) 129)) w.heap.size 25 p.cells):=af ((aj.new w _ _).alloc _);have dy:=af hp;clear hz hb1 hb2 hp hn;unfold Prod.agg Prod.cells s6 at*;go_enter Tryz.func57,Tryz.ntmps57
 go_upto_region 2 with(fail)
 obtain⟨ps,hps⟩:∃g,w.heap.size+1=g:=⟨_,rfl⟩;rw [hps]at Bz⊢;obtain⟨aH,m4⟩:∃g,w.heap.size=g:=⟨_,rfl⟩;rw [m4]at cv;rw [show(Value.pointer (some ⟨w.heap.size,0,none⟩))= .pointer (some ⟨aH,0,none⟩)by rw [m4]];clear hps m4;generalize (w.alloc (.cells _ 25)).alloc (.cells _ 129)=w1 at*;go_wp2_with fail
 go_loopw [4] (fun i w'=>∃(k:Nat) (Q:List Nat),i= .int .i64 k∧k≤n∧ek w w' ps p Q (List.replicate k [])∧aj w' aH 25 p.cells) (fun i _=>n-(RowKit.intOf i).toNat)
 case atStart=>exact⟨0,[],rfl,Nat.zero_le _,Bz.out,cv.out⟩
 case round=>
  clear Bz cv;obtain⟨k,Q,rfl,hk,hS,hG⟩:=hrel;obtain⟨ak,rfl⟩:∃bk:World,bk=wr:=⟨_,rfl⟩;have qB:=af hS;have bY:=af hG;have F0:Q.length=k:=by rw [hS.len,List.length_replicate]
  have jh:=IL p ak (dy.out.below hS.aF);unfold Prod.agg Prod.cells at jh;rw [HN.out]at jh;have nr:=af jh;have s7:=af F0;clear hS jh F0;have b0:ak.cell? ⟨aH,0,none⟩=some (.string p.code):=hG.cell 0;have b1:ak.cell? ⟨aH,1,none⟩=some (.slice p.ma p.months.length p.mc):=hG.cell 1;have b2:ak.cell? ⟨aH,2,none⟩=some (.int .i64 p.tick):=hG.cell 2;have b3:ak.cell? ⟨aH,3,none⟩=some (.int .i64 p.low):=hG.cell 3;have b4:ak.cell? ⟨aH,4,none⟩=some (.int .i64 p.high):=hG.cell 4;have aW:ak.cell? ⟨aH,5,none⟩=some (.int .i64 p.wide):=hG.cell 5;have bp:ak.cell? ⟨aH,6,none⟩=some (.int .i64 p.rule):=hG.cell 6;have aX:ak.cell? ⟨aH,7,none⟩=some (.int .i64 p.top):=hG.cell 7;have bq:ak.cell? ⟨aH,8,none⟩=some (.int .i64 p.least):=hG.cell 8;have bt:ak.cell? ⟨aH,9,none⟩=some (.int .i64 p.part):=hG.cell 9;have bh:ak.cell? ⟨aH,10,none⟩=some (.slice p.sa p.settle.length p.sc):=hG.cell 10;clear hG;by_cases hlt:k<n
  ·have hlt':(k:Int)<(n:Int):=by omega
   go_wp2_with fail
   refine nr.out.mono ?_;rintro e w2 ⟨rfl,hb2⟩;have mI:=af (qB.out.below hb2);have ef:=af (bY.out.below hb2);obtain⟨a,c,aP,hrow⟩:=mI.out.box;rw [s7.out]at aP hrow;have dg:w2.cell? ⟨ps,11,none⟩=some (.slice a k c):=aP.cell 11;have hba:=Below.aA w2 (.cells #[.slice none 0 0] 181);have aJ:=hba.trans ((Below.aA (w2.alloc (.cells #[.slice none 0 0] 181)) (.cells #[.pointer (some ⟨w2.heap.size,0,none⟩)] 134)).mono hba.size);have hz:(w2.alloc (.cells #[.slice none 0 0] 181)).heap.size=w2.heap.size+1:=by simp
   have dN:Hid (aj ((w2.alloc (.cells #[.slice none 0 0] 181)).alloc (.cells #[.pointer (some ⟨w2.heap.size,0,none⟩)] 134)) (w2.heap.size+1) 134 (Ju w2.heap.size).toArray):=af (by
    have:=aj.new (w2.alloc (.cells #[.slice none 0 0] 181)) 134 #[.pointer (some ⟨w2.heap.size,0,none⟩)];rw [hz]at this;exact this)
   have wL:Hid (gC w ((w2.alloc (.cells #[.slice none 0 0] 181)).alloc (.cells #[.pointer (some ⟨w2.heap.size,0,none⟩)] 134)) w2.heap.size []):=af
    ⟨⟨none,0,(aj.new w2 _ _).alloc _,aY.Row.nil _ _⟩,mI.out.aF.size,mI.out.aF.trans (aJ.mono mI.out.aF.size)⟩
   have ec:=af (hrow.below aJ);have jf:=af aP;have bu:=af aJ;clear hb2 aP hrow hba aJ hz nr b0 b1 b2 b3 b4 aW bp aX bq bt bh qB bY
   go_wp2_with (first
    |(at_builtin;go_loud (refine Bx.push rfl (.tmp 18) (.tmp 21) rfl w.heap.size (.slice a k c) Q rfl ec.out (w2.heap.size+1) w2.heap.size rfl dN.out.lt dN.out.fU (by rw [s7.out];omega) (Nat.le_trans mI.out.aF.size bu.out.size) ?_)))
   intro v' au cS fW _;obtain⟨a5,cj,iA⟩:=cS.form;rw [List.length_append,List.length_singleton,s7.out]at iA;subst iA;have Jw:=mI.out.push (v':= .slice a5 (k+1) cj) (by rw [s7.out];exact jf.out) bu.out (Nat.le_refl _) wL.out (by rw [s7.out];exact ec.out) cS (by rw [s7.out];exact fW);rw [s7.out]at Jw;obtain⟨h1,kX,z5,_⟩:=Jw
   have Fm:Hid (ek w (au.setCell ⟨ps,11,none⟩ (.slice a5 (k+1) cj)) ps p (Q++ [w2.heap.size]) (List.replicate (k+1) [])):=af (by
    rw [List.replicate_succ'];exact h1)
   have H6:=((ef.out.below bu.out).keeps (fe fW) (fun e=>(dR ec.out _ e).ne (ef.out.below bu.out).aC (by decide) rfl)).keeps (bS au ps 11 (.slice a5 (k+1) cj)) (fun e=>(ef.out.aC).ne mI.out.aC (by decide) e);have sw:=af H6;clear h1 cS fW H6 dN wL ec jf bu mI ef dg;go_wp2_with fail
   go_roundw
   case rel=>exact⟨k+1,_,by go_num,hlt,Fm.out,sw.out⟩
   case measure=>simp [RowKit.intOf];omega
  ·have hkn:k=n:=by omega
   subst hkn;go_wp2_with fail
   refine nr.out.mono ?_;rintro e w2 ⟨rfl,hb2⟩;have mI:=af (qB.out.below hb2);clear hb2 nr b0 b1 b2 b3 b4 aW bp aX bq bt bh;go_wp2_with fail
   go_ret;exact⟨ps,Q,rfl,mI.out⟩
end
end Go.Proofs.YtmaijkoopjocdaaGreat
