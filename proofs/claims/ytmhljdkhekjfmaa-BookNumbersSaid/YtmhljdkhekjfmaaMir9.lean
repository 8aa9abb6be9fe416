/- Plain: a book turned about 0; two books in one world. -/
import Derived.Test.YtmhljdkhekjfmaaMG
namespace Go.Proofs.Ytmhljdkhekjfmaa
open Go.RowKit

def mir (o : Od) : Od := { o with side := 3 - o.side, price := -o.price }
def mirL (v : Lv) : Lv := { v with price := -v.price }
structure Mir (La Lb : List Od) : Prop where
  one : sideO Lb 2 = (sideO La 1).map mir
  two : sideO Lb 1 = (sideO La 2).map mir
  pr : ∀ o ∈ La, -4 ≤ o.price ∧ o.price ≤ 4
theorem Mir.nil : Mir [] [] := ⟨rfl, rfl, fun o ho => by simp at ho⟩
theorem Mir.side {La Lb : List Od} (h : Mir La Lb) {s : Int} (hs : s = 1 ∨ s = 2) : sideO Lb (3 - s) = (sideO La s).map mir := by
  rcases hs with rfl | rfl
  · exact h.one
  · exact h.two
theorem betterP_mir {s : Int} (hs : s = 1 ∨ s = 2) (x y : Int) : betterP (3 - s) (-x) (-y) = betterP s x y := by
  unfold betterP
  rcases hs with rfl | rfl
  · rw [if_neg (by omega), if_pos rfl]; exact decide_eq_decide.2 (by omega)
  · rw [if_pos (by omega), if_neg (by omega)]; exact decide_eq_decide.2 (by omega)
theorem addLv_mir (o : Od) (M : List Lv) : addLv (mir o) (M.map mirL) = (addLv o M).map mirL := by
  cases M with
  | nil => rfl
  | cons l M =>
    show (if (mirL l).price = (mir o).price then (⟨(mir o).price, (mir o).qty + (mirL l).qty, 1 + (mirL l).count⟩ : Lv) :: M.map mirL else ⟨(mir o).price, (mir o).qty, 1⟩ :: mirL l :: M.map mirL) = (if l.price = o.price then (⟨o.price, o.qty + l.qty, 1 + l.count⟩ : Lv) :: M else ⟨o.price, o.qty, 1⟩ :: l :: M).map mirL
    by_cases h : l.price = o.price
    · rw [if_pos h, if_pos (show (mirL l).price = (mir o).price by show -l.price = -o.price; rw [h])]
      rfl
    · rw [if_neg h, if_neg (show ¬ (mirL l).price = (mir o).price by show ¬ -l.price = -o.price; omega)]
      rfl
theorem grp_mir (L : List Od) : grp (L.map mir) = (grp L).map mirL := by
  induction L with
  | nil => rfl
  | cons o L ih =>
    show addLv (mir o) (grp (L.map mir)) = (addLv o (grp L)).map mirL
    rw [ih, addLv_mir]
theorem Mir.lad {La Lb : List Od} (h : Mir La Lb) {s : Int} (hs : s = 1 ∨ s = 2) : ladO Lb (3 - s) = (ladO La s).map mirL := by
  unfold ladO
  rw [h.side hs, grp_mir]
theorem at_side (L : List Od) (s p : Int) : atO L s p = (sideO L s).filter (fun o => decide (o.price = p)) := by
  unfold atO sideO
  rw [List.filter_filter]
  refine List.filter_congr fun o _ => ?_
  by_cases h1 : o.side = s <;> simp [h1]
theorem Mir.at_ {La Lb : List Od} (h : Mir La Lb) {s : Int} (hs : s = 1 ∨ s = 2) (p : Int) : atO Lb (3 - s) (-p) = (atO La s p).map mir := by
  rw [at_side, at_side, h.side hs, List.filter_map]
  congr 1
  refine List.filter_congr fun o _ => ?_
  show decide (-o.price = -p) = decide (o.price = p)
  exact decide_eq_decide.2 (by omega)
/-! ### an Add by sides -/
theorem refTop_side (L : List Od) (s p : Int) : refTop L s p = (sideO L s).all (fun o => betterP s p o.price) := by
  unfold refTop sideO
  rw [List.all_filter]
  congr 1
  funext o
  by_cases h : o.side = s <;> simp [h]
def insS (S : List Od) (f : Od → Od) (x : Od) (s p : Int) : List Od := (S.filter (fun o => !betterP s p o.price)).map f ++ [x] ++ (S.filter (fun o => betterP s p o.price)).map f
def topF (b : Bool) (s : Int) (o : Od) : Od := if b = true then untop s o else o
theorem topF_side (b : Bool) (s : Int) (o : Od) : (topF b s o).side = o.side := by
  unfold topF
  split
  · exact (untop_keeps s o).1
  · rfl
theorem sideO_append (A B : List Od) (s : Int) : sideO (A ++ B) s = sideO A s ++ sideO B s := List.filter_append ..
theorem sideO_map (A : List Od) (f : Od → Od) (hf : ∀ o, (f o).side = o.side) (s : Int) : sideO (A.map f) s = (sideO A s).map f := by
  unfold sideO
  rw [List.filter_map]
  congr 1
  refine List.filter_congr fun o _ => ?_
  show decide ((f o).side = s) = _
  rw [hf]
theorem add_list (L : List Od) (b : Bool) (s : Int) : (if b = true then L.map (untop s) else L) = L.map (topF b s) := by
  cases b with
  | true => rfl
  | false => exact (List.map_id' L).symm
theorem side_add {L : List Od} (h : L.Pairwise lePO) {s p : Int} (b : Bool) (x : Od) (hx : x.side = s) (t : Int) :
    sideO ((if b = true then L.map (untop s) else L).take (refPos L s p) ++ [x] ++ (if b = true then L.map (untop s) else L).drop (refPos L s p)) t = if t = s then insS (sideO L s) (topF b s) x s p else sideO L t := by
  obtain ⟨p1, p2⟩ := pos_after h s p
  have hsp : L.take (refPos L s p) ++ L.drop (refPos L s p) = L := List.take_append_drop _ _
  rw [add_list, ← List.map_take, ← List.map_drop, sideO_append, sideO_append, sideO_map _ _ (topF_side b s), sideO_map _ _ (topF_side b s)]
  by_cases ht : t = s
  · subst ht
    rw [if_pos rfl]
    have e1 : sideO (L.take (refPos L t p)) t = (sideO L t).filter (fun o => !betterP t p o.price) := by
      conv => rhs; rw [← hsp, sideO_append, List.filter_append]
      rw [(List.filter_eq_self (l := sideO (L.take (refPos L t p)) t)).2 fun o ho => ?_, (List.filter_eq_nil_iff (l := sideO (L.drop (refPos L t p)) t)).2 fun o ho => ?_, List.append_nil]
      · obtain ⟨h1, h2⟩ := List.mem_filter.1 ho
        have := p2 o h1
        unfold aheadO at this
        simp_all
      · obtain ⟨h1, h2⟩ := List.mem_filter.1 ho
        have := p1 o h1
        unfold aheadO at this
        simp_all
    have e2 : sideO (L.drop (refPos L t p)) t = (sideO L t).filter (fun o => betterP t p o.price) := by
      conv => rhs; rw [← hsp, sideO_append, List.filter_append]
      rw [(List.filter_eq_nil_iff (l := sideO (L.take (refPos L t p)) t)).2 fun o ho => ?_, (List.filter_eq_self (l := sideO (L.drop (refPos L t p)) t)).2 fun o ho => ?_, List.nil_append]
      · obtain ⟨h1, h2⟩ := List.mem_filter.1 ho
        have := p2 o h1
        unfold aheadO at this
        simp_all
      · obtain ⟨h1, h2⟩ := List.mem_filter.1 ho
        have := p1 o h1
        unfold aheadO at this
        simp_all
    rw [e1, e2]
    unfold insS
    have e3 : sideO [x] t = [x] := by
      unfold sideO
      simp [hx]
    rw [e3]
  · rw [if_neg ht]
    have e3 : sideO [x] t = [] := by
      unfold sideO
      simp [hx, Ne.symm ht]
    rw [e3, List.append_nil, ← List.map_append, ← sideO_append, hsp]
    conv => rhs; rw [← List.map_id' (sideO L t)]
    refine List.map_congr_left fun o ho => ?_
    have h1 : o.side = t := by simpa using (List.mem_filter.1 ho).2
    unfold topF untop
    split
    · rw [if_neg (by rw [h1]; exact ht)]
    · rfl
theorem topF_mir {s : Int} (b : Bool) (o : Od) : topF b (3 - s) (mir o) = mir (topF b s o) := by
  unfold topF
  split
  · unfold untop
    by_cases h : o.side = s
    · rw [if_pos h, if_pos (show (mir o).side = 3 - s by show 3 - o.side = 3 - s; omega)]
      rfl
    · rw [if_neg h, if_neg (show ¬ (mir o).side = 3 - s by show ¬ 3 - o.side = 3 - s; omega)]
  · rfl
theorem insS_mir {s : Int} (hs : s = 1 ∨ s = 2) (S : List Od) (b : Bool) (x : Od) (p : Int) : insS (S.map mir) (topF b (3 - s)) (mir x) (3 - s) (-p) = (insS S (topF b s) x s p).map mir := by
  unfold insS
  rw [List.map_append, List.map_append, List.filter_map, List.filter_map, List.map_map, List.map_map, List.map_map, List.map_map]
  congr 1
  · congr 1
    rw [List.filter_congr (q := fun o => !betterP s p o.price) fun o _ => by show (!betterP (3 - s) (-p) (-o.price)) = _; rw [betterP_mir hs]]
    exact List.map_congr_left fun o _ => topF_mir b o
  · rw [List.filter_congr (q := fun o => betterP s p o.price) fun o _ => by show betterP (3 - s) (-p) (-o.price) = _; rw [betterP_mir hs]]
    exact List.map_congr_left fun o _ => topF_mir b o
theorem Mir.top {La Lb : List Od} (h : Mir La Lb) {s : Int} (hs : s = 1 ∨ s = 2) (p : Int) : refTop Lb (3 - s) (-p) = refTop La s p := by
  rw [refTop_side, refTop_side, h.side hs, List.all_map]
  congr 1
  funext o
  exact betterP_mir hs p o.price
section
variable {La Lb : List Od}
theorem Mir.mem (h : Mir La Lb) (pa : La = sideO La 1 ++ sideO La 2) (pb : Lb = sideO Lb 1 ++ sideO Lb 2) (y : Od) : y ∈ Lb ↔ ∃ x ∈ La, y = mir x := by
  rw [pb, List.mem_append, h.one, h.two, List.mem_map, List.mem_map]
  constructor
  · rintro (⟨x, hx, rfl⟩ | ⟨x, hx, rfl⟩)
    · exact ⟨x, (List.mem_filter.1 hx).1, rfl⟩
    · exact ⟨x, (List.mem_filter.1 hx).1, rfl⟩
  · rintro ⟨x, hx, rfl⟩
    rw [pa, List.mem_append] at hx
    rcases hx with hx | hx
    · exact .inr ⟨x, hx, rfl⟩
    · exact .inl ⟨x, hx, rfl⟩
theorem Mir.len (h : Mir La Lb) (pa : La = sideO La 1 ++ sideO La 2) (pb : Lb = sideO Lb 1 ++ sideO Lb 2) : Lb.length = La.length := by
  have ea := congrArg List.length pa
  have eb := congrArg List.length pb
  rw [List.length_append] at ea eb
  rw [h.one, h.two, List.length_map, List.length_map] at eb
  omega
theorem nodup_inj {L : List Od} (h : (L.map Od.id).Nodup) {x y : Od} (hx : x ∈ L) (hy : y ∈ L) (he : x.id = y.id) : x = y := by
  induction L with
  | nil => simp at hx
  | cons z L ih =>
    rw [List.map_cons, List.nodup_cons] at h
    rcases List.mem_cons.1 hx with hx | hx
    · rcases List.mem_cons.1 hy with hy | hy
      · rw [hx, hy]
      · exact absurd (List.mem_map.2 ⟨y, hy, by rw [← hx]; exact he.symm⟩) h.1
    · rcases List.mem_cons.1 hy with hy | hy
      · exact absurd (List.mem_map.2 ⟨x, hx, by rw [← hy]; exact he⟩) h.1
      · exact ih h.2 hx hy
theorem Mir.find (h : Mir La Lb) (pa : La = sideO La 1 ++ sideO La 2) (pb : Lb = sideO Lb 1 ++ sideO Lb 2) (nb : (Lb.map Od.id).Nodup) (id : Int) : Lb.find? (fun o => o.id == id) = (La.find? (fun o => o.id == id)).map mir := by
  cases ha : La.find? (fun o => o.id == id) with
  | none =>
    rw [List.find?_eq_none] at ha
    show _ = none
    rw [List.find?_eq_none]
    intro y hy
    obtain ⟨x, hx, rfl⟩ := (h.mem pa pb y).1 hy
    exact ha x hx
  | some x =>
    have hx := List.mem_of_find?_eq_some ha
    have hxi : x.id = id := by simpa using List.find?_some ha
    have hy : mir x ∈ Lb := (h.mem pa pb _).2 ⟨x, hx, rfl⟩
    cases hb : Lb.find? (fun o => o.id == id) with
    | none =>
      rw [List.find?_eq_none] at hb
      exact absurd (show ((mir x).id == id) = true by show (x.id == id) = true; simpa using hxi) (hb _ hy)
    | some y =>
      have h1 := List.mem_of_find?_eq_some hb
      have h2 : y.id = id := by simpa using List.find?_some hb
      rw [nodup_inj nb h1 hy (h2.trans hxi.symm)]
      rfl
theorem Mir.add (h : Mir La Lb) (pa : La = sideO La 1 ++ sideO La 2) (pb : Lb = sideO Lb 1 ++ sideO Lb 2) (nb : (Lb.map Od.id).Nodup) (sa : La.Pairwise lePO) (sb : Lb.Pairwise lePO) {s : Int} (hs : s = 1 ∨ s = 2) (id : Int) {p : Int} (hp : -4 ≤ p ∧ p ≤ 4) (q : Int) :
    (refAdd Lb id (3 - s) (-p) q).2 = (refAdd La id s p q).2 ∧ Mir (refAdd La id s p q).1 (refAdd Lb id (3 - s) (-p) q).1 := by
  have b1 : isB s = true := by rcases hs with rfl | rfl <;> rfl
  have b2 : isB (3 - s) = true := by rcases hs with rfl | rfl <;> rfl
  unfold refAdd
  rw [b1, b2, if_neg (show ¬ (true = false) from by decide), if_neg (show ¬ (true = false) from by decide)]
  by_cases hq : q < 1 ∨ 1000000 < q
  · rw [if_pos hq, if_pos hq]; exact ⟨rfl, h⟩
  rw [if_neg hq, if_neg hq, h.find pa pb nb, Option.isSome_map]
  by_cases hf : (La.find? (fun o => o.id == id)).isSome = true
  · rw [if_pos hf, if_pos hf]; exact ⟨rfl, h⟩
  rw [if_neg hf, if_neg hf, h.len pa pb]
  by_cases hl : 250 ≤ La.length
  · rw [if_pos hl, if_pos hl]; exact ⟨rfl, h⟩
  rw [if_neg hl, if_neg hl, h.top hs]
  refine ⟨rfl, ?_⟩
  have hall : ∀ t : Int, (t = 1 ∨ t = 2) → sideO ((if refTop La s p = true then Lb.map (untop (3 - s)) else Lb).take (refPos Lb (3 - s) (-p)) ++ [⟨id, 3 - s, -p, q, refTop La s p⟩] ++ (if refTop La s p = true then Lb.map (untop (3 - s)) else Lb).drop (refPos Lb (3 - s) (-p))) (3 - t) =
      (sideO ((if refTop La s p = true then La.map (untop s) else La).take (refPos La s p) ++ [⟨id, s, p, q, refTop La s p⟩] ++ (if refTop La s p = true then La.map (untop s) else La).drop (refPos La s p)) t).map mir := by
    intro t ht
    rw [side_add sa (refTop La s p) ⟨id, s, p, q, refTop La s p⟩ rfl t, side_add sb (refTop La s p) ⟨id, 3 - s, -p, q, refTop La s p⟩ rfl (3 - t)]
    by_cases he : t = s
    · subst he
      rw [if_pos rfl, if_pos rfl, h.side ht]
      exact insS_mir ht _ _ ⟨id, t, p, q, refTop La t p⟩ p
    · rw [if_neg he, if_neg (show ¬ 3 - t = 3 - s by omega), h.side ht]
  refine ⟨hall 1 (.inl rfl), hall 2 (.inr rfl), fun o ho => ?_⟩
  rcases mem_add ho with rfl | ⟨o', ho', rfl⟩
  · exact hp
  · split
    · rw [(untop_keeps s o').2.1]; exact h.pr o' ho'
    · exact h.pr o' ho'
theorem Mir.fill (h : Mir La Lb) (pa : La = sideO La 1 ++ sideO La 2) (pb : Lb = sideO Lb 1 ++ sideO Lb 2) (nb : (Lb.map Od.id).Nodup) (id q : Int) :
    (refFill Lb id q).2 = (refFill La id q).2 ∧ Mir (refFill La id q).1 (refFill Lb id q).1 := by
  have hpr : ∀ o ∈ (refFill La id q).1, -4 ≤ o.price ∧ o.price ≤ 4 := by
    intro o ho
    obtain ⟨o', h1, h2 | h2⟩ := mem_fill ho
    · rw [h2]; exact h.pr o' h1
    · rw [h2]; exact h.pr o' h1
  have hfb := h.find pa pb nb id
  cases ha : La.find? (fun o => o.id == id) with
  | none =>
    rw [ha] at hfb
    rw [refFill_none ha, refFill_none hfb]
    exact ⟨rfl, h⟩
  | some x =>
    rw [ha] at hfb
    rw [refFill_some ha] at hpr ⊢
    rw [refFill_some hfb]
    show _ ∧ _
    rw [show (mir x).qty = x.qty from rfl]
    by_cases h1 : q < 1 ∨ x.qty < q
    · rw [if_pos h1, if_pos h1]; exact ⟨rfl, h⟩
    rw [if_neg h1] at hpr ⊢
    rw [if_neg h1]
    by_cases h2 : x.qty = q
    · rw [if_pos h2] at hpr ⊢
      rw [if_pos h2]
      have hall : ∀ t : Int, (t = 1 ∨ t = 2) → sideO (Lb.filter (fun y => decide (y.id ≠ id))) (3 - t) = (sideO (La.filter (fun y => decide (y.id ≠ id))) t).map mir := by
        intro t ht
        have hc : ∀ (L : List Od) (u : Int), sideO (L.filter (fun y => decide (y.id ≠ id))) u = (sideO L u).filter (fun y => decide (y.id ≠ id)) := by
          intro L u
          unfold sideO
          rw [List.filter_filter, List.filter_filter]
          exact List.filter_congr fun o _ => Bool.and_comm ..
        rw [hc, hc, h.side ht, List.filter_map]
        rfl
      exact ⟨rfl, hall 1 (.inl rfl), hall 2 (.inr rfl), hpr⟩
    · rw [if_neg h2] at hpr ⊢
      rw [if_neg h2]
      have hall : ∀ t : Int, (t = 1 ∨ t = 2) → sideO (Lb.map (fun y => if y.id = id then { y with qty := y.qty - q } else y)) (3 - t) = (sideO (La.map (fun y => if y.id = id then { y with qty := y.qty - q } else y)) t).map mir := by
        intro t ht
        have hk : ∀ o : Od, ((fun y : Od => if y.id = id then { y with qty := y.qty - q } else y) o).side = o.side := fun o => by dsimp only; split <;> rfl
        rw [sideO_map _ _ hk, sideO_map _ _ hk, h.side ht, List.map_map, List.map_map]
        refine List.map_congr_left fun o _ => ?_
        show (if o.id = id then _ else _) = mir (if o.id = id then _ else _)
        by_cases ho : o.id = id
        · rw [if_pos ho, if_pos ho]; rfl
        · rw [if_neg ho, if_neg ho]
      exact ⟨rfl, hall 1 (.inl rfl), hall 2 (.inr rfl), hpr⟩
theorem mem_grp {l : List Od} {v : Lv} (h : v ∈ grp l) : ∃ o ∈ l, v.price = o.price := by
  induction l generalizing v with
  | nil => simp [grp] at h
  | cons o l ih =>
    have h' : v ∈ addLv o (grp l) := h
    cases hg : grp l with
    | nil =>
      rw [hg] at h'
      simp only [addLv, List.mem_singleton] at h'
      exact ⟨o, List.mem_cons_self .., by rw [h']⟩
    | cons z zs =>
      rw [hg] at h' ih
      simp only [addLv] at h'
      split at h'
      · rcases List.mem_cons.1 h' with rfl | h2
        · exact ⟨o, List.mem_cons_self .., rfl⟩
        · obtain ⟨x, hx, he⟩ := ih (List.mem_cons_of_mem _ h2)
          exact ⟨x, List.mem_cons_of_mem _ hx, he⟩
      · rcases List.mem_cons.1 h' with rfl | h2
        · exact ⟨o, List.mem_cons_self .., rfl⟩
        · obtain ⟨x, hx, he⟩ := ih h2
          exact ⟨x, List.mem_cons_of_mem _ hx, he⟩
theorem Mir.price (h : Mir La Lb) {s : Int} {v : Lv} (hv : v ∈ ladO La s) : -4 ≤ v.price ∧ v.price ≤ 4 := by
  obtain ⟨o, ho, he⟩ := mem_grp hv
  rw [he]
  exact h.pr o (List.mem_filter.1 ho).1
end
/-! ### two books -/
def OB2 (W w : World) (pa pb : Nat) (La Lb : List Od) : Prop := ∃ da db, BL w pa W.heap.size da La ∧ BL w pb W.heap.size db Lb ∧ (∀ g, BF pa da g → W.heap.size ≤ g) ∧ (∀ g, BF pb db g → W.heap.size ≤ g) ∧ (∀ g, BF pa da g → ¬ BF pb db g) ∧ Below W.heap.size W w
section
variable {W w w' : World} {pa pb : Nat} {La Lb : List Od}
theorem OB2.swap (h : OB2 W w pa pb La Lb) : OB2 W w pb pa Lb La := by
  obtain ⟨da, db, h1, h2, h3, h4, h5, h6⟩ := h
  exact ⟨db, da, h2, h1, h4, h3, fun g hg hg' => h5 g hg' hg, h6⟩
theorem OB2.a (h : OB2 W w pa pb La Lb) : OB W w pa La := by
  obtain ⟨da, db, h1, h2, h3, h4, h5, h6⟩ := h
  exact ⟨da, h1, h3, h6⟩
theorem OB2.b (h : OB2 W w pa pb La Lb) : OB W w pb Lb := h.swap.a
theorem OB2.bel (h : OB2 W w pa pb La Lb) : Below W.heap.size W w := h.a.bel
theorem OB2.below (h : OB2 W w pa pb La Lb) (hb : Below w.heap.size w w') : OB2 W w' pa pb La Lb := by
  obtain ⟨da, db, h1, h2, h3, h4, h5, h6⟩ := h
  exact ⟨da, db, h1.below hb, h2.below hb, h3, h4, h5, h6.trans (hb.mono h6.size)⟩
theorem ob2_new (h : OB W w pa La) :
    Calls Try.prog 10 #[] w fun e w' => ∃ pb, e = .returned (.pointer (some ⟨pb, 0, none⟩)) ∧ OB2 W w' pa pb La [] := by
  obtain ⟨da, h1, h3, h6⟩ := h
  refine (bl_new w W.heap.size).mono ?_
  rintro e w' ⟨pb, d, rfl, g1, g2, g3⟩
  refine ⟨pb, rfl, da, d, h1.below g3, g1, h3, fun g hg => Nat.le_trans h6.size (g2 g hg), fun g hg hg' => ?_, h6.trans (g3.mono h6.size)⟩
  have := h1.bk.lt g hg
  have := g2 g hg'
  omega
theorem OB2.turn {da db d' : BD} {L' : List Od} (h2 : BL w pb W.heap.size db Lb) (h3 : ∀ g, BF pa da g → W.heap.size ≤ g) (h4 : ∀ g, BF pb db g → W.heap.size ≤ g) (h5 : ∀ g, BF pa da g → ¬ BF pb db g) (h6 : Below W.heap.size W w) (ht : Tn w w' pa W.heap.size da d') (h' : BL w' pa W.heap.size d' L') : OB2 W w' pa pb L' Lb := by
  refine ⟨d', db, h', h2.keep ht.kp fun g hg hg' => h5 g hg' hg, fun g hg => ?_, h4, fun g hg hg' => ?_, h6.trans (ht.kp.below h3 h6.size)⟩
  · rcases ht.fp g hg with h1 | h1
    · exact h3 g h1
    · exact Nat.le_trans h6.size h1
  · rcases ht.fp g hg with h1 | h1
    · exact h5 g h1 hg'
    · have := h2.bk.lt g hg'
      omega
theorem ob2_add (h : OB2 W w pa pb La Lb) (id side price qty : Int) :
    Calls Try.prog 13 #[.pointer (some ⟨pa, 0, none⟩), .int .i64 id, .int .i64 side, .int .i64 price, .int .i64 qty] w fun e w' => e = .returned (.int .i64 (refAdd La id side price qty).2) ∧ OB2 W w' pa pb (refAdd La id side price qty).1 Lb := by
  obtain ⟨da, db, h1, h2, h3, h4, h5, h6⟩ := h
  exact (bl_add h1 h6.size id side price qty).mono fun _ _ ⟨e1, d', ht, h'⟩ => ⟨e1, OB2.turn h2 h3 h4 h5 h6 ht h'⟩
theorem ob2_fill (h : OB2 W w pa pb La Lb) (id qty : Int) :
    Calls Try.prog 14 #[.pointer (some ⟨pa, 0, none⟩), .int .i64 id, .int .i64 qty] w fun e w' => e = .returned (.int .i64 (refFill La id qty).2) ∧ OB2 W w' pa pb (refFill La id qty).1 Lb := by
  obtain ⟨da, db, h1, h2, h3, h4, h5, h6⟩ := h
  exact (bl_fill h1 h6.size id qty).mono fun _ _ ⟨e1, d', ht, h'⟩ => ⟨e1, OB2.turn h2 h3 h4 h5 h6 ht h'⟩
end
end Go.Proofs.Ytmhljdkhekjfmaa
