/- The walk of level.Arena.List, of a queue that is there. -/
import Derived.Test.YtbpmoomklknkkaaLevA
namespace Go.Proofs.Ytbpmoomklknkkaa
open Go.RowKit

/-- the next slot's number; none: -1 -/
def nxt (L : List Nat) (j : Nat) : Int := match L[j]? with | some x => (x : Int) | none => -1
theorem nxt_some {L : List Nat} {j k : Nat} (hj : L[j]? = some k) : nxt L j = (k : Int) := by unfold nxt; rw [hj]
theorem nxt_none {L : List Nat} {j : Nat} (hj : L.length ≤ j) : nxt L j = -1 := by unfold nxt; rw [List.getElem?_eq_none hj]
/-- an order, as it is handed out -/
def Slt.ent (s : Slt) : List Value := [.int .i64 s.slot, .int .i64 s.id, .int .i64 s.qty, .bool s.top]
def entAt (S : List Slt) (i : Nat) : List Value := (S[i]?.getD Slt.none_).ent
theorem info_ent : (Try.prog.info? 33).map (fun i => (i.zero, i.size, i.bytes)) = some (some (.agg #[.int .i64 0, .int .i64 0, .int .i64 0, .bool false]), 4, 32) := by kernel_rfl
def sliceLen : Value → Nat
  | .slice _ n _ => n
  | _ => 0
/-- a row of its own comes back: so many things, laid flat -/
def RowBack (B : Nat) (t : TypeId) (size n : Nat) (xs : List Value) (w : World) (e : Ending) (w' : World) : Prop :=
  ∃ a c, e = .returned (.slice a n c) ∧ w'.ownsRow B t size (.slice a n c) n xs ∧ Below w.heap.size w w'
theorem own_form {w : World} {B : Nat} {t : TypeId} {size n : Nat} {v : Value} {xs : List Value} (h : w.ownsRow B t size v n xs) : ∃ a c, v = .slice a n c := by
  rcases h.2 with ⟨rfl, h0⟩ | ⟨g, cap, cur, rfl, _⟩
  · exact ⟨none, 0, by rw [h0]⟩
  · exact ⟨_, _, rfl⟩
theorem grown_below {w0 w w' : World} {r : Option Nat} (h : w.grownBy w' r) (hb : Below w0.heap.size w0 w) (hr : ∀ g, r = some g → w0.heap.size ≤ g) : Below w0.heap.size w0 w' :=
  ⟨h.os.trans hb.os, h.tape.trans hb.tape, h.output.trans hb.output, Nat.le_trans hb.size h.size, fun k hk => (h.block k (Nat.lt_of_lt_of_le hk hb.size) (fun e => by have := hr k e.symm; omega)).trans (hb.block k hk)⟩
theorem own_base {w : World} {B : Nat} {t : TypeId} {size n : Nat} {v : Value} {xs : List Value} (h : w.ownsRow B t size v n xs) : ∀ g, v.ownBlock = some g → B ≤ g := by
  intro g hg
  rcases h.2 with ⟨rfl, h0⟩ | ⟨g', cap, cur, rfl, hb, _⟩
  · cases hg
  · have : g' = g := by simpa [Value.ownBlock] using hg
    omega

section
variable {w : World} {pb sb qb : Nat} {S : List Slt} {qc : Nat} {Q : List Que} {F : Int}
set_option maxHeartbeats 1000000 in
theorem list_at (h : ArenaC w pb sb S (some ⟨qb, 0, none⟩) qc Q F) (n : Nat) (q : Que) (hn : Q[n]? = some q) (L : List Nat) (hL : L.length ≤ 4096) (hf : q.fst = nxt L 0)
    (hb : ∀ j k, L[j]? = some k → ∃ s, S[k]? = some s ∧ s.bk = nxt L (j + 1)) :
    Calls Try.prog 17 #[.pointer (some ⟨pb, 0, none⟩), .int .i64 n] w (RowBack w.heap.size 33 4 L.length (L.flatMap (entAt S)) w) := by
  have hnl := lt_of_get hn
  obtain ⟨_, hqe⟩ := get_of hn
  have hbi : Hid ((decide ((0 : Int) ≤ n) && decide ((n : Int) < (Q.length : Int))) = true) := Lib.hid (by simp; omega)
  have hn' : (n : Int) < (Q.length : Int) := by omega
  obtain ⟨i0, hi, hz0, hz1, hz2⟩ := info_parts info_ent
  have hr := h.room
  have hm := h.many
  have c1 := h.c1
  obtain ⟨q0, _, _, _⟩ := h.qf hnl hqe
  rw [hf] at q0
  have H := Lib.hid h
  have HB := Lib.hid hb
  clear h hb hf hn hqe
  go_enter Try.func17, Try.ntmps17
  go_wp2_with (go_at_call 26; refine (is_any H.out n).mono ?_; rintro e w1 ⟨rfl, rfl⟩; rw [hbi.out])
  go_loopw [5, 6] (fun v x w' => ∃ j : Nat, j ≤ L.length ∧ x = .int .i64 (nxt L j) ∧ (∃ a c, v = .slice a j c) ∧ w'.ownsRow w.heap.size 33 4 v j ((L.take j).flatMap (entAt S)) ∧ Below w.heap.size w w') (fun v _ _ => L.length - sliceLen v)
  case atStart => exact ⟨0, Nat.zero_le _, rfl, ⟨_, _, rfl⟩, World.ownsRow_nil _ _ _ _, Below.refl _ _⟩
  case round =>
    obtain ⟨j, hj, rfl, ⟨a, c, rfl⟩, hown, hbw⟩ := hrel
    have HR := Lib.hid (H.out.same hbw.block)
    have HBW := Lib.hid hbw
    have HOWN := Lib.hid hown
    clear hown hbw
    by_cases hjl : j < L.length
    · obtain ⟨k, hk⟩ : ∃ k, L[j]? = some k := ⟨_, List.getElem?_eq_getElem hjl⟩
      obtain ⟨s, hs, hbk⟩ := HB.out j k hk
      have hkl := lt_of_get hs
      have HX := Lib.hid (nxt_some hk)
      have HT : Hid ((L.take (j + 1)).flatMap (entAt S) = (L.take j).flatMap (entAt S) ++ s.ent) := Lib.hid (by
        rw [List.take_succ_eq_append_getElem hjl, List.flatMap_append]
        rw [List.getElem?_eq_getElem hjl] at hk
        injection hk with hk
        simp [hk, entAt, hs])
      obtain ⟨_, hse⟩ := get_of hs
      have HS := Lib.hid hse
      have HBK := Lib.hid hbk
      rw [HX.out]
      have k1 : ((k : Int) == -1) = false := by rw [beq_eq_false_iff_ne]; omega
      have k2 : ((k : Int) != -1) = true := by rw [bne_iff_ne]; omega
      have hk' : (k : Int) < (S.length : Int) := by omega
      have c0 := HR.out.c0
      obtain ⟨_, s1, s2, s3, s4, _, _, s7⟩ := HR.out.sf hkl HS.out
      rw [hbk] at s7
      have hsz := HBW.out.size
      clear hk hs hbk hse
      go_wp2_with (first
        | (at_builtin; refine wpList_append_own _ rfl (.tmp 29) (.tmp 38) _ rfl w.heap.size 33 i0 _ 4 32 Try.underlying42 hi hz0 hz1 hz2 rfl (by omega) (.slice a j c) j ((L.take j).flatMap (entAt S)) rfl (HOWN.out.alloc _) ⟨wr.heap.size, 0, none⟩ 1 1 s.ent rfl rfl ?c1 ?c2 ?c3 ?c4 ?c5 ?_))
      case c1 =>
        intro i u hi4
        have := (Blk.new wr 33 s.ent.toArray).cell i
        rw [List.getElem?_toArray, hi4] at this
        have e : (⟨wr.heap.size, 0, none⟩ : Addr).add i = ⟨wr.heap.size, i, none⟩ := by unfold Addr.add; split <;> simp_all
        rw [e]
        exact this
      case c2 =>
        intro u hu
        simp only [Slt.ent, List.mem_cons, List.not_mem_nil, or_false] at hu
        rcases hu with rfl | rfl | rfl | rfl <;> rfl
      case c3 => unfold maxLen; omega
      case c4 => omega
      case c5 => simp; omega
      intro v' w2 hown2 hg _
      obtain ⟨a2, c2, rfl⟩ := own_form hown2
      have hb2 : Below w.heap.size w w2 := grown_below hg (HBW.out.alloc HBW.out.size _) (own_base HOWN.out)
      rw [← HT.out] at hown2
      have HO2 := Lib.hid hown2
      have HB2 := Lib.hid hb2
      have HR2 := Lib.hid (H.out.same hb2.block)
      have c02 := HR2.out.c0
      obtain ⟨_, _, _, _, _, _, _, s72⟩ := HR2.out.sf hkl HS.out
      rw [HBK.out] at s72
      clear hown2 hg hb2 c0 s1 s2 s3 s4 s7 hi hz0 hz1 hz2
      go_wp2_with fail
      go_roundw
      case rel => exact ⟨j + 1, by omega, rfl, ⟨_, _, rfl⟩, HO2.out, HB2.out⟩
      case measure => show L.length - (j + 1) < L.length - j; omega
    · obtain rfl : j = L.length := by omega
      rw [nxt_none (Nat.le_refl _)]
      go_wp2_with fail
      go_ret
      exact ⟨a, c, rfl, by have := HOWN.out; rwa [List.take_length] at this, HBW.out⟩
end
end Go.Proofs.Ytbpmoomklknkkaa
