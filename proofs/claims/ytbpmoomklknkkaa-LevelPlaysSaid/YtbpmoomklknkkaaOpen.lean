/- The walk of level.Arena.Open. -/
import Derived.Test.YtbpmoomklknkkaaTake2
import Derived.Maps.AppendAt
namespace Go.Proofs.Ytbpmoomklknkkaa
open Go.RowKit

def Que.new_ : Que := ⟨-1, -1, 0, 0⟩
theorem info_que : (Try.prog.info? 58).map (fun i => (i.zero, i.size, i.bytes)) = some (some (.agg #[.int .i64 0, .int .i64 0, .int .i64 0, .int .i64 0]), 4, 32) := by kernel_rfl

section
variable {w : World} {pb sb : Nat} {S : List Slt} {qa : Option Addr} {qc : Nat} {Q : List Que} {F : Int}
set_option maxHeartbeats 600000 in
theorem open_any (h : ArenaC w pb sb S qa qc Q F) (hm : Q.length ≤ 1000000) :
    Calls Try.prog 10 #[.pointer (some ⟨pb, 0, none⟩)] w fun e w' => e = .returned (.int .i64 Q.length) ∧ (∃ qb qc', (qa = some ⟨qb, 0, none⟩ ∨ w.heap.size ≤ qb) ∧ ArenaC w' pb sb S (some ⟨qb, 0, none⟩) qc' (Q ++ [Que.new_]) F) ∧ Keeps (fun g => g = pb ∨ qa = some ⟨g, 0, none⟩) w w' := by
  obtain ⟨i0, hi, hz0, hz1, hz2⟩ := info_parts info_que
  have c1 := h.c1
  have H := Lib.hid h
  clear h
  go_enter Try.func10, Try.ntmps10
  go_wp2_with (first
    | (at_builtin; refine wpList_append_own_at _ rfl (.tmp 7) (.tmp 9) _ rfl 0 58 i0 _ 4 32 Try.underlying54 hi hz0 hz1 hz2 rfl (by omega) (.slice qa Q.length qc) Q.length (Q.flatMap Que.cells) rfl (H.out.hq.alloc _) ⟨w.heap.size, 0, none⟩ 1 1 Que.new_.cells rfl rfl ?c1 ?c2 ?c3 ?c4 (Nat.zero_le _) ?_))
  case c1 =>
    intro j u hj
    have h4 : j < 4 := by
      rcases Nat.lt_or_ge j 4 with h | h
      · exact h
      · rw [List.getElem?_eq_none (by rw [Que.len]; exact h)] at hj; cases hj
    have := (Blk.new w 58 Que.new_.cells.toArray).cell j
    rw [List.getElem?_toArray, hj] at this
    have e : (⟨w.heap.size, 0, none⟩ : Addr).add j = ⟨w.heap.size, j, none⟩ := by unfold Addr.add; split <;> simp_all
    rw [e]
    exact this
  case c2 => decide
  case c3 => unfold maxLen; omega
  case c4 => omega
  intro v' w2 hown hg _ hat
  obtain ⟨g, cap, hv⟩ : ∃ g cap, v' = .slice (some ⟨g, 0, none⟩) (Q.length + 1) cap := by
    rcases hown.2 with ⟨_, h0⟩ | ⟨g, cap, _, hv, _⟩
    · omega
    · exact ⟨g, cap, hv⟩
  rw [hv] at hown hat ⊢
  have hold : ∀ k, k < w.heap.size → some k ≠ (Value.slice qa Q.length qc).ownBlock → w2.heap[k]? = w.heap[k]? := fun k hk hne =>
    (hg.block k (by simp; omega) hne).trans (Below.heap_alloc w _ k hk)
  have hp2 : Blk w2 pb 56 #[.slice (some ⟨sb, 0, none⟩) S.length S.length, .slice qa Q.length qc, .int .i64 F] := (hold pb H.out.hp.lt (Ne.symm H.out.qp)).trans H.out.hp
  have hs2 : Blk w2 sb 62 (S.flatMap Slt.cells).toArray := (hold sb H.out.hs.lt (Ne.symm H.out.qs)).trans H.out.hs
  have hgp := own_ne hown hp2 (by decide)
  have c1' : w2.cell? ⟨pb, 1, none⟩ = some (.slice qa Q.length qc) := by rw [hp2.cell]; rfl
  have f1' : w2.frozen? ⟨pb, 1, none⟩ = false := hp2.frozen 1
  have HP2 := Lib.hid hp2
  have HS2 := Lib.hid hs2
  have HOWN := Lib.hid hown
  have HAT := Lib.hid hat
  have HG := Lib.hid hg
  have HOLD := Lib.hid hold
  have HGP := Lib.hid hgp
  clear hp2 hs2 hown hat hg hold hgp hv hi hz0 hz1 hz2 c1
  go_wp2_with fail
  go_ret
  have hform : ∀ k, (Value.slice qa Q.length qc).ownBlock = some k → qa = some ⟨k, 0, none⟩ := by
    intro k hk
    rcases H.out.hq.2 with ⟨hv, _⟩ | ⟨g', cap', _, hv, _⟩
    · rw [hv] at hk; simp [Value.ownBlock] at hk
    · rw [hv] at hk
      have e : g' = k := by simpa [Value.ownBlock] using hk
      injection hv with e1
      rw [e1, e]
  refine ⟨by simp, ⟨g, cap, ?_, ?_⟩, ?_⟩
  · rcases HAT.out with h1 | h1
    · exact .inl (hform g h1.symm)
    · refine .inr ?_
      have : g = w.heap.size + 1 := by simpa [Value.ownBlock] using h1
      omega
  · refine ⟨?_, ?_, ?_, H.out.room, by simp; omega⟩
    · have := HP2.out.set_ 1 (.slice (some ⟨g, 0, none⟩) (Q.length + 1) cap)
      simpa using this
    · have := HS2.out.far (p := ⟨pb, 1, none⟩) H.out.ps.symm (.slice (some ⟨g, 0, none⟩) (Q.length + 1) cap)
      simpa using this
    · have := own_far HOWN.out (p := ⟨pb, 1, none⟩) HGP.out (.slice (some ⟨g, 0, none⟩) (Q.length + 1) cap)
      simpa using this
  · have K2 : Keeps (fun k => k = pb ∨ qa = some ⟨k, 0, none⟩) w w2 :=
      ⟨HG.out.os, HG.out.tape, HG.out.output, by have := HG.out.size; simp at this; omega, fun k hk hf => HOLD.out k hk fun e => hf (.inr (hform k e.symm))⟩
    exact K2.setCell (p := ⟨pb, 1, none⟩) (fun _ => .inl rfl) _
end
end Go.Proofs.Ytbpmoomklknkkaa
