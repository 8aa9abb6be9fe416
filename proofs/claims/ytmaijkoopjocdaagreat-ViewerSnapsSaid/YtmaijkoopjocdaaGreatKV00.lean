import Derived.Lib.Hide
namespace Go.Proofs.YtmaijkoopjocdaaGreat
theorem ag {a b c : World} (h : Go.RowKit.Hid (Go.RowKit.Below a.heap.size a b)) (k : Go.RowKit.Below b.heap.size b c) : Go.RowKit.Hid (Go.RowKit.Below a.heap.size a c) := Go.Lib.hid (h.out.trans (k.mono h.out.size))
theorem ah {a b c : World} (h : Go.RowKit.Hid (Go.RowKit.Below a.heap.size a b)) (k : Go.RowKit.Hid (Go.RowKit.Below b.heap.size b c)) : Go.RowKit.Hid (Go.RowKit.Below a.heap.size a c) := Go.Lib.hid (h.out.trans (k.out.mono h.out.size))
theorem ai {t : Type _} (a : t) : ∃ x, a = x := ⟨_, rfl⟩
theorem aj {t : Type _} (a : t) : ∃ x, x = a := ⟨_, rfl⟩
theorem ak (w : World) (o : Obj) : (w.alloc o).heap.size = w.heap.size + 1 := by simp
instance : Coe Int Value := ⟨fun x => Value.int .i64 x⟩
instance : Coe Nat Value := ⟨fun x => Value.int .i64 (x : Int)⟩
instance : Coe Bool Value := ⟨fun x => Value.bool x⟩
instance : Coe Nat Addr := ⟨fun x => ⟨x, 0, none⟩⟩
instance : Coe Nat (Option Addr) := ⟨fun x => some ⟨x, 0, none⟩⟩
theorem af {p : Prop} (h : p) : Go.RowKit.Hid p := Go.Lib.hid h
end Go.Proofs.YtmaijkoopjocdaaGreat
