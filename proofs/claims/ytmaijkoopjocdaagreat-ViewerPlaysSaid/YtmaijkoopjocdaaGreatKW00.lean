import Derived.Lib.Hide
import Derived.Deep.LoopGhost
import Derived.IntWalk
import Derived.KernelRfl
namespace Go.Proofs.YtmaijkoopjocdaaGreat
def Ei (p : Prop) : Prop := p
theorem Ei.o {p : Prop} (h : Ei p) : p := h
theorem ag {a b c : World} (h : Ei (Go.RowKit.Below a.heap.size a b)) (k : Go.RowKit.Below b.heap.size b c) : Ei (Go.RowKit.Below a.heap.size a c) := (h.o.trans (k.mono h.o.size))
theorem ah {a b c : World} (h : Ei (Go.RowKit.Below a.heap.size a b)) (k : Ei (Go.RowKit.Below b.heap.size b c)) : Ei (Go.RowKit.Below a.heap.size a c) := (h.o.trans (k.o.mono h.o.size))
theorem ai {t : Type _} (a : t) : ∃ x, a = x := ⟨_, rfl⟩
theorem aj {t : Type _} (a : t) : ∃ x, x = a := ⟨_, rfl⟩
theorem ak (w : World) (o : Obj) : (w.alloc o).heap.size = w.heap.size + 1 := by simp
instance : Coe Int Value := ⟨fun x => Value.int .i64 x⟩
instance : Coe Nat Value := ⟨fun x => Value.int .i64 (x : Int)⟩
instance : Coe Bool Value := ⟨fun x => Value.bool x⟩
instance : Coe Nat Addr := ⟨fun x => ⟨x, 0, none⟩⟩
instance : Coe Nat (Option Addr) := ⟨fun x => some ⟨x, 0, none⟩⟩
theorem af {p : Prop} (h : p) : Ei p := h
instance : Coe Unit Value := ⟨fun _ => .int .i64 0⟩
instance : Coe World Nat := ⟨fun w => w.heap.size⟩
instance : Coe Unit (Option Value) := ⟨fun _ => some (.int .i64 0)⟩
instance : Coe Int (Option Value) := ⟨fun x => some (.int .i64 x)⟩
instance : Coe Nat (Option Value) := ⟨fun x => some (.int .i64 (x : Int))⟩
instance : Coe Bool (Option Value) := ⟨fun x => some (.bool x)⟩
instance (b i : Nat) : CoeDep (Nat × Nat) (b, i) Addr := ⟨⟨b, i, none⟩⟩
theorem GB {a : Type _} (l : List a) (i : Nat) (h : i < l.length) : ∃ x, l[i]? = some x := ⟨_, List.getElem?_eq_getElem h⟩
theorem Ej {p : Prop} (h : p := by simp [Go.RowKit.intOf]; omega) : p := h
theorem bh {p : Prop} (h : p := by omega) : p := h
theorem b9 {p : Prop} (h : p := by decide) : p := h
theorem cF {p : Prop} (h : p := by trivial) : p := h
theorem cU {p : Prop} (h : p := by simp) : p := h
theorem dn {p : Prop} (h : p := by rfl) : p := h
theorem dR {p : Prop} (h : p := by go_num) : p := h
theorem eP {p : Prop} (h : p := by kernel_rfl) : p := h
end Go.Proofs.YtmaijkoopjocdaaGreat
