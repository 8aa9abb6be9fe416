import Derived.Lib.Hide
namespace Go.Proofs.YtmaijkoopjocdaaGreat
theorem af {p : Prop} (h : p) : Go.RowKit.Hid p := Go.Lib.hid h
end Go.Proofs.YtmaijkoopjocdaaGreat
