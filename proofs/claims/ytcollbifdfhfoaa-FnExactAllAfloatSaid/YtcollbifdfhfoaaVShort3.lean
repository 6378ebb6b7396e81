import Derived.Test.YtcollbifdfhfoaaVShort2
namespace Go.Proofs.Ytcollbifdfhfoaa.Short
open Go Go.RowKit Go.Proofs.YtcollbifdfhfoaaW.PrintWords Go.Proofs.YtcollbifdfhfoaaW.PrintLast Go.Proofs.YtcollbifdfhfoaaW.PrintMore
theorem vx {P : Prop} (h : P := by first | rfl | (simp; done) | (simp [*]; done) | (rw [i8_wrap_le] <;> first | rfl | omega) | (unfold wrap64; rfl) | (congr 1; unfold wrap64; omega)) : P := h
theorem vy {P : Prop} (h : P := by first | rfl | (simp; done) | (simp [*]; done) | (unfold wrap64; rfl) | (congr 1; unfold wrap64; omega)) : P := h
end Go.Proofs.Ytcollbifdfhfoaa.Short
