import Derived.Test.YtnnobondpimnpaaQB
import Derived.Test.YtnnobondpimnpaaInk9
/- The decoder of a list of numbers. -/
namespace Go.Proofs.Ytnnobondpimnpaa
open Go Go.Ink
theorem decI : ∀ cs, Fits [.int .i64] cs → ∃ z, eI z = cs := by
  intro cs h
  obtain _ | ⟨⟨n0, rfl, _⟩, h⟩ := h
  cases h
  exact ⟨n0, rfl⟩
end Go.Proofs.Ytnnobondpimnpaa
