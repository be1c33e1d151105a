import Derived.Test.YtpmhelfdmhjnbaaM0
import Derived.Test.YtpmhelfdmhjnbaaInk9
/- Arguments: items. -/
namespace Go.Proofs.Ytpmhelfdmhjnbaa
open Go Go.Ink
def kI : List FK := [.int .i64, .str]
theorem decI : ∀ cs, Fits kI cs → ∃ z, eI z = cs := by
  intro cs h
  obtain _ | ⟨⟨n0, rfl, _⟩, h⟩ := h
  obtain _ | ⟨⟨n1, rfl, _⟩, h⟩ := h
  cases h
  exact ⟨⟨n0, n1⟩, rfl⟩
theorem decN : ∀ cs, Fits [.int .i64] cs → ∃ z, eN z = cs := by
  intro cs h
  obtain _ | ⟨⟨n0, rfl, _⟩, h⟩ := h
  cases h
  exact ⟨n0, rfl⟩
theorem decS : ∀ cs, Fits [.str] cs → ∃ z, eS z = cs := by
  intro cs h
  obtain _ | ⟨⟨n0, rfl, _⟩, h⟩ := h
  cases h
  exact ⟨n0, rfl⟩
end Go.Proofs.Ytpmhelfdmhjnbaa
