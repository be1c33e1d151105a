import Derived.Test.YtpmhelfdmhjnbaaR2
import Derived.Test.YtpmhelfdmhjnbaaMD
/- Arguments: queries. -/
namespace Go.Proofs.Ytpmhelfdmhjnbaa
open Go Go.Ink
def kQ : List FK := [.str, .int .i64, .int .i64]
theorem decQ : ∀ cs, Fits kQ cs → ∃ z, eQ z = cs := by
  intro cs h
  obtain _ | ⟨⟨n0, rfl, _⟩, h⟩ := h
  obtain _ | ⟨⟨n1, rfl, _⟩, h⟩ := h
  obtain _ | ⟨⟨n2, rfl, _⟩, h⟩ := h
  cases h
  exact ⟨⟨n0, n1, n2⟩, rfl⟩
end Go.Proofs.Ytpmhelfdmhjnbaa
