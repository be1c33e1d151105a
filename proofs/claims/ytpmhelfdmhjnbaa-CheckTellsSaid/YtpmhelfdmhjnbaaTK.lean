import Derived.Test.YtpmhelfdmhjnbaaTG
/- Arguments: what was told. -/
namespace Go.Proofs.Ytpmhelfdmhjnbaa
open Go Go.Ink
def kTd : List FS := [.b (.int .i64), .b .str, .b (.int .i64), .b (.int .i64), .s kI, .b .bool, .b .bool]
theorem decTd {h : Frag} : ∀ cs, FitsS h kTd cs → ∃ z, eT z = cs ∧ tdA z h := by
  intro cs f
  obtain _ | ⟨⟨n0, rfl, _⟩, f⟩ := f
  obtain _ | ⟨⟨n1, rfl, _⟩, f⟩ := f
  obtain _ | ⟨⟨n2, rfl, _⟩, f⟩ := f
  obtain _ | ⟨⟨n3, rfl, _⟩, f⟩ := f
  obtain _ | ⟨⟨ow, xs, hx⟩, f⟩ := f
  obtain _ | ⟨⟨n5, rfl⟩, f⟩ := f
  obtain _ | ⟨⟨n6, rfl⟩, f⟩ := f
  cases f
  obtain ⟨ys, hy⟩ := rrow_dec decI hx
  exact ⟨⟨n0, ⟨n1, n2, n3⟩, _, ow, ys, n5, n6⟩, rfl, hy⟩
end Go.Proofs.Ytpmhelfdmhjnbaa
