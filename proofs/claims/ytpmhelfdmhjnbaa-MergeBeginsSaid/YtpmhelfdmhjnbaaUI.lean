import Derived.Test.YtpmhelfdmhjnbaaUF
import Derived.Test.YtpmhelfdmhjnbaaMD
/- Arguments: bytes. -/
namespace Go.Proofs.Ytpmhelfdmhjnbaa
open Go Go.Ink
theorem decB : ∀ cs, Fits [.int .u8] cs → ∃ z, eB z = cs := by
  intro cs h
  obtain _ | ⟨⟨n0, rfl, hw⟩, h⟩ := h
  cases h
  have h2 : (0 : Int) ≤ n0 ∧ n0 ≤ 255 := by
    simp [Lit.wf, IntKind.min, IntKind.max, IntKind.signed, IntKind.bits] at hw
    omega
  refine ⟨⟨n0.toNat, by omega⟩, ?_⟩
  show [Value.int .u8 ((n0.toNat : Nat) : Int)] = _
  rw [Int.toNat_of_nonneg h2.1]
end Go.Proofs.Ytpmhelfdmhjnbaa
