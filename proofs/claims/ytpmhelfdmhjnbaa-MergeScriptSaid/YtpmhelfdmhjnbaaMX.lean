import Derived.Test.YtpmhelfdmhjnbaaM1
/- Two lists that are one. -/
namespace Go.Proofs.Ytpmhelfdmhjnbaa
open Go Go.Ink
set_option linter.unusedVariables false
set_option linter.unusedSimpArgs false

theorem sameE {va vb' : Value} {xs : List Item} : Spc Try.prog 27 #[va, vb'] [rrow 2 eI va xs, rrow 2 eI vb' xs] [] (ret (.bool true) []) := by
  have := same_spec (va := va) (vb' := vb') (xs := xs) (ys := xs)
  simpa using this
theorem sameNE {va vb' : Value} {xs : List Int} : Spc Try.prog 60 #[va, vb'] [rrow 1 eN va xs, rrow 1 eN vb' xs] [] (ret (.bool true) []) := by
  have := sameN_spec (va := va) (vb' := vb') (xs := xs) (ys := xs)
  simpa using this
end Go.Proofs.Ytpmhelfdmhjnbaa
