/- InkF: drawn regions where more than one operation that writes may come next: each order is walked. -/
import Derived.Test.YtpmhelfdmhjnbaaInkB
namespace Go.Ink
open Go
set_option linter.unusedVariables false
set_option linter.unusedSimpArgs false
section
variable {P : Program} {ops : Array Oper} {A : List (List Nat)} {c : Cx} {N : Nat} {T : Tm} {L : List Asrt} {R : Exit → Act → World → Prop}
variable {op : Op} {dst : Option Tmp} {ty : TypeId} {pos : String} {aft : Array Edge} {E E' : List (Nat × Value)} {n : Nat} {S : Array Bool}
/-- What is to be shown of one operation, as the next. -/
def DX (P : Program) (c : Cx) (N : Nat) (T : Tm) (L : List Asrt) (ops : Array Oper) (R : Exit → Act → World → Prop) (A : List (List Nat)) (E : List (Nat × Value)) (n : Nat) (S : Array Bool) (i : Nat) : Prop :=
  chkA .any ops A = true → Region.noSelect ops = true → NoHang R → Shut A S → (∀ p ∈ E, Held ops S p) → i ∈ Region.ready .any ops S → KP c N T L (fun a w => wpOp P ops R i (DK P ops R A (still A i E) n (S.setIfInBounds i true)) a w)
theorem DW.many {is : List Nat} (hr : Region.ready .any ops S = is) (h0 : is ≠ []) (h : ∀ i ∈ is, DX P c N T L ops R A E n S i) : DW P c N T L ops R A E (n + 1) S := fun hA hs hR hsh hin a w g s _ => by
  refine ⟨fun e => absurd (hr.symm.trans e) h0, fun i hi => ?_⟩
  exact h i (by rw [← hr]; exact hi) hA hs hR hsh hin hi a w g s
theorem DW.two (i j : Nat) (h1 : DX P c N T L ops R A E n S i) (h2 : DX P c N T L ops R A E n S j) (hr : Region.ready .any ops S = [i, j] := by kernel_rfl) : DW P c N T L ops R A E (n + 1) S := DW.many hr (by simp) fun x hx => by
  simp only [List.mem_cons, List.not_mem_nil, or_false] at hx
  rcases hx with rfl | rfl <;> assumption
theorem DW.three (i j k : Nat) (h1 : DX P c N T L ops R A E n S i) (h2 : DX P c N T L ops R A E n S j) (h3 : DX P c N T L ops R A E n S k) (hr : Region.ready .any ops S = [i, j, k] := by kernel_rfl) : DW P c N T L ops R A E (n + 1) S := DW.many hr (by simp) fun x hx => by
  simp only [List.mem_cons, List.not_mem_nil, or_false] at hx
  rcases hx with rfl | rfl | rfl <;> assumption
theorem DX.ex (i : Nat) (hi : ops[i]? = some ⟨dst, op, ty, pos, aft, none⟩) (h : Ok ops R A E' (S.setIfInBounds i true) → EW P c N T L ⟨dst, op, ty, pos, aft, none⟩ R (DK P ops R A E' n (S.setIfInBounds i true))) (hE : still A i E = E' := by rfl) : DX P c N T L ops R A E n S i := fun hA hs hR hsh hin hrd a w g s => by
  subst hE
  have h1 := h ⟨hA, hs, hR, hsh.set (chkA_spec hA) hrd, fun p hp => (hin p (List.mem_filter.1 hp).1).set⟩ a w g s
  unfold wpOp
  simp only [hi]
  rw [if_pos (show Region.wanted (⟨dst, op, ty, pos, aft, none⟩ : Oper) (yielded ops a.tmps) = true from rfl)]
  exact .inl h1
theorem DX.exy (i : Nat) {j t : Nat} {b : Bool} (hi : ops[i]? = some ⟨dst, op, ty, pos, aft, some (j, b)⟩) (hj : (ops[j]?).bind (·.dst) = some t) (hv : T.lookup t = some (.bool b))
    (h : Ok ops R A E' (S.setIfInBounds i true) → EW P c N T L ⟨dst, op, ty, pos, aft, none⟩ R (DK P ops R A E' n (S.setIfInBounds i true))) (hE : still A i E = E' := by rfl) : DX P c N T L ops R A E n S i := fun hA hs hR hsh hin hrd a w g s => by
  subst hE
  have h1 := h ⟨hA, hs, hR, hsh.set (chkA_spec hA) hrd, fun p hp => (hin p (List.mem_filter.1 hp).1).set⟩ a w g s
  unfold wpOp
  simp only [hi]
  rw [if_pos (show Region.wanted (⟨dst, op, ty, pos, aft, some (j, b)⟩ : Oper) (yielded ops a.tmps) = true by simp [Region.wanted, yielded_at g hj hv])]
  exact .inl h1
theorem DX.exn (i : Nat) {j t d : Nat} {b : Bool} {vt : Value} (hi : ops[i]? = some ⟨some d, op, ty, pos, aft, some (j, b)⟩) (hj : (ops[j]?).bind (·.dst) = some t) (hv : T.lookup t = some vt)
    (h : Ok ops R A E' (S.setIfInBounds i true) → KP c N ((d, undef) :: T) L (DK P ops R A E' n (S.setIfInBounds i true))) (hne : vt = .bool (!b) ∨ vt = undef := by first | exact .inl rfl | exact .inr rfl) (hE : still A i E = E' := by rfl) (hd : d < N := by decide) : DX P c N T L ops R A E n S i := fun hA hs hR hsh hin hrd a w g s => by
  subst hE
  have h1 := h ⟨hA, hs, hR, hsh.set (chkA_spec hA) hrd, fun p hp => (hin p (List.mem_filter.1 hp).1).set⟩ _ w (g.put hd undef) s
  have hw : Region.wanted (⟨some d, op, ty, pos, aft, some (j, b)⟩ : Oper) (yielded ops a.tmps) = false := by
    rcases hne with rfl | rfl
    · simp only [Region.wanted, yielded_at g hj hv]; cases b <;> rfl
    · simp only [Region.wanted, yielded_at g hj hv]; rfl
  unfold wpOp
  simp only [hi]
  rw [if_neg (by rw [hw]; simp)]
  exact h1
end
end Go.Ink
