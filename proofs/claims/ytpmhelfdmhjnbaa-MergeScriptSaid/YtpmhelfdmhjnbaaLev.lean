/- Lev: distances of two lists, by their beginnings; the bounded reckoning. Plain, of no program. -/
import Derived.WalkKit
namespace Go.Plain
set_option linter.unusedVariables false
set_option linter.unusedSimpArgs false

section
variable {α : Type} [DecidableEq α]
/-- The distance of the first i of a and the first j of b. -/
def lev (a b : List α) : Nat → Nat → Nat
  | 0, j => j
  | i + 1, 0 => i + 1
  | i + 1, j + 1 => min (min (lev a b i (j + 1) + 1) (lev a b (i + 1) j + 1)) (lev a b i j + (if a[i]? = b[j]? then 0 else 1))
def dist (a b : List α) : Nat := lev a b a.length b.length
theorem lev_symm (a b : List α) : ∀ i j, lev a b i j = lev b a j i := by
  intro i
  induction i with
  | zero => intro j; cases j <;> simp [lev]
  | succ i ih =>
    intro j
    induction j with
    | zero => simp [lev]
    | succ j ihj =>
      rw [lev, lev, ih (j + 1), ihj, ih j]
      have : (if a[i]? = b[j]? then 0 else 1) = (if b[j]? = a[i]? then 0 else 1) := by
        by_cases h : a[i]? = b[j]?
        · simp [h]
        · simp [h, Ne.symm h]
      rw [this]
      omega
theorem dist_symm (a b : List α) : dist a b = dist b a := lev_symm _ _ _ _
theorem lev_zero_right (a b : List α) (i : Nat) : lev a b i 0 = i := by cases i <;> simp [lev]
theorem lev_ge (a b : List α) : ∀ i j, i ≤ lev a b i j + j ∧ j ≤ lev a b i j + i := by
  intro i
  induction i with
  | zero => intro j; simp [lev]
  | succ i ih =>
    intro j
    induction j with
    | zero => simp [lev]
    | succ j ihj =>
      have h1 := ih (j + 1)
      have h2 := ih j
      rw [lev]
      split <;> omega
theorem lev_le (a b : List α) : ∀ i j, lev a b i j ≤ i + j := by
  intro i
  induction i with
  | zero => intro j; simp [lev]
  | succ i ih =>
    intro j
    cases j with
    | zero => simp [lev]
    | succ j =>
      have h1 := ih (j + 1)
      rw [lev]
      omega
/-- A step of the bounded reckoning: what is above a bound may be taken for the bound. -/
theorem lev_cut (a b : List α) (i j far : Nat) : min (lev a b (i + 1) (j + 1)) far =
    min (min (min (lev a b i (j + 1)) far + 1) (min (lev a b (i + 1) j) far + 1)) (min (min (lev a b i j) far + (if a[i]? = b[j]? then 0 else 1)) far) := by
  rw [lev]
  split <;> omega
end

/-! ### a sorted list is one -/
section
variable {α : Type}
/-- Nothing is ahead of what stands before it. -/
def Sorted (lt : α → α → Bool) (l : List α) : Prop := l.Pairwise fun a b => lt b a = false
structure Total (lt : α → α → Bool) : Prop where
  asym : ∀ a b, lt a b = true → lt b a = false
  trans : ∀ a b c, lt a b = true → lt b c = true → lt a c = true
  conn : ∀ a b, lt a b = false → lt b a = false → a = b
theorem sorted_unique {lt : α → α → Bool} (ht : Total lt) : ∀ {l m : List α}, Sorted lt l → Sorted lt m → l.Perm m → l = m
  | [], m, _, _, p => (List.nil_perm.1 p).symm
  | a :: l, [], _, _, p => absurd (p.symm) (by intro h; exact absurd (List.nil_perm.1 h) (by simp))
  | a :: l, b :: m, hl, hm, p => by
    unfold Sorted at hl hm
    rw [List.pairwise_cons] at hl hm
    have hab : a = b := by
      have h1 : a ∈ b :: m := p.mem_iff.1 (by simp)
      have h2 : b ∈ a :: l := p.mem_iff.2 (by simp)
      rcases List.mem_cons.1 h1 with h | h
      · exact h
      rcases List.mem_cons.1 h2 with h' | h'
      · exact h'.symm
      exact ht.conn _ _ (hm.1 a h) (hl.1 b h')
    subst hab
    have := sorted_unique ht hl.2 hm.2 (List.Perm.cons_inv p)
    rw [this]
end
end Go.Plain
