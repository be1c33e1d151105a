import Derived.Test.YtpmhelfdmhjnbaaM8
import Derived.Test.YtpmhelfdmhjnbaaS5
/- MergeOne: the plain part. -/
namespace Go.Proofs.Ytpmhelfdmhjnbaa
open Go Go.Ink Go.Plain
set_option linter.unusedVariables false
set_option linter.unusedSimpArgs false
attribute [local irreducible] lessF

/-- A merge of one shard. -/
def one1 (n q : Int) (e h : Bool) (la : Item) (w told : List Item) : MS := ⟨n, [⟨0, q, e, h, la, w⟩], told⟩
theorem one_step_nil {n q : Int} {e h : Bool} {la : Item} {told : List Item} : (one1 n q e h la [] told).step = none := by
  cases e
  · exact step_none (by simp [one1, aheadP])
  · exact step_done (by simp [MS.done, one1, PSh.busy])
theorem one_step_full {n q : Int} {e h : Bool} {la : Item} {w told : List Item} (ht : (told.length : Int) = n) : (one1 n q e h la w told).step = none := step_done (by simp [MS.done, one1, ht])
theorem one_step {n q : Int} {e h : Bool} {la x : Item} {w told : List Item} (ht : (told.length : Int) < n) : (one1 n q e h la (x :: w) told).step = some (x, one1 n q e h la w (told ++ [x])) := by
  have h1 : ¬ (told.length : Int) = n := by omega
  refine step_some (j := 0) (s := ⟨0, q, e, h, la, x :: w⟩) ?_ ?_ ?_ rfl
  · simp [MS.done, one1, PSh.busy, h1]
  · simp [one1, aheadP]
  · simp [one1, PSh.might, PSh.wanted]
theorem one_tell {n q : Int} {e h : Bool} {la : Item} : ∀ (w told : List Item), (told.length : Int) ≤ n → (one1 n q e h la w told).tell = (w.take (n.toNat - told.length), one1 n q e h la (w.drop (n.toNat - told.length)) (told ++ w.take (n.toNat - told.length)))
  | [], told, ht => by rw [tell_end one_step_nil]; simp
  | x :: w, told, ht => by
    by_cases hf : (told.length : Int) = n
    · rw [tell_end (one_step_full hf)]
      have : n.toNat - told.length = 0 := by omega
      rw [this]; simp
    · have hlt : (told.length : Int) < n := by omega
      rw [tell_step (one_step hlt), one_tell w (told ++ [x]) (by simp; omega)]
      have e1 : n.toNat - told.length = (n.toNat - (told ++ [x]).length) + 1 := by simp; omega
      rw [e1]
      simp
structure Incr (l : List Item) : Prop where
  pos : ∀ x ∈ l, 0 ≤ x.dist
  lt : l.Pairwise fun a b => lessF a b = true
theorem chain_incr : ∀ {l : List Item} {la : Item} {h : Bool}, Incr l → (h = true → ∀ x ∈ l, lessF la x = true) → chainF la h 0 l = true
  | [], _, _, _, _ => rfl
  | x :: l, la, h, hi, hla => by
    have hlt := List.pairwise_cons.1 hi.lt
    have ih := chain_incr (la := x) (h := true) ⟨fun y hy => hi.pos y (by simp [hy]), hlt.2⟩ (fun _ y hy => hlt.1 y hy)
    have h0 : ¬ x.dist < 0 := by have := hi.pos x (by simp); omega
    simp only [chainF, ih, Bool.and_true]
    cases h with
    | false => simp [h0]
    | true => simp [h0, hla rfl x (by simp)]
theorem incr_part {l : List Item} (h : Incr l) (a k : Nat) : Incr ((l.drop a).take k) :=
  ⟨fun x hx => h.pos x (List.mem_of_mem_drop (List.mem_of_mem_take hx)), (h.lt.drop).take⟩
/-- The merge ahead of the batch that begins at a. -/
def oneS (n : Int) (inn : List Item) (a k : Nat) : MS := one1 n k false (decide (0 < a)) ((inn.take a).getLast?.getD Item.zero) [] (inn.take a)
theorem oneS_new (n : Int) (inn : List Item) : newF [0] n = oneS n inn 0 0 := by simp [newF, mkSh, oneS, one1]
theorem last_lt {l : List Item} (h : Incr l) {a : Nat} (ha : 0 < a) (hal : a ≤ l.length) : ∀ x ∈ l.drop a, lessF ((l.take a).getLast?.getD Item.zero) x = true := by
  intro x hx
  have hp : (l.take a ++ l.drop a).Pairwise fun a b => lessF a b = true := by rw [List.take_append_drop]; exact h.lt
  have hne : l.take a ≠ [] := by
    intro e
    have := congrArg List.length e
    rw [List.length_take, List.length_nil] at this
    omega
  rw [List.getLast?_eq_some_getLast hne]
  exact (List.pairwise_append.1 hp).2.2 _ (List.getLast_mem hne) x hx
theorem one_put {n : Int} {inn : List Item} {a k to : Nat} (hi : Incr inn) (h1 : (a : Int) < n) (h2 : a < inn.length ∨ a = 0) (hto : a ≤ to) (hto2 : to ≤ inn.length) (h3 : to = inn.length ∨ a < to) (h4 : a < inn.length → a < to) (h5 : to ≤ a + 5) (hk : k ≤ 1000) (hal : a ≤ inn.length) :
    (oneS n inn a k).put 0 k ((inn.drop a).take (to - a)) (decide (to = inn.length)) = (true, one1 n ((k + 1 : Nat) : Int) (decide (to = inn.length)) (decide (0 < to)) ((inn.take to).getLast?.getD Item.zero) ((inn.drop a).take (to - a)) (inn.take a)) := by
  have hlen : ((inn.drop a).take (to - a)).length = to - a := by simp; omega
  have htk : (inn.take a).length = a := by simp; omega
  have hd : (oneS n inn a k).done = false := by
    have : ¬ ((inn.take a).length : Int) = n := by rw [htk]; omega
    simp [MS.done, oneS, one1, PSh.busy]; omega
  have ht : (oneS n inn a k).takes ⟨0, k, false, decide (0 < a), (inn.take a).getLast?.getD Item.zero, []⟩ k ((inn.drop a).take (to - a)) (decide (to = inn.length)) = true := by
    unfold MS.takes
    rw [hd, hlen]
    have hc : chainF ((inn.take a).getLast?.getD Item.zero) (decide (0 < a)) 0 ((inn.drop a).take (to - a)) = true := chain_incr (incr_part hi a _) (fun h x hx => last_lt hi (by simpa using h) hal x (List.mem_of_mem_take hx))
    simp only [hc, PSh.wanted, Bool.and_true]
    simp; omega
  unfold MS.put
  rw [if_pos (by decide)]
  have hs : (oneS n inn a k).shs[(0 : Int).toNat]? = some ⟨0, k, false, decide (0 < a), (inn.take a).getLast?.getD Item.zero, []⟩ := rfl
  rw [hs]
  simp only [ht, if_true]
  have hw : IntKind.i64.wrap ((k : Int) + 1) = ((k + 1 : Nat) : Int) := IntWalk.i64_in _ (by omega)
  have hsplit : inn.take to = inn.take a ++ (inn.drop a).take (to - a) := by
    conv => lhs; rw [show to = a + (to - a) by omega, List.take_add]
  have hlast : (((inn.drop a).take (to - a)).getLast?).getD ((inn.take a).getLast?.getD Item.zero) = (inn.take to).getLast?.getD Item.zero := by
    rw [hsplit, List.getLast?_append]
    cases ((inn.drop a).take (to - a)).getLast? <;> simp
  have hheard : (decide (0 < a) || decide (0 < ((inn.drop a).take (to - a)).length)) = decide (0 < to) := by
    rw [hlen]
    rw [Bool.eq_iff_iff]; simp; omega
  simp only [PSh.put, oneS, one1, hw, hlast, hheard]
  rfl
theorem one_after {n : Int} {inn : List Item} {a to : Nat} {q : Int} {e h : Bool} {la : Item} (h1 : (a : Int) < n) (hto : a ≤ to) (hto2 : to ≤ inn.length) :
    (one1 n q e h la ((inn.drop a).take (to - a)) (inn.take a)).tell = (((inn.drop a).take (to - a)).take (n.toNat - a), one1 n q e h la (((inn.drop a).take (to - a)).drop (n.toNat - a)) (inn.take (min to n.toNat))) := by
  have htk : (inn.take a).length = a := by simp; omega
  rw [one_tell _ _ (by rw [htk]; omega), htk]
  congr 2
  rw [List.take_take, show min (n.toNat - a) (to - a) = min to n.toNat - a by omega]
  conv => rhs; rw [show min to n.toNat = a + (min to n.toNat - a) by omega, List.take_add]
end Go.Proofs.Ytpmhelfdmhjnbaa
