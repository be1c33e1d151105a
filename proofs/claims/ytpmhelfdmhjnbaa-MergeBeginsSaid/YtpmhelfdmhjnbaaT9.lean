import Derived.Test.YtpmhelfdmhjnbaaT8
/- RankFar: the plain part. -/
namespace Go.Proofs.Ytpmhelfdmhjnbaa
open Go Go.Ink Go.Plain
set_option linter.unusedVariables false
set_option linter.unusedSimpArgs false

theorem nears_filter {q : ByteArray} {k : Int} {p : ByteArray → Bool} : ∀ {ts : List ByteArray}, (∀ t ∈ ts, p t = false → nearF q t k = none) → nearsF q k (ts.filter p) = nearsF q k ts
  | [], _ => rfl
  | t :: ts, h => by
    have ih := nears_filter (q := q) (k := k) (p := p) (ts := ts) (fun u hu => h u (List.mem_cons_of_mem _ hu))
    have ht := h t (List.mem_cons_self ..)
    unfold nearsF at ih ⊢
    cases hp : p t
    · rw [List.filter_cons_of_neg (by simp [hp]), List.filterMap_cons, ht hp]
      exact ih
    · rw [List.filter_cons_of_pos (by simp [hp]), List.filterMap_cons, List.filterMap_cons, ih]
theorem nears_drop {q : ByteArray} {k : Int} {p : ByteArray → Bool} : ∀ (ts : List ByteArray), nearsF q k (ts.filter p) = (nearsF q k ts).filter fun x => p x.word
  | [] => rfl
  | t :: ts => by
    have ih := nears_drop (q := q) (k := k) (p := p) ts
    unfold nearsF at ih ⊢
    cases hp : p t
    · rw [List.filter_cons_of_neg (by simp [hp]), List.filterMap_cons, ih]
      cases nearF q t k <;> simp [hp]
    · rw [List.filter_cons_of_pos (by simp [hp]), List.filterMap_cons, List.filterMap_cons, ih]
      cases nearF q t k <;> simp [hp]
theorem all_drop {q : ByteArray} {k : Int} {p : ByteArray → Bool} (ts : List ByteArray) : allF (ts.filter p) q k = (allF ts q k).filter fun x => p x.word := by
  unfold allF
  rw [nears_drop]
  exact (sort_eq ((sortF_perm _).filter _) (List.Pairwise.filter _ (sortF_sorted _))).symm
theorem inc_pair : ∀ {ts : List ByteArray}, Inc ts → ts.Pairwise fun a b => cmpW a b < 0 := fun {ts} h => by
  rw [List.pairwise_iff_getElem]
  intro i j hi hj hij
  exact inc_lt' h hij (List.getElem?_eq_getElem hi) (List.getElem?_eq_getElem hj)
theorem nears_word {q : ByteArray} {k : Int} {ts : List ByteArray} {x : Item} (h : x ∈ nearsF q k ts) : x.word ∈ ts := by
  unfold nearsF at h
  obtain ⟨t, ht, he⟩ := List.mem_filterMap.1 h
  cases hn : nearF q t k with
  | none => rw [hn] at he; cases he
  | some d => rw [hn] at he; cases he; exact ht
theorem nears_distinct {q : ByteArray} {k : Int} : ∀ {ts : List ByteArray}, (ts.Pairwise fun a b => cmpW a b < 0) → (nearsF q k ts).Pairwise fun x y => x.word ≠ y.word
  | [], _ => List.Pairwise.nil
  | t :: ts, h => by
    have hp := List.pairwise_cons.1 h
    have ih := nears_distinct (q := q) (k := k) hp.2
    cases hn : nearF q t k with
    | none =>
      have : nearsF q k (t :: ts) = nearsF q k ts := by unfold nearsF; rw [List.filterMap_cons, hn]; rfl
      rw [this]; exact ih
    | some d =>
      have : nearsF q k (t :: ts) = ⟨(d : Int), t⟩ :: nearsF q k ts := by unfold nearsF; rw [List.filterMap_cons, hn]; rfl
      rw [this]
      refine List.pairwise_cons.2 ⟨fun y hy e => ?_, ih⟩
      have h1 := hp.1 y.word (nears_word hy)
      simp only at e
      rw [← e, cmpW_self] at h1
      omega
theorem all_distinct {q : ByteArray} {k : Int} {ts : List ByteArray} (h : Inc ts) : (allF ts q k).Pairwise fun x y => x.word ≠ y.word :=
  (sortF_perm _).symm.pairwise (nears_distinct (inc_pair h)) (fun h e => h e.symm)
theorem memB_one {u t : ByteArray} : memB [u] t = true ↔ t = u := by rw [memB_iff]; simp
theorem drop_one : ∀ {l : List Item} {w : Nat} {x : Item}, (l.Pairwise fun x y => x.word ≠ y.word) → l[w]? = some x → l.filter (fun y => !memB [x.word] y.word) = l.take w ++ l.drop (w + 1)
  | [], w, x, _, h => by simp at h
  | y :: l, 0, x, hp, h => by
    obtain rfl : y = x := by simpa using h
    have hp := List.pairwise_cons.1 hp
    rw [List.filter_cons_of_neg (by rw [memB_one.2 rfl]; decide)]
    rw [List.take_zero, List.nil_append]
    show _ = l
    rw [List.filter_eq_self]
    intro z hz
    cases hm : memB [y.word] z.word
    · rfl
    · exact absurd (memB_one.1 hm).symm (hp.1 z hz)
  | y :: l, w + 1, x, hp, h => by
    have hp := List.pairwise_cons.1 hp
    have h' : l[w]? = some x := by simpa using h
    have ih := drop_one hp.2 h'
    have hne := hp.1 x (List.mem_of_getElem? h')
    have hm : memB [x.word] y.word = false := by
      cases hm : memB [x.word] y.word
      · rfl
      · exact absurd (memB_one.1 hm) hne
    rw [List.filter_cons_of_pos (by rw [hm]; rfl), ih]
    simp
/-- Without one of the words that were told, the rest is told. -/
theorem far_take {A : List Item} {m w : Nat} (h1 : w < (A.take m).length) :
    ((A.take m).take w ++ (A.take m).drop (w + 1)).length ≤ ((A.take w ++ A.drop (w + 1)).take m).length ∧
    ((A.take w ++ A.drop (w + 1)).take m).take ((A.take m).take w ++ (A.take m).drop (w + 1)).length = (A.take m).take w ++ (A.take m).drop (w + 1) := by
  have hl := h1
  rw [List.length_take] at hl
  have e1 : (A.take m).take w = A.take w := by rw [List.take_take, Nat.min_eq_left (by omega)]
  have e2 : (A.take m).drop (w + 1) = (A.drop (w + 1)).take (m - (w + 1)) := by rw [List.drop_take]
  rw [e1, e2]
  have hw : (A.take w).length = w := by rw [List.length_take]; omega
  refine ⟨?_, ?_⟩
  · simp only [List.length_append, List.length_take, List.length_drop]
    omega
  · rw [List.take_take, List.take_append, List.length_append, hw]
    congr 1
    · rw [List.take_of_length_le (by simp only [List.length_take, List.length_drop]; omega)]
    · simp only [List.length_take, List.length_drop]
      rw [List.take_eq_take_iff]
      simp only [List.length_drop]
      omega
end Go.Proofs.Ytpmhelfdmhjnbaa
