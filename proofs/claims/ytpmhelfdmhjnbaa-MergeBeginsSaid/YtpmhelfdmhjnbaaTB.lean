import Derived.Test.YtpmhelfdmhjnbaaT9
/- RankParts: the plain part. -/
namespace Go.Proofs.Ytpmhelfdmhjnbaa
open Go Go.Ink Go.Plain
set_option linter.unusedVariables false
set_option linter.unusedSimpArgs false

/-! ### the first of a sorted list -/
theorem sortF_congr {xs ys : List Item} (h : xs.Perm ys) : sortF xs = sortF ys := sort_eq ((sortF_perm xs).trans h) (sortF_sorted xs)
theorem drop_over {M : List Item} {x y : Item} {i : Nat} (hs : SortedI M) (hy : M[i]? = some y) (h : lessF x y = true) : (M.drop i).countP (fun z => !lessF x z) = 0 := by
  rw [List.countP_eq_zero]
  intro z hz
  obtain ⟨k, hk, hkz⟩ := mem_drop_at hz
  simp [less_le h (sorted_get hs hk hy hkz)]
theorem count_few {M : List Item} {x y : Item} {i : Nat} (hs : SortedI M) (hy : M[i]? = some y) (h : lessF x y = true) : M.countP (fun z => !lessF x z) ≤ i := by
  have h1 := drop_over hs hy h
  have h2 : M.countP (fun z => !lessF x z) = (M.take i).countP (fun z => !lessF x z) + (M.drop i).countP (fun z => !lessF x z) := by
    rw [← List.countP_append, List.take_append_drop]
  have h3 := List.countP_le_length (p := fun z => !lessF x z) (l := M.take i)
  rw [List.length_take] at h3
  omega
theorem take_put {M : List Item} {x : Item} {N : Nat} (hs : SortedI M) (hc : N ≤ M.countP (fun z => !lessF x z)) : (sortF (x :: M)).take N = M.take N := by
  have hN : N ≤ M.length := Nat.le_trans hc List.countP_le_length
  have hP : ∀ y ∈ M.take N, lessF x y = false := fun y hy => by
    obtain ⟨i, hi, hiy⟩ := mem_take_at hy
    cases h : lessF x y
    · rfl
    · have := count_few hs hiy h; omega
  have hsp := sorted_parts (A := M.take N) (B := M.drop N) (by rw [List.take_append_drop]; exact hs)
  have he : M.take N ++ sortF (x :: M.drop N) = sortF (x :: M) := by
    apply sort_eq
    · refine (List.Perm.append_left _ (sortF_perm _)).trans ?_
      refine List.perm_middle.trans ?_
      rw [List.take_append_drop]
    · refine List.pairwise_append.2 ⟨hsp.1, sortF_sorted _, fun a ha b hb => ?_⟩
      have hb2 := (sortF_perm _).mem_iff.1 hb
      rcases List.mem_cons.1 hb2 with rfl | hb2
      · exact hP a ha
      · obtain ⟨i, hi, hia⟩ := mem_take_at ha
        obtain ⟨k, hk, hkb⟩ := mem_drop_at hb2
        exact sorted_get hs (by omega) hia hkb
  rw [← he, List.take_append_of_le_length (by rw [List.length_take]; omega), List.take_take, Nat.min_self]
theorem topk {N : Nat} : ∀ (X M : List Item), (∀ x ∈ X, N ≤ M.countP (fun z => !lessF x z)) → (sortF (M ++ X)).take N = (sortF M).take N
  | [], M, _ => by rw [List.append_nil]
  | x :: X, M, h => by
    have e1 : sortF (M ++ x :: X) = sortF ((x :: M) ++ X) := sortF_congr List.perm_middle
    rw [e1, topk X (x :: M) (fun y hy => Nat.le_trans (h y (List.mem_cons_of_mem _ hy)) (by rw [List.countP_cons]; omega))]
    have e2 : sortF (x :: M) = sortF (x :: sortF M) := sortF_congr ((sortF_perm M).symm.cons x)
    rw [e2]
    exact take_put (sortF_sorted M) (by rw [(sortF_perm M).countP_eq]; exact h x (List.mem_cons_self ..))
theorem count_first {A B : List Item} {x : Item} {N : Nat} (hs : SortedI A) (hx : x ∈ A.drop N) : N ≤ (A.take N ++ B).countP (fun z => !lessF x z) := by
  obtain ⟨k, hk, hkx⟩ := mem_drop_at hx
  have hl := (List.getElem?_eq_some_iff.1 hkx).1
  rw [List.countP_append]
  have : (A.take N).countP (fun z => !lessF x z) = (A.take N).length := by
    rw [List.countP_eq_length]
    intro y hy
    obtain ⟨i, hi, hiy⟩ := mem_take_at hy
    simp [sorted_get hs (by omega) hiy hkx]
  rw [this, List.length_take]
  omega
theorem parts_take {A C : List Item} {N : Nat} (hA : SortedI A) (hC : SortedI C) : (sortF (A.take N ++ C.take N)).take N = (sortF (A ++ C)).take N := by
  have e : sortF (A ++ C) = sortF ((A.take N ++ C.take N) ++ (A.drop N ++ C.drop N)) := by
    apply sortF_congr
    have h1 : (A ++ C) = (A.take N ++ A.drop N) ++ (C.take N ++ C.drop N) := by rw [List.take_append_drop, List.take_append_drop]
    rw [h1, List.append_assoc, List.append_assoc]
    refine List.Perm.append_left _ ?_
    rw [← List.append_assoc, ← List.append_assoc]
    exact List.Perm.append_right _ List.perm_append_comm
  rw [e]
  refine (topk _ _ fun x hx => ?_).symm
  rcases List.mem_append.1 hx with hx | hx
  · exact count_first hA hx
  · rw [List.perm_append_comm.countP_eq]; exact count_first hC hx
/-! ### two lists as one -/
def mergeF : List ByteArray → List ByteArray → List ByteArray
  | [], b => b
  | x :: a, [] => x :: a
  | x :: a, y :: b => if cmpW x y < 0 then x :: mergeF a (y :: b) else if x = y then mergeF a (y :: b) else y :: mergeF (x :: a) b
termination_by a b => a.length + b.length
theorem inc_tail {x : ByteArray} {l : List ByteArray} (h : Inc (x :: l)) : Inc l := fun i a b ha hb => h (i + 1) a b (by simpa using ha) (by simpa using hb)
theorem inc_head {x : ByteArray} {l : List ByteArray} (h : Inc (x :: l)) : ∀ y ∈ l, cmpW x y < 0 := (List.pairwise_cons.1 (inc_pair h)).1
theorem out_none {ts us : List ByteArray} (h : ∀ t ∈ ts, t ∉ us) : outF ts us = ts := by
  unfold outF
  rw [List.filter_eq_self]
  intro t ht
  cases hm : memB us t
  · rfl
  · exact absurd (memB_iff.1 hm) (h t ht)
theorem out_cons_in {t : ByteArray} {ts us : List ByteArray} (h : t ∈ us) : outF (t :: ts) us = outF ts us := by
  unfold outF
  rw [List.filter_cons_of_neg]
  rw [memB_iff.2 h]; decide
theorem out_cons_out {t : ByteArray} {ts us : List ByteArray} (h : t ∉ us) : outF (t :: ts) us = t :: outF ts us := by
  unfold outF
  rw [List.filter_cons_of_pos]
  cases hm : memB us t
  · rfl
  · exact absurd (memB_iff.1 hm) h
theorem out_more {x : ByteArray} {ts us : List ByteArray} (h : x ∉ ts) : outF ts (x :: us) = outF ts us := by
  unfold outF
  apply List.filter_congr
  intro t ht
  have : memB (x :: us) t = memB us t := by
    rw [Bool.eq_iff_iff, memB_iff, memB_iff, List.mem_cons]
    exact ⟨fun h2 => h2.resolve_left (fun e => h (e ▸ ht)), .inr⟩
  rw [this]
theorem merge_nil (a : List ByteArray) : mergeF a [] = a := by cases a <;> simp [mergeF]
theorem merge_perm : ∀ (a b : List ByteArray), Inc a → Inc b → (mergeF a b).Perm (a ++ outF b a)
  | [], b, _, _ => by
    rw [mergeF, out_none (fun t _ => by simp), List.nil_append]
  | x :: a, [], _, _ => by rw [mergeF]; simp [outF]
  | x :: a, y :: b, ha, hb => by
    have ha1 := inc_head ha
    have hb1 := inc_head hb
    rw [mergeF]
    split
    · rename_i h
      have ih := merge_perm a (y :: b) (inc_tail ha) hb
      have hn : x ∉ y :: b := fun hm => by
        rcases List.mem_cons.1 hm with e | hm
        · rw [e, cmpW_self] at h; omega
        · have := cmpW_trans h (hb1 x hm); rw [cmpW_self] at this; omega
      rw [out_more hn]
      exact ih.cons x
    · rename_i h
      split
      · rename_i e
        subst e
        have ih := merge_perm a (x :: b) (inc_tail ha) hb
        have hn : x ∉ a := fun hm => by have := ha1 x hm; rw [cmpW_self] at this; omega
        have hn2 : x ∉ b := fun hm => by have := hb1 x hm; rw [cmpW_self] at this; omega
        rw [out_cons_out hn] at ih
        rw [out_cons_in (List.mem_cons_self ..), out_more hn2]
        exact ih.trans List.perm_middle
      · rename_i e
        have ih := merge_perm (x :: a) b ha (inc_tail hb)
        have hlt : cmpW y x < 0 := by
          have h0 : cmpW x y ≠ 0 := fun h0 => e (cmpW_eq h0)
          rw [cmpW_neg]; omega
        have hn : y ∉ x :: a := fun hm => by
          rcases List.mem_cons.1 hm with e2 | hm
          · exact e e2.symm
          · have := cmpW_trans hlt (ha1 y hm); rw [cmpW_self] at this; omega
        rw [out_cons_out hn]
        exact (ih.cons y).trans List.perm_middle.symm
termination_by a b => a.length + b.length
theorem merge_len (a b : List ByteArray) (ha : Inc a) (hb : Inc b) : (mergeF a b).length ≤ a.length + b.length := by
  have h1 := (merge_perm a b ha hb).length_eq
  have h2 := out_len b a
  rw [List.length_append] at h1
  omega
theorem nears_append (q : ByteArray) (k : Int) (a b : List ByteArray) : nearsF q k (a ++ b) = nearsF q k a ++ nearsF q k b := by
  unfold nearsF; rw [List.filterMap_append]
theorem nears_perm {q : ByteArray} {k : Int} {a b : List ByteArray} (h : a.Perm b) : (nearsF q k a).Perm (nearsF q k b) := h.filterMap _
theorem merge_all {a b : List ByteArray} {q : ByteArray} {k : Int} (ha : Inc a) (hb : Inc b) : allF (mergeF a b) q k = sortF (allF a q k ++ allF (outF b a) q k) := by
  unfold allF
  apply sortF_congr
  refine (nears_perm (merge_perm a b ha hb)).trans ?_
  rw [nears_append]
  exact (List.Perm.append (sortF_perm _) (sortF_perm _)).symm
theorem merge_top {a b : List ByteArray} {x : Qy} (ha : Inc a) (hb : Inc b) (hm : mayF x = true) : (sortF (topF a x ++ topF (outF b a) x)).take x.many.toNat = topF (mergeF a b) x := by
  unfold topF
  rw [if_pos hm, if_pos hm, if_pos hm, merge_all ha hb]
  exact parts_take (sortF_sorted _) (sortF_sorted _)
theorem take_le {A B : List Item} {N : Nat} (h : A.take N = B) : B.length ≤ A.length ∧ A.take B.length = B := by
  subst h
  rw [List.length_take]
  refine ⟨by omega, ?_⟩
  rcases Nat.le_total N A.length with h | h
  · rw [Nat.min_eq_left h]
  · rw [Nat.min_eq_right h, List.take_length, List.take_of_length_le h]
end Go.Proofs.Ytpmhelfdmhjnbaa
