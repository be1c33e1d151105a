import Derived.Test.YtpmhelfdmhjnbaaTB
/- RankFirst: the plain part. -/
namespace Go.Proofs.Ytpmhelfdmhjnbaa
open Go Go.Ink Go.Plain
set_option linter.unusedVariables false
set_option linter.unusedSimpArgs false

/-- Who is near and not told comes behind all that is told, and as many are told as may be. -/
theorem first_rest {A : List Item} {x : Item} {N : Nat} (hs : SortedI A) (hx : x ∈ A) (hn : x ∉ A.take N) : (A.take N).length = N ∧ ∀ (i : Nat) (y : Item), (A.take N)[i]? = some y → lessF x y = false := by
  have hd : x ∈ A.drop N := by
    have : x ∈ A.take N ++ A.drop N := by rw [List.take_append_drop]; exact hx
    exact (List.mem_append.1 this).resolve_left hn
  obtain ⟨k, hk, hkx⟩ := mem_drop_at hd
  have hl := (List.getElem?_eq_some_iff.1 hkx).1
  refine ⟨by rw [List.length_take]; omega, fun i y hy => ?_⟩
  have hi := (List.getElem?_eq_some_iff.1 hy).1
  rw [List.length_take] at hi
  rw [List.getElem?_take_of_lt (by omega)] at hy
  exact sorted_get hs (by omega) hy hkx
theorem all_mem {ts : List ByteArray} {q : ByteArray} {k : Int} {x : Item} : x ∈ allF ts q k ↔ x ∈ nearsF q k ts := (sortF_perm _).mem_iff
theorem edit_near {t q : ByteArray} {k : Int} (ht : fine t = true) (hq : fine q = true) : nearF q t k = if editF t q ≤ k then some (editF t q).toNat else none := by
  have he : editF t q = (dist (runesF q) (runesF t) : Int) := by unfold editF; rw [if_pos ⟨ht, hq⟩, dist_symm]
  rw [he]
  unfold nearF
  by_cases h : (dist (runesF q) (runesF t) : Int) ≤ k
  · rw [if_pos ⟨hq, ht, h⟩, if_pos h]; rfl
  · rw [if_neg (fun h2 => h h2.2.2), if_neg h]
theorem edit_nn {t q : ByteArray} (ht : fine t = true) (hq : fine q = true) : 0 ≤ editF t q := by
  unfold editF; rw [if_pos ⟨ht, hq⟩]; omega
theorem may_fine {x : Qy} (h : mayF x = true) : fine x.text = true := by
  unfold mayF askedF lenF at h
  by_cases hf : fine x.text = true
  · exact hf
  · rw [if_neg hf] at h; simp at h
theorem near_mem {ts : List ByteArray} {q : ByteArray} {k : Int} {x : Item} (ht : ∀ t ∈ ts, fine t = true) (hq : fine q = true) (h : x ∈ nearsF q k ts) : x.word ∈ ts ∧ x.dist = editF x.word q ∧ x.dist ≤ k := by
  unfold nearsF at h
  obtain ⟨t, htm, he⟩ := List.mem_filterMap.1 h
  rw [edit_near (ht t htm) hq] at he
  have h0 := edit_nn (ht t htm) hq
  split at he
  · simp only [Option.map_some, Option.some.injEq] at he
    subst he
    refine ⟨htm, ?_, ?_⟩ <;> simp only <;> omega
  · simp at he
theorem mem_near {ts : List ByteArray} {q t : ByteArray} {k : Int} (ht : t ∈ ts) (hf : fine t = true) (hq : fine q = true) (h : editF t q ≤ k) : (⟨editF t q, t⟩ : Item) ∈ nearsF q k ts := by
  unfold nearsF
  refine List.mem_filterMap.2 ⟨t, ht, ?_⟩
  have h0 := edit_nn hf hq
  rw [edit_near hf hq, if_pos h]
  simp only [Option.map_some, Option.some.injEq, Item.mk.injEq, and_true]
  omega
theorem nears_more {ts : List ByteArray} {q t : ByteArray} {k : Int} {i : Nat} (h : ts[i]? = some t) (hf : fine t = true) (hq : fine q = true) : (nearsF q k (ts.take (i + 1))).length = (nearsF q k (ts.take i)).length + (if editF t q ≤ k then 1 else 0) := by
  have htk : ts.take (i + 1) = ts.take i ++ [t] := by rw [List.take_add_one, h]; rfl
  have hn := edit_near (k := k) hf hq
  rw [htk]
  split
  · rename_i h2
    rw [if_pos h2] at hn
    rw [nears_some hn]; simp
  · rename_i h2
    rw [if_neg h2] at hn
    rw [nears_none hn]; simp
/-- What is told is in order, each ahead of the next. -/
theorem all_strict {ts : List ByteArray} {q : ByteArray} {k : Int} (h : Inc ts) : (allF ts q k).Pairwise fun a b => lessF a b = true := by
  have h1 : SortedI (allF ts q k) := sortF_sorted _
  have h2 := all_distinct (q := q) (k := k) h
  unfold SortedI Sorted at h1
  refine (h1.and h2).imp fun {a b} hab => ?_
  by_cases e : a = b
  · exact absurd (congrArg Item.word e) hab.2
  · exact less_conn (fun e2 => e e2.symm) hab.1
theorem strict_at {A : List Item} {N i : Nat} {x y : Item} (h : A.Pairwise fun a b => lessF a b = true) (hx : (A.take N)[i]? = some x) (hy : (A.take N)[i + 1]? = some y) : lessF x y = true := by
  have hp : (A.take N).Pairwise fun a b => lessF a b = true := h.take
  have h1 := List.getElem?_eq_some_iff.1 hx
  have h2 := List.getElem?_eq_some_iff.1 hy
  have := List.pairwise_iff_getElem.1 hp i (i + 1) h1.1 h2.1 (by omega)
  rwa [h1.2, h2.2] at this
theorem all_len (ts : List ByteArray) (q : ByteArray) (k : Int) : (allF ts q k).length = (nearsF q k ts).length := sortF_len _
end Go.Proofs.Ytpmhelfdmhjnbaa
