import Derived.Test.YtpmhelfdmhjnbaaUD
/- MergeBegins: the plain part, second. -/
namespace Go.Proofs.Ytpmhelfdmhjnbaa
open Go Go.Ink Go.Plain
set_option linter.unusedVariables false
set_option linter.unusedSimpArgs false
attribute [local irreducible] lessF

/-- What is left to hear, and to end. -/
def Kd.mu (k : Kd) : Nat := (k.p.length - k.c) + (if k.s.ended then 0 else 1)
def muF (K : List Kd) : Nat := (K.map Kd.mu).sum
theorem mu_set {K : List Kd} {j : Nat} {k k' : Kd} (h : K[j]? = some k) (hm : k'.mu < k.mu) : muF (K.set j k') < muF K := by
  unfold muF
  induction K generalizing j with
  | nil => simp at h
  | cons a K ih =>
    cases j with
    | zero =>
      obtain rfl : a = k := by simpa using h
      simp only [List.set_cons_zero, List.map_cons, List.sum_cons]; omega
    | succ j =>
      have h' : K[j]? = some k := by simpa using h
      have := ih h'
      simp only [List.set_cons_succ, List.map_cons, List.sum_cons]; omega
theorem mu_same : ∀ {K K' : List Kd}, K'.map Kd.p = K.map Kd.p → K'.map Kd.c = K.map Kd.c → K'.map (fun k => k.s.ended) = K.map (fun k => k.s.ended) → muF K' = muF K
  | [], [], _, _, _ => rfl
  | [], b :: K', h, _, _ => by simp at h
  | a :: K, [], h, _, _ => by simp at h
  | a :: K, b :: K', h1, h2, h3 => by
    simp only [List.map_cons, List.cons.injEq] at h1 h2 h3
    have ih := mu_same h1.2 h2.2 h3.2
    unfold muF at ih ⊢
    simp only [List.map_cons, List.sum_cons, ih]
    unfold Kd.mu
    rw [h1.1, h2.1, h3.1]
def Kd.next (k : Kd) (b : List Item) (e : Bool) : Kd := ⟨k.s.put b e, k.p, k.c + b.length⟩
theorem bg_put {A : List Item} {N : Int} {K : List Kd} {st : MS} {j sz : Nat} {k : Kd} {b : List Item} {e : Bool} (hb : Bg A N K st) (hk : K[j]? = some k) (hw : k.s.wanted = true) (hd : st.done = false) (h1 : 1 ≤ sz) (h5 : sz ≤ 5) (hbq : (k.p.drop k.c).take sz = b) (he : e = decide (b.length = (k.p.drop k.c).length)) :
    ∃ st1, st.put (j : Nat) k.s.seq b e = (true, st1) ∧ Bg A N (K.set j (k.next b e)) st1 ∧ muF (K.set j (k.next b e)) < muF K ∧ st1.told = st.told := by
  have hok := hb.ok k (List.mem_of_getElem? hk)
  have hsj : st.shs[j]? = some k.s := by rw [hb.shs, List.getElem?_map, hk]; rfl
  have hwe : k.s.ended = false ∧ k.s.waits = [] := by
    unfold PSh.wanted at hw
    simp at hw
    exact hw
  have hbl : b.length = min sz (k.p.length - k.c) := by rw [← hbq, List.length_take, List.length_drop]
  have hdl : (k.p.drop k.c).length = k.p.length - k.c := List.length_drop ..
  have hle := hok.le
  have hincb : Incr b := by rw [← hbq]; exact incr_part hok.inc k.c sz
  have hch : chainF k.s.last k.s.heard 0 b = true := by
    refine chain_incr hincb fun hh x hx => ?_
    rw [hok.heard] at hh
    have h0 : 0 < k.c := of_decide_eq_true hh
    have hne2 : k.p.take k.c ≠ [] := fun e => by
      have := congrArg List.length e
      rw [List.length_take, List.length_nil] at this
      omega
    have hlast := hok.last
    rw [List.getLast?_eq_some_getLast hne2, Option.getD_some] at hlast
    refine incr_le hok.inc (a := k.s.last) (c := k.c) (by rw [hlast]; exact List.getLast_mem hne2) ?_
    rw [← hbq] at hx
    exact List.mem_of_mem_take hx
  have ht : st.takes k.s k.s.seq b e = true := by
    unfold MS.takes
    have g1 : decide (b.length ≤ 5) = true := decide_eq_true (by omega)
    have g2 : (decide (b.length ≠ 0) || decide (b.length = k.p.length - k.c)) = true := by
      rw [Bool.or_eq_true, decide_eq_true_eq, decide_eq_true_eq]; omega
    rw [hd, hw, hok.least, hch, he, hdl, g1, g2]
    simp
  have hput : st.put (j : Nat) k.s.seq b e = (true, { st with shs := st.shs.set j (k.s.put b e) }) := by
    unfold MS.put
    rw [if_pos (by omega), Int.toNat_natCast, hsj]
    simp only [ht, if_true]
  have hsplit : k.p.take (k.c + b.length) = k.p.take k.c ++ b := by
    rw [List.take_add]
    congr 1
    rw [← hbq, List.length_take, List.take_eq_take_iff]
    omega
  have hdrop : k.p.drop k.c = b ++ k.p.drop (k.c + b.length) := by
    have e1 : (k.p.drop k.c).take b.length = b := by
      conv => rhs; rw [← hbq]
      rw [List.take_eq_take_iff, hdl]
      omega
    conv => lhs; rw [← List.take_append_drop b.length (k.p.drop k.c), e1]
    rw [List.drop_drop]
  have hun : k.un = (k.next b e).un := by
    unfold Kd.un Kd.next PSh.put
    simp only
    rw [hwe.2, List.nil_append]; exact hdrop
  refine ⟨_, hput, ⟨hb.n_, ?_, ?_, hb.told, hb.few, ?_⟩, mu_set hk ?_, rfl⟩
  · simp only; rw [hb.shs, List.map_set]; rfl
  · intro q hq
    rcases List.mem_or_eq_of_mem_set hq with hq | rfl
    · exact hb.ok q hq
    · refine ⟨hok.inc, ?_, hok.least, ?_, ?_, ⟨k.p.take k.c, hsplit⟩, ?_⟩
      · show k.c + b.length ≤ k.p.length; omega
      · show (k.s.heard || decide (0 < b.length)) = decide (0 < k.c + b.length)
        rw [hok.heard, Bool.eq_iff_iff]; simp; omega
      · show (b.getLast?).getD k.s.last = ((k.p.take (k.c + b.length)).getLast?).getD Item.zero
        rw [hsplit, List.getLast?_append, hok.last]
        cases b.getLast? <;> simp
      · show e = true → k.c + b.length = k.p.length
        intro h
        rw [he, decide_eq_true_eq, hdl] at h
        omega
  · rw [flat_same hk hun]; exact hb.perm
  · unfold Kd.mu Kd.next PSh.put
    simp only [hwe.1]
    rw [he]
    by_cases h : b.length = (k.p.drop k.c).length
    · rw [decide_eq_true h, if_pos rfl, if_neg Bool.false_ne_true]; omega
    · rw [decide_eq_false h, if_neg Bool.false_ne_true]
      rw [hdl] at h
      omega
theorem bg_wants {A : List Item} {N : Int} {K : List Kd} {st : MS} {i : Nat} {z : Int} (hb : Bg A N K st) (h : st.wants[i]? = some z) : st.done = false ∧ ∃ (j : Nat) (k : Kd), z = (j : Nat) ∧ K[j]? = some k ∧ k.s.wanted = true := by
  unfold MS.wants at h
  cases hd : st.done
  · rw [hd, if_neg Bool.false_ne_true] at h
    refine ⟨rfl, ?_⟩
    have hm := List.mem_of_getElem? h
    unfold wantsU at hm
    obtain ⟨j, hj, rfl⟩ := List.mem_map.1 hm
    obtain ⟨h1, h2⟩ := List.mem_filter.1 hj
    rw [hb.shs, List.getElem?_map] at h2
    cases hk : K[j]? with
    | none => rw [hk] at h2; simp at h2
    | some k => rw [hk] at h2; exact ⟨j, k, rfl, hk, h2⟩
  · rw [hd, if_pos rfl] at h; simp at h
theorem wanted_mem {st : MS} {s : PSh} (hd : st.done = false) (hs : s ∈ st.shs) (hw : s.wanted = true) : st.wants ≠ [] := by
  intro h
  unfold MS.wants at h
  rw [hd, if_neg Bool.false_ne_true] at h
  obtain ⟨j, hj⟩ := List.getElem?_of_mem hs
  have : (j : Int) ∈ wantsU st.shs st.shs.length := by
    unfold wantsU
    refine List.mem_map.2 ⟨j, List.mem_filter.2 ⟨List.mem_range.2 (List.getElem?_eq_some_iff.1 hj).1, ?_⟩, rfl⟩
    rw [hj]; exact hw
  rw [h] at this
  simp at this
/-- When nothing is sure and nothing is wanted, all is done. -/
theorem bg_over {st : MS} (hs : st.step = none) (hw : st.wants = []) : st.done = true := by
  cases hd : st.done
  · exfalso
    have hnw : ∀ s ∈ st.shs, s.wanted = false := fun s hm => by
      cases h : s.wanted
      · rfl
      · exact absurd hw (wanted_mem hd hm h)
    unfold MS.step at hs
    rw [hd, if_neg Bool.false_ne_true] at hs
    cases ha : aheadP st.shs st.shs.length with
    | none =>
      have hb : st.shs.any PSh.busy = false := by
        rw [List.any_eq_false]
        intro s hm
        obtain ⟨j, hj⟩ := List.getElem?_of_mem hm
        have hwt := ahead_none ha j s (List.getElem?_eq_some_iff.1 hj).1 hj
        have h2 := hnw s hm
        unfold PSh.wanted at h2
        unfold PSh.busy
        rw [hwt] at h2 ⊢
        simp at h2 ⊢
        exact h2
      unfold MS.done at hd
      rw [hb] at hd
      simp at hd
    | some p =>
      obtain ⟨j, x⟩ := p
      rw [ha] at hs
      simp only at hs
      have hm : (st.shs.any fun s => s.might x) = false := by
        rw [List.any_eq_false]
        intro s hm
        unfold PSh.might
        rw [hnw s hm]; simp
      rw [hm, if_neg Bool.false_ne_true] at hs
      obtain ⟨_, s, l, hj, _⟩ := ahead_at ha
      rw [hj] at hs
      cases hs
  · rfl
theorem bg_le {A : List Item} {N : Int} {K : List Kd} {st : MS} (hb : Bg A N K st) : st.told.length ≤ A.length := by
  have := congrArg List.length hb.told
  rw [List.length_take] at this
  omega
theorem bg_done {A : List Item} {N : Int} {K : List Kd} {st : MS} (hb : Bg A N K st) (hd : st.done = true) : (st.told.length : Int) = min (A.length : Int) N := by
  have hle := bg_le hb
  have hfew := hb.few
  unfold MS.done at hd
  rw [Bool.or_eq_true, decide_eq_true_eq, hb.n_] at hd
  rcases hd with h | h
  · omega
  · have hnb : st.shs.any PSh.busy = false := by simpa using h
    have hu : K.flatMap Kd.un = [] := by
      rw [List.flatMap_eq_nil_iff]
      intro k hk
      have hok := hb.ok k hk
      have h1 := List.any_eq_false.1 hnb k.s (by rw [hb.shs]; exact List.mem_map.2 ⟨k, hk, rfl⟩)
      unfold PSh.busy at h1
      simp at h1
      unfold Kd.un
      have := hok.ended h1.1
      rw [h1.2, this, List.drop_length]; rfl
    have hp := hb.perm.length_eq
    rw [hu, List.append_nil] at hp
    omega
def kd0 (p : List Item) : Kd := ⟨(mkSh 0).p, p, 0⟩
theorem ahead_empty {shs : List PSh} (h : ∀ s ∈ shs, s.waits = []) : ∀ k, aheadP shs k = none
  | 0 => rfl
  | k + 1 => by
    rw [aheadP]
    have : (shs[k]?).bind (·.waits.head?) = none := by
      cases hs : shs[k]? with
      | none => rfl
      | some s => simp [h s (List.mem_of_getElem? hs)]
    rw [this]
    exact ahead_empty h k
theorem bg_new {A : List Item} {N : Int} {P : List (List Item)} (hN : 1 ≤ N) (hi : ∀ p ∈ P, Incr p) (hp : A.Perm P.flatten) : Bg A N (P.map kd0) (newF (List.replicate P.length 0) N) := by
  refine ⟨rfl, ?_, ?_, rfl, by simp [newF]; omega, ?_⟩
  · simp only [newF, List.map_replicate, List.map_map]
    symm
    rw [List.eq_replicate_iff]
    refine ⟨by simp, fun b hb => ?_⟩
    obtain ⟨p, _, rfl⟩ := List.mem_map.1 hb
    rfl
  · intro k hk
    obtain ⟨p, hpp, rfl⟩ := List.mem_map.1 hk
    exact ⟨hi p hpp, Nat.zero_le _, rfl, rfl, rfl, ⟨[], rfl⟩, fun h => by simp [kd0, mkSh] at h⟩
  · show A.Perm ([] ++ (P.map kd0).flatMap Kd.un)
    rw [List.nil_append]
    have : (P.map kd0).flatMap Kd.un = P.flatten := by
      rw [List.flatMap_map]
      have e : (fun p => (kd0 p).un) = id := by funext p; rfl
      rw [e, List.flatMap_id]
    rw [this]; exact hp
theorem new_step {N : Int} {n : Nat} : (newF (List.replicate n 0) N).step = none := step_none (ahead_empty (fun s hs => by
  simp only [newF, List.map_replicate] at hs
  rw [List.eq_of_mem_replicate hs]; rfl) _)
theorem mu_new {P : List (List Item)} : muF (P.map kd0) = P.flatten.length + P.length := by
  induction P with
  | nil => rfl
  | cons p P ih =>
    unfold muF at ih ⊢
    simp only [List.map_cons, List.sum_cons, List.flatten_cons, List.length_append, List.length_cons, ih]
    have : (kd0 p).mu = p.length + 1 := by unfold Kd.mu kd0 mkSh; simp
    omega
end Go.Proofs.Ytpmhelfdmhjnbaa
