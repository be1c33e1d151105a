import Derived.Test.YtpmhelfdmhjnbaaUC
/- MergeBegins: the plain part. -/
namespace Go.Proofs.Ytpmhelfdmhjnbaa
open Go Go.Ink Go.Plain
set_option linter.unusedVariables false
set_option linter.unusedSimpArgs false
attribute [local irreducible] lessF

/-- A shard, its part of the items, and how far it has told. -/
structure Kd where
  s : PSh
  p : List Item
  c : Nat
def Kd.un (k : Kd) : List Item := k.s.waits ++ k.p.drop k.c
structure Kd.Ok (k : Kd) : Prop where
  inc : Incr k.p
  le : k.c ≤ k.p.length
  least : k.s.least = 0
  heard : k.s.heard = decide (0 < k.c)
  last : k.s.last = ((k.p.take k.c).getLast?).getD Item.zero
  waits : ∃ t, k.p.take k.c = t ++ k.s.waits
  ended : k.s.ended = true → k.c = k.p.length
structure Bg (A : List Item) (N : Int) (K : List Kd) (st : MS) : Prop where
  n_ : st.n = N
  shs : st.shs = K.map Kd.s
  ok : ∀ k ∈ K, k.Ok
  told : st.told = A.take st.told.length
  few : (st.told.length : Int) ≤ N
  perm : A.Perm (st.told ++ K.flatMap Kd.un)
theorem flat_set {K : List Kd} {j : Nat} {k k' : Kd} {x : Item} (h : K[j]? = some k) (hu : k.un = x :: k'.un) : (K.flatMap Kd.un).Perm (x :: (K.set j k').flatMap Kd.un) := by
  induction K generalizing j with
  | nil => simp at h
  | cons a K ih =>
    cases j with
    | zero =>
      obtain rfl : a = k := by simpa using h
      rw [List.set_cons_zero, List.flatMap_cons, List.flatMap_cons, hu]
      exact List.Perm.refl _
    | succ j =>
      have h' : K[j]? = some k := by simpa using h
      rw [List.set_cons_succ, List.flatMap_cons, List.flatMap_cons]
      exact (List.Perm.append_left _ (ih h')).trans List.perm_middle
theorem flat_same {K : List Kd} {j : Nat} {k k' : Kd} (h : K[j]? = some k) (hu : k.un = k'.un) : (K.set j k').flatMap Kd.un = K.flatMap Kd.un := by
  induction K generalizing j with
  | nil => simp at h
  | cons a K ih =>
    cases j with
    | zero =>
      obtain rfl : a = k := by simpa using h
      rw [List.set_cons_zero, List.flatMap_cons, List.flatMap_cons, hu]
    | succ j =>
      have h' : K[j]? = some k := by simpa using h
      rw [List.set_cons_succ, List.flatMap_cons, List.flatMap_cons, ih h']
theorem ahead_min : ∀ {k j : Nat} {shs : List PSh} {x : Item}, aheadP shs k = some (j, x) → ∀ (i : Nat) (s : PSh) (y : Item) (l : List Item), i < k → shs[i]? = some s → s.waits = y :: l → lessF y x = false
  | 0, j, shs, x, h, i, s, y, l, hi, _, _ => by omega
  | k + 1, j, shs, x, h, i, s, y, l, hi, hs, hw => by
    rw [aheadP] at h
    split at h
    · rename_i hx
      by_cases e : i = k
      · subst e
        rw [hs] at hx
        simp [hw] at hx
      · exact ahead_min h i s y l (by omega) hs hw
    · rename_i z hz
      have hk : i = k → y = z := fun e => by
        subst e
        rw [hs] at hz
        simp [hw] at hz
        exact hz
      split at h
      · rename_i hn
        cases h
        by_cases e : i = k
        · rw [hk e]; exact less_irr _
        · have := ahead_none hn i s (by omega) hs
          rw [hw] at this; cases this
      · rename_i j' w hj
        have ih := ahead_min hj
        split at h
        · rename_i hzw
          cases h
          by_cases e : i = k
          · rw [hk e]; exact less_irr _
          · exact le_trans' (less_asym hzw) (ih i s y l (by omega) hs hw)
        · rename_i hzw
          cases h
          by_cases e : i = k
          · rw [hk e]; simpa using hzw
          · exact ih i s y l (by omega) hs hw
theorem incr_le {p : List Item} (h : Incr p) {c : Nat} {a b : Item} (ha : a ∈ p.take c) (hb : b ∈ p.drop c) : lessF a b = true := by
  have hp : (p.take c ++ p.drop c).Pairwise fun a b => lessF a b = true := by rw [List.take_append_drop]; exact h.lt
  exact (List.pairwise_append.1 hp).2.2 a ha b hb
/-- The item that Tell takes is not behind any that is untold. -/
theorem least_un {A : List Item} {N : Int} {K : List Kd} {st : MS} {j : Nat} {x : Item} (hb : Bg A N K st) (hA : Incr A) (ha : aheadP st.shs st.shs.length = some (j, x)) (hm : (st.shs.any fun s => s.might x) = false) (hx0 : 0 ≤ x.dist) : ∀ y ∈ K.flatMap Kd.un, lessF y x = false := by
  intro y hy
  obtain ⟨k, hk, hy⟩ := List.mem_flatMap.1 hy
  obtain ⟨i, hi⟩ := List.getElem?_of_mem hk
  have hok := hb.ok k hk
  have hsi : st.shs[i]? = some k.s := by rw [hb.shs, List.getElem?_map, hi]; rfl
  have hil := (List.getElem?_eq_some_iff.1 hsi).1
  unfold Kd.un at hy
  cases hw : k.s.waits with
  | cons y0 l =>
    have h0 := ahead_min ha i k.s y0 l hil hsi hw
    obtain ⟨t, ht⟩ := hok.waits
    rw [hw] at ht hy
    have hy0 : y0 ∈ k.p.take k.c := by rw [ht]; simp
    rcases List.mem_append.1 hy with hy | hy
    · rcases List.mem_cons.1 hy with rfl | hy
      · exact h0
      · have hp : (k.p.take k.c).Pairwise fun a b => lessF a b = true := hok.inc.lt.take
        rw [ht] at hp
        have h1 := (List.pairwise_cons.1 (List.pairwise_append.1 hp).2.1).1 y hy
        exact le_trans' h0 (less_asym h1)
    · exact le_trans' h0 (less_asym (incr_le hok.inc hy0 hy))
  | nil =>
    rw [hw, List.nil_append] at hy
    have hcl : k.c < k.p.length := by
      rcases Nat.lt_or_ge k.c k.p.length with h | h
      · exact h
      · rw [List.drop_of_length_le h] at hy; simp at hy
    have hne : k.s.ended = false := by
      cases he : k.s.ended
      · rfl
      · have := hok.ended he; omega
    have hmi : k.s.might x = false := by
      have := List.any_eq_false.1 hm k.s (List.mem_of_getElem? hsi)
      simpa using this
    unfold PSh.might PSh.wanted at hmi
    rw [hne, hw, hok.heard, hok.least] at hmi
    rcases Nat.eq_zero_or_pos k.c with h0 | h0
    · rw [h0] at hmi
      simp at hmi
      omega
    · rw [decide_eq_true h0] at hmi
      simp at hmi
      have hlast := hok.last
      have hne2 : k.p.take k.c ≠ [] := fun e => by
        have := congrArg List.length e
        rw [List.length_take, List.length_nil] at this
        omega
      rw [List.getLast?_eq_some_getLast hne2, Option.getD_some] at hlast
      have hmem : k.s.last ∈ k.p.take k.c := by rw [hlast]; exact List.getLast_mem hne2
      have h1 := incr_le hok.inc hmem hy
      exact le_trans' hmi (less_asym h1)
theorem bg_step {A : List Item} {N : Int} {K : List Kd} {st st' : MS} {x : Item} (hb : Bg A N K st) (hA : Incr A) (h : st.step = some (x, st')) : ∃ K', Bg A N K' st' ∧ st'.told = st.told ++ [x] ∧ K'.map Kd.p = K.map Kd.p ∧ K'.map Kd.c = K.map Kd.c ∧ K'.map (fun k => k.s.ended) = K.map (fun k => k.s.ended) := by
  obtain ⟨j, s, hj, hd, ha, hm, rfl⟩ := step_parts h
  obtain ⟨_, s', l, hs', hw⟩ := ahead_at ha
  rw [hj] at hs'
  obtain rfl := Option.some.inj hs'
  have hkj : ∃ k, K[j]? = some k ∧ k.s = s := by
    rw [hb.shs, List.getElem?_map] at hj
    cases e : K[j]? with
    | none => rw [e] at hj; cases hj
    | some k => rw [e] at hj; exact ⟨k, rfl, Option.some.inj hj⟩
  obtain ⟨k, hk, rfl⟩ := hkj
  have hok := hb.ok k (List.mem_of_getElem? hk)
  have hku : k.un = x :: (Kd.un ⟨k.s.pop, k.p, k.c⟩) := by
    unfold Kd.un PSh.pop
    rw [hw]; rfl
  have hfl := flat_set (k' := ⟨k.s.pop, k.p, k.c⟩) hk hku
  have hxU : x ∈ K.flatMap Kd.un := hfl.mem_iff.2 (List.mem_cons_self ..)
  have hdr : (A.drop st.told.length).Perm (K.flatMap Kd.un) := by
    have hp := hb.perm
    have h1 : A.Perm (st.told ++ A.drop st.told.length) := by
      conv => lhs; rw [← List.take_append_drop st.told.length A, ← hb.told]
    exact (List.perm_append_left_iff _).1 (h1.symm.trans hp)
  have hxA : x ∈ A := List.mem_of_mem_drop (hdr.mem_iff.2 hxU)
  have hmin := least_un hb hA ha hm (hA.pos x hxA)
  have htk : A.take (st.told.length + 1) = st.told ++ [x] := by
    have hxd := hdr.mem_iff.2 hxU
    cases hdd : A.drop st.told.length with
    | nil => rw [hdd] at hxd; simp at hxd
    | cons a r =>
      rw [hdd] at hxd
      have hpw : (a :: r).Pairwise fun a b => lessF a b = true := by rw [← hdd]; exact hA.lt.drop
      have hax : x = a := by
        rcases List.mem_cons.1 hxd with e | hr
        · exact e
        · have h1 := (List.pairwise_cons.1 hpw).1 x hr
          have h2 := hmin a (hdr.mem_iff.1 (by rw [hdd]; exact List.mem_cons_self ..))
          rw [h1] at h2; cases h2
      have h3 : A[st.told.length]? = some a := by
        have : (A.drop st.told.length)[0]? = some a := by rw [hdd]; rfl
        rwa [List.getElem?_drop, Nat.add_zero] at this
      rw [List.take_add_one, h3, ← hb.told, hax]; rfl
  have hlt : (st.told.length : Int) < N := by
    have := hb.few
    have h2 : ¬ (st.told.length : Int) = N := fun e => by
      unfold MS.done at hd
      rw [hb.n_, decide_eq_true e] at hd
      simp at hd
    omega
  refine ⟨K.set j ⟨k.s.pop, k.p, k.c⟩, ⟨hb.n_, ?_, ?_, ?_, ?_, ?_⟩, rfl, ?_, ?_, ?_⟩
  · simp only; rw [hb.shs, List.map_set]
  · intro q hq
    rcases List.mem_or_eq_of_mem_set hq with hq | rfl
    · exact hb.ok q hq
    · obtain ⟨t, ht⟩ := hok.waits
      refine ⟨hok.inc, hok.le, hok.least, hok.heard, hok.last, ⟨t ++ [x], ?_⟩, hok.ended⟩
      unfold PSh.pop
      simp only
      rw [ht, hw]; simp
  · simp only; rw [List.length_append, List.length_singleton, htk]
  · simp only [List.length_append, List.length_singleton]; omega
  · simp only
    refine hb.perm.trans ?_
    rw [List.append_assoc]
    exact List.Perm.append_left _ hfl
  all_goals
    rw [List.map_set]
    refine List.ext_getElem? fun i => ?_
    rw [List.getElem?_set]
    split
    · rename_i e
      subst e
      rw [List.getElem?_map, hk]
      split <;> first | rfl | (rename_i h2; rw [List.length_map] at h2; exact absurd (List.getElem?_eq_some_iff.1 hk).1 h2)
    · rfl
theorem bg_tell {A : List Item} {N : Int} (hA : Incr A) : ∀ (n : Nat) (K : List Kd) (st : MS), st.left ≤ n → Bg A N K st → ∃ K', Bg A N K' st.tell.2 ∧ st.tell.2.told = st.told ++ st.tell.1 ∧ K'.map Kd.p = K.map Kd.p ∧ K'.map Kd.c = K.map Kd.c ∧ K'.map (fun k => k.s.ended) = K.map (fun k => k.s.ended)
  | n, K, st, hn, hb => by
    cases hs : st.step with
    | none => rw [tell_end hs]; exact ⟨K, hb, by simp, rfl, rfl, rfl⟩
    | some q =>
      obtain ⟨x, st'⟩ := q
      have hl := step_left hs
      obtain ⟨K1, h1, h2, h3, h4, h5⟩ := bg_step hb hA hs
      rw [tell_step hs]
      match n, hn with
      | 0, hn => omega
      | n + 1, hn =>
        obtain ⟨K2, g1, g2, g3, g4, g5⟩ := bg_tell hA n K1 st' (by omega) h1
        refine ⟨K2, g1, ?_, g3.trans h3, g4.trans h4, g5.trans h5⟩
        simp only
        rw [g2, h2]; simp
end Go.Proofs.Ytpmhelfdmhjnbaa
