import Derived.Test.YtpmhelfdmhjnbaaUF
/- MergeBegins. -/
namespace Go.Proofs.Ytpmhelfdmhjnbaa
open Go Go.Ink Go.Plain
set_option linter.unusedVariables false
set_option linter.unusedSimpArgs false
attribute [local irreducible] KP QY EW CW DW QG CP Spc DK Fina wpList lessF

theorem rep_new {g n : Nat} (hn : n ≤ 1000) : ∀ hh, pt g 3 (List.replicate n [iv 0]).flatten hh → row 3 1 eN (.slice (some ⟨g, 0, none⟩) n n) (List.replicate n (0 : Int)) hh := fun hh a => by
  have := pt_row (b := g) (e := 3) (enc := eN) (n := 1) (xs := List.replicate n (0 : Int)) (flat_rep2 (enc := eN) (z := 0) n) (by rw [List.length_replicate]; simp only [maxLen]; omega) hh a
  rwa [List.length_replicate] at this
abbrev atC (ats : List Nat) : List Value := ats.map fun n : Nat => iv (n : Int)
theorem atC_at {ats : List Nat} {j c : Nat} (h : ats[j]? = some c) : (atC ats)[j]? = some (iv (c : Nat)) := by rw [List.getElem?_map, h]; rfl
theorem atC_set {ats : List Nat} {j c : Nat} : (atC ats).set j (iv (c : Nat)) = atC (ats.set j c) := by unfold atC; rw [List.map_set]
/-- How the walk's things hang together. -/
structure Hang (A : List Item) (N : Int) (K : List Kd) (st : MS) (rs : List Pt) (ats : List Nat) : Prop where
  bg : Bg A N K st
  step : st.step = none
  parts : K.map Kd.p = rs.map Pt.items
  six : ats.length = 6
  at_ : ∀ (j : Nat) (k : Kd), K[j]? = some k → ats[j]? = some k.c
theorem part_at {K : List Kd} {rs : List Pt} {j : Nat} {k : Kd} (h : K.map Kd.p = rs.map Pt.items) (hk : K[j]? = some k) : ∃ r, rs[j]? = some r ∧ r.items = k.p := by
  have h1 : (K.map Kd.p)[j]? = some k.p := by rw [List.getElem?_map, hk]; rfl
  rw [h, List.getElem?_map] at h1
  cases hr : rs[j]? with
  | none => rw [hr] at h1; cases h1
  | some r => rw [hr] at h1; exact ⟨r, rfl, Option.some.inj h1⟩
theorem hang_next {A : List Item} {N : Int} {K : List Kd} {st : MS} {rs : List Pt} {ats : List Nat} {j sz : Nat} {k : Kd} {b : List Item} {e : Bool} (hA : Incr A) (h : Hang A N K st rs ats) (hk : K[j]? = some k) (hw : k.s.wanted = true) (hd : st.done = false) (h1 : 1 ≤ sz) (h5 : sz ≤ 5) (hbq : (k.p.drop k.c).take sz = b) (he : e = decide (b.length = (k.p.drop k.c).length)) :
    ∃ st1 tl st2 K2, st.put (j : Nat) k.s.seq b e = (true, st1) ∧ st1.tell = (tl, st2) ∧ st2.told = st.told ++ tl ∧ Hang A N K2 st2 rs (ats.set j (k.c + b.length)) ∧ muF K2 < muF K := by
  obtain ⟨st1, hput, hb1, hmu, ht1⟩ := bg_put h.bg hk hw hd h1 h5 hbq he
  obtain ⟨K2, hb2, ht2, hp, hc, hen⟩ := bg_tell hA st1.left _ st1 (Nat.le_refl _) hb1
  have hjl := (List.getElem?_eq_some_iff.1 hk).1
  refine ⟨st1, st1.tell.1, st1.tell.2, K2, hput, rfl, by rw [ht2, ht1], ⟨hb2, tell_fix _ _ (Nat.le_refl _), ?_, by rw [List.length_set]; exact h.six, fun i q hq => ?_⟩, by rw [mu_same hp hc hen]; exact hmu⟩
  · rw [hp, List.map_set, ← h.parts]
    refine List.ext_getElem? fun i => ?_
    rw [List.getElem?_set]
    split
    · rename_i e2
      subst e2
      rw [List.getElem?_map, hk]
      split <;> first | rfl | (rename_i h2; rw [List.length_map] at h2; exact absurd hjl h2)
    · rfl
  · have h2 : (K2.map Kd.c)[i]? = some q.c := by rw [List.getElem?_map, hq]; rfl
    rw [hc, List.map_set, List.getElem?_set] at h2
    rw [List.getElem?_set]
    split at h2
    · rename_i e2
      subst e2
      rw [if_pos rfl]
      split at h2
      · rw [if_pos (by
          have := h.at_ j k hk
          exact (List.getElem?_eq_some_iff.1 this).1)]
        exact h2
      · cases h2
    · rename_i e2
      rw [if_neg e2]
      rw [List.getElem?_map] at h2
      cases hi : K[i]? with
      | none => rw [hi] at h2; cases h2
      | some q' =>
        rw [hi] at h2
        have := h.at_ i q' hi
        rw [this, ← Option.some.inj h2]
theorem hang_new {A : List Item} {N : Int} {rs : List Pt} {n : Nat} (hA : Incr A) (hN : 1 ≤ N) (hn : rs.length = n) (hs : ∀ r ∈ rs, r.items.Sublist A) (hp : A.Perm (flatP rs)) (h6 : n ≤ 6) : Hang A N ((rs.map Pt.items).map kd0) (newF (List.replicate n 0) N) rs [0, 0, 0, 0, 0, 0] ∧ muF ((rs.map Pt.items).map kd0) = A.length + n := by
  have hi : ∀ p ∈ rs.map Pt.items, Incr p := fun p h => by
    obtain ⟨r, hr, rfl⟩ := List.mem_map.1 h
    have := hs r hr
    exact ⟨fun x hx => hA.pos x (this.subset hx), hA.lt.sublist this⟩
  have hb := bg_new (N := N) hN hi hp
  rw [List.length_map, hn] at hb
  refine ⟨⟨hb, new_step, ?_, rfl, fun j k hk => ?_⟩, ?_⟩
  · rw [List.map_map]
    have : Kd.p ∘ kd0 = id := by funext p; rfl
    rw [this, List.map_id]
  · have hjl := (List.getElem?_eq_some_iff.1 hk).1
    rw [List.length_map, List.length_map, hn] at hjl
    obtain ⟨p, hp2, rfl⟩ : ∃ p, (rs.map Pt.items)[j]? = some p ∧ kd0 p = k := by
      rw [List.getElem?_map] at hk
      cases h : (rs.map Pt.items)[j]? with
      | none => rw [h] at hk; cases hk
      | some p => rw [h] at hk; exact ⟨p, rfl, Option.some.inj hk⟩
    show ([0, 0, 0, 0, 0, 0] : List Nat)[j]? = some 0
    obtain rfl | rfl | rfl | rfl | rfl | rfl : j = 0 ∨ j = 1 ∨ j = 2 ∨ j = 3 ∨ j = 4 ∨ j = 5 := by omega
    all_goals rfl
  · rw [mu_new, List.length_map, hn, hp.length_eq]
end Go.Proofs.Ytpmhelfdmhjnbaa
