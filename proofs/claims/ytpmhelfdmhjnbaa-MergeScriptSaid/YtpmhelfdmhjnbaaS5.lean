import Derived.Test.YtpmhelfdmhjnbaaS4
/- slices.SortStableFunc of items; rank.Sort. -/
namespace Go.Proofs.Ytpmhelfdmhjnbaa
open Go Go.Ink Go.Plain
set_option linter.unusedVariables false
set_option linter.unusedSimpArgs false
attribute [local irreducible] KP QY EW CW DW QG CP Spc DK Fina wpList lessF

abbrev Blks (s : Nat) (Bs : List (List Item)) : Prop := ∀ B ∈ Bs, B.length = s ∧ SortedI B
theorem blks_snoc {s : Nat} {Bs : List (List Item)} {E : List Item} (h : Blks s Bs) (hl : E.length = s) (hs : SortedI E) : Blks s (Bs ++ [E]) := fun B hB => by
  rcases List.mem_append.1 hB with h' | h'
  · exact h B h'
  · simp at h'; subst h'; exact ⟨hl, hs⟩
theorem row_all {v : Value} {xs : List Item} : row 39 2 eI v xs = row 39 2 eI v ([] ++ (xs ++ [])) := by simp


set_option maxHeartbeats 8000000 in
theorem stable_spec {v : Value} {xs : List Item} {n : Nat} (hn : n = xs.length) (hl : xs.length ≤ 50000) : Spc Try.prog 105 #[v, iv (n : Nat), cmpv] [] [row 39 2 eI v xs] (exP fun E => puP (E.Perm xs ∧ SortedI E) (ret (.tuple #[]) [row 39 2 eI v E])) := by
  refine Spc.enter' (args := [v, iv (n : Nat), cmpv]) (T0 := [(0, v), (1, iv (n : Nat)), (2, cmpv)]) Try.func105 rfl Try.ntmps105 (Nat.le_of_ble_eq_true rfl) rfl ?_
  intro w0 own
  repeat' (first
    | (with_reducible refine CW.seq ?_)
    | (with_reducible refine KP.then_code ?_)
    | (with_reducible refine CW.skip ?_)
    | (with_reducible refine CW.ret ?_)
    | (with_reducible refine KP.then_ret ?_)
    | (with_reducible refine KP.block_ret ?_)
    | (with_reducible refine CW.block ?_)
    | (with_reducible refine KP.block_normal ?_)
    | (with_reducible refine CW.exit ?_)
    | (with_reducible refine KP.then_exit ?_)
    | (with_reducible refine KP.block_hit ?_)
    | refine KP.bm ?_
    | refine CW.ct ?_
    | refine CW.cf ?_
    | (refine CW.cP ?_ ?_ <;> intro _ <;> try contradiction)
    | (refine CW.cs ?_ ?_ <;> intro _ <;> try contradiction)
    | (refine CW.region (i := 0) ?_ <;> refine KP.q QK.as ?_ <;> refine KP.list_nil ?_)
    | (refine CW.region (i := 1) ?_ <;> refine KP.q QK.mv ?_ <;> refine KP.q QK.as ?_ <;> refine KP.q QK.as ?_ <;> refine KP.list_nil ?_)
    | ((with_reducible refine KP.fin0 ?_ ?_); (· rfl))
    | ((with_reducible refine KP.fin0r ?_ ?_); (· rfl)))
  rw [show row 39 2 eI v xs = row 39 2 eI v (([] : List (List Item)).flatten ++ xs) by simp]
  refine CA.loop (X := List (List Item) × List Item) (fun z => [(0, v), (1, iv (n : Nat)), (2, cmpv), (6, iv ((20 : Nat) : Int)), (7, iv (z.1.flatten.length : Nat)), (8, iv ((z.1.flatten.length + 20 : Nat) : Int))]) (fun z => [row 39 2 eI v (z.1.flatten ++ z.2)])
    (fun z => (z.1.flatten ++ z.2).Perm xs ∧ Blks 20 z.1) (fun z => z.2.length) ([], xs) ⟨by simp, fun B hB => absurd hB (by simp)⟩ ?_
  rintro ⟨Bs, R⟩ ⟨hp, hb⟩
  try dsimp only at hp hb ⊢
  have hpl := hp.length_eq
  simp only [List.length_append] at hpl
  rcases Nat.lt_or_ge R.length 20 with hlt | hge
  · have hins := insertion_spec (v := v) (P := Bs.flatten) (D := R) (S := []) (a := Bs.flatten.length) (b := n) rfl (by omega) (by simp only [List.length_append, List.length_nil]; omega)
    rw [List.append_nil] at hins
    
    repeat' (first
    | (with_reducible refine CW.seq ?_)
    | (with_reducible refine KP.then_code ?_)
    | (with_reducible refine CW.skip ?_)
    | (with_reducible refine CW.ret ?_)
    | (with_reducible refine KP.then_ret ?_)
    | (with_reducible refine KP.block_ret ?_)
    | (with_reducible refine CW.block ?_)
    | (with_reducible refine KP.block_normal ?_)
    | (with_reducible refine CW.exit ?_)
    | (with_reducible refine KP.then_exit ?_)
    | (with_reducible refine KP.block_hit ?_)
    | refine KP.bm ?_
    | refine CW.ct ?_
    | refine CW.cf ?_
    | (refine CW.cP ?_ ?_ <;> intro _ <;> try contradiction)
    | (refine CW.cs ?_ ?_ <;> intro _ <;> try contradiction)
    | (refine CW.region (i := 2) ?_ <;> refine KP.q QK.mv ?_ <;> refine KP.q QK.mv ?_ <;> refine KP.q QK.leq ?_ <;> refine KP.list_nil ?_)
    | (refine CW.region (i := 6) ?_ <;> refine KP.q QK.mv ?_ <;> refine KP.q QK.mv ?_ <;> refine KP.q QK.mv ?_ <;> refine KP.q QK.mv ?_ <;> (refine KP.e ?_; ((refine EK.call (hins) ?_); repeat' first | refine CP.r ?_ | refine CP.r0 ?_ | refine CP.exP fun e27 => ?_ | refine CP.puP fun h27 => ?_)) <;> refine KP.list_nil ?_)
    | ((with_reducible refine KP.fin0 ?_ ?_); (· rfl))
    | ((with_reducible refine KP.fin0r ?_ ?_); (· rfl)))
    obtain ⟨hpT, hsT⟩ := h27
    rw [List.append_nil]
    have hTl := hpT.length_eq
    refine CA.loop (X := Nat × List (List Item) × List Item) (fun z => [(0, v), (1, iv (n : Nat)), (2, cmpv), (6, iv (z.1 : Nat))]) (fun z => [row 39 2 eI v (z.2.1.flatten ++ z.2.2)])
      (fun z => 0 < z.1 ∧ z.1 ≤ 200000 ∧ (z.2.1.flatten ++ z.2.2).Perm xs ∧ Blks z.1 z.2.1 ∧ z.2.2.length < z.1 ∧ SortedI z.2.2) (fun z => n - z.1) (20, Bs, e27) ⟨by simp, by simp, (List.Perm.append_left _ hpT).trans hp, hb, by simp only; omega, hsT⟩ ?_
    clear hp hb hpl hpT hsT hTl hlt hins
    rintro ⟨s, Bs, T⟩ ⟨hs0, hs2, hp, hb, hT, sT⟩
    try dsimp only at hs0 hs2 hp hb hT sT ⊢
    have hpl := hp.length_eq
    simp only [List.length_append] at hpl
    rcases Nat.lt_or_ge s n with hsn | hsn
    · repeat' (first
    | (with_reducible refine CW.seq ?_)
    | (with_reducible refine KP.then_code ?_)
    | (with_reducible refine CW.skip ?_)
    | (with_reducible refine CW.ret ?_)
    | (with_reducible refine KP.then_ret ?_)
    | (with_reducible refine KP.block_ret ?_)
    | (with_reducible refine CW.block ?_)
    | (with_reducible refine KP.block_normal ?_)
    | (with_reducible refine CW.exit ?_)
    | (with_reducible refine KP.then_exit ?_)
    | (with_reducible refine KP.block_hit ?_)
    | refine KP.bm ?_
    | refine CW.ct ?_
    | refine CW.cf ?_
    | (refine CW.cP ?_ ?_ <;> intro _ <;> try contradiction)
    | (refine CW.cs ?_ ?_ <;> intro _ <;> try contradiction)
    | (refine CW.region (i := 7) ?_ <;> refine KP.q QK.mv ?_ <;> refine KP.q QK.mv ?_ <;> refine KP.q QK.lss ?_ <;> refine KP.list_nil ?_)
    | (refine CW.region (i := 8) ?_ <;> refine KP.q QK.mv ?_ <;> refine KP.q (by first | exact QY.mul2N rfl rfl (by omega) | exact QY.mulN2 rfl rfl (by omega) | exact QK.mul) ?_ <;> refine KP.q QK.as ?_ <;> refine KP.q QK.as ?_ <;> refine KP.list_nil ?_)
    | ((with_reducible refine KP.fin0 ?_ ?_); (· rfl))
    | ((with_reducible refine KP.fin0r ?_ ?_); (· rfl)))
      rw [show row 39 2 eI v (Bs.flatten ++ T) = row 39 2 eI v (([] : List (List Item)).flatten ++ (Bs.flatten ++ T)) by simp, show ((2 * s : Nat) : Int) = ((([] : List (List Item)).flatten.length + 2 * s : Nat) : Int) by simp]
      refine CA.loop (X := List (List Item) × List (List Item)) (fun z => [(0, v), (1, iv (n : Nat)), (2, cmpv), (6, iv (s : Nat)), (7, iv (z.1.flatten.length : Nat)), (8, iv ((z.1.flatten.length + 2 * s : Nat) : Int))]) (fun z => [row 39 2 eI v (z.1.flatten ++ (z.2.flatten ++ T))])
        (fun z => (z.1.flatten ++ (z.2.flatten ++ T)).Perm xs ∧ Blks (2 * s) z.1 ∧ Blks s z.2) (fun z => z.2.length) ([], Bs) ⟨by simpa using hp, fun B hB => absurd hB (by simp), hb⟩ ?_
      clear hp hb hpl
      rintro ⟨Cs, Bs⟩ ⟨hp, hc, hb⟩
      try dsimp only at hp hc hb ⊢
      have hpl := hp.length_eq
      simp only [List.length_append] at hpl
      match Bs, hb, hp, hpl with
      | [], hb, hp, hpl =>
        simp only [List.flatten_nil, List.nil_append, List.length_nil] at hp hpl ⊢
        repeat' (first
    | (with_reducible refine CW.seq ?_)
    | (with_reducible refine KP.then_code ?_)
    | (with_reducible refine CW.skip ?_)
    | (with_reducible refine CW.ret ?_)
    | (with_reducible refine KP.then_ret ?_)
    | (with_reducible refine KP.block_ret ?_)
    | (with_reducible refine CW.block ?_)
    | (with_reducible refine KP.block_normal ?_)
    | (with_reducible refine CW.exit ?_)
    | (with_reducible refine KP.then_exit ?_)
    | (with_reducible refine KP.block_hit ?_)
    | refine KP.bm ?_
    | refine CW.ct ?_
    | refine CW.cf ?_
    | (refine CW.cP ?_ ?_ <;> intro _ <;> try contradiction)
    | (refine CW.cs ?_ ?_ <;> intro _ <;> try contradiction)
    | (refine CW.region (i := 9) ?_ <;> refine KP.q QK.mv ?_ <;> refine KP.q QK.mv ?_ <;> refine KP.q QK.leq ?_ <;> refine KP.list_nil ?_)
    | (refine CW.region (i := 13) ?_ <;> refine KP.q QK.mv ?_ <;> refine KP.q QK.mv ?_ <;> refine KP.q (by first | exact QY.addN rfl rfl (by omega) | exact QK.add) ?_ <;> refine KP.q QK.as ?_ <;> refine KP.list_nil ?_)
    | (refine CW.region (i := 14) ?_ <;> refine KP.q QK.mv ?_ <;> refine KP.q QK.mv ?_ <;> refine KP.q QK.lss ?_ <;> refine KP.list_nil ?_)
    | (refine CW.region (i := 16) ?_ <;> refine KP.q QK.mv ?_ <;> refine KP.q (by first | exact QY.mul2N rfl rfl (by omega) | exact QY.mulN2 rfl rfl (by omega) | exact QK.mul) ?_ <;> refine KP.q QK.as ?_ <;> refine KP.list_nil ?_)
    | ((with_reducible refine KP.fin0 ?_ ?_); (· rfl))
    | ((with_reducible refine KP.fin0r ?_ ?_); (· rfl)))
        rw [show s * 2 = 2 * s by omega]
        exact KA.round (2 * s, Cs, T) ⟨by simp only; omega, by simp only; omega, hp, hc, by simp only; omega, sT⟩ (by simp only; omega)
      | [B], hb, hp, hpl =>
        have hB := hb B (by simp)
        simp only [List.flatten_cons, List.flatten_nil, List.append_nil] at hp hpl ⊢
        rcases Nat.eq_zero_or_pos T.length with hz | hz
        · have e := List.length_eq_zero_iff.1 hz
          repeat' (first
    | (with_reducible refine CW.seq ?_)
    | (with_reducible refine KP.then_code ?_)
    | (with_reducible refine CW.skip ?_)
    | (with_reducible refine CW.ret ?_)
    | (with_reducible refine KP.then_ret ?_)
    | (with_reducible refine KP.block_ret ?_)
    | (with_reducible refine CW.block ?_)
    | (with_reducible refine KP.block_normal ?_)
    | (with_reducible refine CW.exit ?_)
    | (with_reducible refine KP.then_exit ?_)
    | (with_reducible refine KP.block_hit ?_)
    | refine KP.bm ?_
    | refine CW.ct ?_
    | refine CW.cf ?_
    | (refine CW.cP ?_ ?_ <;> intro _ <;> try contradiction)
    | (refine CW.cs ?_ ?_ <;> intro _ <;> try contradiction)
    | (refine CW.region (i := 9) ?_ <;> refine KP.q QK.mv ?_ <;> refine KP.q QK.mv ?_ <;> refine KP.q QK.leq ?_ <;> refine KP.list_nil ?_)
    | (refine CW.region (i := 13) ?_ <;> refine KP.q QK.mv ?_ <;> refine KP.q QK.mv ?_ <;> refine KP.q (by first | exact QY.addN rfl rfl (by omega) | exact QK.add) ?_ <;> refine KP.q QK.as ?_ <;> refine KP.list_nil ?_)
    | (refine CW.region (i := 14) ?_ <;> refine KP.q QK.mv ?_ <;> refine KP.q QK.mv ?_ <;> refine KP.q QK.lss ?_ <;> refine KP.list_nil ?_)
    | (refine CW.region (i := 16) ?_ <;> refine KP.q QK.mv ?_ <;> refine KP.q (by first | exact QY.mul2N rfl rfl (by omega) | exact QY.mulN2 rfl rfl (by omega) | exact QK.mul) ?_ <;> refine KP.q QK.as ?_ <;> refine KP.list_nil ?_)
    | ((with_reducible refine KP.fin0 ?_ ?_); (· rfl))
    | ((with_reducible refine KP.fin0r ?_ ?_); (· rfl)))
          rw [show s * 2 = 2 * s by omega]
          have e2 : Cs.flatten ++ (B ++ T) = Cs.flatten ++ B := by rw [e]; simp
          rw [e2] at hp ⊢
          exact KA.round (2 * s, Cs, B) ⟨by simp only; omega, by simp only; omega, hp, hc, by simp only; omega, hB.2⟩ (by simp only; omega)
        · have hsy := sym_all (B.length + T.length + 1) (v := v) (P := Cs.flatten) (A := B) (B := T) (S := []) (a := Cs.flatten.length) (m := Cs.flatten.length + s) (b := n) (by omega) rfl (by omega) (by omega) (by omega) hz hB.2 sT (by simp only [List.length_append, List.length_nil]; omega)
          rw [List.append_nil] at hsy
          
          repeat' (first
    | (with_reducible refine CW.seq ?_)
    | (with_reducible refine KP.then_code ?_)
    | (with_reducible refine CW.skip ?_)
    | (with_reducible refine CW.ret ?_)
    | (with_reducible refine KP.then_ret ?_)
    | (with_reducible refine KP.block_ret ?_)
    | (with_reducible refine CW.block ?_)
    | (with_reducible refine KP.block_normal ?_)
    | (with_reducible refine CW.exit ?_)
    | (with_reducible refine KP.then_exit ?_)
    | (with_reducible refine KP.block_hit ?_)
    | refine KP.bm ?_
    | refine CW.ct ?_
    | refine CW.cf ?_
    | (refine CW.cP ?_ ?_ <;> intro _ <;> try contradiction)
    | (refine CW.cs ?_ ?_ <;> intro _ <;> try contradiction)
    | (refine CW.region (i := 9) ?_ <;> refine KP.q QK.mv ?_ <;> refine KP.q QK.mv ?_ <;> refine KP.q QK.leq ?_ <;> refine KP.list_nil ?_)
    | (refine CW.region (i := 13) ?_ <;> refine KP.q QK.mv ?_ <;> refine KP.q QK.mv ?_ <;> refine KP.q (by first | exact QY.addN rfl rfl (by omega) | exact QK.add) ?_ <;> refine KP.q QK.as ?_ <;> refine KP.list_nil ?_)
    | (refine CW.region (i := 14) ?_ <;> refine KP.q QK.mv ?_ <;> refine KP.q QK.mv ?_ <;> refine KP.q QK.lss ?_ <;> refine KP.list_nil ?_)
    | (refine CW.region (i := 15) ?_ <;> refine KP.q QK.mv ?_ <;> refine KP.q QK.mv ?_ <;> refine KP.q QK.mv ?_ <;> refine KP.q QK.mv ?_ <;> refine KP.q QK.mv ?_ <;> (refine KP.e ?_; ((refine EK.call (hsy) ?_); repeat' first | refine CP.r ?_ | refine CP.r0 ?_ | refine CP.exP fun e60 => ?_ | refine CP.puP fun h60 => ?_)) <;> refine KP.list_nil ?_)
    | (refine CW.region (i := 16) ?_ <;> refine KP.q QK.mv ?_ <;> refine KP.q (by first | exact QY.mul2N rfl rfl (by omega) | exact QY.mulN2 rfl rfl (by omega) | exact QK.mul) ?_ <;> refine KP.q QK.as ?_ <;> refine KP.list_nil ?_)
    | ((with_reducible refine KP.fin0 ?_ ?_); (· rfl))
    | ((with_reducible refine KP.fin0r ?_ ?_); (· rfl)))
          rw [List.append_nil, show s * 2 = 2 * s by omega]
          exact KA.round (2 * s, Cs, e60) ⟨by simp only; omega, by simp only; omega, (List.Perm.append_left _ h60.1).trans hp, hc, by have := h60.1.length_eq; simp at this; simp only; omega, h60.2⟩ (by simp only; omega)
      | B1 :: B2 :: Bs, hb, hp, hpl =>
        have hB1 := hb B1 (by simp)
        have hB2 := hb B2 (by simp)
        simp only [List.flatten_cons, List.append_assoc, List.length_append] at hp hpl ⊢
        have hsy := sym_all (B1.length + B2.length + 1) (v := v) (P := Cs.flatten) (A := B1) (B := B2) (S := Bs.flatten ++ T) (a := Cs.flatten.length) (m := Cs.flatten.length + s) (b := Cs.flatten.length + 2 * s) (by omega) rfl (by omega) (by omega) (by omega) (by omega) hB1.2 hB2.2 (by simp only [List.length_append, List.length_nil]; omega)
        
        repeat' (first
    | (with_reducible refine CW.seq ?_)
    | (with_reducible refine KP.then_code ?_)
    | (with_reducible refine CW.skip ?_)
    | (with_reducible refine CW.ret ?_)
    | (with_reducible refine KP.then_ret ?_)
    | (with_reducible refine KP.block_ret ?_)
    | (with_reducible refine CW.block ?_)
    | (with_reducible refine KP.block_normal ?_)
    | (with_reducible refine CW.exit ?_)
    | (with_reducible refine KP.then_exit ?_)
    | (with_reducible refine KP.block_hit ?_)
    | refine KP.bm ?_
    | refine CW.ct ?_
    | refine CW.cf ?_
    | (refine CW.cP ?_ ?_ <;> intro _ <;> try contradiction)
    | (refine CW.cs ?_ ?_ <;> intro _ <;> try contradiction)
    | (refine CW.region (i := 9) ?_ <;> refine KP.q QK.mv ?_ <;> refine KP.q QK.mv ?_ <;> refine KP.q QK.leq ?_ <;> refine KP.list_nil ?_)
    | (refine CW.region (i := 10) ?_ <;> refine KP.q QK.mv ?_ <;> refine KP.q QK.mv ?_ <;> refine KP.q QK.mv ?_ <;> refine KP.q QK.mv ?_ <;> refine KP.q (by first | exact QY.addN rfl rfl (by omega) | exact QK.add) ?_ <;> refine KP.q QK.mv ?_ <;> refine KP.q QK.mv ?_ <;> (refine KP.e ?_; ((first | refine EK.call (hsy) ?_ | refine EK.call (hsy) ?_); repeat' first | refine CP.r ?_ | refine CP.r0 ?_ | refine CP.exP fun e43 => ?_ | refine CP.puP fun h43 => ?_)) <;> refine KP.list_nil ?_)
    | (refine CW.region (i := 11) ?_ <;> refine KP.q QK.mv ?_ <;> refine KP.q QK.as ?_ <;> refine KP.list_nil ?_)
    | (refine CW.region (i := 12) ?_ <;> refine KP.q QK.mv ?_ <;> refine KP.q QK.mv ?_ <;> refine KP.q (by first | exact QY.mul2N rfl rfl (by omega) | exact QY.mulN2 rfl rfl (by omega) | exact QK.mul) ?_ <;> refine KP.q (by first | exact QY.addN rfl rfl (by omega) | exact QK.add) ?_ <;> refine KP.q QK.as ?_ <;> refine KP.list_nil ?_)
    | ((with_reducible refine KP.fin0 ?_ ?_); (· rfl))
    | ((with_reducible refine KP.fin0r ?_ ?_); (· rfl)))
        have hel := h43.1.length_eq
        simp only [List.length_append] at hel
        have e3 : (Cs ++ [e43]).flatten = Cs.flatten ++ e43 := by simp
        rw [show Cs.flatten ++ (e43 ++ (Bs.flatten ++ T)) = (Cs ++ [e43]).flatten ++ (Bs.flatten ++ T) by simp, show Cs.flatten.length + 2 * s = (Cs ++ [e43]).flatten.length by rw [e3, List.length_append]; omega]
        refine KA.round (Cs ++ [e43], Bs) ⟨?_, blks_snoc hc (by omega) h43.2, fun B hB => hb B (by simp [hB])⟩ (by simp; omega)
        simp only [e3, List.append_assoc]
        refine List.Perm.trans (List.Perm.append_left _ ?_) hp
        rw [← List.append_assoc B1]
        exact List.Perm.append_right _ h43.1
    · repeat' (first
    | (with_reducible refine CW.seq ?_)
    | (with_reducible refine KP.then_code ?_)
    | (with_reducible refine CW.skip ?_)
    | (with_reducible refine CW.ret ?_)
    | (with_reducible refine KP.then_ret ?_)
    | (with_reducible refine KP.block_ret ?_)
    | (with_reducible refine CW.block ?_)
    | (with_reducible refine KP.block_normal ?_)
    | (with_reducible refine CW.exit ?_)
    | (with_reducible refine KP.then_exit ?_)
    | (with_reducible refine KP.block_hit ?_)
    | refine KP.bm ?_
    | refine CW.ct ?_
    | refine CW.cf ?_
    | (refine CW.cP ?_ ?_ <;> intro _ <;> try contradiction)
    | (refine CW.cs ?_ ?_ <;> intro _ <;> try contradiction)
    | (refine CW.region (i := 7) ?_ <;> refine KP.q QK.mv ?_ <;> refine KP.q QK.mv ?_ <;> refine KP.q QK.lss ?_ <;> refine KP.list_nil ?_)
    | ((with_reducible refine KP.fin0 ?_ ?_); (· rfl))
    | ((with_reducible refine KP.fin0r ?_ ?_); (· rfl)))
      match Bs, hb, hp, hpl with
      | [], hb, hp, hpl =>
        refine Fina.exP T (Fina.puP ⟨by simpa using hp, sT⟩ ?_)
        rw [List.flatten_nil, List.nil_append]
        exact FA.ret
      | [B], hb, hp, hpl =>
        have hB := hb B (by simp)
        simp only [List.flatten_cons, List.flatten_nil, List.append_nil] at hp hpl ⊢
        have e := List.length_eq_zero_iff.1 (show T.length = 0 by omega)
        refine Fina.exP B (Fina.puP ⟨by rw [e, List.append_nil] at hp; exact hp, hB.2⟩ ?_)
        rw [e, List.append_nil]
        exact FA.ret
      | B1 :: B2 :: Bs, hb, hp, hpl =>
        have hB1 := hb B1 (by simp)
        have hB2 := hb B2 (by simp)
        simp only [List.flatten_cons, List.length_append] at hpl
        omega
  · obtain ⟨R1, R2, hRR, hR1⟩ : ∃ R1 R2, R1 ++ R2 = R ∧ R1.length = 20 := ⟨R.take 20, R.drop 20, List.take_append_drop _ _, by simp; omega⟩
    have hrl : R1.length + R2.length = R.length := by rw [← hRR]; simp
    have hins := insertion_spec (v := v) (P := Bs.flatten) (D := R1) (S := R2) (a := Bs.flatten.length) (b := Bs.flatten.length + 20) rfl (by omega) (by simp only [List.length_append, List.length_nil]; omega)
    rw [hRR] at hins
    
    repeat' (first
    | (with_reducible refine CW.seq ?_)
    | (with_reducible refine KP.then_code ?_)
    | (with_reducible refine CW.skip ?_)
    | (with_reducible refine CW.ret ?_)
    | (with_reducible refine KP.then_ret ?_)
    | (with_reducible refine KP.block_ret ?_)
    | (with_reducible refine CW.block ?_)
    | (with_reducible refine KP.block_normal ?_)
    | (with_reducible refine CW.exit ?_)
    | (with_reducible refine KP.then_exit ?_)
    | (with_reducible refine KP.block_hit ?_)
    | refine KP.bm ?_
    | refine CW.ct ?_
    | refine CW.cf ?_
    | (refine CW.cP ?_ ?_ <;> intro _ <;> try contradiction)
    | (refine CW.cs ?_ ?_ <;> intro _ <;> try contradiction)
    | (refine CW.region (i := 2) ?_ <;> refine KP.q QK.mv ?_ <;> refine KP.q QK.mv ?_ <;> refine KP.q QK.leq ?_ <;> refine KP.list_nil ?_)
    | (refine CW.region (i := 3) ?_ <;> refine KP.q QK.mv ?_ <;> refine KP.q QK.mv ?_ <;> refine KP.q QK.mv ?_ <;> refine KP.q QK.mv ?_ <;> (refine KP.e ?_; ((first | refine EK.call (hins) ?_ | refine EK.call (hins) ?_); repeat' first | refine CP.r ?_ | refine CP.r0 ?_ | refine CP.exP fun e18 => ?_ | refine CP.puP fun h18 => ?_)) <;> refine KP.list_nil ?_)
    | (refine CW.region (i := 4) ?_ <;> refine KP.q QK.mv ?_ <;> refine KP.q QK.as ?_ <;> refine KP.list_nil ?_)
    | (refine CW.region (i := 5) ?_ <;> refine KP.q QK.mv ?_ <;> refine KP.q QK.mv ?_ <;> refine KP.q (by first | exact QY.addN rfl rfl (by omega) | exact QK.add) ?_ <;> refine KP.q QK.as ?_ <;> refine KP.list_nil ?_)
    | ((with_reducible refine KP.fin0 ?_ ?_); (· rfl))
    | ((with_reducible refine KP.fin0r ?_ ?_); (· rfl)))
    have hel := h18.1.length_eq
    have e3 : (Bs ++ [e18]).flatten = Bs.flatten ++ e18 := by simp
    rw [show Bs.flatten ++ (e18 ++ R2) = (Bs ++ [e18]).flatten ++ R2 by simp, show Bs.flatten.length + 20 = (Bs ++ [e18]).flatten.length by rw [e3, List.length_append]; omega]
    refine KA.round (Bs ++ [e18], R2) ⟨?_, blks_snoc hb (by omega) h18.2⟩ (by simp only; omega)
    simp only [e3, List.append_assoc]
    refine List.Perm.trans (List.Perm.append_left _ ?_) hp
    rw [← hRR]
    exact List.Perm.append_right _ h18.1

theorem sortStable_spec {v : Value} {xs : List Item} (hl : xs.length ≤ 50000) : Spc Try.prog 79 #[v, cmpv] [] [row 39 2 eI v xs] (exP fun E => puP (E.Perm xs ∧ SortedI E) (ret (.tuple #[]) [row 39 2 eI v E])) := by
  refine Spc.enter' (args := [v, cmpv]) (T0 := [(0, v), (1, cmpv)]) Try.func79 rfl Try.ntmps79 (Nat.le_of_ble_eq_true rfl) rfl ?_
  intro w0 own
  refine CW.ownFact (A := row 39 2 eI v xs) (by with_reducible first | exact k0 | exact k1 | exact k2 | exact k3 | exact k4 | exact k5 | exact k6 | exact k7 | exact k8 | exact k9 | fail) (fun _ h => row.le h) fun hxs => ?_
  
  repeat' (first
    | (with_reducible refine CW.seq ?_)
    | (with_reducible refine KP.then_code ?_)
    | (with_reducible refine CW.skip ?_)
    | (with_reducible refine CW.ret ?_)
    | (with_reducible refine KP.then_ret ?_)
    | (with_reducible refine KP.block_ret ?_)
    | (with_reducible refine CW.block ?_)
    | (with_reducible refine KP.block_normal ?_)
    | (with_reducible refine CW.exit ?_)
    | (with_reducible refine KP.then_exit ?_)
    | (with_reducible refine KP.block_hit ?_)
    | refine KP.bm ?_
    | refine CW.ct ?_
    | refine CW.cf ?_
    | (refine CW.cP ?_ ?_ <;> intro _ <;> try contradiction)
    | (refine CW.cs ?_ ?_ <;> intro _ <;> try contradiction)
    | (refine CW.region (i := 0) ?_ <;> refine KP.q QK.mv ?_ <;> refine KP.q QK.mv ?_ <;> refine KP.q QK.len ?_ <;> refine KP.q QK.mv ?_ <;> (refine KP.e ?_; ((refine EK.call (stable_spec (n := xs.length) rfl hl) ?_); repeat' first | refine CP.r ?_ | refine CP.r0 ?_ | refine CP.exP fun e8 => ?_ | refine CP.puP fun h8 => ?_)) <;> refine KP.list_nil ?_)
    | ((with_reducible refine KP.fin0 ?_ ?_); (· rfl))
    | ((with_reducible refine KP.fin0r ?_ ?_); (· rfl)))
  refine Fina.exP _ (Fina.puP h8 ?_)
  exact FA.ret

/-- The items in order: the one list that is sorted and holds them. -/
def sortF (xs : List Item) : List Item := xs.mergeSort fun a b => !lessF b a
theorem sortF_perm (xs : List Item) : (sortF xs).Perm xs := List.mergeSort_perm _ _
theorem sortF_sorted (xs : List Item) : SortedI (sortF xs) := by
  have := List.pairwise_mergeSort (le := fun a b => !lessF b a) (fun a b c h1 h2 => by
    simp only [Bool.not_eq_true', Bool.not_eq_eq_eq_not, Bool.not_true] at h1 h2 ⊢
    exact le_trans' h1 h2) (fun a b => by
    cases h : lessF b a with
    | false => simp
    | true => simp [less_asym h]) xs
  exact this.imp fun h => by simpa using h
theorem sort_eq {E xs : List Item} (hp : E.Perm xs) (hs : SortedI E) : E = sortF xs := sorted_unique less_total hs (sortF_sorted xs) (hp.trans (sortF_perm xs).symm)
theorem sortF_len (xs : List Item) : (sortF xs).length = xs.length := (sortF_perm xs).length_eq
theorem sort_spec {v : Value} {xs : List Item} (hl : xs.length ≤ 50000) : Spc Try.prog 35 #[v] [rrow 2 eI v xs] [] (exP fun v' => puP (v'.oneCell' = true) (ret v' [row 39 2 eI v' (sortF xs)])) := by
  refine Spc.enter' (args := [v]) (T0 := [(0, v)]) Try.func35 rfl Try.ntmps35 (Nat.le_of_ble_eq_true rfl) rfl ?_
  intro w0 own
  have hc : xs.length ≤ 100000 := by omega
  
  
  repeat' (first
    | (with_reducible refine CW.seq ?_)
    | (with_reducible refine KP.then_code ?_)
    | (with_reducible refine CW.skip ?_)
    | (with_reducible refine CW.ret ?_)
    | (with_reducible refine KP.then_ret ?_)
    | (with_reducible refine KP.block_ret ?_)
    | (with_reducible refine CW.block ?_)
    | (with_reducible refine KP.block_normal ?_)
    | (with_reducible refine CW.exit ?_)
    | (with_reducible refine KP.then_exit ?_)
    | (with_reducible refine KP.block_hit ?_)
    | refine KP.bm ?_
    | refine CW.ct ?_
    | refine CW.cf ?_
    | (refine CW.cP ?_ ?_ <;> intro _ <;> try contradiction)
    | (refine CW.cs ?_ ?_ <;> intro _ <;> try contradiction)
    | (refine CW.region (i := 0) ?_ <;> refine KP.q QK.as ?_ <;> refine KP.list_nil ?_)
    | (refine CW.region (i := 1) ?_ <;> refine KP.q QK.mv ?_ <;> (refine KP.e ?_; ((refine EK.call (clone_spec hc) ?_); repeat' first | refine CP.r ?_ | refine CP.r0 ?_ | refine CP.exP fun e5 => ?_ | refine CP.puP fun h5 => ?_)) <;> refine KP.q QK.as ?_ <;> refine KP.list_nil ?_)
    | (refine CW.region (i := 2) ?_ <;> refine KP.q QK.mv ?_ <;> (refine KP.e ?_; ((refine EK.call (sortStable_spec hl) ?_); repeat' first | refine CP.r ?_ | refine CP.r0 ?_ | refine CP.exP fun e7 => ?_ | refine CP.puP fun h7 => ?_)) <;> refine KP.list_nil ?_)
    | (refine CW.region (i := 3) ?_ <;> refine KP.q QK.mv ?_ <;> refine KP.q QK.as ?_ <;> refine KP.list_nil ?_)
    | ((with_reducible apply KP.fin1); (· rfl); (· rfl)))
  rw [sort_eq h7.1 h7.2]
  refine Fina.exP _ (Fina.puP (by assumption) ?_)
  exact FA.ret

end Go.Proofs.Ytpmhelfdmhjnbaa
