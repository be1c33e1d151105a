import Derived.Test.YtpmhelfdmhjnbaaM1
import Derived.Test.YtpmhelfdmhjnbaaInkE
import Derived.Test.YtpmhelfdmhjnbaaLev
/- slices.insertionSortCmpFunc of items. -/
namespace Go.Proofs.Ytpmhelfdmhjnbaa
open Go Go.Ink Go.Plain
set_option linter.unusedVariables false
set_option linter.unusedSimpArgs false
attribute [local irreducible] KP QY EW CW DW QG CP Spc DK Fina wpList lessF

theorem less_total : Total lessF := ⟨fun _ _ => less_asym, fun _ _ _ => less_trans, fun a b h1 h2 => by
  by_cases e : a = b
  · exact e
  · rw [less_conn e h1] at h2; cases h2⟩
abbrev SortedI (l : List Item) : Prop := Sorted lessF l
abbrev cmpv : Value := .func (.func 80) #[] #[]
theorem cmp_lt {a b : Item} (h : compareF a b < 0) : lessF a b = true := by unfold lessF; simpa using h
theorem cmp_ge {a b : Item} (h : ¬ compareF a b < 0) : lessF a b = false := by unfold lessF; simpa using h
/-- Of what stands in order: whoever is ahead of one is ahead of all behind it. -/
theorem less_le {x a b : Item} (h1 : lessF x a = true) (h2 : lessF b a = false) : lessF x b = true := by
  by_cases e : a = b
  · rw [← e]; exact h1
  · exact less_trans h1 (less_conn (fun h => e h.symm) h2)
theorem insert_sorted {D1 D2 : List Item} {x : Item} (hs : SortedI (D1 ++ D2)) (h2 : ∀ d ∈ D2, lessF x d = true) (h1 : D1 = [] ∨ ∃ l E, D1 = E ++ [l] ∧ lessF x l = false) : SortedI (D1 ++ x :: D2) := by
  unfold SortedI Sorted at hs ⊢
  rw [List.pairwise_append] at hs ⊢
  obtain ⟨s1, s2, s3⟩ := hs
  refine ⟨s1, List.pairwise_cons.2 ⟨fun d hd => less_asym (h2 d hd), s2⟩, fun a ha b hb => ?_⟩
  rcases List.mem_cons.1 hb with rfl | hb
  · rcases h1 with rfl | ⟨l, E, rfl, hl⟩
    · simp at ha
    · rcases List.mem_append.1 ha with ha | ha
      · cases hxa : lessF b a with
        | false => rfl
        | true =>
          have := (List.pairwise_append.1 s1).2.2 a ha l (by simp)
          rw [less_le hxa this] at hl; cases hl
      · simp at ha; subst ha; exact hl
  · exact s3 a ha b hb
set_option maxHeartbeats 4000000 in
theorem insertion_spec {v : Value} {P D S : List Item} {a b : Nat} (ha : a = P.length) (hb : b = P.length + D.length) (hl : (P ++ D ++ S).length ≤ 100000) : Spc Try.prog 114 #[v, iv (a : Nat), iv (b : Nat), cmpv] [] [row 39 2 eI v (P ++ (D ++ S))] (exP fun E => puP (E.Perm D ∧ SortedI E) (ret (.tuple #[]) [row 39 2 eI v (P ++ (E ++ S))])) := by
  subst ha hb
  refine Spc.enter' (args := [v, iv (P.length : Nat), iv ((P.length + D.length : Nat) : Int), cmpv]) (T0 := [(0, v), (1, iv (P.length : Nat)), (2, iv ((P.length + D.length : Nat) : Int)), (3, cmpv)]) Try.func114 rfl Try.ntmps114 (Nat.le_of_ble_eq_true rfl) rfl ?_
  intro w0 own
  simp only [List.length_append] at hl
  
  
  have hn : ([] : List Item).length = 0 := rfl
  cases D with
  | nil =>
    repeat' (first
    | (with_reducible refine CW.seq ?_)
    | (with_reducible refine KP.then_code ?_)
    | (with_reducible refine CW.skip ?_)
    | (with_reducible refine CW.ret ?_)
    | (with_reducible refine KP.then_ret ?_)
    | (with_reducible refine KP.block_ret ?_)
    | (with_reducible refine CW.block ?_)
    | (with_reducible refine KP.block_normal ?_)
    | (with_reducible refine CW.exit ?_)
    | (with_reducible refine KP.then_exit ?_)
    | (with_reducible refine KP.block_hit ?_)
    | refine KP.bm ?_
    | refine CW.ct ?_
    | refine CW.cf ?_
    | (refine CW.cP ?_ ?_ <;> intro _ <;> try contradiction)
    | (refine CW.cs ?_ ?_ <;> intro _ <;> try contradiction)
    | (refine CW.region (i := 0) ?_ <;> refine KP.q QK.mv ?_ <;> refine KP.q (by first | exact QY.addN rfl rfl (by omega) | exact QK.add) ?_ <;> refine KP.q QK.as ?_ <;> refine KP.list_nil ?_)
    | ((with_reducible refine KP.fin0 ?_ ?_); (· rfl))
    | ((with_reducible refine KP.fin0r ?_ ?_); (· rfl)))
    refine CA.loop (X := Unit) (fun _ => [(0, v), (1, iv (P.length : Nat)), (2, iv ((P.length + ([] : List Item).length : Nat) : Int)), (3, cmpv), (8, iv ((P.length + 1 : Nat) : Int))]) (fun _ => [row 39 2 eI v (P ++ ([] ++ S))]) (fun _ => True) (fun _ => 0) () trivial ?_
    rintro - -
    repeat' (first
    | (with_reducible refine CW.seq ?_)
    | (with_reducible refine KP.then_code ?_)
    | (with_reducible refine CW.skip ?_)
    | (with_reducible refine CW.ret ?_)
    | (with_reducible refine KP.then_ret ?_)
    | (with_reducible refine KP.block_ret ?_)
    | (with_reducible refine CW.block ?_)
    | (with_reducible refine KP.block_normal ?_)
    | (with_reducible refine CW.exit ?_)
    | (with_reducible refine KP.then_exit ?_)
    | (with_reducible refine KP.block_hit ?_)
    | refine KP.bm ?_
    | refine CW.ct ?_
    | refine CW.cf ?_
    | (refine CW.cP ?_ ?_ <;> intro _ <;> try contradiction)
    | (refine CW.cs ?_ ?_ <;> intro _ <;> try contradiction)
    | (refine CW.region (i := 1) ?_ <;> refine KP.q QK.mv ?_ <;> refine KP.q QK.mv ?_ <;> refine KP.q QK.lss ?_ <;> refine KP.list_nil ?_)
    | ((with_reducible refine KP.fin0 ?_ ?_); (· rfl))
    | ((with_reducible refine KP.fin0r ?_ ?_); (· rfl)))
    refine Fina.exP [] (Fina.puP ⟨.refl _, List.Pairwise.nil⟩ ?_)
    exact FA.ret
  | cons d0 D0 =>
    simp only [List.length_cons] at hl
    have hdl : (d0 :: D0).length = D0.length + 1 := rfl
    repeat' (first
    | (with_reducible refine CW.seq ?_)
    | (with_reducible refine KP.then_code ?_)
    | (with_reducible refine CW.skip ?_)
    | (with_reducible refine CW.ret ?_)
    | (with_reducible refine KP.then_ret ?_)
    | (with_reducible refine KP.block_ret ?_)
    | (with_reducible refine CW.block ?_)
    | (with_reducible refine KP.block_normal ?_)
    | (with_reducible refine CW.exit ?_)
    | (with_reducible refine KP.then_exit ?_)
    | (with_reducible refine KP.block_hit ?_)
    | refine KP.bm ?_
    | refine CW.ct ?_
    | refine CW.cf ?_
    | (refine CW.cP ?_ ?_ <;> intro _ <;> try contradiction)
    | (refine CW.cs ?_ ?_ <;> intro _ <;> try contradiction)
    | (refine CW.region (i := 0) ?_ <;> refine KP.q QK.mv ?_ <;> refine KP.q (by first | exact QY.addN rfl rfl (by omega) | exact QK.add) ?_ <;> refine KP.q QK.as ?_ <;> refine KP.list_nil ?_)
    | ((with_reducible refine KP.fin0 ?_ ?_); (· rfl))
    | ((with_reducible refine KP.fin0r ?_ ?_); (· rfl)))
    rw [show P ++ (d0 :: D0 ++ S) = P ++ ([d0] ++ (D0 ++ S)) by simp, show P.length + 1 = P.length + [d0].length from rfl]
    refine CA.loop (X := List Item × List Item) (fun z => [(0, v), (1, iv (P.length : Nat)), (2, iv ((P.length + (d0 :: D0).length : Nat) : Int)), (3, cmpv), (8, iv ((P.length + z.1.length : Nat) : Int))]) (fun z => [row 39 2 eI v (P ++ (z.1 ++ (z.2 ++ S)))])
      (fun z => (z.1 ++ z.2).Perm (d0 :: D0) ∧ SortedI z.1 ∧ 0 < z.1.length) (fun z => z.2.length) ([d0], D0) ⟨.refl _, List.pairwise_singleton _ _, by simp⟩ ?_
    rintro ⟨E, R⟩ ⟨hp, hs, h0⟩
    try dsimp only at hp hs h0 ⊢
    have hpl := hp.length_eq
    simp only [List.length_append, List.length_cons] at hpl
    cases R with
    | nil =>
      repeat' (first
    | (with_reducible refine CW.seq ?_)
    | (with_reducible refine KP.then_code ?_)
    | (with_reducible refine CW.skip ?_)
    | (with_reducible refine CW.ret ?_)
    | (with_reducible refine KP.then_ret ?_)
    | (with_reducible refine KP.block_ret ?_)
    | (with_reducible refine CW.block ?_)
    | (with_reducible refine KP.block_normal ?_)
    | (with_reducible refine CW.exit ?_)
    | (with_reducible refine KP.then_exit ?_)
    | (with_reducible refine KP.block_hit ?_)
    | refine KP.bm ?_
    | refine CW.ct ?_
    | refine CW.cf ?_
    | (refine CW.cP ?_ ?_ <;> intro _ <;> try contradiction)
    | (refine CW.cs ?_ ?_ <;> intro _ <;> try contradiction)
    | (refine CW.region (i := 1) ?_ <;> refine KP.q QK.mv ?_ <;> refine KP.q QK.mv ?_ <;> refine KP.q QK.lss ?_ <;> refine KP.list_nil ?_)
    | ((with_reducible refine KP.fin0 ?_ ?_); (· rfl))
    | ((with_reducible refine KP.fin0r ?_ ?_); (· rfl)))
      rw [List.append_nil] at hp
      rw [List.nil_append]
      refine Fina.exP E (Fina.puP ⟨hp, hs⟩ ?_)
      exact FA.ret
    | cons x R =>
      simp only [List.length_cons] at hpl
      repeat' (first
    | (with_reducible refine CW.seq ?_)
    | (with_reducible refine KP.then_code ?_)
    | (with_reducible refine CW.skip ?_)
    | (with_reducible refine CW.ret ?_)
    | (with_reducible refine KP.then_ret ?_)
    | (with_reducible refine KP.block_ret ?_)
    | (with_reducible refine CW.block ?_)
    | (with_reducible refine KP.block_normal ?_)
    | (with_reducible refine CW.exit ?_)
    | (with_reducible refine KP.then_exit ?_)
    | (with_reducible refine KP.block_hit ?_)
    | refine KP.bm ?_
    | refine CW.ct ?_
    | refine CW.cf ?_
    | (refine CW.cP ?_ ?_ <;> intro _ <;> try contradiction)
    | (refine CW.cs ?_ ?_ <;> intro _ <;> try contradiction)
    | (refine CW.region (i := 1) ?_ <;> refine KP.q QK.mv ?_ <;> refine KP.q QK.mv ?_ <;> refine KP.q QK.lss ?_ <;> refine KP.list_nil ?_)
    | (refine CW.region (i := 3) ?_ <;> refine KP.q QK.mv ?_ <;> refine KP.q QK.as ?_ <;> refine KP.list_nil ?_)
    | ((with_reducible refine KP.fin0 ?_ ?_); (· rfl))
    | ((with_reducible refine KP.fin0r ?_ ?_); (· rfl)))
      rw [show P ++ (E ++ (x :: R ++ S)) = P ++ (E ++ (x :: ([] ++ (R ++ S)))) by simp]
      refine CA.loop (X := List Item × List Item) (fun z => [(0, v), (1, iv (P.length : Nat)), (2, iv ((P.length + (d0 :: D0).length : Nat) : Int)), (3, cmpv), (8, iv ((P.length + E.length : Nat) : Int)), (9, iv ((P.length + z.1.length : Nat) : Int))]) (fun z => [row 39 2 eI v (P ++ (z.1 ++ (x :: (z.2 ++ (R ++ S)))))])
        (fun z => z.1 ++ z.2 = E ∧ ∀ d ∈ z.2, lessF x d = true) (fun z => z.1.length) (E, []) ⟨by simp, by simp⟩ ?_
      rintro ⟨D1, D2⟩ ⟨he, hd2⟩
      try dsimp only at he hd2 ⊢
      have hln : D1.length + D2.length = E.length := by rw [← he]; simp
      rcases List.eq_nil_or_concat D1 with rfl | ⟨F, l, hF⟩
      · repeat' (first
    | (with_reducible refine CW.seq ?_)
    | (with_reducible refine KP.then_code ?_)
    | (with_reducible refine CW.skip ?_)
    | (with_reducible refine CW.ret ?_)
    | (with_reducible refine KP.then_ret ?_)
    | (with_reducible refine KP.block_ret ?_)
    | (with_reducible refine CW.block ?_)
    | (with_reducible refine KP.block_normal ?_)
    | (with_reducible refine CW.exit ?_)
    | (with_reducible refine KP.then_exit ?_)
    | (with_reducible refine KP.block_hit ?_)
    | refine KP.bm ?_
    | refine CW.ct ?_
    | refine CW.cf ?_
    | (refine CW.cP ?_ ?_ <;> intro _ <;> try contradiction)
    | (refine CW.cs ?_ ?_ <;> intro _ <;> try contradiction)
    | (((with_reducible refine CW.draw (i := 4) ?_ [[], [], [0, 1], [0, 1, 2], [0, 1, 2, 3], [0, 1, 2, 3], [0, 1, 2, 3], [0, 1, 2, 3, 5, 6], [0, 1, 2, 3, 5, 6, 7], [0, 1, 2, 3], [0, 1, 2, 3], [0, 1, 2, 3, 10], [0, 1, 2, 3, 9, 10, 11], [0, 1, 2, 3, 9, 10, 11, 12], [0, 1, 2, 3, 4, 5, 6, 7, 8, 9, 10, 11, 12, 13], [0, 1, 2, 3, 4, 5, 6, 7, 8, 9, 10, 11, 12, 13, 14], [0, 1, 2, 3, 4, 5, 6, 7, 8, 9, 10, 11, 12, 13, 14, 15]] ?_ ?_ ?_ ?_); (· rfl); (· kernel_rfl); (· kernel_rfl); (· repeat (first | exact NoHang.post | refine NoHang.then ?_ | refine NoHang.block ?_))) <;> refine DW.p 0 rfl (fun _ => QK.mv) ?_ <;> refine DW.p 1 rfl (fun _ => QK.mv) ?_ <;> refine DW.p 2 rfl (fun _ => QK.gtr) ?_ <;> refine DW.p 3 rfl (fun _ => QK.mv) ?_ <;> (first | refine DW.pn 4 rfl rfl rfl ?_ | refine DW.pu 4 rfl rfl rfl ?_ | refine DW.py 4 rfl rfl rfl (fun _ => QK.mv) ?_ | ((first | refine DW.sP (t := 21) ?_ ?_ | refine DW.s (t := 21) ?_ ?_) <;> intro _ <;> first | contradiction | refine DW.pn 4 rfl rfl rfl ?_ | refine DW.pu 4 rfl rfl rfl ?_ | refine DW.py 4 rfl rfl rfl (fun _ => QK.mv) ?_)) <;> (first | refine DW.pn 5 rfl rfl rfl ?_ | refine DW.pu 5 rfl rfl rfl ?_ | refine DW.py 5 rfl rfl rfl (fun _ => QK.mv) ?_) <;> (first | refine DW.pn 6 rfl rfl rfl ?_ | refine DW.pu 6 rfl rfl rfl ?_ | refine DW.py 6 rfl rfl rfl (fun _ => QK.mv) ?_) <;> (first | refine DW.pn 9 rfl rfl rfl ?_ | refine DW.pu 9 rfl rfl rfl ?_ | refine DW.py 9 rfl rfl rfl (fun _ => QK.mv) ?_) <;> (first | refine DW.pn 10 rfl rfl rfl ?_ | refine DW.pu 10 rfl rfl rfl ?_ | refine DW.py 10 rfl rfl rfl (fun _ => QK.mv) ?_) <;> (first | refine DW.pn 11 rfl rfl rfl ?_ | refine DW.pu 11 rfl rfl rfl ?_ | refine DW.py 11 rfl rfl rfl (fun _ => (by first | exact QY.sub1N rfl rfl (by omega) | exact QY.subN rfl rfl (by omega) | exact QK.sub)) ?_) <;> (first | refine DW.mn 7 rfl rfl rfl ?_ | refine DW.mu 7 rfl rfl rfl ?_ | refine DW.my 7 rfl rfl rfl QK.ia ?_) <;> (first | refine DW.mn 8 rfl rfl rfl ?_ | refine DW.mu 8 rfl rfl rfl ?_ | refine DW.my 8 rfl rfl rfl QK.lda ?_) <;> (first | refine DW.mn 12 rfl rfl rfl ?_ | refine DW.mu 12 rfl rfl rfl ?_ | refine DW.my 12 rfl rfl rfl QK.ia ?_) <;> (first | refine DW.mn 13 rfl rfl rfl ?_ | refine DW.mu 13 rfl rfl rfl ?_ | refine DW.my 13 rfl rfl rfl QK.lda ?_) <;> (first | (refine DW.exn 14 rfl rfl rfl ?_; intro hdk; refine DK.mk hdk .nil ?_; clear hdk) | (refine DW.exy 14 rfl rfl rfl ?_; intro hdk; ((fail "no rule fNone"); repeat' first | refine CP.r ?_ | refine CP.r0 ?_ | refine CP.exP fun e32 => ?_ | refine CP.puP fun h32 => ?_); all_goals (refine DK.mk hdk .nil ?_; clear hdk))) <;> (first | refine DW.pn 15 rfl rfl rfl ?_ | refine DW.pu 15 rfl rfl rfl ?_ | refine DW.py 15 rfl rfl rfl (fun _ => QK.lss) ?_) <;> refine DW.p 16 rfl (fun _ => QK.pk) ?_ <;> refine DW.zz ?_)
    | (refine CW.region (i := 2) ?_ <;> refine KP.q QK.mv ?_ <;> refine KP.q (by first | exact QY.addN rfl rfl (by omega) | exact QK.add) ?_ <;> refine KP.q QK.as ?_ <;> refine KP.list_nil ?_)
    | ((with_reducible refine KP.fin0 ?_ ?_); (· rfl))
    | ((with_reducible refine KP.fin0r ?_ ?_); (· rfl)))
        have e1 : P ++ (([] : List Item) ++ (x :: (D2 ++ (R ++ S)))) = P ++ ((x :: D2) ++ (R ++ S)) := by simp
        rw [e1]
        have e8 : P.length + E.length + 1 = P.length + (x :: D2).length := by simp at hln ⊢; omega
        rw [e8]
        have hE : D2 = E := by simpa using he
        refine KA.round (x :: D2, R) ⟨?_, insert_sorted (D1 := []) (by rw [List.nil_append, hE]; exact hs) hd2 (.inl rfl), by simp⟩ (by simp)
        refine List.Perm.trans ?_ hp
        rw [hE, List.cons_append]
        exact List.perm_middle.symm
      · rw [List.concat_eq_append] at hF
        have hlF : D1.length = F.length + 1 := by rw [hF]; simp
        obtain ⟨Z, hZ⟩ : ∃ Z, Z = P ++ (D1 ++ (x :: (D2 ++ (R ++ S)))) := ⟨_, rfl⟩
        have hzl : Z.length = P.length + (F.length + 1 + (1 + (D2.length + (R.length + S.length)))) := by rw [hZ, hF]; simp; omega
        have hx : Z[P.length + D1.length]? = some x := by
          rw [hZ, ← List.append_assoc]; exact get_mid (by simp)
        have hlz : Z[P.length + D1.length - 1]? = some l := by
          rw [hZ, hF, show P ++ (F ++ [l] ++ x :: (D2 ++ (R ++ S))) = (P ++ F) ++ l :: (x :: (D2 ++ (R ++ S))) by simp]; exact get_mid (by simp)
        have hsw : (Z.set (P.length + D1.length) l).set (P.length + D1.length - 1) x = P ++ (F ++ (x :: ((l :: D2) ++ (R ++ S)))) := by
          rw [hZ, ← List.append_assoc P D1, set_mid (by simp), hF, show P ++ (F ++ [l]) ++ l :: (D2 ++ (R ++ S)) = (P ++ F) ++ l :: (l :: (D2 ++ (R ++ S))) by simp, set_mid (by simp)]
          simp
        rw [← hZ]
        
        
        repeat' (first
    | (with_reducible refine CW.seq ?_)
    | (with_reducible refine KP.then_code ?_)
    | (with_reducible refine CW.skip ?_)
    | (with_reducible refine CW.ret ?_)
    | (with_reducible refine KP.then_ret ?_)
    | (with_reducible refine KP.block_ret ?_)
    | (with_reducible refine CW.block ?_)
    | (with_reducible refine KP.block_normal ?_)
    | (with_reducible refine CW.exit ?_)
    | (with_reducible refine KP.then_exit ?_)
    | (with_reducible refine KP.block_hit ?_)
    | refine KP.bm ?_
    | refine CW.ct ?_
    | refine CW.cf ?_
    | (refine CW.cP ?_ ?_ <;> intro _ <;> try contradiction)
    | (refine CW.cs ?_ ?_ <;> intro _ <;> try contradiction)
    | (((with_reducible refine CW.draw (i := 4) ?_ [[], [], [0, 1], [0, 1, 2], [0, 1, 2, 3], [0, 1, 2, 3], [0, 1, 2, 3], [0, 1, 2, 3, 5, 6], [0, 1, 2, 3, 5, 6, 7], [0, 1, 2, 3], [0, 1, 2, 3], [0, 1, 2, 3, 10], [0, 1, 2, 3, 9, 10, 11], [0, 1, 2, 3, 9, 10, 11, 12], [0, 1, 2, 3, 4, 5, 6, 7, 8, 9, 10, 11, 12, 13], [0, 1, 2, 3, 4, 5, 6, 7, 8, 9, 10, 11, 12, 13, 14], [0, 1, 2, 3, 4, 5, 6, 7, 8, 9, 10, 11, 12, 13, 14, 15]] ?_ ?_ ?_ ?_); (· rfl); (· kernel_rfl); (· kernel_rfl); (· repeat (first | exact NoHang.post | refine NoHang.then ?_ | refine NoHang.block ?_))) <;> refine DW.p 0 rfl (fun _ => QK.mv) ?_ <;> refine DW.p 1 rfl (fun _ => QK.mv) ?_ <;> refine DW.p 2 rfl (fun _ => QK.gtr) ?_ <;> refine DW.p 3 rfl (fun _ => QK.mv) ?_ <;> (first | refine DW.pn 4 rfl rfl rfl ?_ | refine DW.pu 4 rfl rfl rfl ?_ | refine DW.py 4 rfl rfl rfl (fun _ => QK.mv) ?_ | ((first | refine DW.sP (t := 21) ?_ ?_ | refine DW.s (t := 21) ?_ ?_) <;> intro _ <;> first | contradiction | refine DW.pn 4 rfl rfl rfl ?_ | refine DW.pu 4 rfl rfl rfl ?_ | refine DW.py 4 rfl rfl rfl (fun _ => QK.mv) ?_)) <;> (first | refine DW.pn 5 rfl rfl rfl ?_ | refine DW.pu 5 rfl rfl rfl ?_ | refine DW.py 5 rfl rfl rfl (fun _ => QK.mv) ?_) <;> (first | refine DW.pn 6 rfl rfl rfl ?_ | refine DW.pu 6 rfl rfl rfl ?_ | refine DW.py 6 rfl rfl rfl (fun _ => QK.mv) ?_) <;> (first | refine DW.pn 9 rfl rfl rfl ?_ | refine DW.pu 9 rfl rfl rfl ?_ | refine DW.py 9 rfl rfl rfl (fun _ => QK.mv) ?_) <;> (first | refine DW.pn 10 rfl rfl rfl ?_ | refine DW.pu 10 rfl rfl rfl ?_ | refine DW.py 10 rfl rfl rfl (fun _ => QK.mv) ?_) <;> (first | refine DW.pn 11 rfl rfl rfl ?_ | refine DW.pu 11 rfl rfl rfl ?_ | refine DW.py 11 rfl rfl rfl (fun _ => (by first | exact QY.sub1N rfl rfl (by omega) | exact QY.subN rfl rfl (by omega) | exact QK.sub)) ?_) <;> (first | refine DW.mn 7 rfl rfl rfl ?_ | refine DW.mu 7 rfl rfl rfl ?_ | refine DW.my 7 rfl rfl rfl QK.ia ?_) <;> (first | refine DW.mn 8 rfl rfl rfl ?_ | refine DW.mu 8 rfl rfl rfl ?_ | refine DW.my 8 rfl rfl rfl (by first | exact QY.load_a rfl (Rd.own (by with_reducible first | exact k0 | exact k1 | exact k2 | exact k3 | exact k4 | exact k5 | exact k6 | exact k7 | exact k8 | exact k9 | fail)) (Reads.row RowL.row hx) (by rfl) | exact QY.load_a rfl (Rd.own (by with_reducible first | exact k0 | exact k1 | exact k2 | exact k3 | exact k4 | exact k5 | exact k6 | exact k7 | exact k8 | exact k9 | fail)) (Reads.row RowL.row hlz) (by rfl) | exact QK.lda) ?_) <;> (first | refine DW.mn 12 rfl rfl rfl ?_ | refine DW.mu 12 rfl rfl rfl ?_ | refine DW.my 12 rfl rfl rfl QK.ia ?_) <;> (first | refine DW.mn 13 rfl rfl rfl ?_ | refine DW.mu 13 rfl rfl rfl ?_ | refine DW.my 13 rfl rfl rfl (by first | exact QY.load_a rfl (Rd.own (by with_reducible first | exact k0 | exact k1 | exact k2 | exact k3 | exact k4 | exact k5 | exact k6 | exact k7 | exact k8 | exact k9 | fail)) (Reads.row RowL.row hx) (by rfl) | exact QY.load_a rfl (Rd.own (by with_reducible first | exact k0 | exact k1 | exact k2 | exact k3 | exact k4 | exact k5 | exact k6 | exact k7 | exact k8 | exact k9 | fail)) (Reads.row RowL.row hlz) (by rfl) | exact QK.lda) ?_) <;> (first | (refine DW.exn 14 rfl rfl rfl ?_; intro hdk; refine DK.mk hdk .nil ?_; clear hdk) | (refine DW.exy 14 rfl rfl rfl ?_; intro hdk; ((refine EW.callv (vs := [Iv x, Iv l]) (caps := []) rfl (compare_spec (a := x) (b := l)) rfl .nil .nil ?_); repeat' first | refine CP.r ?_ | refine CP.r0 ?_ | refine CP.exP fun e32 => ?_ | refine CP.puP fun h32 => ?_); all_goals (refine DK.mk hdk .nil ?_; clear hdk))) <;> (first | refine DW.pn 15 rfl rfl rfl ?_ | refine DW.pu 15 rfl rfl rfl ?_ | refine DW.py 15 rfl rfl rfl (fun _ => QK.lss) ?_) <;> refine DW.p 16 rfl (fun _ => QK.pk) ?_ <;> refine DW.zz ?_)
    | (((with_reducible refine CW.draw (i := 6) ?_ [[], [], [], [], [3], [], [], [6], [5, 6, 7], [5, 6, 7, 8], [], [], [10, 11], [10, 11, 12], [0, 1, 5, 6, 7, 8, 9, 10, 11, 12, 13], [0, 1, 5, 6, 7, 8, 9, 10, 11, 12, 13, 14], [0, 1, 2, 3, 4, 5, 6, 7, 8, 9, 10, 11, 12, 13, 14, 15], [0, 1, 2, 3, 4, 5, 6, 7, 8, 9, 10, 11, 12, 13, 14, 15, 16]] ?_ ?_ ?_ ?_); (· rfl); (· kernel_rfl); (· kernel_rfl); (· repeat (first | exact NoHang.post | refine NoHang.then ?_ | refine NoHang.block ?_))) <;> refine DW.p 0 rfl (fun _ => QK.mv) ?_ <;> refine DW.p 1 rfl (fun _ => QK.mv) ?_ <;> refine DW.p 2 rfl (fun _ => QK.mv) ?_ <;> refine DW.p 3 rfl (fun _ => QK.mv) ?_ <;> refine DW.p 4 rfl (fun _ => (by first | exact QY.sub1N rfl rfl (by omega) | exact QY.subN rfl rfl (by omega) | exact QK.sub)) ?_ <;> refine DW.p 5 rfl (fun _ => QK.mv) ?_ <;> refine DW.p 6 rfl (fun _ => QK.mv) ?_ <;> refine DW.p 7 rfl (fun _ => (by first | exact QY.sub1N rfl rfl (by omega) | exact QY.subN rfl rfl (by omega) | exact QK.sub)) ?_ <;> refine DW.p 10 rfl (fun _ => QK.mv) ?_ <;> refine DW.p 11 rfl (fun _ => QK.mv) ?_ <;> refine DW.m 8 rfl QK.ia ?_ <;> refine DW.m 9 rfl (by first | exact QY.load_a rfl (Rd.own (by with_reducible first | exact k0 | exact k1 | exact k2 | exact k3 | exact k4 | exact k5 | exact k6 | exact k7 | exact k8 | exact k9 | fail)) (Reads.row RowL.row hx) (by rfl) | exact QY.load_a rfl (Rd.own (by with_reducible first | exact k0 | exact k1 | exact k2 | exact k3 | exact k4 | exact k5 | exact k6 | exact k7 | exact k8 | exact k9 | fail)) (Reads.row RowL.row hlz) (by rfl) | exact QK.lda) ?_ <;> refine DW.m 12 rfl QK.ia ?_ <;> refine DW.m 13 rfl (by first | exact QY.load_a rfl (Rd.own (by with_reducible first | exact k0 | exact k1 | exact k2 | exact k3 | exact k4 | exact k5 | exact k6 | exact k7 | exact k8 | exact k9 | fail)) (Reads.row RowL.row hx) (by rfl) | exact QY.load_a rfl (Rd.own (by with_reducible first | exact k0 | exact k1 | exact k2 | exact k3 | exact k4 | exact k5 | exact k6 | exact k7 | exact k8 | exact k9 | fail)) (Reads.row RowL.row hlz) (by rfl) | exact QK.lda) ?_ <;> refine DW.m 14 rfl QK.ia ?_ <;> (refine DW.ex 15 rfl ?_; intro hdk; (first | refine EK.st_a ?_ | refine EK.st_ra ?_ | refine EK.st_p ?_); all_goals (refine DK.mk hdk .nil ?_; clear hdk)) <;> refine DW.m 16 rfl QK.ia ?_ <;> (refine DW.ex 17 rfl ?_; intro hdk; (first | refine EK.st_a ?_ | refine EK.st_ra ?_ | refine EK.st_p ?_); all_goals (refine DK.mk hdk .nil ?_; clear hdk)) <;> refine DW.zz ?_)
    | (refine CW.region (i := 5) ?_ <;> refine KP.q QK.mv ?_ <;> refine KP.q (by first | exact QY.sub1N rfl rfl (by omega) | exact QY.subN rfl rfl (by omega) | exact QK.sub) ?_ <;> refine KP.q QK.as ?_ <;> refine KP.list_nil ?_)
    | ((with_reducible refine KP.fin0 ?_ ?_); (· rfl))
    | ((with_reducible refine KP.fin0r ?_ ?_); (· rfl)))
        · rename_i hc
          rw [hsw]
          have e2 : P.length + D1.length - 1 = P.length + F.length := by omega
          rw [e2]
          refine KA.round (F, l :: D2) ⟨by rw [← he, hF]; simp, fun d hd => ?_⟩ (by simp only; omega)
          rcases List.mem_cons.1 hd with rfl | hd
          · exact cmp_lt hc
          · exact hd2 d hd
        · rename_i hc
          repeat' (first
    | (with_reducible refine CW.seq ?_)
    | (with_reducible refine KP.then_code ?_)
    | (with_reducible refine CW.skip ?_)
    | (with_reducible refine CW.ret ?_)
    | (with_reducible refine KP.then_ret ?_)
    | (with_reducible refine KP.block_ret ?_)
    | (with_reducible refine CW.block ?_)
    | (with_reducible refine KP.block_normal ?_)
    | (with_reducible refine CW.exit ?_)
    | (with_reducible refine KP.then_exit ?_)
    | (with_reducible refine KP.block_hit ?_)
    | refine KP.bm ?_
    | refine CW.ct ?_
    | refine CW.cf ?_
    | (refine CW.cP ?_ ?_ <;> intro _ <;> try contradiction)
    | (refine CW.cs ?_ ?_ <;> intro _ <;> try contradiction)
    | (refine CW.region (i := 2) ?_ <;> refine KP.q QK.mv ?_ <;> refine KP.q (by first | exact QY.addN rfl rfl (by omega) | exact QK.add) ?_ <;> refine KP.q QK.as ?_ <;> refine KP.list_nil ?_)
    | ((with_reducible refine KP.fin0 ?_ ?_); (· rfl))
    | ((with_reducible refine KP.fin0r ?_ ?_); (· rfl)))
          rw [hZ, show P ++ (D1 ++ (x :: (D2 ++ (R ++ S)))) = P ++ ((D1 ++ x :: D2) ++ (R ++ S)) by simp]
          have e3 : P.length + E.length + 1 = P.length + (D1 ++ x :: D2).length := by simp; omega
          rw [e3]
          refine KA.round (D1 ++ x :: D2, R) ⟨?_, insert_sorted (by rw [he]; exact hs) hd2 (.inr ⟨l, F, hF, cmp_ge hc⟩), by simp; omega⟩ (by simp)
          refine List.Perm.trans ?_ hp
          rw [← he, List.append_assoc, List.append_assoc, List.cons_append]
          exact List.Perm.append_left _ (List.perm_middle.symm)

end Go.Proofs.Ytpmhelfdmhjnbaa
