import Derived.Test.YtpmhelfdmhjnbaaS2
/- slices.symMergeCmpFunc of items. -/
namespace Go.Proofs.Ytpmhelfdmhjnbaa
open Go Go.Ink Go.Plain
set_option linter.unusedVariables false
set_option linter.unusedSimpArgs false
attribute [local irreducible] KP QY EW CW DW QG CP Spc DK Fina wpList lessF

theorem le_trans' {a b c : Item} (h1 : lessF b a = false) (h2 : lessF c b = false) : lessF c a = false := by
  cases h : lessF c a with
  | false => rfl
  | true => rw [less_le h h1] at h2; cases h2
theorem le_lt {b y x : Item} (h1 : lessF y b = false) (h2 : lessF y x = true) : lessF b x = true := by
  by_cases e : b = y
  · rw [e]; exact h2
  · exact less_trans (less_conn (fun h => e h.symm) h1) h2
theorem sorted_get {B : List Item} (hs : SortedI B) {k h : Nat} {b y : Item} (hkh : k ≤ h) (hb : B[k]? = some b) (hy : B[h]? = some y) : lessF y b = false := by
  rcases Nat.eq_or_lt_of_le hkh with rfl | hlt
  · rw [hb] at hy; cases hy; exact less_irr _
  · have hk := List.getElem?_eq_some_iff.1 hb
    have hh := List.getElem?_eq_some_iff.1 hy
    have := List.pairwise_iff_getElem.1 hs k h hk.1 hh.1 hlt
    rw [hk.2, hh.2] at this
    exact this
theorem mem_take_at {B : List Item} {q : Nat} {y : Item} (h : y ∈ B.take q) : ∃ k, k < q ∧ B[k]? = some y := by
  obtain ⟨k, hk⟩ := List.mem_iff_getElem?.1 h
  rw [List.getElem?_take] at hk
  split at hk
  · exact ⟨k, by assumption, hk⟩
  · cases hk
theorem mem_drop_at {B : List Item} {q : Nat} {y : Item} (h : y ∈ B.drop q) : ∃ k, q ≤ k ∧ B[k]? = some y := by
  obtain ⟨k, hk⟩ := List.mem_iff_getElem?.1 h
  rw [List.getElem?_drop] at hk
  exact ⟨q + k, by omega, hk⟩
theorem put_sorted {B1 B2 : List Item} {x : Item} (hs : SortedI (B1 ++ B2)) (h1 : ∀ y ∈ B1, lessF x y = false) (h2 : ∀ y ∈ B2, lessF y x = false) : SortedI (B1 ++ x :: B2) := by
  unfold SortedI Sorted at hs ⊢
  rw [List.pairwise_append] at hs ⊢
  obtain ⟨s1, s2, s3⟩ := hs
  refine ⟨s1, List.pairwise_cons.2 ⟨fun d hd => h2 d hd, s2⟩, fun a ha b hb => ?_⟩
  rcases List.mem_cons.1 hb with rfl | hb
  · exact h1 a ha
  · exact s3 a ha b hb
abbrev mpost (v : Value) (P D S : List Item) : Post := exP fun E => puP (E.Perm D ∧ SortedI E) (ret (.tuple #[]) [row 39 2 eI v (P ++ (E ++ S))])




set_option maxHeartbeats 4000000 in
theorem sym_one {v : Value} {P B S : List Item} {x : Item} {a m b : Nat} (ha : a = P.length) (hm : m = P.length + 1) (hb : b = P.length + 1 + B.length) (hs : SortedI B) (hl : (P ++ [x] ++ B ++ S).length ≤ 100000) :
    Spc Try.prog 115 #[v, iv (a : Nat), iv (m : Nat), iv (b : Nat), cmpv] [] [row 39 2 eI v (P ++ (x :: (B ++ S)))] (mpost v P (x :: B) S) := by
  refine Spc.enter' (args := [v, iv (a : Nat), iv (m : Nat), iv (b : Nat), cmpv]) (T0 := [(0, v), (1, iv (a : Nat)), (2, iv (m : Nat)), (3, iv (b : Nat)), (4, cmpv)]) Try.func115 rfl Try.ntmps115 (Nat.le_of_ble_eq_true rfl) rfl ?_
  intro w0 own
  simp only [List.length_append, List.length_cons, List.length_nil] at hl
  obtain rfl : m = a + 1 := by omega
  obtain rfl : b = a + 1 + B.length := by omega
  repeat' (first
    | (with_reducible refine CW.seq ?_)
    | (with_reducible refine KP.then_code ?_)
    | (with_reducible refine CW.skip ?_)
    | (with_reducible refine CW.ret ?_)
    | (with_reducible refine KP.then_ret ?_)
    | (with_reducible refine KP.block_ret ?_)
    | (with_reducible refine CW.block ?_)
    | (with_reducible refine KP.block_normal ?_)
    | (with_reducible refine CW.exit ?_)
    | (with_reducible refine KP.then_exit ?_)
    | (with_reducible refine KP.block_hit ?_)
    | refine KP.bm ?_
    | refine CW.ct ?_
    | refine CW.cf ?_
    | (refine CW.cP ?_ ?_ <;> intro _ <;> try contradiction)
    | (refine CW.cs ?_ ?_ <;> intro _ <;> try contradiction)
    | (refine CW.region (i := 0) ?_ <;> refine KP.q QK.mv ?_ <;> refine KP.q QK.mv ?_ <;> refine KP.q (by first | exact QY.sub1N rfl rfl (by omega) | exact QY.subN rfl rfl (by omega) | exact QK.sub) ?_ <;> refine KP.q QK.eqi ?_ <;> refine KP.list_nil ?_)
    | (refine CW.region (i := 1) ?_ <;> refine KP.q QK.mv ?_ <;> refine KP.q QK.as ?_ <;> refine KP.list_nil ?_)
    | (refine CW.region (i := 2) ?_ <;> refine KP.q QK.mv ?_ <;> refine KP.q QK.as ?_ <;> refine KP.list_nil ?_)
    | ((with_reducible refine KP.fin0 ?_ ?_); (· rfl))
    | ((with_reducible refine KP.fin0r ?_ ?_); (· rfl)))
  refine CA.loop (X := Nat × Nat) (fun z => [(0, v), (1, iv (a : Nat)), (4, cmpv), (10, iv ((a + 1 + z.1 : Nat) : Int)), (11, iv ((a + 1 + z.2 : Nat) : Int))]) (fun z => [row 39 2 eI v (P ++ (x :: (B ++ S)))])
    (fun z => z.1 ≤ z.2 ∧ z.2 ≤ B.length ∧ (∀ k y, k < z.1 → B[k]? = some y → lessF y x = true) ∧ (∀ k y, z.2 ≤ k → B[k]? = some y → lessF y x = false)) (fun z => z.2 - z.1) (0, B.length) ⟨Nat.zero_le _, Nat.le_refl _, fun k y h => absurd h (by simp), fun k y h1 h2 => absurd (List.getElem?_eq_some_iff.1 h2).1 (by simp only at h1; omega)⟩ ?_
  rintro ⟨i, j⟩ ⟨hij, hjB, hlo, hhi⟩
  try dsimp only at hij hjB hlo hhi ⊢
  rcases Nat.lt_or_ge i j with hlt | hge
  · obtain ⟨hh, hhd⟩ : ∃ hh, hh = (a + 1 + i + (a + 1 + j)) / 2 := ⟨_, rfl⟩
    obtain ⟨y, hy⟩ := at_lt (xs := B) (i := hh - (a + 1)) (by omega)
    obtain ⟨Z, hZ⟩ : ∃ Z, Z = P ++ (x :: (B ++ S)) := ⟨_, rfl⟩
    have hzl : Z.length = P.length + (B.length + S.length + 1) := by rw [hZ]; simp
    have hzx : Z[a]? = some x := by rw [hZ]; exact get_mid ha
    have hzy : Z[(a + 1 + i + (a + 1 + j)) / 2]? = some y := by
      rw [hZ, show P ++ (x :: (B ++ S)) = (P ++ [x]) ++ (B ++ S) by simp, get_in (by simp; omega) (by simp; omega), ← hy]
      congr 1; simp; omega
    rw [← hZ]
    
    
    repeat' (first
    | (with_reducible refine CW.seq ?_)
    | (with_reducible refine KP.then_code ?_)
    | (with_reducible refine CW.skip ?_)
    | (with_reducible refine CW.ret ?_)
    | (with_reducible refine KP.then_ret ?_)
    | (with_reducible refine KP.block_ret ?_)
    | (with_reducible refine CW.block ?_)
    | (with_reducible refine KP.block_normal ?_)
    | (with_reducible refine CW.exit ?_)
    | (with_reducible refine KP.then_exit ?_)
    | (with_reducible refine KP.block_hit ?_)
    | refine KP.bm ?_
    | refine CW.ct ?_
    | refine CW.cf ?_
    | (refine CW.cP ?_ ?_ <;> intro _ <;> try contradiction)
    | (refine CW.cs ?_ ?_ <;> intro _ <;> try contradiction)
    | (refine CW.region (i := 3) ?_ <;> refine KP.q QK.mv ?_ <;> refine KP.q QK.mv ?_ <;> refine KP.q QK.lss ?_ <;> refine KP.list_nil ?_)
    | (refine CW.region (i := 4) ?_ <;> refine KP.q QK.mv ?_ <;> refine KP.q QK.mv ?_ <;> refine KP.q (by first | exact QY.addN rfl rfl (by omega) | exact QK.add) ?_ <;> refine KP.q (by first | exact QY.toU rfl (by omega) | exact QY.toI rfl (by omega) | exact QK.cv) ?_ <;> refine KP.q (QY.half rfl rfl) ?_ <;> refine KP.q (by first | exact QY.toU rfl (by omega) | exact QY.toI rfl (by omega) | exact QK.cv) ?_ <;> refine KP.q QK.as ?_ <;> refine KP.list_nil ?_)
    | (((with_reducible refine CW.draw (i := 5) ?_ [[], [], [], [1, 2], [1, 2, 3], [], [], [5, 6], [5, 6, 7], [0, 1, 2, 3, 4, 5, 6, 7, 8], [0, 1, 2, 3, 4, 5, 6, 7, 8, 9]] ?_ ?_ ?_ ?_); (· rfl); (· kernel_rfl); (· kernel_rfl); (· repeat (first | exact NoHang.post | refine NoHang.then ?_ | refine NoHang.block ?_))) <;> refine DW.p 0 rfl (fun _ => QK.mv) ?_ <;> refine DW.p 1 rfl (fun _ => QK.mv) ?_ <;> refine DW.p 2 rfl (fun _ => QK.mv) ?_ <;> refine DW.p 5 rfl (fun _ => QK.mv) ?_ <;> refine DW.p 6 rfl (fun _ => QK.mv) ?_ <;> refine DW.m 3 rfl QK.ia ?_ <;> refine DW.m 4 rfl (by first | exact QY.load_a rfl (Rd.own (by with_reducible first | exact k0 | exact k1 | exact k2 | exact k3 | exact k4 | exact k5 | exact k6 | exact k7 | exact k8 | exact k9 | fail)) (Reads.row RowL.row hzx) (by rfl) | exact QY.load_a rfl (Rd.own (by with_reducible first | exact k0 | exact k1 | exact k2 | exact k3 | exact k4 | exact k5 | exact k6 | exact k7 | exact k8 | exact k9 | fail)) (Reads.row RowL.row hzy) (by rfl) | exact QK.lda) ?_ <;> refine DW.m 7 rfl QK.ia ?_ <;> refine DW.m 8 rfl (by first | exact QY.load_a rfl (Rd.own (by with_reducible first | exact k0 | exact k1 | exact k2 | exact k3 | exact k4 | exact k5 | exact k6 | exact k7 | exact k8 | exact k9 | fail)) (Reads.row RowL.row hzx) (by rfl) | exact QY.load_a rfl (Rd.own (by with_reducible first | exact k0 | exact k1 | exact k2 | exact k3 | exact k4 | exact k5 | exact k6 | exact k7 | exact k8 | exact k9 | fail)) (Reads.row RowL.row hzy) (by rfl) | exact QK.lda) ?_ <;> (refine DW.ex 9 rfl ?_; intro hdk; ((refine EW.callv (vs := [Iv y, Iv x]) (caps := []) rfl (compare_spec (a := y) (b := x)) rfl .nil .nil ?_); repeat' first | refine CP.r ?_ | refine CP.r0 ?_ | refine CP.exP fun e49 => ?_ | refine CP.puP fun h49 => ?_); all_goals (refine DK.mk hdk .nil ?_; clear hdk)) <;> refine DW.p 10 rfl (fun _ => QK.lss) ?_ <;> refine DW.zz ?_)
    | (refine CW.region (i := 6) ?_ <;> refine KP.q QK.mv ?_ <;> refine KP.q (by first | exact QY.addN rfl rfl (by omega) | exact QK.add) ?_ <;> refine KP.q QK.as ?_ <;> refine KP.list_nil ?_)
    | (refine CW.region (i := 7) ?_ <;> refine KP.q QK.mv ?_ <;> refine KP.q QK.as ?_ <;> refine KP.list_nil ?_)
    | ((with_reducible refine KP.fin0 ?_ ?_); (· rfl))
    | ((with_reducible refine KP.fin0r ?_ ?_); (· rfl)))
    · rename_i hc
      rw [← hhd, show hh + 1 = a + 1 + (hh - a) by omega, hZ]
      refine KA.round (hh - a, j) ⟨by simp only; omega, hjB, fun k z hk hz => ?_, hhi⟩ (by simp only; omega)
      exact le_lt (sorted_get hs (by simp only at hk; omega) hz hy) (cmp_lt hc)
    · rename_i hc
      rw [← hhd, show hh = a + 1 + (hh - (a + 1)) by omega, hZ]
      refine KA.round (i, hh - (a + 1)) ⟨by simp only; omega, by simp only; omega, hlo, fun k z hk hz => ?_⟩ (by simp only; omega)
      exact le_trans' (cmp_ge hc) (sorted_get hs (by simp only at hk; omega) hy hz)
  · obtain rfl : i = j := by omega
    obtain ⟨B1, B2, hBB, hB1⟩ : ∃ B1 B2, B1 ++ B2 = B ∧ B1.length = i := ⟨B.take i, B.drop i, List.take_append_drop _ _, by simp; omega⟩
    have hx1 : ∀ y ∈ B1, lessF y x = true := fun y hy => by
      obtain ⟨k, hk⟩ := List.mem_iff_getElem?.1 hy
      have hkl := (List.getElem?_eq_some_iff.1 hk).1
      exact hlo k y (by omega) (by rw [← hBB, List.getElem?_append_left hkl]; exact hk)
    have hx2 : ∀ y ∈ B2, lessF y x = false := fun y hy => by
      obtain ⟨k, hk⟩ := List.mem_iff_getElem?.1 hy
      refine hhi (i + k) y (by omega) ?_
      rw [← hBB, List.getElem?_append_right (by omega), ← hk]; congr 1; omega
    have hbl : B1.length + B2.length = B.length := by rw [← hBB]; simp
    repeat' (first
    | (with_reducible refine CW.seq ?_)
    | (with_reducible refine KP.then_code ?_)
    | (with_reducible refine CW.skip ?_)
    | (with_reducible refine CW.ret ?_)
    | (with_reducible refine KP.then_ret ?_)
    | (with_reducible refine KP.block_ret ?_)
    | (with_reducible refine CW.block ?_)
    | (with_reducible refine KP.block_normal ?_)
    | (with_reducible refine CW.exit ?_)
    | (with_reducible refine KP.then_exit ?_)
    | (with_reducible refine KP.block_hit ?_)
    | refine KP.bm ?_
    | refine CW.ct ?_
    | refine CW.cf ?_
    | (refine CW.cP ?_ ?_ <;> intro _ <;> try contradiction)
    | (refine CW.cs ?_ ?_ <;> intro _ <;> try contradiction)
    | (refine CW.region (i := 3) ?_ <;> refine KP.q QK.mv ?_ <;> refine KP.q QK.mv ?_ <;> refine KP.q QK.lss ?_ <;> refine KP.list_nil ?_)
    | (refine CW.region (i := 8) ?_ <;> refine KP.q QK.mv ?_ <;> refine KP.q QK.as ?_ <;> refine KP.list_nil ?_)
    | ((with_reducible refine KP.fin0 ?_ ?_); (· rfl))
    | ((with_reducible refine KP.fin0r ?_ ?_); (· rfl)))
    rw [show P ++ (x :: (B ++ S)) = P ++ ([] ++ (x :: (B1 ++ (B2 ++ S)))) by rw [← hBB]; simp]
    refine CA.loop (X := List Item × List Item) (fun z => [(0, v), (10, iv ((a + 1 + i : Nat) : Int)), (13, iv ((a + z.1.length : Nat) : Int))]) (fun z => [row 39 2 eI v (P ++ (z.1 ++ (x :: (z.2 ++ (B2 ++ S)))))])
      (fun z => z.1 ++ z.2 = B1) (fun z => z.2.length) ([], B1) rfl ?_
    rintro ⟨C1, C2⟩ hC
    try dsimp only at hC ⊢
    have hcl : C1.length + C2.length = B1.length := by rw [← hC]; simp
    cases C2 with
    | nil =>
      simp only [List.length_nil] at hcl
      repeat' (first
    | (with_reducible refine CW.seq ?_)
    | (with_reducible refine KP.then_code ?_)
    | (with_reducible refine CW.skip ?_)
    | (with_reducible refine CW.ret ?_)
    | (with_reducible refine KP.then_ret ?_)
    | (with_reducible refine KP.block_ret ?_)
    | (with_reducible refine CW.block ?_)
    | (with_reducible refine KP.block_normal ?_)
    | (with_reducible refine CW.exit ?_)
    | (with_reducible refine KP.then_exit ?_)
    | (with_reducible refine KP.block_hit ?_)
    | refine KP.bm ?_
    | refine CW.ct ?_
    | refine CW.cf ?_
    | (refine CW.cP ?_ ?_ <;> intro _ <;> try contradiction)
    | (refine CW.cs ?_ ?_ <;> intro _ <;> try contradiction)
    | (refine CW.region (i := 9) ?_ <;> refine KP.q QK.mv ?_ <;> refine KP.q QK.mv ?_ <;> refine KP.q (by first | exact QY.sub1N rfl rfl (by omega) | exact QY.subN rfl rfl (by omega) | exact QK.sub) ?_ <;> refine KP.q QK.lss ?_ <;> refine KP.list_nil ?_)
    | ((with_reducible refine KP.fin0 ?_ ?_); (· rfl))
    | ((with_reducible refine KP.fin0r ?_ ?_); (· rfl)))
      rw [List.append_nil] at hC
      rw [show P ++ (C1 ++ (x :: ([] ++ (B2 ++ S)))) = P ++ ((B1 ++ x :: B2) ++ S) by rw [hC]; simp]
      refine Fina.exP (B1 ++ x :: B2) (Fina.puP ⟨?_, ?_⟩ ?_)
      · rw [← hBB]; exact List.perm_middle
      · exact put_sorted (by rw [hBB]; exact hs) (fun y hy => less_asym (hx1 y hy)) hx2
      · exact FA.ret
    | cons y C2 =>
      simp only [List.length_cons] at hcl
      obtain ⟨Z, hZ⟩ : ∃ Z, Z = P ++ (C1 ++ (x :: (y :: C2 ++ (B2 ++ S)))) := ⟨_, rfl⟩
      have hzl : Z.length = P.length + (C1.length + (C2.length + 1 + (B2.length + S.length) + 1)) := by rw [hZ]; simp; omega
      have hzx : Z[a + C1.length]? = some x := by rw [hZ, ← List.append_assoc]; exact get_mid (by simp; omega)
      have hzy : Z[a + C1.length + 1]? = some y := by
        rw [hZ, show P ++ (C1 ++ (x :: (y :: C2 ++ (B2 ++ S)))) = (P ++ (C1 ++ [x])) ++ y :: (C2 ++ (B2 ++ S)) by simp]; exact get_mid (by simp; omega)
      have hsw : (Z.set (a + C1.length) y).set (a + C1.length + 1) x = P ++ ((C1 ++ [y]) ++ (x :: (C2 ++ (B2 ++ S)))) := by
        rw [hZ, ← List.append_assoc, set_mid (by simp; omega), show P ++ C1 ++ y :: (y :: C2 ++ (B2 ++ S)) = (P ++ (C1 ++ [y])) ++ y :: (C2 ++ (B2 ++ S)) by simp, set_mid (by simp; omega)]
        simp
      rw [← hZ]
      
      repeat' (first
    | (with_reducible refine CW.seq ?_)
    | (with_reducible refine KP.then_code ?_)
    | (with_reducible refine CW.skip ?_)
    | (with_reducible refine CW.ret ?_)
    | (with_reducible refine KP.then_ret ?_)
    | (with_reducible refine KP.block_ret ?_)
    | (with_reducible refine CW.block ?_)
    | (with_reducible refine KP.block_normal ?_)
    | (with_reducible refine CW.exit ?_)
    | (with_reducible refine KP.then_exit ?_)
    | (with_reducible refine KP.block_hit ?_)
    | refine KP.bm ?_
    | refine CW.ct ?_
    | refine CW.cf ?_
    | (refine CW.cP ?_ ?_ <;> intro _ <;> try contradiction)
    | (refine CW.cs ?_ ?_ <;> intro _ <;> try contradiction)
    | (refine CW.region (i := 9) ?_ <;> refine KP.q QK.mv ?_ <;> refine KP.q QK.mv ?_ <;> refine KP.q (by first | exact QY.sub1N rfl rfl (by omega) | exact QY.subN rfl rfl (by omega) | exact QK.sub) ?_ <;> refine KP.q QK.lss ?_ <;> refine KP.list_nil ?_)
    | (((with_reducible refine CW.draw (i := 11) ?_ [[], [], [], [], [3], [], [], [6], [5, 6, 7], [5, 6, 7, 8], [], [], [10, 11], [10, 11, 12], [0, 1, 5, 6, 7, 8, 9, 10, 11, 12, 13], [0, 1, 5, 6, 7, 8, 9, 10, 11, 12, 13, 14], [0, 1, 2, 3, 4, 5, 6, 7, 8, 9, 10, 11, 12, 13, 14, 15], [0, 1, 2, 3, 4, 5, 6, 7, 8, 9, 10, 11, 12, 13, 14, 15, 16]] ?_ ?_ ?_ ?_); (· rfl); (· kernel_rfl); (· kernel_rfl); (· repeat (first | exact NoHang.post | refine NoHang.then ?_ | refine NoHang.block ?_))) <;> refine DW.p 0 rfl (fun _ => QK.mv) ?_ <;> refine DW.p 1 rfl (fun _ => QK.mv) ?_ <;> refine DW.p 2 rfl (fun _ => QK.mv) ?_ <;> refine DW.p 3 rfl (fun _ => QK.mv) ?_ <;> refine DW.p 4 rfl (fun _ => (by first | exact QY.addN rfl rfl (by omega) | exact QK.add)) ?_ <;> refine DW.p 5 rfl (fun _ => QK.mv) ?_ <;> refine DW.p 6 rfl (fun _ => QK.mv) ?_ <;> refine DW.p 7 rfl (fun _ => (by first | exact QY.addN rfl rfl (by omega) | exact QK.add)) ?_ <;> refine DW.p 10 rfl (fun _ => QK.mv) ?_ <;> refine DW.p 11 rfl (fun _ => QK.mv) ?_ <;> refine DW.m 8 rfl QK.ia ?_ <;> refine DW.m 9 rfl (by first | exact QY.load_a rfl (Rd.own (by with_reducible first | exact k0 | exact k1 | exact k2 | exact k3 | exact k4 | exact k5 | exact k6 | exact k7 | exact k8 | exact k9 | fail)) (Reads.row RowL.row hzx) (by rfl) | exact QY.load_a rfl (Rd.own (by with_reducible first | exact k0 | exact k1 | exact k2 | exact k3 | exact k4 | exact k5 | exact k6 | exact k7 | exact k8 | exact k9 | fail)) (Reads.row RowL.row hzy) (by rfl) | exact QY.load_a rfl (Rd.own (by with_reducible first | exact k0 | exact k1 | exact k2 | exact k3 | exact k4 | exact k5 | exact k6 | exact k7 | exact k8 | exact k9 | fail)) (Reads.row RowL.row hzx) (by rfl) | exact QY.load_a rfl (Rd.own (by with_reducible first | exact k0 | exact k1 | exact k2 | exact k3 | exact k4 | exact k5 | exact k6 | exact k7 | exact k8 | exact k9 | fail)) (Reads.row RowL.row hzy) (by rfl) | exact QK.lda) ?_ <;> refine DW.m 12 rfl QK.ia ?_ <;> refine DW.m 13 rfl (by first | exact QY.load_a rfl (Rd.own (by with_reducible first | exact k0 | exact k1 | exact k2 | exact k3 | exact k4 | exact k5 | exact k6 | exact k7 | exact k8 | exact k9 | fail)) (Reads.row RowL.row hzx) (by rfl) | exact QY.load_a rfl (Rd.own (by with_reducible first | exact k0 | exact k1 | exact k2 | exact k3 | exact k4 | exact k5 | exact k6 | exact k7 | exact k8 | exact k9 | fail)) (Reads.row RowL.row hzy) (by rfl) | exact QY.load_a rfl (Rd.own (by with_reducible first | exact k0 | exact k1 | exact k2 | exact k3 | exact k4 | exact k5 | exact k6 | exact k7 | exact k8 | exact k9 | fail)) (Reads.row RowL.row hzx) (by rfl) | exact QY.load_a rfl (Rd.own (by with_reducible first | exact k0 | exact k1 | exact k2 | exact k3 | exact k4 | exact k5 | exact k6 | exact k7 | exact k8 | exact k9 | fail)) (Reads.row RowL.row hzy) (by rfl) | exact QK.lda) ?_ <;> refine DW.m 14 rfl QK.ia ?_ <;> (refine DW.ex 15 rfl ?_; intro hdk; (first | refine EK.st_a ?_ | refine EK.st_ra ?_ | refine EK.st_p ?_); all_goals (refine DK.mk hdk .nil ?_; clear hdk)) <;> refine DW.m 16 rfl QK.ia ?_ <;> (refine DW.ex 17 rfl ?_; intro hdk; (first | refine EK.st_a ?_ | refine EK.st_ra ?_ | refine EK.st_p ?_); all_goals (refine DK.mk hdk .nil ?_; clear hdk)) <;> refine DW.zz ?_)
    | (refine CW.region (i := 10) ?_ <;> refine KP.q QK.mv ?_ <;> refine KP.q (by first | exact QY.addN rfl rfl (by omega) | exact QK.add) ?_ <;> refine KP.q QK.as ?_ <;> refine KP.list_nil ?_)
    | ((with_reducible refine KP.fin0 ?_ ?_); (· rfl))
    | ((with_reducible refine KP.fin0r ?_ ?_); (· rfl)))
      rw [hsw, show a + C1.length + 1 = a + (C1 ++ [y]).length by simp; omega]
      exact KA.round (C1 ++ [y], C2) (by rw [← hC]; simp) (by simp)
set_option maxHeartbeats 4000000 in
theorem sym_last {v : Value} {P A S : List Item} {y : Item} {a m b : Nat} (ha : a = P.length) (hm : m = P.length + A.length) (hb : b = P.length + A.length + 1) (hA : 2 ≤ A.length) (hs : SortedI A) (hl : (P ++ A ++ [y] ++ S).length ≤ 100000) :
    Spc Try.prog 115 #[v, iv (a : Nat), iv (m : Nat), iv (b : Nat), cmpv] [] [row 39 2 eI v (P ++ (A ++ (y :: S)))] (mpost v P (A ++ [y]) S) := by
  refine Spc.enter' (args := [v, iv (a : Nat), iv (m : Nat), iv (b : Nat), cmpv]) (T0 := [(0, v), (1, iv (a : Nat)), (2, iv (m : Nat)), (3, iv (b : Nat)), (4, cmpv)]) Try.func115 rfl Try.ntmps115 (Nat.le_of_ble_eq_true rfl) rfl ?_
  intro w0 own
  simp only [List.length_append, List.length_cons, List.length_nil] at hl
  obtain rfl : m = a + A.length := by omega
  obtain rfl : b = a + A.length + 1 := by omega
  repeat' (first
    | (with_reducible refine CW.seq ?_)
    | (with_reducible refine KP.then_code ?_)
    | (with_reducible refine CW.skip ?_)
    | (with_reducible refine CW.ret ?_)
    | (with_reducible refine KP.then_ret ?_)
    | (with_reducible refine KP.block_ret ?_)
    | (with_reducible refine CW.block ?_)
    | (with_reducible refine KP.block_normal ?_)
    | (with_reducible refine CW.exit ?_)
    | (with_reducible refine KP.then_exit ?_)
    | (with_reducible refine KP.block_hit ?_)
    | refine KP.bm ?_
    | refine CW.ct ?_
    | refine CW.cf ?_
    | (refine CW.cP ?_ ?_ <;> intro _ <;> try contradiction)
    | (refine CW.cs ?_ ?_ <;> intro _ <;> try contradiction)
    | (refine CW.region (i := 0) ?_ <;> refine KP.q QK.mv ?_ <;> refine KP.q QK.mv ?_ <;> refine KP.q (by first | exact QY.sub1N rfl rfl (by omega) | exact QY.subN rfl rfl (by omega) | exact QK.sub) ?_ <;> refine KP.q QK.eqi ?_ <;> refine KP.list_nil ?_)
    | (refine CW.region (i := 12) ?_ <;> refine KP.q QK.mv ?_ <;> refine KP.q QK.mv ?_ <;> refine KP.q (by first | exact QY.sub1N rfl rfl (by omega) | exact QY.subN rfl rfl (by omega) | exact QK.sub) ?_ <;> refine KP.q QK.eqi ?_ <;> refine KP.list_nil ?_)
    | (refine CW.region (i := 13) ?_ <;> refine KP.q QK.mv ?_ <;> refine KP.q QK.as ?_ <;> refine KP.list_nil ?_)
    | (refine CW.region (i := 14) ?_ <;> refine KP.q QK.mv ?_ <;> refine KP.q QK.as ?_ <;> refine KP.list_nil ?_)
    | ((with_reducible refine KP.fin0 ?_ ?_); (· rfl))
    | ((with_reducible refine KP.fin0r ?_ ?_); (· rfl)))
  refine CA.loop (X := Nat × Nat) (fun z => [(0, v), (2, iv ((a + A.length : Nat) : Int)), (4, cmpv), (14, iv ((a + z.1 : Nat) : Int)), (15, iv ((a + z.2 : Nat) : Int))]) (fun z => [row 39 2 eI v (P ++ (A ++ (y :: S)))])
    (fun z => z.1 ≤ z.2 ∧ z.2 ≤ A.length ∧ (∀ k x, k < z.1 → A[k]? = some x → lessF y x = false) ∧ (∀ k x, z.2 ≤ k → A[k]? = some x → lessF y x = true)) (fun z => z.2 - z.1) (0, A.length) ⟨Nat.zero_le _, Nat.le_refl _, fun k y h => absurd h (by simp), fun k y h1 h2 => absurd (List.getElem?_eq_some_iff.1 h2).1 (by simp only at h1; omega)⟩ ?_
  rintro ⟨i, j⟩ ⟨hij, hjB, hlo, hhi⟩
  try dsimp only at hij hjB hlo hhi ⊢
  rcases Nat.lt_or_ge i j with hlt | hge
  · obtain ⟨hh, hhd⟩ : ∃ hh, hh = (a + i + (a + j)) / 2 := ⟨_, rfl⟩
    obtain ⟨x, hx⟩ := at_lt (xs := A) (i := hh - a) (by omega)
    obtain ⟨Z, hZ⟩ : ∃ Z, Z = P ++ (A ++ (y :: S)) := ⟨_, rfl⟩
    have hzl : Z.length = P.length + (A.length + (S.length + 1)) := by rw [hZ]; simp
    have hzy : Z[a + A.length]? = some y := by rw [hZ, ← List.append_assoc]; exact get_mid (by simp; omega)
    have hzx : Z[(a + i + (a + j)) / 2]? = some x := by
      rw [hZ, get_in (by omega) (by omega), ← hx]
      congr 1; omega
    rw [← hZ]
    
    
    repeat' (first
    | (with_reducible refine CW.seq ?_)
    | (with_reducible refine KP.then_code ?_)
    | (with_reducible refine CW.skip ?_)
    | (with_reducible refine CW.ret ?_)
    | (with_reducible refine KP.then_ret ?_)
    | (with_reducible refine KP.block_ret ?_)
    | (with_reducible refine CW.block ?_)
    | (with_reducible refine KP.block_normal ?_)
    | (with_reducible refine CW.exit ?_)
    | (with_reducible refine KP.then_exit ?_)
    | (with_reducible refine KP.block_hit ?_)
    | refine KP.bm ?_
    | refine CW.ct ?_
    | refine CW.cf ?_
    | (refine CW.cP ?_ ?_ <;> intro _ <;> try contradiction)
    | (refine CW.cs ?_ ?_ <;> intro _ <;> try contradiction)
    | (refine CW.region (i := 15) ?_ <;> refine KP.q QK.mv ?_ <;> refine KP.q QK.mv ?_ <;> refine KP.q QK.lss ?_ <;> refine KP.list_nil ?_)
    | (refine CW.region (i := 16) ?_ <;> refine KP.q QK.mv ?_ <;> refine KP.q QK.mv ?_ <;> refine KP.q (by first | exact QY.addN rfl rfl (by omega) | exact QK.add) ?_ <;> refine KP.q (by first | exact QY.toU rfl (by omega) | exact QY.toI rfl (by omega) | exact QK.cv) ?_ <;> refine KP.q (QY.half rfl rfl) ?_ <;> refine KP.q (by first | exact QY.toU rfl (by omega) | exact QY.toI rfl (by omega) | exact QK.cv) ?_ <;> refine KP.q QK.as ?_ <;> refine KP.list_nil ?_)
    | (((with_reducible refine CW.draw (i := 17) ?_ [[], [], [], [1, 2], [1, 2, 3], [], [], [5, 6], [5, 6, 7], [0, 1, 2, 3, 4, 5, 6, 7, 8], [0, 1, 2, 3, 4, 5, 6, 7, 8, 9], [0, 1, 2, 3, 4, 5, 6, 7, 8, 9, 10]] ?_ ?_ ?_ ?_); (· rfl); (· kernel_rfl); (· kernel_rfl); (· repeat (first | exact NoHang.post | refine NoHang.then ?_ | refine NoHang.block ?_))) <;> refine DW.p 0 rfl (fun _ => QK.mv) ?_ <;> refine DW.p 1 rfl (fun _ => QK.mv) ?_ <;> refine DW.p 2 rfl (fun _ => QK.mv) ?_ <;> refine DW.p 5 rfl (fun _ => QK.mv) ?_ <;> refine DW.p 6 rfl (fun _ => QK.mv) ?_ <;> refine DW.m 3 rfl QK.ia ?_ <;> refine DW.m 4 rfl (by first | exact QY.load_a rfl (Rd.own (by with_reducible first | exact k0 | exact k1 | exact k2 | exact k3 | exact k4 | exact k5 | exact k6 | exact k7 | exact k8 | exact k9 | fail)) (Reads.row RowL.row hzx) (by rfl) | exact QY.load_a rfl (Rd.own (by with_reducible first | exact k0 | exact k1 | exact k2 | exact k3 | exact k4 | exact k5 | exact k6 | exact k7 | exact k8 | exact k9 | fail)) (Reads.row RowL.row hzy) (by rfl) | exact QY.load_a rfl (Rd.own (by with_reducible first | exact k0 | exact k1 | exact k2 | exact k3 | exact k4 | exact k5 | exact k6 | exact k7 | exact k8 | exact k9 | fail)) (Reads.row RowL.row hzx) (by rfl) | exact QY.load_a rfl (Rd.own (by with_reducible first | exact k0 | exact k1 | exact k2 | exact k3 | exact k4 | exact k5 | exact k6 | exact k7 | exact k8 | exact k9 | fail)) (Reads.row RowL.row hzy) (by rfl) | exact QY.load_a rfl (Rd.own (by with_reducible first | exact k0 | exact k1 | exact k2 | exact k3 | exact k4 | exact k5 | exact k6 | exact k7 | exact k8 | exact k9 | fail)) (Reads.row RowL.row hzx) (by rfl) | exact QY.load_a rfl (Rd.own (by with_reducible first | exact k0 | exact k1 | exact k2 | exact k3 | exact k4 | exact k5 | exact k6 | exact k7 | exact k8 | exact k9 | fail)) (Reads.row RowL.row hzy) (by rfl) | exact QK.lda) ?_ <;> refine DW.m 7 rfl QK.ia ?_ <;> refine DW.m 8 rfl (by first | exact QY.load_a rfl (Rd.own (by with_reducible first | exact k0 | exact k1 | exact k2 | exact k3 | exact k4 | exact k5 | exact k6 | exact k7 | exact k8 | exact k9 | fail)) (Reads.row RowL.row hzx) (by rfl) | exact QY.load_a rfl (Rd.own (by with_reducible first | exact k0 | exact k1 | exact k2 | exact k3 | exact k4 | exact k5 | exact k6 | exact k7 | exact k8 | exact k9 | fail)) (Reads.row RowL.row hzy) (by rfl) | exact QY.load_a rfl (Rd.own (by with_reducible first | exact k0 | exact k1 | exact k2 | exact k3 | exact k4 | exact k5 | exact k6 | exact k7 | exact k8 | exact k9 | fail)) (Reads.row RowL.row hzx) (by rfl) | exact QY.load_a rfl (Rd.own (by with_reducible first | exact k0 | exact k1 | exact k2 | exact k3 | exact k4 | exact k5 | exact k6 | exact k7 | exact k8 | exact k9 | fail)) (Reads.row RowL.row hzy) (by rfl) | exact QY.load_a rfl (Rd.own (by with_reducible first | exact k0 | exact k1 | exact k2 | exact k3 | exact k4 | exact k5 | exact k6 | exact k7 | exact k8 | exact k9 | fail)) (Reads.row RowL.row hzx) (by rfl) | exact QY.load_a rfl (Rd.own (by with_reducible first | exact k0 | exact k1 | exact k2 | exact k3 | exact k4 | exact k5 | exact k6 | exact k7 | exact k8 | exact k9 | fail)) (Reads.row RowL.row hzy) (by rfl) | exact QK.lda) ?_ <;> (refine DW.ex 9 rfl ?_; intro hdk; ((first | refine EW.callv (vs := [Iv y, Iv x]) (caps := []) rfl (compare_spec (a := y) (b := x)) rfl .nil .nil ?_ | refine EW.callv (vs := [Iv y, Iv x]) (caps := []) rfl (compare_spec (a := y) (b := x)) rfl .nil .nil ?_); repeat' first | refine CP.r ?_ | refine CP.r0 ?_ | refine CP.exP fun e101 => ?_ | refine CP.puP fun h101 => ?_); all_goals (refine DK.mk hdk .nil ?_; clear hdk)) <;> refine DW.p 10 rfl (fun _ => QK.lss) ?_ <;> refine DW.p 11 rfl (fun _ => QK.not) ?_ <;> refine DW.zz ?_)
    | (refine CW.region (i := 18) ?_ <;> refine KP.q QK.mv ?_ <;> refine KP.q (by first | exact QY.addN rfl rfl (by omega) | exact QK.add) ?_ <;> refine KP.q QK.as ?_ <;> refine KP.list_nil ?_)
    | (refine CW.region (i := 19) ?_ <;> refine KP.q QK.mv ?_ <;> refine KP.q QK.as ?_ <;> refine KP.list_nil ?_)
    | ((with_reducible refine KP.fin0 ?_ ?_); (· rfl))
    | ((with_reducible refine KP.fin0r ?_ ?_); (· rfl)))
    · rename_i hc
      have hc' : lessF y x = false := by
        cases h : lessF y x with
        | false => rfl
        | true => exfalso; unfold lessF at h; simp at h hc; omega
      rw [← hhd, show hh + 1 = a + (hh + 1 - a) by omega, hZ]
      refine KA.round (hh + 1 - a, j) ⟨by simp only; omega, hjB, fun k z hk hz => ?_, hhi⟩ (by simp only; omega)
      exact le_trans' (sorted_get hs (by simp only at hk; omega) hz hx) hc'
    · rename_i hc
      have hc' : lessF y x = true := by
        cases h : lessF y x with
        | true => rfl
        | false => exfalso; unfold lessF at h; simp at h hc; omega
      rw [← hhd, show hh = a + (hh - a) by omega, hZ]
      refine KA.round (i, hh - a) ⟨by simp only; omega, by simp only; omega, hlo, fun k z hk hz => ?_⟩ (by simp only; omega)
      exact less_le hc' (sorted_get hs (by simp only at hk; omega) hx hz)
  · obtain rfl : i = j := by omega
    obtain ⟨A1, A2, hAA, hA1⟩ : ∃ A1 A2, A1 ++ A2 = A ∧ A1.length = i := ⟨A.take i, A.drop i, List.take_append_drop _ _, by simp; omega⟩
    have hx1 : ∀ x ∈ A1, lessF y x = false := fun x hx => by
      obtain ⟨k, hk⟩ := List.mem_iff_getElem?.1 hx
      have hkl := (List.getElem?_eq_some_iff.1 hk).1
      exact hlo k x (by omega) (by rw [← hAA, List.getElem?_append_left hkl]; exact hk)
    have hx2 : ∀ x ∈ A2, lessF y x = true := fun x hx => by
      obtain ⟨k, hk⟩ := List.mem_iff_getElem?.1 hx
      refine hhi (i + k) x (by omega) ?_
      rw [← hAA, List.getElem?_append_right (by omega), ← hk]; congr 1; omega
    have hal : A1.length + A2.length = A.length := by rw [← hAA]; simp
    repeat' (first
    | (with_reducible refine CW.seq ?_)
    | (with_reducible refine KP.then_code ?_)
    | (with_reducible refine CW.skip ?_)
    | (with_reducible refine CW.ret ?_)
    | (with_reducible refine KP.then_ret ?_)
    | (with_reducible refine KP.block_ret ?_)
    | (with_reducible refine CW.block ?_)
    | (with_reducible refine KP.block_normal ?_)
    | (with_reducible refine CW.exit ?_)
    | (with_reducible refine KP.then_exit ?_)
    | (with_reducible refine KP.block_hit ?_)
    | refine KP.bm ?_
    | refine CW.ct ?_
    | refine CW.cf ?_
    | (refine CW.cP ?_ ?_ <;> intro _ <;> try contradiction)
    | (refine CW.cs ?_ ?_ <;> intro _ <;> try contradiction)
    | (refine CW.region (i := 15) ?_ <;> refine KP.q QK.mv ?_ <;> refine KP.q QK.mv ?_ <;> refine KP.q QK.lss ?_ <;> refine KP.list_nil ?_)
    | (refine CW.region (i := 20) ?_ <;> refine KP.q QK.mv ?_ <;> refine KP.q QK.as ?_ <;> refine KP.list_nil ?_)
    | ((with_reducible refine KP.fin0 ?_ ?_); (· rfl))
    | ((with_reducible refine KP.fin0r ?_ ?_); (· rfl)))
    rw [show P ++ (A ++ (y :: S)) = P ++ (A1 ++ (A2 ++ (y :: ([] ++ S)))) by rw [← hAA]; simp, show a + A.length = a + A1.length + A2.length by omega]
    refine CA.loop (X := List Item × List Item) (fun z => [(0, v), (14, iv ((a + i : Nat) : Int)), (17, iv ((a + A1.length + z.1.length : Nat) : Int))]) (fun z => [row 39 2 eI v (P ++ (A1 ++ (z.1 ++ (y :: (z.2 ++ S)))))])
      (fun z => z.1 ++ z.2 = A2) (fun z => z.1.length) (A2, []) (by simp) ?_
    rintro ⟨C1, C2⟩ hC
    try dsimp only at hC ⊢
    have hcl : C1.length + C2.length = A2.length := by rw [← hC]; simp
    rcases List.eq_nil_or_concat C1 with rfl | ⟨F, x, hF⟩
    · have hn : ([] : List Item).length = 0 := rfl
      repeat' (first
    | (with_reducible refine CW.seq ?_)
    | (with_reducible refine KP.then_code ?_)
    | (with_reducible refine CW.skip ?_)
    | (with_reducible refine CW.ret ?_)
    | (with_reducible refine KP.then_ret ?_)
    | (with_reducible refine KP.block_ret ?_)
    | (with_reducible refine CW.block ?_)
    | (with_reducible refine KP.block_normal ?_)
    | (with_reducible refine CW.exit ?_)
    | (with_reducible refine KP.then_exit ?_)
    | (with_reducible refine KP.block_hit ?_)
    | refine KP.bm ?_
    | refine CW.ct ?_
    | refine CW.cf ?_
    | (refine CW.cP ?_ ?_ <;> intro _ <;> try contradiction)
    | (refine CW.cs ?_ ?_ <;> intro _ <;> try contradiction)
    | (refine CW.region (i := 21) ?_ <;> refine KP.q QK.mv ?_ <;> refine KP.q QK.mv ?_ <;> refine KP.q QK.gtr ?_ <;> refine KP.list_nil ?_)
    | ((with_reducible refine KP.fin0 ?_ ?_); (· rfl))
    | ((with_reducible refine KP.fin0r ?_ ?_); (· rfl)))
      rw [List.nil_append] at hC
      rw [show P ++ (A1 ++ ([] ++ (y :: (C2 ++ S)))) = P ++ ((A1 ++ y :: A2) ++ S) by rw [hC]; simp]
      refine Fina.exP (A1 ++ y :: A2) (Fina.puP ⟨?_, ?_⟩ ?_)
      · rw [← hAA]; exact (List.perm_middle).trans ((List.perm_append_singleton _ _).symm)
      · exact put_sorted (by rw [hAA]; exact hs) hx1 (fun x hx => less_asym (hx2 x hx))
      · exact FA.ret
    · rw [List.concat_eq_append] at hF
      have hlF : C1.length = F.length + 1 := by rw [hF]; simp
      obtain ⟨Z, hZ⟩ : ∃ Z, Z = P ++ (A1 ++ (C1 ++ (y :: (C2 ++ S)))) := ⟨_, rfl⟩
      have hzl : Z.length = P.length + (A1.length + (C1.length + (C2.length + S.length + 1))) := by rw [hZ]; simp
      have hzy : Z[a + A1.length + C1.length]? = some y := by rw [hZ, show P ++ (A1 ++ (C1 ++ (y :: (C2 ++ S)))) = (P ++ (A1 ++ C1)) ++ (y :: (C2 ++ S)) by simp]; exact get_mid (by simp; omega)
      have hzx : Z[a + A1.length + C1.length - 1]? = some x := by
        rw [hZ, hF, show P ++ (A1 ++ (F ++ [x] ++ (y :: (C2 ++ S)))) = (P ++ (A1 ++ F)) ++ x :: (y :: (C2 ++ S)) by simp]; exact get_mid (by simp; omega)
      have hsw : (Z.set (a + A1.length + C1.length) x).set (a + A1.length + C1.length - 1) y = P ++ (A1 ++ (F ++ (y :: (x :: C2 ++ S)))) := by
        rw [hZ, show P ++ (A1 ++ (C1 ++ (y :: (C2 ++ S)))) = (P ++ (A1 ++ C1)) ++ (y :: (C2 ++ S)) by simp, set_mid (by simp; omega), hF, show P ++ (A1 ++ (F ++ [x])) ++ x :: (C2 ++ S) = (P ++ (A1 ++ F)) ++ x :: (x :: (C2 ++ S)) by simp, set_mid (by simp; omega)]
        simp
      rw [← hZ]
      
      repeat' (first
    | (with_reducible refine CW.seq ?_)
    | (with_reducible refine KP.then_code ?_)
    | (with_reducible refine CW.skip ?_)
    | (with_reducible refine CW.ret ?_)
    | (with_reducible refine KP.then_ret ?_)
    | (with_reducible refine KP.block_ret ?_)
    | (with_reducible refine CW.block ?_)
    | (with_reducible refine KP.block_normal ?_)
    | (with_reducible refine CW.exit ?_)
    | (with_reducible refine KP.then_exit ?_)
    | (with_reducible refine KP.block_hit ?_)
    | refine KP.bm ?_
    | refine CW.ct ?_
    | refine CW.cf ?_
    | (refine CW.cP ?_ ?_ <;> intro _ <;> try contradiction)
    | (refine CW.cs ?_ ?_ <;> intro _ <;> try contradiction)
    | (refine CW.region (i := 21) ?_ <;> refine KP.q QK.mv ?_ <;> refine KP.q QK.mv ?_ <;> refine KP.q QK.gtr ?_ <;> refine KP.list_nil ?_)
    | (((with_reducible refine CW.draw (i := 23) ?_ [[], [], [], [], [3], [], [], [6], [5, 6, 7], [5, 6, 7, 8], [], [], [10, 11], [10, 11, 12], [0, 1, 5, 6, 7, 8, 9, 10, 11, 12, 13], [0, 1, 5, 6, 7, 8, 9, 10, 11, 12, 13, 14], [0, 1, 2, 3, 4, 5, 6, 7, 8, 9, 10, 11, 12, 13, 14, 15], [0, 1, 2, 3, 4, 5, 6, 7, 8, 9, 10, 11, 12, 13, 14, 15, 16]] ?_ ?_ ?_ ?_); (· rfl); (· kernel_rfl); (· kernel_rfl); (· repeat (first | exact NoHang.post | refine NoHang.then ?_ | refine NoHang.block ?_))) <;> refine DW.p 0 rfl (fun _ => QK.mv) ?_ <;> refine DW.p 1 rfl (fun _ => QK.mv) ?_ <;> refine DW.p 2 rfl (fun _ => QK.mv) ?_ <;> refine DW.p 3 rfl (fun _ => QK.mv) ?_ <;> refine DW.p 4 rfl (fun _ => (by first | exact QY.sub1N rfl rfl (by omega) | exact QY.subN rfl rfl (by omega) | exact QK.sub)) ?_ <;> refine DW.p 5 rfl (fun _ => QK.mv) ?_ <;> refine DW.p 6 rfl (fun _ => QK.mv) ?_ <;> refine DW.p 7 rfl (fun _ => (by first | exact QY.sub1N rfl rfl (by omega) | exact QY.subN rfl rfl (by omega) | exact QK.sub)) ?_ <;> refine DW.p 10 rfl (fun _ => QK.mv) ?_ <;> refine DW.p 11 rfl (fun _ => QK.mv) ?_ <;> refine DW.m 8 rfl QK.ia ?_ <;> refine DW.m 9 rfl (by first | exact QY.load_a rfl (Rd.own (by with_reducible first | exact k0 | exact k1 | exact k2 | exact k3 | exact k4 | exact k5 | exact k6 | exact k7 | exact k8 | exact k9 | fail)) (Reads.row RowL.row hzx) (by rfl) | exact QY.load_a rfl (Rd.own (by with_reducible first | exact k0 | exact k1 | exact k2 | exact k3 | exact k4 | exact k5 | exact k6 | exact k7 | exact k8 | exact k9 | fail)) (Reads.row RowL.row hzy) (by rfl) | exact QY.load_a rfl (Rd.own (by with_reducible first | exact k0 | exact k1 | exact k2 | exact k3 | exact k4 | exact k5 | exact k6 | exact k7 | exact k8 | exact k9 | fail)) (Reads.row RowL.row hzx) (by rfl) | exact QY.load_a rfl (Rd.own (by with_reducible first | exact k0 | exact k1 | exact k2 | exact k3 | exact k4 | exact k5 | exact k6 | exact k7 | exact k8 | exact k9 | fail)) (Reads.row RowL.row hzy) (by rfl) | exact QY.load_a rfl (Rd.own (by with_reducible first | exact k0 | exact k1 | exact k2 | exact k3 | exact k4 | exact k5 | exact k6 | exact k7 | exact k8 | exact k9 | fail)) (Reads.row RowL.row hzx) (by rfl) | exact QY.load_a rfl (Rd.own (by with_reducible first | exact k0 | exact k1 | exact k2 | exact k3 | exact k4 | exact k5 | exact k6 | exact k7 | exact k8 | exact k9 | fail)) (Reads.row RowL.row hzy) (by rfl) | exact QY.load_a rfl (Rd.own (by with_reducible first | exact k0 | exact k1 | exact k2 | exact k3 | exact k4 | exact k5 | exact k6 | exact k7 | exact k8 | exact k9 | fail)) (Reads.row RowL.row hzx) (by rfl) | exact QY.load_a rfl (Rd.own (by with_reducible first | exact k0 | exact k1 | exact k2 | exact k3 | exact k4 | exact k5 | exact k6 | exact k7 | exact k8 | exact k9 | fail)) (Reads.row RowL.row hzy) (by rfl) | exact QK.lda) ?_ <;> refine DW.m 12 rfl QK.ia ?_ <;> refine DW.m 13 rfl (by first | exact QY.load_a rfl (Rd.own (by with_reducible first | exact k0 | exact k1 | exact k2 | exact k3 | exact k4 | exact k5 | exact k6 | exact k7 | exact k8 | exact k9 | fail)) (Reads.row RowL.row hzx) (by rfl) | exact QY.load_a rfl (Rd.own (by with_reducible first | exact k0 | exact k1 | exact k2 | exact k3 | exact k4 | exact k5 | exact k6 | exact k7 | exact k8 | exact k9 | fail)) (Reads.row RowL.row hzy) (by rfl) | exact QY.load_a rfl (Rd.own (by with_reducible first | exact k0 | exact k1 | exact k2 | exact k3 | exact k4 | exact k5 | exact k6 | exact k7 | exact k8 | exact k9 | fail)) (Reads.row RowL.row hzx) (by rfl) | exact QY.load_a rfl (Rd.own (by with_reducible first | exact k0 | exact k1 | exact k2 | exact k3 | exact k4 | exact k5 | exact k6 | exact k7 | exact k8 | exact k9 | fail)) (Reads.row RowL.row hzy) (by rfl) | exact QY.load_a rfl (Rd.own (by with_reducible first | exact k0 | exact k1 | exact k2 | exact k3 | exact k4 | exact k5 | exact k6 | exact k7 | exact k8 | exact k9 | fail)) (Reads.row RowL.row hzx) (by rfl) | exact QY.load_a rfl (Rd.own (by with_reducible first | exact k0 | exact k1 | exact k2 | exact k3 | exact k4 | exact k5 | exact k6 | exact k7 | exact k8 | exact k9 | fail)) (Reads.row RowL.row hzy) (by rfl) | exact QY.load_a rfl (Rd.own (by with_reducible first | exact k0 | exact k1 | exact k2 | exact k3 | exact k4 | exact k5 | exact k6 | exact k7 | exact k8 | exact k9 | fail)) (Reads.row RowL.row hzx) (by rfl) | exact QY.load_a rfl (Rd.own (by with_reducible first | exact k0 | exact k1 | exact k2 | exact k3 | exact k4 | exact k5 | exact k6 | exact k7 | exact k8 | exact k9 | fail)) (Reads.row RowL.row hzy) (by rfl) | exact QK.lda) ?_ <;> refine DW.m 14 rfl QK.ia ?_ <;> (refine DW.ex 15 rfl ?_; intro hdk; (first | refine EK.st_a ?_ | refine EK.st_ra ?_ | refine EK.st_p ?_); all_goals (refine DK.mk hdk .nil ?_; clear hdk)) <;> refine DW.m 16 rfl QK.ia ?_ <;> (refine DW.ex 17 rfl ?_; intro hdk; (first | refine EK.st_a ?_ | refine EK.st_ra ?_ | refine EK.st_p ?_); all_goals (refine DK.mk hdk .nil ?_; clear hdk)) <;> refine DW.zz ?_)
    | (refine CW.region (i := 22) ?_ <;> refine KP.q QK.mv ?_ <;> refine KP.q (by first | exact QY.sub1N rfl rfl (by omega) | exact QY.subN rfl rfl (by omega) | exact QK.sub) ?_ <;> refine KP.q QK.as ?_ <;> refine KP.list_nil ?_)
    | ((with_reducible refine KP.fin0 ?_ ?_); (· rfl))
    | ((with_reducible refine KP.fin0r ?_ ?_); (· rfl)))
      rw [hsw, show a + A1.length + C1.length - 1 = a + A1.length + F.length by omega]
      exact KA.round (F, x :: C2) (by rw [← hC, hF]; simp) (by simp only; omega)

end Go.Proofs.Ytpmhelfdmhjnbaa
