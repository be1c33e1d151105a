import Derived.Test.YtpmhelfdmhjnbaaS1
/- slices.swapRangeCmpFunc, rotateCmpFunc of items. -/
namespace Go.Proofs.Ytpmhelfdmhjnbaa
open Go Go.Ink Go.Plain
set_option linter.unusedVariables false
set_option linter.unusedSimpArgs false
attribute [local irreducible] KP QY EW CW DW QG CP Spc DK Fina wpList lessF

set_option maxHeartbeats 4000000 in
theorem swap_spec {v : Value} {P A Q B S : List Item} {a b n : Nat} (ha : a = P.length) (hb : b = P.length + A.length + Q.length) (hn : n = A.length) (hAB : A.length = B.length) (hl : (P ++ A ++ Q ++ B ++ S).length ≤ 100000) :
    Spc Try.prog 121 #[v, iv (a : Nat), iv (b : Nat), iv (n : Nat), cmpv] [] [row 39 2 eI v (P ++ (A ++ (Q ++ (B ++ S))))] (ret (.tuple #[]) [row 39 2 eI v (P ++ (B ++ (Q ++ (A ++ S))))]) := by
  refine Spc.enter' (args := [v, iv (a : Nat), iv (b : Nat), iv (n : Nat), cmpv]) (T0 := [(0, v), (1, iv (a : Nat)), (2, iv (b : Nat)), (3, iv (n : Nat)), (4, cmpv)]) Try.func121 rfl Try.ntmps121 (Nat.le_of_ble_eq_true rfl) rfl ?_
  intro w0 own
  simp only [List.length_append] at hl
  
  repeat' (first
    | (with_reducible refine CW.seq ?_)
    | (with_reducible refine KP.then_code ?_)
    | (with_reducible refine CW.skip ?_)
    | (with_reducible refine CW.ret ?_)
    | (with_reducible refine KP.then_ret ?_)
    | (with_reducible refine KP.block_ret ?_)
    | (with_reducible refine CW.block ?_)
    | (with_reducible refine KP.block_normal ?_)
    | (with_reducible refine CW.exit ?_)
    | (with_reducible refine KP.then_exit ?_)
    | (with_reducible refine KP.block_hit ?_)
    | refine KP.bm ?_
    | refine CW.ct ?_
    | refine CW.cf ?_
    | (refine CW.cP ?_ ?_ <;> intro _ <;> try contradiction)
    | (refine CW.cs ?_ ?_ <;> intro _ <;> try contradiction)
    | (refine CW.region (i := 0) ?_ <;> refine KP.q QK.as ?_ <;> refine KP.list_nil ?_)
    | ((with_reducible refine KP.fin0 ?_ ?_); (· rfl))
    | ((with_reducible refine KP.fin0r ?_ ?_); (· rfl)))
  rw [show P ++ (A ++ (Q ++ (B ++ S))) = P ++ ([] ++ (A ++ (Q ++ ([] ++ (B ++ S))))) by simp]
  refine CA.loop (X := (List Item × List Item) × (List Item × List Item)) (fun z => [(0, v), (1, iv (a : Nat)), (2, iv (b : Nat)), (3, iv (n : Nat)), (4, cmpv), (10, iv (z.1.1.length : Nat))]) (fun z => [row 39 2 eI v (P ++ (z.2.1 ++ (z.1.2 ++ (Q ++ (z.1.1 ++ (z.2.2 ++ S))))))])
    (fun z => z.1.1 ++ z.1.2 = A ∧ z.2.1 ++ z.2.2 = B ∧ z.1.1.length = z.2.1.length) (fun z => z.1.2.length) (([], A), ([], B)) ⟨rfl, rfl, rfl⟩ ?_
  rintro ⟨⟨A1, A2⟩, ⟨B1, B2⟩⟩ ⟨h1, h2, h3⟩
  try dsimp only at h1 h2 h3 ⊢
  have l1 : A1.length + A2.length = A.length := by rw [← h1]; simp
  have l2 : B1.length + B2.length = B.length := by rw [← h2]; simp
  cases A2 with
  | nil =>
    cases B2 with
    | cons y B3 => simp at l1 l2; omega
    | nil =>
      simp only [List.length_nil] at l1
      repeat' (first
    | (with_reducible refine CW.seq ?_)
    | (with_reducible refine KP.then_code ?_)
    | (with_reducible refine CW.skip ?_)
    | (with_reducible refine CW.ret ?_)
    | (with_reducible refine KP.then_ret ?_)
    | (with_reducible refine KP.block_ret ?_)
    | (with_reducible refine CW.block ?_)
    | (with_reducible refine KP.block_normal ?_)
    | (with_reducible refine CW.exit ?_)
    | (with_reducible refine KP.then_exit ?_)
    | (with_reducible refine KP.block_hit ?_)
    | refine KP.bm ?_
    | refine CW.ct ?_
    | refine CW.cf ?_
    | (refine CW.cP ?_ ?_ <;> intro _ <;> try contradiction)
    | (refine CW.cs ?_ ?_ <;> intro _ <;> try contradiction)
    | (refine CW.region (i := 1) ?_ <;> refine KP.q QK.mv ?_ <;> refine KP.q QK.mv ?_ <;> refine KP.q QK.lss ?_ <;> refine KP.list_nil ?_)
    | ((with_reducible refine KP.fin0 ?_ ?_); (· rfl))
    | ((with_reducible refine KP.fin0r ?_ ?_); (· rfl)))
      rw [List.append_nil] at h1 h2
      rw [h1, h2, List.nil_append, List.nil_append]
      exact FA.ret
  | cons x A3 =>
    cases B2 with
    | nil => simp at l1 l2; omega
    | cons y B3 =>
      simp only [List.length_cons] at l1 l2
      obtain ⟨Z, hZ⟩ : ∃ Z, Z = P ++ (B1 ++ ((x :: A3) ++ (Q ++ (A1 ++ ((y :: B3) ++ S))))) := ⟨_, rfl⟩
      have hzl : Z.length = P.length + (B1.length + (A3.length + 1 + (Q.length + (A1.length + (B3.length + 1 + S.length))))) := by rw [hZ]; simp; omega
      have hx : Z[a + A1.length]? = some x := by
        rw [hZ, List.cons_append, ← List.append_assoc P B1]; exact get_mid (by simp; omega)
      have hy : Z[b + A1.length]? = some y := by
        rw [hZ, show P ++ (B1 ++ ((x :: A3) ++ (Q ++ (A1 ++ ((y :: B3) ++ S))))) = (P ++ (B1 ++ ((x :: A3) ++ (Q ++ A1)))) ++ y :: (B3 ++ S) by simp]; exact get_mid (by simp; omega)
      have hsw : (Z.set (a + A1.length) y).set (b + A1.length) x = P ++ ((B1 ++ [y]) ++ (A3 ++ (Q ++ ((A1 ++ [x]) ++ (B3 ++ S))))) := by
        rw [hZ, List.cons_append, ← List.append_assoc P B1, set_mid (by simp; omega), show P ++ B1 ++ y :: (A3 ++ (Q ++ (A1 ++ (y :: B3 ++ S)))) = (P ++ (B1 ++ (y :: (A3 ++ (Q ++ A1))))) ++ y :: (B3 ++ S) by simp, set_mid (by simp; omega)]
        simp
      rw [← hZ]
      
      repeat' (first
    | (with_reducible refine CW.seq ?_)
    | (with_reducible refine KP.then_code ?_)
    | (with_reducible refine CW.skip ?_)
    | (with_reducible refine CW.ret ?_)
    | (with_reducible refine KP.then_ret ?_)
    | (with_reducible refine KP.block_ret ?_)
    | (with_reducible refine CW.block ?_)
    | (with_reducible refine KP.block_normal ?_)
    | (with_reducible refine CW.exit ?_)
    | (with_reducible refine KP.then_exit ?_)
    | (with_reducible refine KP.block_hit ?_)
    | refine KP.bm ?_
    | refine CW.ct ?_
    | refine CW.cf ?_
    | (refine CW.cP ?_ ?_ <;> intro _ <;> try contradiction)
    | (refine CW.cs ?_ ?_ <;> intro _ <;> try contradiction)
    | (refine CW.region (i := 1) ?_ <;> refine KP.q QK.mv ?_ <;> refine KP.q QK.mv ?_ <;> refine KP.q QK.lss ?_ <;> refine KP.list_nil ?_)
    | (((with_reducible refine CW.draw (i := 3) ?_ [[], [], [], [1, 2], [], [], [], [5, 6], [], [], [], [9, 10], [8, 9, 10, 11], [8, 9, 10, 11, 12], [], [], [], [15, 16], [14, 15, 16, 17], [14, 15, 16, 17, 18], [0, 1, 2, 3, 8, 9, 10, 11, 12, 13, 14, 15, 16, 17, 18, 19], [0, 1, 2, 3, 8, 9, 10, 11, 12, 13, 14, 15, 16, 17, 18, 19, 20], [0, 1, 2, 3, 4, 5, 6, 7, 8, 9, 10, 11, 12, 13, 14, 15, 16, 17, 18, 19, 20, 21], [0, 1, 2, 3, 4, 5, 6, 7, 8, 9, 10, 11, 12, 13, 14, 15, 16, 17, 18, 19, 20, 21, 22]] ?_ ?_ ?_ ?_); (· rfl); (· kernel_rfl); (· kernel_rfl); (· repeat (first | exact NoHang.post | refine NoHang.then ?_ | refine NoHang.block ?_))) <;> refine DW.p 0 rfl (fun _ => QK.mv) ?_ <;> refine DW.p 1 rfl (fun _ => QK.mv) ?_ <;> refine DW.p 2 rfl (fun _ => QK.mv) ?_ <;> refine DW.p 3 rfl (fun _ => (by first | exact QY.addN rfl rfl (by omega) | exact QK.add)) ?_ <;> refine DW.p 4 rfl (fun _ => QK.mv) ?_ <;> refine DW.p 5 rfl (fun _ => QK.mv) ?_ <;> refine DW.p 6 rfl (fun _ => QK.mv) ?_ <;> refine DW.p 7 rfl (fun _ => (by first | exact QY.addN rfl rfl (by omega) | exact QK.add)) ?_ <;> refine DW.p 8 rfl (fun _ => QK.mv) ?_ <;> refine DW.p 9 rfl (fun _ => QK.mv) ?_ <;> refine DW.p 10 rfl (fun _ => QK.mv) ?_ <;> refine DW.p 11 rfl (fun _ => (by first | exact QY.addN rfl rfl (by omega) | exact QK.add)) ?_ <;> refine DW.p 14 rfl (fun _ => QK.mv) ?_ <;> refine DW.p 15 rfl (fun _ => QK.mv) ?_ <;> refine DW.p 16 rfl (fun _ => QK.mv) ?_ <;> refine DW.p 17 rfl (fun _ => (by first | exact QY.addN rfl rfl (by omega) | exact QK.add)) ?_ <;> refine DW.m 12 rfl QK.ia ?_ <;> refine DW.m 13 rfl (by first | exact QY.load_a rfl (Rd.own (by with_reducible first | exact k0 | exact k1 | exact k2 | exact k3 | exact k4 | exact k5 | exact k6 | exact k7 | exact k8 | exact k9 | fail)) (Reads.row RowL.row hx) (by rfl) | exact QY.load_a rfl (Rd.own (by with_reducible first | exact k0 | exact k1 | exact k2 | exact k3 | exact k4 | exact k5 | exact k6 | exact k7 | exact k8 | exact k9 | fail)) (Reads.row RowL.row hy) (by rfl) | exact QK.lda) ?_ <;> refine DW.m 18 rfl QK.ia ?_ <;> refine DW.m 19 rfl (by first | exact QY.load_a rfl (Rd.own (by with_reducible first | exact k0 | exact k1 | exact k2 | exact k3 | exact k4 | exact k5 | exact k6 | exact k7 | exact k8 | exact k9 | fail)) (Reads.row RowL.row hx) (by rfl) | exact QY.load_a rfl (Rd.own (by with_reducible first | exact k0 | exact k1 | exact k2 | exact k3 | exact k4 | exact k5 | exact k6 | exact k7 | exact k8 | exact k9 | fail)) (Reads.row RowL.row hy) (by rfl) | exact QK.lda) ?_ <;> refine DW.m 20 rfl QK.ia ?_ <;> (refine DW.ex 21 rfl ?_; intro hdk; (first | refine EK.st_a ?_ | refine EK.st_ra ?_ | refine EK.st_p ?_); all_goals (refine DK.mk hdk .nil ?_; clear hdk)) <;> refine DW.m 22 rfl QK.ia ?_ <;> (refine DW.ex 23 rfl ?_; intro hdk; (first | refine EK.st_a ?_ | refine EK.st_ra ?_ | refine EK.st_p ?_); all_goals (refine DK.mk hdk .nil ?_; clear hdk)) <;> refine DW.zz ?_)
    | (refine CW.region (i := 2) ?_ <;> refine KP.q QK.mv ?_ <;> refine KP.q (by first | exact QY.addN rfl rfl (by omega) | exact QK.add) ?_ <;> refine KP.q QK.as ?_ <;> refine KP.list_nil ?_)
    | ((with_reducible refine KP.fin0 ?_ ?_); (· rfl))
    | ((with_reducible refine KP.fin0r ?_ ?_); (· rfl)))
      rw [hsw]
      have e1 : A1.length + 1 = (A1 ++ [x]).length := by simp
      rw [e1]
      exact KA.round ((A1 ++ [x], A3), (B1 ++ [y], B3)) ⟨by rw [← h1]; simp, by rw [← h2]; simp, by simp [h3]⟩ (by simp)

set_option maxHeartbeats 4000000 in
theorem rotate_spec {v : Value} {P A B S : List Item} {a m b : Nat} (ha : a = P.length) (hm : m = P.length + A.length) (hb : b = P.length + A.length + B.length) (hA : 0 < A.length) (hB : 0 < B.length) (hl : (P ++ A ++ B ++ S).length ≤ 100000) :
    Spc Try.prog 119 #[v, iv (a : Nat), iv (m : Nat), iv (b : Nat), cmpv] [] [row 39 2 eI v (P ++ (A ++ (B ++ S)))] (ret (.tuple #[]) [row 39 2 eI v (P ++ (B ++ (A ++ S)))]) := by
  refine Spc.enter' (args := [v, iv (a : Nat), iv (m : Nat), iv (b : Nat), cmpv]) (T0 := [(0, v), (1, iv (a : Nat)), (2, iv (m : Nat)), (3, iv (b : Nat)), (4, cmpv)]) Try.func119 rfl Try.ntmps119 (Nat.le_of_ble_eq_true rfl) rfl ?_
  intro w0 own
  simp only [List.length_append] at hl
  
  
  repeat' (first
    | (with_reducible refine CW.seq ?_)
    | (with_reducible refine KP.then_code ?_)
    | (with_reducible refine CW.skip ?_)
    | (with_reducible refine CW.ret ?_)
    | (with_reducible refine KP.then_ret ?_)
    | (with_reducible refine KP.block_ret ?_)
    | (with_reducible refine CW.block ?_)
    | (with_reducible refine KP.block_normal ?_)
    | (with_reducible refine CW.exit ?_)
    | (with_reducible refine KP.then_exit ?_)
    | (with_reducible refine KP.block_hit ?_)
    | refine KP.bm ?_
    | refine CW.ct ?_
    | refine CW.cf ?_
    | (refine CW.cP ?_ ?_ <;> intro _ <;> try contradiction)
    | (refine CW.cs ?_ ?_ <;> intro _ <;> try contradiction)
    | (refine CW.region (i := 0) ?_ <;> refine KP.q QK.mv ?_ <;> refine KP.q QK.mv ?_ <;> refine KP.q (by first | exact QY.sub1N rfl rfl (by omega) | exact QY.subN rfl rfl (by omega) | exact QK.sub) ?_ <;> refine KP.q QK.as ?_ <;> refine KP.list_nil ?_)
    | (refine CW.region (i := 1) ?_ <;> refine KP.q QK.mv ?_ <;> refine KP.q QK.mv ?_ <;> refine KP.q (by first | exact QY.sub1N rfl rfl (by omega) | exact QY.subN rfl rfl (by omega) | exact QK.sub) ?_ <;> refine KP.q QK.as ?_ <;> refine KP.list_nil ?_)
    | ((with_reducible refine KP.fin0 ?_ ?_); (· rfl))
    | ((with_reducible refine KP.fin0r ?_ ?_); (· rfl)))
  have e0 : m - a = A.length := by omega
  have e1 : b - m = B.length := by omega
  rw [e0, e1]
  rw [show P ++ (A ++ (B ++ S)) = P ++ ([] ++ (A ++ (B ++ ([] ++ S)))) by simp]
  refine CA.loop (X := (List Item × List Item) × (List Item × List Item)) (fun z => [(0, v), (1, iv (a : Nat)), (2, iv (m : Nat)), (3, iv (b : Nat)), (4, cmpv), (10, iv (z.1.2.length : Nat)), (11, iv (z.2.1.length : Nat))]) (fun z => [row 39 2 eI v (P ++ (z.1.1 ++ (z.1.2 ++ (z.2.1 ++ (z.2.2 ++ S)))))])
    (fun z => z.1.1.length + z.1.2.length = A.length ∧ 0 < z.1.2.length ∧ 0 < z.2.1.length ∧ z.1.1 ++ (z.2.1 ++ (z.1.2 ++ z.2.2)) = B ++ A) (fun z => z.1.2.length + z.2.1.length) (([], A), (B, [])) ⟨by simp, hA, hB, by simp⟩ ?_
  rintro ⟨⟨X, A'⟩, ⟨B', Y⟩⟩ ⟨h1, h2, h3, h4⟩
  try dsimp only at h1 h2 h3 h4 ⊢
  have hlen : X.length + (B'.length + (A'.length + Y.length)) = B.length + A.length := by have := congrArg List.length h4; simpa using this
  rcases Nat.lt_trichotomy A'.length B'.length with hlt | heq | hgt
  · -- the second is longer
    obtain ⟨B1, B2, hBB, hB2⟩ : ∃ B1 B2, B1 ++ B2 = B' ∧ B2.length = A'.length := ⟨B'.take (B'.length - A'.length), B'.drop (B'.length - A'.length), List.take_append_drop _ _, by simp; omega⟩
    have hb1 : B1.length + B2.length = B'.length := by rw [← hBB]; simp
    have hsp := swap_spec (v := v) (P := P ++ X) (A := A') (Q := B1) (B := B2) (S := Y ++ S) (a := m - A'.length) (b := m + B'.length - A'.length) (n := A'.length) (by simp; omega) (by simp; omega) rfl hB2.symm (by simp; omega)
    rw [show P ++ X ++ (A' ++ (B1 ++ (B2 ++ (Y ++ S)))) = P ++ (X ++ (A' ++ (B' ++ (Y ++ S)))) by rw [← hBB]; simp, show P ++ X ++ (B2 ++ (B1 ++ (A' ++ (Y ++ S)))) = P ++ (X ++ (B2 ++ (B1 ++ ((A' ++ Y) ++ S)))) by simp] at hsp
    
    repeat' (first
    | (with_reducible refine CW.seq ?_)
    | (with_reducible refine KP.then_code ?_)
    | (with_reducible refine CW.skip ?_)
    | (with_reducible refine CW.ret ?_)
    | (with_reducible refine KP.then_ret ?_)
    | (with_reducible refine KP.block_ret ?_)
    | (with_reducible refine CW.block ?_)
    | (with_reducible refine KP.block_normal ?_)
    | (with_reducible refine CW.exit ?_)
    | (with_reducible refine KP.then_exit ?_)
    | (with_reducible refine KP.block_hit ?_)
    | refine KP.bm ?_
    | refine CW.ct ?_
    | refine CW.cf ?_
    | (refine CW.cP ?_ ?_ <;> intro _ <;> try contradiction)
    | (refine CW.cs ?_ ?_ <;> intro _ <;> try contradiction)
    | (refine CW.region (i := 2) ?_ <;> refine KP.q QK.mv ?_ <;> refine KP.q QK.mv ?_ <;> refine KP.q QK.nei ?_ <;> refine KP.list_nil ?_)
    | (refine CW.region (i := 3) ?_ <;> refine KP.q QK.mv ?_ <;> refine KP.q QK.mv ?_ <;> refine KP.q QK.gtr ?_ <;> refine KP.list_nil ?_)
    | (refine CW.region (i := 6) ?_ <;> refine KP.q QK.mv ?_ <;> refine KP.q QK.mv ?_ <;> refine KP.q QK.mv ?_ <;> refine KP.q (by first | exact QY.sub1N rfl rfl (by omega) | exact QY.subN rfl rfl (by omega) | exact QK.sub) ?_ <;> refine KP.q QK.mv ?_ <;> refine KP.q QK.mv ?_ <;> refine KP.q (by first | exact QY.addN rfl rfl (by omega) | exact QK.add) ?_ <;> refine KP.q QK.mv ?_ <;> refine KP.q (by first | exact QY.sub1N rfl rfl (by omega) | exact QY.subN rfl rfl (by omega) | exact QK.sub) ?_ <;> refine KP.q QK.mv ?_ <;> refine KP.q QK.mv ?_ <;> (refine KP.e ?_; ((refine EK.call (hsp) ?_); repeat' first | refine CP.r ?_ | refine CP.r0 ?_ | refine CP.exP fun e46 => ?_ | refine CP.puP fun h46 => ?_)) <;> refine KP.list_nil ?_)
    | (refine CW.region (i := 7) ?_ <;> refine KP.q QK.mv ?_ <;> refine KP.q QK.mv ?_ <;> refine KP.q (by first | exact QY.sub1N rfl rfl (by omega) | exact QY.subN rfl rfl (by omega) | exact QK.sub) ?_ <;> refine KP.q QK.as ?_ <;> refine KP.list_nil ?_)
    | ((with_reducible refine KP.fin0 ?_ ?_); (· rfl))
    | ((with_reducible refine KP.fin0r ?_ ?_); (· rfl)))
    rw [show iv (A'.length : Nat) = iv (B2.length : Nat) by rw [hB2], show B'.length - A'.length = B1.length by omega]
    exact KA.round ((X, B2), (B1, A' ++ Y)) ⟨by simp only; omega, by simp only; omega, by simp only; omega, by rw [← h4, ← hBB]; simp⟩ (by simp only; omega)
  · have hsp := swap_spec (v := v) (P := P ++ X) (A := A') (Q := []) (B := B') (S := Y ++ S) (a := m - A'.length) (b := m) (n := A'.length) (by simp; omega) (by simp; omega) rfl heq (by simp; omega)
    rw [show P ++ X ++ (A' ++ ([] ++ (B' ++ (Y ++ S)))) = P ++ (X ++ (A' ++ (B' ++ (Y ++ S)))) by simp, show P ++ X ++ (B' ++ ([] ++ (A' ++ (Y ++ S)))) = P ++ ((X ++ (B' ++ (A' ++ Y))) ++ S) by simp, h4, List.append_assoc] at hsp
    
    repeat' (first
    | (with_reducible refine CW.seq ?_)
    | (with_reducible refine KP.then_code ?_)
    | (with_reducible refine CW.skip ?_)
    | (with_reducible refine CW.ret ?_)
    | (with_reducible refine KP.then_ret ?_)
    | (with_reducible refine KP.block_ret ?_)
    | (with_reducible refine CW.block ?_)
    | (with_reducible refine KP.block_normal ?_)
    | (with_reducible refine CW.exit ?_)
    | (with_reducible refine KP.then_exit ?_)
    | (with_reducible refine KP.block_hit ?_)
    | refine KP.bm ?_
    | refine CW.ct ?_
    | refine CW.cf ?_
    | (refine CW.cP ?_ ?_ <;> intro _ <;> try contradiction)
    | (refine CW.cs ?_ ?_ <;> intro _ <;> try contradiction)
    | (refine CW.region (i := 2) ?_ <;> refine KP.q QK.mv ?_ <;> refine KP.q QK.mv ?_ <;> refine KP.q QK.nei ?_ <;> refine KP.list_nil ?_)
    | (refine CW.region (i := 8) ?_ <;> refine KP.q QK.mv ?_ <;> refine KP.q QK.mv ?_ <;> refine KP.q QK.mv ?_ <;> refine KP.q (by first | exact QY.sub1N rfl rfl (by omega) | exact QY.subN rfl rfl (by omega) | exact QK.sub) ?_ <;> refine KP.q QK.mv ?_ <;> refine KP.q QK.mv ?_ <;> refine KP.q QK.mv ?_ <;> (refine KP.e ?_; ((first | refine EK.call (hsp) ?_ | refine EK.call (hsp) ?_); repeat' first | refine CP.r ?_ | refine CP.r0 ?_ | refine CP.exP fun e57 => ?_ | refine CP.puP fun h57 => ?_)) <;> refine KP.list_nil ?_)
    | ((with_reducible refine KP.fin0 ?_ ?_); (· rfl))
    | ((with_reducible refine KP.fin0r ?_ ?_); (· rfl)))
    exact FA.ret
  · obtain ⟨A1, A2, hAA, hA1⟩ : ∃ A1 A2, A1 ++ A2 = A' ∧ A1.length = B'.length := ⟨A'.take B'.length, A'.drop B'.length, List.take_append_drop _ _, by simp; omega⟩
    have ha1 : A1.length + A2.length = A'.length := by rw [← hAA]; simp
    have hsp := swap_spec (v := v) (P := P ++ X) (A := A1) (Q := A2) (B := B') (S := Y ++ S) (a := m - A'.length) (b := m) (n := B'.length) (by simp; omega) (by simp; omega) hA1.symm hA1 (by simp; omega)
    rw [show P ++ X ++ (A1 ++ (A2 ++ (B' ++ (Y ++ S)))) = P ++ (X ++ (A' ++ (B' ++ (Y ++ S)))) by rw [← hAA]; simp, show P ++ X ++ (B' ++ (A2 ++ (A1 ++ (Y ++ S)))) = P ++ ((X ++ B') ++ (A2 ++ (A1 ++ (Y ++ S)))) by simp] at hsp
    
    repeat' (first
    | (with_reducible refine CW.seq ?_)
    | (with_reducible refine KP.then_code ?_)
    | (with_reducible refine CW.skip ?_)
    | (with_reducible refine CW.ret ?_)
    | (with_reducible refine KP.then_ret ?_)
    | (with_reducible refine KP.block_ret ?_)
    | (with_reducible refine CW.block ?_)
    | (with_reducible refine KP.block_normal ?_)
    | (with_reducible refine CW.exit ?_)
    | (with_reducible refine KP.then_exit ?_)
    | (with_reducible refine KP.block_hit ?_)
    | refine KP.bm ?_
    | refine CW.ct ?_
    | refine CW.cf ?_
    | (refine CW.cP ?_ ?_ <;> intro _ <;> try contradiction)
    | (refine CW.cs ?_ ?_ <;> intro _ <;> try contradiction)
    | (refine CW.region (i := 2) ?_ <;> refine KP.q QK.mv ?_ <;> refine KP.q QK.mv ?_ <;> refine KP.q QK.nei ?_ <;> refine KP.list_nil ?_)
    | (refine CW.region (i := 3) ?_ <;> refine KP.q QK.mv ?_ <;> refine KP.q QK.mv ?_ <;> refine KP.q QK.gtr ?_ <;> refine KP.list_nil ?_)
    | (refine CW.region (i := 4) ?_ <;> refine KP.q QK.mv ?_ <;> refine KP.q QK.mv ?_ <;> refine KP.q QK.mv ?_ <;> refine KP.q (by first | exact QY.sub1N rfl rfl (by omega) | exact QY.subN rfl rfl (by omega) | exact QK.sub) ?_ <;> refine KP.q QK.mv ?_ <;> refine KP.q QK.mv ?_ <;> refine KP.q QK.mv ?_ <;> (refine KP.e ?_; ((first | refine EK.call (hsp) ?_ | refine EK.call (hsp) ?_ | refine EK.call (hsp) ?_); repeat' first | refine CP.r ?_ | refine CP.r0 ?_ | refine CP.exP fun e31 => ?_ | refine CP.puP fun h31 => ?_)) <;> refine KP.list_nil ?_)
    | (refine CW.region (i := 5) ?_ <;> refine KP.q QK.mv ?_ <;> refine KP.q QK.mv ?_ <;> refine KP.q (by first | exact QY.sub1N rfl rfl (by omega) | exact QY.subN rfl rfl (by omega) | exact QK.sub) ?_ <;> refine KP.q QK.as ?_ <;> refine KP.list_nil ?_)
    | ((with_reducible refine KP.fin0 ?_ ?_); (· rfl))
    | ((with_reducible refine KP.fin0r ?_ ?_); (· rfl)))
    rw [show iv (B'.length : Nat) = iv (A1.length : Nat) by rw [hA1], show A'.length - B'.length = A2.length by omega]
    exact KA.round ((X ++ B', A2), (A1, Y)) ⟨by simp; omega, by simp only; omega, by simp only; omega, by rw [← h4, ← hAA]; simp⟩ (by simp only; omega)

end Go.Proofs.Ytpmhelfdmhjnbaa
