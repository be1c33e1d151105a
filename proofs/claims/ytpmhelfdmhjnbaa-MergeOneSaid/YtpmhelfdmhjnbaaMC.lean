import Derived.Test.YtpmhelfdmhjnbaaMB
/- MergeOne. -/
namespace Go.Proofs.Ytpmhelfdmhjnbaa
open Go Go.Ink Go.Plain
set_option linter.unusedVariables false
set_option linter.unusedSimpArgs false
attribute [local irreducible] KP QY EW CW DW QG CP Spc DK Fina wpList lessF

theorem low_spec {x : Int} {n : Nat} (h0 : 0 < n) (h1 : n ≤ 1000000) : Spc Try.prog 32 #[iv x, iv (n : Nat)] [] [] (exP fun k : Nat => puP (k < n) (ret (iv (k : Nat)) [])) := by
  refine Spc.enter' (args := [iv x, iv (n : Nat)]) (T0 := [(0, iv x), (1, iv (n : Nat))]) Try.func32 rfl Try.ntmps32 (Nat.le_of_ble_eq_true rfl) rfl ?_
  intro w0 own
  have hw : IntKind.wrap .u64 (n : Int) = n := wrap_u64 (by omega)
  have h2 : (0 : Int) ≤ IntKind.wrap .u64 x := Int.emod_nonneg _ (by decide)
  
  repeat' (first
    | (with_reducible refine CW.seq ?_)
    | (with_reducible refine KP.then_code ?_)
    | (with_reducible refine CW.skip ?_)
    | (with_reducible refine CW.ret ?_)
    | (with_reducible refine KP.then_ret ?_)
    | (with_reducible refine KP.block_ret ?_)
    | (with_reducible refine CW.block ?_)
    | (with_reducible refine KP.block_normal ?_)
    | (with_reducible refine CW.exit ?_)
    | (with_reducible refine KP.then_exit ?_)
    | (with_reducible refine KP.block_hit ?_)
    | refine KP.bm ?_
    | refine CW.ct ?_
    | refine CW.cf ?_
    | (refine CW.cP ?_ ?_ <;> intro _ <;> try contradiction)
    | (refine CW.cs ?_ ?_ <;> intro _ <;> try contradiction)
    | (refine CW.region (i := 0) ?_ <;> refine KP.q QK.as ?_ <;> refine KP.list_nil ?_)
    | (refine CW.region (i := 1) ?_ <;> refine KP.q QK.mv ?_ <;> refine KP.q QK.cv ?_ <;> refine KP.q QK.mv ?_ <;> refine KP.q QK.cv ?_ <;> refine KP.q (by first | exact QY.rem_nn rfl rfl (by rw [hw]; omega) h2 | exact QK.rem) ?_ <;> refine KP.q QK.cv ?_ <;> refine KP.q QK.as ?_ <;> refine KP.list_nil ?_)
    | ((with_reducible apply KP.fin1); (· rfl); (· rfl)))
  rw [hw]
  have h3 := Int.emod_nonneg (IntKind.wrap .u64 x) (show (n : Int) ≠ 0 by omega)
  have h4 := Int.emod_lt_of_pos (IntKind.wrap .u64 x) (show (0 : Int) < n by omega)
  rw [IntWalk.i64_in _ (by omega)]
  obtain ⟨k, hk⟩ := Int.eq_ofNat_of_zero_le h3
  rw [hk] at h4 ⊢
  refine Fina.exP k (Fina.puP (by omega) ?_)
  exact FA.ret

theorem incr_snoc {l : List Item} {y : Item} (h : Incr l) (hy : 0 ≤ y.dist) (hl : ∀ x, l.getLast? = some x → lessF x y = true) : Incr (l ++ [y]) := by
  refine ⟨fun x hx => ?_, List.pairwise_append.2 ⟨h.lt, List.pairwise_singleton _ _, fun a ha b hb => ?_⟩⟩
  · rcases List.mem_append.1 hx with hx | hx
    · exact h.pos x hx
    · simp at hx; subst hx; exact hy
  · simp at hb; subst hb
    rcases List.eq_nil_or_concat l with rfl | ⟨F, z, rfl⟩
    · simp at ha
    · rw [List.concat_eq_append] at *
      have hz := hl z (by simp)
      rcases List.mem_append.1 ha with ha | ha
      · exact less_trans ((List.pairwise_append.1 h.lt).2.2 a ha z (by simp)) hz
      · simp at ha; subst ha; exact hz
theorem incr_nil : Incr [] := ⟨by simp, List.Pairwise.nil⟩
theorem oneS_busy {n : Nat} {inn : List Item} {a k : Nat} (hle : a ≤ inn.length) (h : a < n) : (oneS n inn a k).done = false := by
  have htk : (inn.take a).length = a := by simp; omega
  have : ¬ ((inn.take a).length : Int) = n := by rw [htk]; omega
  simp [MS.done, oneS, one1, PSh.busy]; omega
theorem one_done {n m : Nat} {inn : List Item} {a to : Nat} {q : Int} {h : Bool} {la : Item} (h1 : a ≤ to) (h2 : to ≤ inn.length) (h3 : a < n) (hm : min to n = m) :
    (one1 n q (decide (to = inn.length)) h la (((inn.drop a).take (to - a)).drop (n - a)) (inn.take m)).done = decide (n ≤ to ∨ to = inn.length) := by
  have hlen : (((inn.drop a).take (to - a)).drop (n - a)).length = (to - a) - (n - a) := by simp; omega
  have htk : (inn.take m).length = m := by simp; omega
  rcases Nat.lt_or_ge to n with hlt | hge
  · have h0 : ((inn.drop a).take (to - a)).drop (n - a) = [] := List.eq_nil_of_length_eq_zero (by omega)
    rw [h0]
    have : ¬ ((inn.take m).length : Int) = n := by rw [htk]; omega
    have h5 : ¬ n ≤ to := by omega
    rw [Bool.eq_iff_iff]
    simp [MS.done, one1, PSh.busy, h5]
    omega
  · have : ((inn.take m).length : Int) = n := by rw [htk]; omega
    simp [MS.done, one1, hge]
    omega
theorem toldE {m : Nat} {st : MS} {l : List Item} (h : st.told = l) : Spc Try.prog 61 #[qp m] [] [Mg m st] (exP fun v' => puP (v'.oneCell' = true) (ret v' [Mg m st, row 39 2 eI v' l])) := h ▸ toldM
theorem one_next {n : Nat} {inn : List Item} {a to : Nat} {k : Nat} (h1 : a ≤ to) (h2 : to ≤ inn.length) (h3 : to ≠ inn.length) (h4 : to < n) (h5 : a < n) :
    one1 (n : Int) ((k + 1 : Nat) : Int) (decide (to = inn.length)) (decide (0 < to)) ((inn.take to).getLast?.getD Item.zero) (((inn.drop a).take (to - a)).drop (n - a)) (inn.take to) = oneS n inn to (k + 1) := by
  have h0 : ((inn.drop a).take (to - a)).drop (n - a) = [] := List.eq_nil_of_length_eq_zero (by simp; omega)
  rw [h0, oneS]
  simp [h3]






set_option maxHeartbeats 4000000 in
theorem mergeOne_spec {v : Value} {items : List Item} {n0 batch : Int} : Spc Try.prog 17 #[v, iv n0, iv batch] [rrow 2 eI v items] [] (ret (.bool true) []) := by
  refine Spc.enter' (args := [v, iv n0, iv batch]) (T0 := [(0, v), (1, iv n0), (2, iv batch)]) Try.func17 rfl Try.ntmps17 (Nat.le_of_ble_eq_true rfl) rfl ?_
  intro w0 own
  refine CW.roFact (List.Mem.head _) (fun _ h => rrow.le h) fun hxs => ?_
  by_cases h30 : 30 < (items.length : Int)
  · repeat' (first
    | (with_reducible refine CW.seq ?_)
    | (with_reducible refine KP.then_code ?_)
    | (with_reducible refine CW.skip ?_)
    | (with_reducible refine CW.ret ?_)
    | (with_reducible refine KP.then_ret ?_)
    | (with_reducible refine KP.block_ret ?_)
    | (with_reducible refine CW.block ?_)
    | (with_reducible refine KP.block_normal ?_)
    | (with_reducible refine CW.exit ?_)
    | (with_reducible refine KP.then_exit ?_)
    | (with_reducible refine KP.block_hit ?_)
    | refine KP.bm ?_
    | refine CW.ct ?_
    | refine CW.cf ?_
    | (refine CW.cP ?_ ?_ <;> intro _ <;> try contradiction)
    | (refine CW.cs ?_ ?_ <;> intro _ <;> try contradiction)
    | (refine CW.region (i := 0) ?_ <;> refine KP.q QK.as ?_ <;> refine KP.list_nil ?_)
    | (refine CW.region (i := 1) ?_ <;> refine KP.q QK.mv ?_ <;> refine KP.q QK.len ?_ <;> refine KP.q QK.gtr ?_ <;> refine KP.list_nil ?_)
    | (refine CW.region (i := 2) ?_ <;> (refine KP.e ?_; ((refine EK.call (awakeM) ?_); repeat' first | refine CP.r ?_ | refine CP.r0 ?_ | refine CP.exP fun e17 => ?_ | refine CP.puP fun h17 => ?_)) <;> refine KP.q QK.as ?_ <;> refine KP.list_nil ?_)
    | ((with_reducible apply KP.fin1); (· rfl); (· rfl)))
    exact FA.ret
  have hl5 : items.length ≤ 50000 := by omega
  
  repeat' (first
    | (with_reducible refine CW.seq ?_)
    | (with_reducible refine KP.then_code ?_)
    | (with_reducible refine CW.skip ?_)
    | (with_reducible refine CW.ret ?_)
    | (with_reducible refine KP.then_ret ?_)
    | (with_reducible refine KP.block_ret ?_)
    | (with_reducible refine CW.block ?_)
    | (with_reducible refine KP.block_normal ?_)
    | (with_reducible refine CW.exit ?_)
    | (with_reducible refine KP.then_exit ?_)
    | (with_reducible refine KP.block_hit ?_)
    | refine KP.bm ?_
    | refine CW.ct ?_
    | refine CW.cf ?_
    | (refine CW.cP ?_ ?_ <;> intro _ <;> try contradiction)
    | (refine CW.cs ?_ ?_ <;> intro _ <;> try contradiction)
    | (refine CW.region (i := 0) ?_ <;> refine KP.q QK.as ?_ <;> refine KP.list_nil ?_)
    | (refine CW.region (i := 1) ?_ <;> refine KP.q QK.mv ?_ <;> refine KP.q QK.len ?_ <;> refine KP.q QK.gtr ?_ <;> refine KP.list_nil ?_)
    | (refine CW.region (i := 3) ?_ <;> refine KP.q QK.mv ?_ <;> (refine KP.e ?_; ((first | refine EK.call (low_spec (n := 10) (by decide) (by decide)) ?_ | refine EK.call (low_spec (n := 5) (by decide) (by decide)) ?_); repeat' first | refine CP.r ?_ | refine CP.r0 ?_ | refine CP.exP fun e19 => ?_ | refine CP.puP fun h19 => ?_)) <;> refine KP.q (by first | exact QY.add1N rfl rfl (by omega) | exact QY.addN rfl rfl (by omega) | exact QK.add) ?_ <;> refine KP.q QK.mv ?_ <;> (refine KP.e ?_; ((first | refine EK.call (low_spec (n := 10) (by decide) (by decide)) ?_ | refine EK.call (low_spec (n := 5) (by decide) (by decide)) ?_); repeat' first | refine CP.r ?_ | refine CP.r0 ?_ | refine CP.exP fun e22 => ?_ | refine CP.puP fun h22 => ?_)) <;> refine KP.q (by first | exact QY.add1N rfl rfl (by omega) | exact QY.addN rfl rfl (by omega) | exact QK.add) ?_ <;> refine KP.q QK.as ?_ <;> refine KP.q QK.as ?_ <;> refine KP.list_nil ?_)
    | (refine CW.region (i := 4) ?_ <;> refine KP.q QK.mv ?_ <;> (refine KP.e ?_; ((first | refine EK.call (sort_spec hl5) ?_ | refine EK.call (sort_spec (by omega)) ?_); repeat' first | refine CP.r ?_ | refine CP.r0 ?_ | refine CP.exP fun e25 => ?_ | refine CP.puP fun h25 => ?_)) <;> refine KP.q QK.as ?_ <;> refine KP.list_nil ?_)
    | ((with_reducible apply KP.fin1); (· rfl); (· rfl)))
  have hsl := sortF_len items
  generalize sortF items = inn at hsl ⊢
  obtain ⟨n, hn⟩ : ∃ n, n = 1 + e19 := ⟨_, rfl⟩
  obtain ⟨bt, hbt⟩ : ∃ bt, bt = 1 + e22 := ⟨_, rfl⟩
  rw [← hn, ← hbt]
  have hn10 : n ≤ 10 := by omega
  have hbt5 : 1 ≤ bt ∧ bt ≤ 5 := by omega
  have hn1 : 1 ≤ n := by omega
  repeat' (first
    | (with_reducible refine CW.seq ?_)
    | (with_reducible refine KP.then_code ?_)
    | (with_reducible refine CW.skip ?_)
    | (with_reducible refine CW.ret ?_)
    | (with_reducible refine KP.then_ret ?_)
    | (with_reducible refine KP.block_ret ?_)
    | (with_reducible refine CW.block ?_)
    | (with_reducible refine KP.block_normal ?_)
    | (with_reducible refine CW.exit ?_)
    | (with_reducible refine KP.then_exit ?_)
    | (with_reducible refine KP.block_hit ?_)
    | refine KP.bm ?_
    | refine CW.ct ?_
    | refine CW.cf ?_
    | (refine CW.cP ?_ ?_ <;> intro _ <;> try contradiction)
    | (refine CW.cs ?_ ?_ <;> intro _ <;> try contradiction)
    | (refine CW.region (i := 5) ?_ <;> refine KP.q QK.as ?_ <;> refine KP.list_nil ?_)
    | ((with_reducible apply KP.fin1); (· rfl); (· rfl)))
  refine CA.loop (X := Nat) (fun i => [(0, v), (1, iv (n : Nat)), (2, iv (bt : Nat)), (7, e25), (8, iv i)]) (fun _ => [row 39 2 eI e25 inn]) (fun i => i ≤ inn.length ∧ Incr (inn.take i)) (fun i => inn.length - i) 0 ⟨by simp, by simpa using incr_nil⟩ ?_
  rintro i ⟨hi, hinc⟩
  try dsimp only at hi hinc ⊢
  rcases Nat.lt_or_ge i inn.length with hlt | hge
  · obtain ⟨y, hy⟩ := at_lt hlt
    have htk : inn.take (i + 1) = inn.take i ++ [y] := by rw [List.take_add_one, hy]; rfl
    cases i with
    | zero =>
      repeat' (first
    | (with_reducible refine CW.seq ?_)
    | (with_reducible refine KP.then_code ?_)
    | (with_reducible refine CW.skip ?_)
    | (with_reducible refine CW.ret ?_)
    | (with_reducible refine KP.then_ret ?_)
    | (with_reducible refine KP.block_ret ?_)
    | (with_reducible refine CW.block ?_)
    | (with_reducible refine KP.block_normal ?_)
    | (with_reducible refine CW.exit ?_)
    | (with_reducible refine KP.then_exit ?_)
    | (with_reducible refine KP.block_hit ?_)
    | refine KP.bm ?_
    | refine CW.ct ?_
    | refine CW.cf ?_
    | (refine CW.cP ?_ ?_ <;> intro _ <;> try contradiction)
    | (refine CW.cs ?_ ?_ <;> intro _ <;> try contradiction)
    | (refine CW.region (i := 6) ?_ <;> refine KP.q QK.mv ?_ <;> refine KP.q QK.mv ?_ <;> refine KP.q QK.len ?_ <;> refine KP.q QK.lss ?_ <;> refine KP.list_nil ?_)
    | (((with_reducible refine CW.draw (i := 8) ?_ [[], [], [0, 1], [0, 1, 2], [0, 1, 2, 3], [0, 1, 2, 3, 4], [0, 1, 2, 3, 4, 5], [0, 1, 2, 3, 4, 5, 6], [0, 1, 2, 3, 4, 5, 6, 7], [0, 1, 2, 3, 4, 5, 6, 7, 8], [0, 1, 2, 3, 4, 5, 6, 7, 8, 9], [0, 1, 2, 3, 4, 5, 6, 7, 8, 9], [0, 1, 2, 3, 4, 5, 6, 7, 8, 9, 11], [0, 1, 2, 3, 4, 5, 6, 7, 8, 9, 10, 11, 12], [0, 1, 2, 3, 4, 5, 6, 7, 8, 9, 10, 11, 12, 13], [0, 1, 2, 3, 4, 5, 6, 7, 8, 9], [0, 1, 2, 3, 4, 5, 6, 7, 8, 9], [0, 1, 2, 3, 4, 5, 6, 7, 8, 9, 15, 16], [0, 1, 2, 3, 4, 5, 6, 7, 8, 9, 15, 16, 17], [0, 1, 2, 3, 4, 5, 6, 7, 8, 9, 10, 11, 12, 13, 14, 15, 16, 17, 18], [0, 1, 2, 3, 4, 5, 6, 7, 8, 9, 10, 11, 12, 13, 14, 15, 16, 17, 18, 19], [0, 1, 2, 3, 4, 5, 6, 7, 8, 9, 10, 11, 12, 13, 14, 15, 16, 17, 18, 19, 20], [0, 1, 2, 3, 4, 5, 6, 7, 8, 9, 10, 11, 12, 13, 14, 15, 16, 17, 18, 19, 20, 21]] ?_ ?_ ?_ ?_); (· rfl); (· kernel_rfl); (· kernel_rfl); (· repeat (first | exact NoHang.post | refine NoHang.then ?_ | refine NoHang.block ?_))) <;> refine DW.p 0 rfl (fun _ => QK.mv) ?_ <;> refine DW.p 1 rfl (fun _ => QK.mv) ?_ <;> refine DW.m 2 rfl QK.ia ?_ <;> refine DW.p 3 rfl (fun _ => QK.fa) ?_ <;> refine DW.m 4 rfl QK.lds ?_ <;> refine DW.p 5 rfl (fun _ => QK.lss) ?_ <;> refine DW.p 6 rfl (fun _ => QK.mv) ?_ <;> (first | refine DW.pn 7 rfl rfl rfl ?_ | refine DW.pu 7 rfl rfl rfl ?_ | refine DW.py 7 rfl rfl rfl (fun _ => QK.mv) ?_ | ((first | refine DW.sP (t := 38) ?_ ?_ | refine DW.s (t := 38) ?_ ?_) <;> intro _ <;> first | contradiction | refine DW.pn 7 rfl rfl rfl ?_ | refine DW.pu 7 rfl rfl rfl ?_ | refine DW.py 7 rfl rfl rfl (fun _ => QK.mv) ?_)) <;> (first | refine DW.pn 8 rfl rfl rfl ?_ | refine DW.pu 8 rfl rfl rfl ?_ | refine DW.py 8 rfl rfl rfl (fun _ => QK.gtr) ?_) <;> (first | refine DW.pn 9 rfl rfl rfl ?_ | refine DW.pu 9 rfl rfl rfl ?_ | refine DW.py 9 rfl rfl rfl (fun _ => QK.mv) ?_) <;> (first | refine DW.pn 10 rfl rfl rfl ?_ | refine DW.pu 10 rfl rfl rfl ?_ | refine DW.py 10 rfl rfl rfl (fun _ => QK.mv) ?_ | ((first | refine DW.sP (t := 41) ?_ ?_ | refine DW.s (t := 41) ?_ ?_) <;> intro _ <;> first | contradiction | refine DW.pn 10 rfl rfl rfl ?_ | refine DW.pu 10 rfl rfl rfl ?_ | refine DW.py 10 rfl rfl rfl (fun _ => QK.mv) ?_)) <;> (first | refine DW.pn 11 rfl rfl rfl ?_ | refine DW.pu 11 rfl rfl rfl ?_ | refine DW.py 11 rfl rfl rfl (fun _ => QK.mv) ?_) <;> (first | refine DW.pn 12 rfl rfl rfl ?_ | refine DW.pu 12 rfl rfl rfl ?_ | refine DW.py 12 rfl rfl rfl (fun _ => QK.sub) ?_) <;> (first | refine DW.pn 15 rfl rfl rfl ?_ | refine DW.pu 15 rfl rfl rfl ?_ | refine DW.py 15 rfl rfl rfl (fun _ => QK.mv) ?_) <;> (first | refine DW.pn 16 rfl rfl rfl ?_ | refine DW.pu 16 rfl rfl rfl ?_ | refine DW.py 16 rfl rfl rfl (fun _ => QK.mv) ?_) <;> (first | refine DW.mn 13 rfl rfl rfl ?_ | refine DW.mu 13 rfl rfl rfl ?_ | refine DW.my 13 rfl rfl rfl QK.ia ?_) <;> (first | refine DW.mn 14 rfl rfl rfl ?_ | refine DW.mu 14 rfl rfl rfl ?_ | refine DW.my 14 rfl rfl rfl QK.lda ?_) <;> (first | refine DW.mn 17 rfl rfl rfl ?_ | refine DW.mu 17 rfl rfl rfl ?_ | refine DW.my 17 rfl rfl rfl QK.ia ?_) <;> (first | refine DW.mn 18 rfl rfl rfl ?_ | refine DW.mu 18 rfl rfl rfl ?_ | refine DW.my 18 rfl rfl rfl QK.lda ?_) <;> (first | (refine DW.exn 19 rfl rfl rfl ?_; intro hdk; refine DK.mk hdk .nil ?_; clear hdk) | (refine DW.exy 19 rfl rfl rfl ?_; intro hdk; ((fail "no rule f38"); repeat' first | refine CP.r ?_ | refine CP.r0 ?_ | refine CP.exP fun e51 => ?_ | refine CP.puP fun h51 => ?_); all_goals (refine DK.mk hdk .nil ?_; clear hdk))) <;> (first | refine DW.pn 20 rfl rfl rfl ?_ | refine DW.pu 20 rfl rfl rfl ?_ | refine DW.py 20 rfl rfl rfl (fun _ => QK.not) ?_) <;> (first | refine DW.pn 21 rfl rfl rfl ?_ | refine DW.pu 21 rfl rfl rfl ?_ | refine DW.py 21 rfl rfl rfl (fun _ => QK.pk) ?_) <;> refine DW.p 22 rfl (fun _ => QK.pk) ?_ <;> refine DW.zz ?_)
    | (refine CW.region (i := 9) ?_ <;> (refine KP.e ?_; ((refine EK.call (awakeM) ?_); repeat' first | refine CP.r ?_ | refine CP.r0 ?_ | refine CP.exP fun e55 => ?_ | refine CP.puP fun h55 => ?_)) <;> refine KP.q QK.as ?_ <;> refine KP.list_nil ?_)
    | (refine CW.region (i := 7) ?_ <;> refine KP.q QK.mv ?_ <;> refine KP.q (by first | exact QY.add1N rfl rfl (by omega) | exact QY.addN rfl rfl (by omega) | exact QK.add) ?_ <;> refine KP.q QK.as ?_ <;> refine KP.list_nil ?_)
    | ((with_reducible apply KP.fin1); (· rfl); (· rfl)))
      · exact FA.ret
      · refine KA.round (0 + 1) ⟨by omega, ?_⟩
        rw [htk]
        exact incr_snoc hinc (by omega) (fun x hx => by simp at hx)
    | succ i =>
      obtain ⟨x, hx⟩ := at_lt (xs := inn) (i := i) (by omega)
      have hlt1 : i < inn.length := by omega
      have hlast : (inn.take (i + 1)).getLast? = some x := by rw [List.take_add_one, hx]; simp
      have hsub : Value.int .i64 (((i + 1 : Nat) : Int) - 1) = iv i := by simp
      
      
      
      
      repeat' (first
    | (with_reducible refine CW.seq ?_)
    | (with_reducible refine KP.then_code ?_)
    | (with_reducible refine CW.skip ?_)
    | (with_reducible refine CW.ret ?_)
    | (with_reducible refine KP.then_ret ?_)
    | (with_reducible refine KP.block_ret ?_)
    | (with_reducible refine CW.block ?_)
    | (with_reducible refine KP.block_normal ?_)
    | (with_reducible refine CW.exit ?_)
    | (with_reducible refine KP.then_exit ?_)
    | (with_reducible refine KP.block_hit ?_)
    | refine KP.bm ?_
    | refine CW.ct ?_
    | refine CW.cf ?_
    | (refine CW.cP ?_ ?_ <;> intro _ <;> try contradiction)
    | (refine CW.cs ?_ ?_ <;> intro _ <;> try contradiction)
    | (refine CW.region (i := 6) ?_ <;> refine KP.q QK.mv ?_ <;> refine KP.q QK.mv ?_ <;> refine KP.q QK.len ?_ <;> refine KP.q QK.lss ?_ <;> refine KP.list_nil ?_)
    | (((with_reducible refine CW.draw (i := 8) ?_ [[], [], [0, 1], [0, 1, 2], [0, 1, 2, 3], [0, 1, 2, 3, 4], [0, 1, 2, 3, 4, 5], [0, 1, 2, 3, 4, 5, 6], [0, 1, 2, 3, 4, 5, 6, 7], [0, 1, 2, 3, 4, 5, 6, 7, 8], [0, 1, 2, 3, 4, 5, 6, 7, 8, 9], [0, 1, 2, 3, 4, 5, 6, 7, 8, 9], [0, 1, 2, 3, 4, 5, 6, 7, 8, 9, 11], [0, 1, 2, 3, 4, 5, 6, 7, 8, 9, 10, 11, 12], [0, 1, 2, 3, 4, 5, 6, 7, 8, 9, 10, 11, 12, 13], [0, 1, 2, 3, 4, 5, 6, 7, 8, 9], [0, 1, 2, 3, 4, 5, 6, 7, 8, 9], [0, 1, 2, 3, 4, 5, 6, 7, 8, 9, 15, 16], [0, 1, 2, 3, 4, 5, 6, 7, 8, 9, 15, 16, 17], [0, 1, 2, 3, 4, 5, 6, 7, 8, 9, 10, 11, 12, 13, 14, 15, 16, 17, 18], [0, 1, 2, 3, 4, 5, 6, 7, 8, 9, 10, 11, 12, 13, 14, 15, 16, 17, 18, 19], [0, 1, 2, 3, 4, 5, 6, 7, 8, 9, 10, 11, 12, 13, 14, 15, 16, 17, 18, 19, 20], [0, 1, 2, 3, 4, 5, 6, 7, 8, 9, 10, 11, 12, 13, 14, 15, 16, 17, 18, 19, 20, 21]] ?_ ?_ ?_ ?_); (· rfl); (· kernel_rfl); (· kernel_rfl); (· repeat (first | exact NoHang.post | refine NoHang.then ?_ | refine NoHang.block ?_))) <;> refine DW.p 0 rfl (fun _ => QK.mv) ?_ <;> refine DW.p 1 rfl (fun _ => QK.mv) ?_ <;> refine DW.m 2 rfl QK.ia ?_ <;> refine DW.p 3 rfl (fun _ => QK.fa) ?_ <;> refine DW.m 4 rfl (by first | exact QY.load_s rfl (Rd.own (by with_reducible first | exact k0 | exact k1 | exact k2 | exact k3 | exact k4 | exact k5 | exact k6 | exact k7 | exact k8 | exact k9 | fail)) (Reads.row0 RowL.row hy rfl) | exact QK.lds) ?_ <;> refine DW.p 5 rfl (fun _ => QK.lss) ?_ <;> refine DW.p 6 rfl (fun _ => QK.mv) ?_ <;> (first | refine DW.pn 7 rfl rfl rfl ?_ | refine DW.pu 7 rfl rfl rfl ?_ | refine DW.py 7 rfl rfl rfl (fun _ => QK.mv) ?_ | ((first | refine DW.sP (t := 38) ?_ ?_ | refine DW.s (t := 38) ?_ ?_) <;> intro _ <;> first | contradiction | refine DW.pn 7 rfl rfl rfl ?_ | refine DW.pu 7 rfl rfl rfl ?_ | refine DW.py 7 rfl rfl rfl (fun _ => QK.mv) ?_)) <;> (first | refine DW.pn 8 rfl rfl rfl ?_ | refine DW.pu 8 rfl rfl rfl ?_ | refine DW.py 8 rfl rfl rfl (fun _ => QK.gtr) ?_) <;> (first | refine DW.pn 9 rfl rfl rfl ?_ | refine DW.pu 9 rfl rfl rfl ?_ | refine DW.py 9 rfl rfl rfl (fun _ => QK.mv) ?_) <;> (first | refine DW.pn 10 rfl rfl rfl ?_ | refine DW.pu 10 rfl rfl rfl ?_ | refine DW.py 10 rfl rfl rfl (fun _ => QK.mv) ?_ | ((first | refine DW.sP (t := 41) ?_ ?_ | refine DW.s (t := 41) ?_ ?_) <;> intro _ <;> first | contradiction | refine DW.pn 10 rfl rfl rfl ?_ | refine DW.pu 10 rfl rfl rfl ?_ | refine DW.py 10 rfl rfl rfl (fun _ => QK.mv) ?_)) <;> (first | refine DW.pn 11 rfl rfl rfl ?_ | refine DW.pu 11 rfl rfl rfl ?_ | refine DW.py 11 rfl rfl rfl (fun _ => QK.mv) ?_) <;> (first | refine DW.pn 12 rfl rfl rfl ?_ | refine DW.pu 12 rfl rfl rfl ?_ | refine DW.py 12 rfl rfl rfl (fun _ => (by first | exact QY.same (QY.sub64 rfl rfl (by omega)) hsub | exact QK.sub)) ?_) <;> (first | refine DW.pn 15 rfl rfl rfl ?_ | refine DW.pu 15 rfl rfl rfl ?_ | refine DW.py 15 rfl rfl rfl (fun _ => QK.mv) ?_) <;> (first | refine DW.pn 16 rfl rfl rfl ?_ | refine DW.pu 16 rfl rfl rfl ?_ | refine DW.py 16 rfl rfl rfl (fun _ => QK.mv) ?_) <;> (first | refine DW.mn 13 rfl rfl rfl ?_ | refine DW.mu 13 rfl rfl rfl ?_ | refine DW.my 13 rfl rfl rfl QK.ia ?_) <;> (first | refine DW.mn 14 rfl rfl rfl ?_ | refine DW.mu 14 rfl rfl rfl ?_ | refine DW.my 14 rfl rfl rfl (by first | exact QY.load_a rfl (Rd.own (by with_reducible first | exact k0 | exact k1 | exact k2 | exact k3 | exact k4 | exact k5 | exact k6 | exact k7 | exact k8 | exact k9 | fail)) (Reads.row RowL.row hx) (by rfl) | exact QY.load_a rfl (Rd.own (by with_reducible first | exact k0 | exact k1 | exact k2 | exact k3 | exact k4 | exact k5 | exact k6 | exact k7 | exact k8 | exact k9 | fail)) (Reads.row RowL.row hy) (by rfl) | exact QK.lda) ?_) <;> (first | refine DW.mn 17 rfl rfl rfl ?_ | refine DW.mu 17 rfl rfl rfl ?_ | refine DW.my 17 rfl rfl rfl QK.ia ?_) <;> (first | refine DW.mn 18 rfl rfl rfl ?_ | refine DW.mu 18 rfl rfl rfl ?_ | refine DW.my 18 rfl rfl rfl (by first | exact QY.load_a rfl (Rd.own (by with_reducible first | exact k0 | exact k1 | exact k2 | exact k3 | exact k4 | exact k5 | exact k6 | exact k7 | exact k8 | exact k9 | fail)) (Reads.row RowL.row hx) (by rfl) | exact QY.load_a rfl (Rd.own (by with_reducible first | exact k0 | exact k1 | exact k2 | exact k3 | exact k4 | exact k5 | exact k6 | exact k7 | exact k8 | exact k9 | fail)) (Reads.row RowL.row hy) (by rfl) | exact QK.lda) ?_) <;> (first | (refine DW.exn 19 rfl rfl rfl ?_; intro hdk; refine DK.mk hdk .nil ?_; clear hdk) | (refine DW.exy 19 rfl rfl rfl ?_; intro hdk; ((refine EK.call (less_spec (a := x) (b := y)) ?_); repeat' first | refine CP.r ?_ | refine CP.r0 ?_ | refine CP.exP fun e51 => ?_ | refine CP.puP fun h51 => ?_); all_goals (refine DK.mk hdk .nil ?_; clear hdk))) <;> (first | refine DW.pn 20 rfl rfl rfl ?_ | refine DW.pu 20 rfl rfl rfl ?_ | refine DW.py 20 rfl rfl rfl (fun _ => QK.not) ?_) <;> (first | refine DW.pn 21 rfl rfl rfl ?_ | refine DW.pu 21 rfl rfl rfl ?_ | refine DW.py 21 rfl rfl rfl (fun _ => QK.pk) ?_) <;> refine DW.p 22 rfl (fun _ => QK.pk) ?_ <;> refine DW.zz ?_)
    | (refine CW.region (i := 9) ?_ <;> (refine KP.e ?_; ((refine EK.call (awakeM) ?_); repeat' first | refine CP.r ?_ | refine CP.r0 ?_ | refine CP.exP fun e55 => ?_ | refine CP.puP fun h55 => ?_)) <;> refine KP.q QK.as ?_ <;> refine KP.list_nil ?_)
    | (refine CW.region (i := 7) ?_ <;> refine KP.q QK.mv ?_ <;> refine KP.q (by first | exact QY.add1N rfl rfl (by omega) | exact QY.addN rfl rfl (by omega) | exact QK.add) ?_ <;> refine KP.q QK.as ?_ <;> refine KP.list_nil ?_)
    | ((with_reducible apply KP.fin1); (· rfl); (· rfl)))
      all_goals first | exact FA.ret | skip
      refine KA.round (i + 1 + 1) ⟨by omega, ?_⟩
      rw [htk]
      refine incr_snoc hinc (by omega) (fun z hz => ?_)
      rw [hlast] at hz; cases hz
      simp_all
  · rw [List.take_of_length_le hge] at hinc
    
    repeat' (first
    | (with_reducible refine CW.seq ?_)
    | (with_reducible refine KP.then_code ?_)
    | (with_reducible refine CW.skip ?_)
    | (with_reducible refine CW.ret ?_)
    | (with_reducible refine KP.then_ret ?_)
    | (with_reducible refine KP.block_ret ?_)
    | (with_reducible refine CW.block ?_)
    | (with_reducible refine KP.block_normal ?_)
    | (with_reducible refine CW.exit ?_)
    | (with_reducible refine KP.then_exit ?_)
    | (with_reducible refine KP.block_hit ?_)
    | refine KP.bm ?_
    | refine CW.ct ?_
    | refine CW.cf ?_
    | (refine CW.cP ?_ ?_ <;> intro _ <;> try contradiction)
    | (refine CW.cs ?_ ?_ <;> intro _ <;> try contradiction)
    | (refine CW.region (i := 6) ?_ <;> refine KP.q QK.mv ?_ <;> refine KP.q QK.mv ?_ <;> refine KP.q QK.len ?_ <;> refine KP.q QK.lss ?_ <;> refine KP.list_nil ?_)
    | (refine CW.region (i := 10) ?_ <;> (refine KP.e ?_; ((first | refine EW.buildSlice (by decide) rfl (by decide) (by decide) (by repeat (first | exact Fills.nil | (apply Fills.scal; (· rfl); (· rfl); (· first | rfl | assumption); (· (repeat (first | exact SetAt.head | apply SetAt.tail)))) | (apply Fills.agg; (· rfl); (· rfl); (· rfl); (· (repeat (first | exact SplAt.done | apply SplAt.put | apply SplAt.skip)))))) ?_ | refine EW.buildSlice1_s (by decide) rfl (by first | rfl | assumption) rfl ?_ | refine EW.buildSlice1_a (by decide) rfl (by rfl) (by rfl) (by decide) (by decide) ?_); intro b57)) <;> refine KP.q QK.mv ?_ <;> (refine KP.e ?_; ((refine EK.call (newE (least := [0]) (n := (n : Int)) ⟨by decide, by decide, by omega, by omega⟩) ?_); repeat' first | refine CP.r ?_ | refine CP.r0 ?_ | refine CP.exP fun e59 => ?_ | refine CP.puP fun h59 => ?_)) <;> refine KP.q QK.mv ?_ <;> refine KP.q QK.ex ?_ <;> refine KP.q QK.ex ?_ <;> refine KP.q QK.as ?_ <;> refine KP.q QK.as ?_ <;> refine KP.list_nil ?_)
    | (refine CW.region (i := 11) ?_ <;> refine KP.q QK.mv ?_ <;> refine KP.q QK.nei ?_ <;> refine KP.q QK.mv ?_ <;> (first | refine KP.gn ?_ | refine KP.gu ?_ | refine KP.qy QK.mv ?_ | ((first | refine KP.gsP (t := 64) ?_ ?_ | refine KP.gs (t := 64) ?_ ?_) <;> intro _ <;> first | contradiction | refine KP.gn ?_ | refine KP.qy QK.mv ?_)) <;> (first | refine KP.gn ?_ | refine KP.gu ?_ | refine KP.qy QK.eqp ?_) <;> refine KP.q QK.pk ?_ <;> refine KP.list_nil ?_)
    | (refine CW.region (i := 13) ?_ <;> refine KP.q QK.as ?_ <;> refine KP.list_nil ?_)
    | (refine CW.region (i := 14) ?_ <;> refine KP.q QK.as ?_ <;> refine KP.list_nil ?_)
    | ((with_reducible apply KP.fin1); (· rfl); (· rfl)))
    rw [oneS_new (n : Int) inn]
    clear hge
    refine CA.loop (X := Nat × Nat × MS) (fun z => [(1, iv (n : Nat)), (2, iv (bt : Nat)), (7, e25), (9, qp e59), (11, iv z.2.1), (12, iv z.1)]) (fun z => [Mg e59 z.2.2, row 39 2 eI e25 inn]) (fun z => z.2.2.done = true ∨ (z.2.2 = oneS n inn z.1 z.2.1 ∧ z.1 < n ∧ (z.1 < inn.length ∨ z.1 = 0) ∧ z.1 ≤ inn.length ∧ z.2.1 ≤ z.1)) (fun z => if z.2.2.done = true then 0 else 1 + inn.length - z.1) (0, 0, oneS n inn 0 0) (.inr ⟨rfl, by omega, by omega, by omega, Nat.le_refl _⟩) ?_
    rintro ⟨at_, k, st⟩ hz
    try dsimp only at hz ⊢
    rcases hz with hd | ⟨rfl, hn2, hlt, hle, hk⟩
    · 
      repeat' (first
    | (with_reducible refine CW.seq ?_)
    | (with_reducible refine KP.then_code ?_)
    | (with_reducible refine CW.skip ?_)
    | (with_reducible refine CW.ret ?_)
    | (with_reducible refine KP.then_ret ?_)
    | (with_reducible refine KP.block_ret ?_)
    | (with_reducible refine CW.block ?_)
    | (with_reducible refine KP.block_normal ?_)
    | (with_reducible refine CW.exit ?_)
    | (with_reducible refine KP.then_exit ?_)
    | (with_reducible refine KP.block_hit ?_)
    | refine KP.bm ?_
    | refine CW.ct ?_
    | refine CW.cf ?_
    | (refine CW.cP ?_ ?_ <;> intro _ <;> try contradiction)
    | (refine CW.cs ?_ ?_ <;> intro _ <;> try contradiction)
    | (refine CW.region (i := 15) ?_ <;> refine KP.q QK.mv ?_ <;> (refine KP.e ?_; ((refine EK.call (doneE hd) ?_); repeat' first | refine CP.r ?_ | refine CP.r0 ?_ | refine CP.exP fun e69 => ?_ | refine CP.puP fun h69 => ?_)) <;> refine KP.q QK.not ?_ <;> refine KP.q QK.mv ?_ <;> (first | refine KP.gn ?_ | refine KP.gu ?_ | refine KP.qy QK.mv ?_ | ((first | refine KP.gsP (t := 71) ?_ ?_ | refine KP.gs (t := 71) ?_ ?_) <;> intro _ <;> first | contradiction | refine KP.gn ?_ | refine KP.qy QK.mv ?_)) <;> (first | refine KP.gn ?_ | refine KP.gu ?_ | refine KP.qy QK.mv ?_) <;> (first | refine KP.gn ?_ | refine KP.gu ?_ | refine KP.qy QK.len ?_) <;> (first | refine KP.gn ?_ | refine KP.gu ?_ | refine KP.qy QK.leq ?_) <;> refine KP.q QK.pk ?_ <;> refine KP.list_nil ?_)
    | (refine CW.region (i := 24) ?_ <;> refine KP.q QK.mv ?_ <;> (refine KP.e ?_; ((refine EK.call (doneE hd) ?_); repeat' first | refine CP.r ?_ | refine CP.r0 ?_ | refine CP.exP fun e126 => ?_ | refine CP.puP fun h126 => ?_)) <;> refine KP.q QK.mv ?_ <;> (first | refine KP.gn ?_ | refine KP.gu ?_ | (refine KP.gy ?_; refine KP.e ?_; ((refine EK.call (awakeM) ?_); repeat' first | refine CP.r ?_ | refine CP.r0 ?_ | refine CP.exP fun e128 => ?_ | refine CP.puP fun h128 => ?_)) | ((first | refine KP.gsP (t := 127) ?_ ?_ | refine KP.gs (t := 127) ?_ ?_) <;> intro _ <;> first | contradiction | refine KP.gn ?_ | (refine KP.gy ?_; refine KP.e ?_; ((refine EK.call (awakeM) ?_); repeat' first | refine CP.r ?_ | refine CP.r0 ?_ | refine CP.exP fun e128 => ?_ | refine CP.puP fun h128 => ?_)))) <;> refine KP.q QK.pk ?_ <;> refine KP.q QK.as ?_ <;> refine KP.list_nil ?_)
    | ((with_reducible apply KP.fin1); (· rfl); (· rfl)))
      exact FA.ret
    have hd := oneS_busy (k := k) (n := n) hle hn2
    obtain ⟨to, hto⟩ : ∃ to, min (at_ + bt) inn.length = to := ⟨_, rfl⟩
    have ht1 : at_ ≤ to := by omega
    have ht2 : to ≤ inn.length := by omega
    have hto' : iv ((min (at_ + bt) inn.length : Nat) : Int) = iv (to : Nat) := by rw [hto]
    have hput := one_put (n := (n : Int)) (k := k) hinc (by omega) hlt ht1 ht2 (by omega) (by omega) (by omega) (by omega) hle
    have htell := one_after (n := (n : Int)) (inn := inn) (a := at_) (to := to) (q := ((k + 1 : Nat) : Int)) (e := decide (to = inn.length)) (h := decide (0 < to)) (la := (inn.take to).getLast?.getD Item.zero) (by omega) ht1 ht2
    obtain ⟨m, hm⟩ : ∃ m, min to n = m := ⟨_, rfl⟩
    have hm' : iv ((min to n : Nat) : Int) = iv (m : Nat) := by rw [hm]
    have hmn : (n : Int).toNat = n := by omega
    rw [hmn, hm] at htell
    generalize hst : one1 (n : Int) ((k + 1 : Nat) : Int) (decide (to = inn.length)) (decide (0 < to)) ((inn.take to).getLast?.getD Item.zero) (((inn.drop at_).take (to - at_)).drop (n - at_)) (inn.take m) = st' at htell
    have htold : st'.told = inn.take m := by rw [← hst]; rfl
    have hdone : st'.done = decide (n ≤ to ∨ to = inn.length) := by rw [← hst]; exact one_done ht1 ht2 (by omega) (by omega)
    have hcut : (inn.drop 0).take (m - 0) = inn.take m := by simp
    have hno : ∀ hh : to ≠ inn.length ∧ to < n, st' = oneS n inn to (k + 1) := fun hh => by
      obtain ⟨h8, h9⟩ := hh
      rw [← hst, show m = to by omega]
      exact one_next ht1 ht2 h8 h9 (by omega)
    clear hst
    have hm2 : m ≤ inn.length := by omega
    have hv : ∀ h, row 39 2 eI e25 inn h → rrow 2 eI (slv 2 e25 0 m) (inn.take m) h := fun _ r => hcut ▸ (row.rrow _ r).cut (Nat.zero_le m) hm2
    
    
    
    
    
    by_cases he : to = inn.length
    · have hdc : decide (to = inn.length) = true := decide_eq_true he
      rw [hdc] at hput htell
      have hdone2 : st'.done = true := by rw [hdone]; simp [he]
      repeat' (first
    | (with_reducible refine CW.seq ?_)
    | (with_reducible refine KP.then_code ?_)
    | (with_reducible refine CW.skip ?_)
    | (with_reducible refine CW.ret ?_)
    | (with_reducible refine KP.then_ret ?_)
    | (with_reducible refine KP.block_ret ?_)
    | (with_reducible refine CW.block ?_)
    | (with_reducible refine KP.block_normal ?_)
    | (with_reducible refine CW.exit ?_)
    | (with_reducible refine KP.then_exit ?_)
    | (with_reducible refine KP.block_hit ?_)
    | refine KP.bm ?_
    | refine CW.ct ?_
    | refine CW.cf ?_
    | (refine CW.cP ?_ ?_ <;> intro _ <;> try contradiction)
    | (refine CW.cs ?_ ?_ <;> intro _ <;> try contradiction)
    | (refine CW.region (i := 15) ?_ <;> refine KP.q QK.mv ?_ <;> (refine KP.e ?_; ((first | refine EK.call (doneE hd) ?_ | refine EK.call (doneE hd) ?_); repeat' first | refine CP.r ?_ | refine CP.r0 ?_ | refine CP.exP fun e69 => ?_ | refine CP.puP fun h69 => ?_)) <;> refine KP.q QK.not ?_ <;> refine KP.q QK.mv ?_ <;> (first | refine KP.gn ?_ | refine KP.gu ?_ | refine KP.qy QK.mv ?_ | ((first | refine KP.gsP (t := 71) ?_ ?_ | refine KP.gs (t := 71) ?_ ?_) <;> intro _ <;> first | contradiction | refine KP.gn ?_ | refine KP.qy QK.mv ?_)) <;> (first | refine KP.gn ?_ | refine KP.gu ?_ | refine KP.qy QK.mv ?_) <;> (first | refine KP.gn ?_ | refine KP.gu ?_ | refine KP.qy QK.len ?_) <;> (first | refine KP.gn ?_ | refine KP.gu ?_ | refine KP.qy QK.leq ?_) <;> refine KP.q QK.pk ?_ <;> refine KP.list_nil ?_)
    | (refine CW.region (i := 17) ?_ <;> refine KP.q QK.mv ?_ <;> refine KP.q QK.mv ?_ <;> refine KP.q (by first | exact QY.add1N rfl rfl (by omega) | exact QY.addN rfl rfl (by omega) | exact QK.add) ?_ <;> refine KP.q QK.mv ?_ <;> refine KP.q QK.len ?_ <;> refine KP.q (by first | exact QY.same (QY.minN rfl rfl) hto' | exact QY.minN rfl rfl | exact QK.min) ?_ <;> refine KP.q QK.as ?_ <;> refine KP.list_nil ?_)
    | (refine CW.region (i := 18) ?_ <;> refine KP.q QK.mv ?_ <;> refine KP.q QK.mv ?_ <;> refine KP.q QK.mv ?_ <;> refine KP.q QK.mv ?_ <;> refine KP.q QK.mv ?_ <;> refine KP.q (by first | exact QY.cut (lo := at_) (hi := to) rfl rfl rfl (Rd.own (by with_reducible first | exact k0 | exact k1 | exact k2 | exact k3 | exact k4 | exact k5 | exact k6 | exact k7 | exact k8 | exact k9 | fail)) RowL.row ht1 ht2 | exact QK.sl) ?_ <;> refine KP.q QK.mv ?_ <;> refine KP.q QK.mv ?_ <;> refine KP.q QK.len ?_ <;> refine KP.q QK.eqi ?_ <;> (refine KP.e ?_; ((refine EK.call (putE hput) ?_ rfl (Split.cons (by with_reducible first | exact k0 | exact k1 | exact k2 | exact k3 | exact k4 | exact k5 | exact k6 | exact k7 | exact k8 | exact k9 | fail) Split.nil) (.cons (.via (fun _ r => (row.rrow _ r).cut ht1 ht2) (by with_reducible first | exact k0 | exact k1 | exact k2 | exact k3 | exact k4 | exact k5 | exact k6 | exact k7 | exact k8 | exact k9 | fail)) .nil)); repeat' first | refine CP.r ?_ | refine CP.r0 ?_ | refine CP.exP fun e96 => ?_ | refine CP.puP fun h96 => ?_)) <;> refine KP.q QK.not ?_ <;> refine KP.list_nil ?_)
    | (refine CW.region (i := 20) ?_ <;> refine KP.q QK.mv ?_ <;> (refine KP.e ?_; ((refine EK.call (tellE htell) ?_); repeat' first | refine CP.r ?_ | refine CP.r0 ?_ | refine CP.exP fun e99 => ?_ | refine CP.puP fun h99 => ?_)) <;> refine KP.list_nil ?_)
    | (refine CW.region (i := 21) ?_ <;> refine KP.q QK.mv ?_ <;> refine KP.q (by first | exact QY.add1N rfl rfl (by omega) | exact QY.addN rfl rfl (by omega) | exact QK.add) ?_ <;> refine KP.q QK.as ?_ <;> refine KP.list_nil ?_)
    | ((with_reducible apply KP.fin1); (· rfl); (· rfl)))
      clear hput htell hno
      
      
      
      
      
      repeat' (first
    | (with_reducible refine CW.seq ?_)
    | (with_reducible refine KP.then_code ?_)
    | (with_reducible refine CW.skip ?_)
    | (with_reducible refine CW.ret ?_)
    | (with_reducible refine KP.then_ret ?_)
    | (with_reducible refine KP.block_ret ?_)
    | (with_reducible refine CW.block ?_)
    | (with_reducible refine KP.block_normal ?_)
    | (with_reducible refine CW.exit ?_)
    | (with_reducible refine KP.then_exit ?_)
    | (with_reducible refine KP.block_hit ?_)
    | refine KP.bm ?_
    | refine CW.ct ?_
    | refine CW.cf ?_
    | (refine CW.cP ?_ ?_ <;> intro _ <;> try contradiction)
    | (refine CW.cs ?_ ?_ <;> intro _ <;> try contradiction)
    | (((with_reducible refine CW.draw (i := 22) ?_ [[], [0], [], [], [], [3, 4], [2, 3, 4, 5], [0, 1, 2, 3, 4, 5, 6], [0, 1, 2, 3, 4, 5, 6, 7], [0, 1, 2, 3, 4, 5, 6, 7, 8], [0, 1, 2, 3, 4, 5, 6, 7, 8, 9], [0, 1, 2, 3, 4, 5, 6, 7, 8, 9, 10], [0, 1, 2, 3, 4, 5, 6, 7, 8, 9], [0, 1, 2, 3, 4, 5, 6, 7, 8, 9], [0, 1, 2, 3, 4, 5, 6, 7, 8, 9, 12, 13], [0, 1, 2, 3, 4, 5, 6, 7, 8, 9, 10, 11, 12, 13, 14], [0, 1, 2, 3, 4, 5, 6, 7, 8, 9, 10, 11, 12, 13, 14, 15], [0, 1, 2, 3, 4, 5, 6, 7, 8, 9, 10, 11, 12, 13, 14, 15], [0, 1, 2, 3, 4, 5, 6, 7, 8, 9, 10, 11, 12, 13, 14, 15, 17], [0, 1, 2, 3, 4, 5, 6, 7, 8, 9, 10, 11, 12, 13, 14, 15, 16, 17, 18], [0, 1, 2, 3, 4, 5, 6, 7, 8, 9, 10, 11, 12, 13, 14, 15, 16, 17, 18, 19], [0, 1, 2, 3, 4, 5, 6, 7, 8, 9, 10, 11, 12, 13, 14, 15, 16, 17, 18, 19, 20], [0, 1, 2, 3, 4, 5, 6, 7, 8, 9, 10, 11, 12, 13, 14, 15, 16, 17, 18, 19, 20, 21]] ?_ ?_ ?_ ?_); (· rfl); (· kernel_rfl); (· kernel_rfl); (· repeat (first | exact NoHang.post | refine NoHang.then ?_ | refine NoHang.block ?_))) <;> refine DW.p 0 rfl (fun _ => QK.mv) ?_ <;> refine DW.p 2 rfl (fun _ => QK.mv) ?_ <;> refine DW.p 3 rfl (fun _ => QK.mv) ?_ <;> refine DW.p 4 rfl (fun _ => QK.mv) ?_ <;> refine DW.m 5 rfl (by first | exact QY.same (QY.minN rfl rfl) hm' | exact QY.same (QY.minN rfl rfl) hto' | exact QY.minN rfl rfl | exact QK.min) ?_ <;> refine DW.m 6 rfl (by first | exact QY.cut_hi (hi := m) rfl rfl (Rd.own (by with_reducible first | exact k0 | exact k1 | exact k2 | exact k3 | exact k4 | exact k5 | exact k6 | exact k7 | exact k8 | exact k9 | fail)) RowL.row hm2 | exact QY.cut (lo := at_) (hi := to) rfl rfl rfl (Rd.own (by with_reducible first | exact k0 | exact k1 | exact k2 | exact k3 | exact k4 | exact k5 | exact k6 | exact k7 | exact k8 | exact k9 | fail)) RowL.row ht1 ht2 | exact QK.sl_hi) ?_ <;> (refine DW.ex 1 rfl ?_; intro hdk; ((refine EK.call (toldE htold) ?_); repeat' first | refine CP.r ?_ | refine CP.r0 ?_ | refine CP.exP fun e103 => ?_ | refine CP.puP fun h103 => ?_); all_goals (refine DK.mk hdk (by refine Ob.ap rfl (by first | exact QY.cut_hi (hi := m) rfl rfl (Rd.own (by with_reducible first | exact k0 | exact k1 | exact k2 | exact k3 | exact k4 | exact k5 | exact k6 | exact k7 | exact k8 | exact k9 | fail)) RowL.row hm2 | exact QY.cut (lo := at_) (hi := to) rfl rfl rfl (Rd.own (by with_reducible first | exact k0 | exact k1 | exact k2 | exact k3 | exact k4 | exact k5 | exact k6 | exact k7 | exact k8 | exact k9 | fail)) RowL.row ht1 ht2 | exact QK.sl_hi) ?_; refine Ob.ap rfl (by first | exact QY.same (QY.minN rfl rfl) hm' | exact QY.same (QY.minN rfl rfl) hto' | exact QY.minN rfl rfl | exact QK.min) ?_; exact .nil) ?_; clear hdk)) <;> (refine DW.ex 7 rfl ?_; intro hdk; ((refine EK.call (sameE (xs := inn.take m)) ?_ rfl Split.nil (.cons (.via (fun _ r => row.rrow _ r) (by with_reducible first | exact k0 | exact k1 | exact k2 | exact k3 | exact k4 | exact k5 | exact k6 | exact k7 | exact k8 | exact k9 | fail)) (.cons (.via hv (by with_reducible first | exact k0 | exact k1 | exact k2 | exact k3 | exact k4 | exact k5 | exact k6 | exact k7 | exact k8 | exact k9 | fail)) .nil))); repeat' first | refine CP.r ?_ | refine CP.r0 ?_ | refine CP.exP fun e109 => ?_ | refine CP.puP fun h109 => ?_); all_goals (refine DK.mk hdk .nil ?_; clear hdk)) <;> refine DW.p 8 rfl (fun _ => QK.not) ?_ <;> refine DW.p 9 rfl (fun _ => QK.mv) ?_ <;> (first | refine DW.pn 10 rfl rfl rfl ?_ | refine DW.pu 10 rfl rfl rfl ?_ | refine DW.py 10 rfl rfl rfl (fun _ => QK.mv) ?_ | ((first | refine DW.sP (t := 111) ?_ ?_ | refine DW.s (t := 111) ?_ ?_) <;> intro _ <;> first | contradiction | refine DW.pn 10 rfl rfl rfl ?_ | refine DW.pu 10 rfl rfl rfl ?_ | refine DW.py 10 rfl rfl rfl (fun _ => QK.mv) ?_)) <;> (first | refine DW.pn 12 rfl rfl rfl ?_ | refine DW.pu 12 rfl rfl rfl ?_ | refine DW.py 12 rfl rfl rfl (fun _ => QK.mv) ?_) <;> (first | refine DW.pn 13 rfl rfl rfl ?_ | refine DW.pu 13 rfl rfl rfl ?_ | refine DW.py 13 rfl rfl rfl (fun _ => QK.mv) ?_) <;> (first | refine DW.pn 14 rfl rfl rfl ?_ | refine DW.pu 14 rfl rfl rfl ?_ | refine DW.py 14 rfl rfl rfl (fun _ => QK.geq) ?_) <;> (first | (refine DW.exn 11 rfl rfl rfl ?_; intro hdk; refine DK.mk hdk .nil ?_; clear hdk) | (refine DW.exy 11 rfl rfl rfl ?_; intro hdk; ((first | refine EK.call (doneE hdone2) ?_ | refine EK.call (doneE hd) ?_ | refine EK.call (doneE hd) ?_); repeat' first | refine CP.r ?_ | refine CP.r0 ?_ | refine CP.exP fun e113 => ?_ | refine CP.puP fun h113 => ?_); all_goals (refine DK.mk hdk .nil ?_; clear hdk))) <;> (first | refine DW.pn 15 rfl rfl rfl ?_ | refine DW.pu 15 rfl rfl rfl ?_ | refine DW.py 15 rfl rfl rfl (fun _ => QK.mv) ?_) <;> (first | refine DW.pn 16 rfl rfl rfl ?_ | refine DW.pu 16 rfl rfl rfl ?_ | refine DW.py 16 rfl rfl rfl (fun _ => QK.mv) ?_ | ((first | refine DW.sP (t := 117) ?_ ?_ | refine DW.s (t := 117) ?_ ?_) <;> intro _ <;> first | contradiction | refine DW.pn 16 rfl rfl rfl ?_ | refine DW.pu 16 rfl rfl rfl ?_ | refine DW.py 16 rfl rfl rfl (fun _ => QK.mv) ?_)) <;> (first | refine DW.pn 17 rfl rfl rfl ?_ | refine DW.pu 17 rfl rfl rfl ?_ | refine DW.py 17 rfl rfl rfl (fun _ => QK.mv) ?_) <;> (first | refine DW.mn 18 rfl rfl rfl ?_ | refine DW.mu 18 rfl rfl rfl ?_ | refine DW.my 18 rfl rfl rfl QK.len ?_) <;> (first | refine DW.pn 19 rfl rfl rfl ?_ | refine DW.pu 19 rfl rfl rfl ?_ | refine DW.py 19 rfl rfl rfl (fun _ => QK.eqi) ?_) <;> (first | refine DW.pn 20 rfl rfl rfl ?_ | refine DW.pu 20 rfl rfl rfl ?_ | refine DW.py 20 rfl rfl rfl (fun _ => QK.pk) ?_) <;> (first | refine DW.pn 21 rfl rfl rfl ?_ | refine DW.pu 21 rfl rfl rfl ?_ | refine DW.py 21 rfl rfl rfl (fun _ => QK.neb) ?_) <;> refine DW.p 22 rfl (fun _ => QK.pk) ?_ <;> refine DW.zz ?_)
    | (refine CW.region (i := 23) ?_ <;> refine KP.q QK.as ?_ <;> refine KP.list_nil ?_)
    | (refine CW.region (i := 16) ?_ <;> refine KP.q QK.mv ?_ <;> refine KP.q QK.mv ?_ <;> refine KP.q (by first | exact QY.add1N rfl rfl (by omega) | exact QY.addN rfl rfl (by omega) | exact QK.add) ?_ <;> refine KP.q QK.as ?_ <;> refine KP.list_nil ?_)
    | ((with_reducible apply KP.fin1); (· rfl); (· rfl)))
      all_goals first | exact FA.ret | skip
      all_goals exact KA.round (at_ + bt, k + 1, st') (.inl hdone2) (hm := by simp only [hdone2, hd, ↓reduceIte, Bool.false_eq_true]; omega)
    · have hdc : decide (to = inn.length) = false := decide_eq_false he
      rw [hdc] at hput htell
      by_cases hn3 : n ≤ to
      · have hdone2 : st'.done = true := by rw [hdone]; simp [hn3]
        repeat' (first
    | (with_reducible refine CW.seq ?_)
    | (with_reducible refine KP.then_code ?_)
    | (with_reducible refine CW.skip ?_)
    | (with_reducible refine CW.ret ?_)
    | (with_reducible refine KP.then_ret ?_)
    | (with_reducible refine KP.block_ret ?_)
    | (with_reducible refine CW.block ?_)
    | (with_reducible refine KP.block_normal ?_)
    | (with_reducible refine CW.exit ?_)
    | (with_reducible refine KP.then_exit ?_)
    | (with_reducible refine KP.block_hit ?_)
    | refine KP.bm ?_
    | refine CW.ct ?_
    | refine CW.cf ?_
    | (refine CW.cP ?_ ?_ <;> intro _ <;> try contradiction)
    | (refine CW.cs ?_ ?_ <;> intro _ <;> try contradiction)
    | (refine CW.region (i := 15) ?_ <;> refine KP.q QK.mv ?_ <;> (refine KP.e ?_; ((first | refine EK.call (doneE hdone2) ?_ | refine EK.call (doneE hd) ?_ | refine EK.call (doneE hd) ?_); repeat' first | refine CP.r ?_ | refine CP.r0 ?_ | refine CP.exP fun e69 => ?_ | refine CP.puP fun h69 => ?_)) <;> refine KP.q QK.not ?_ <;> refine KP.q QK.mv ?_ <;> (first | refine KP.gn ?_ | refine KP.gu ?_ | refine KP.qy QK.mv ?_ | ((first | refine KP.gsP (t := 71) ?_ ?_ | refine KP.gs (t := 71) ?_ ?_) <;> intro _ <;> first | contradiction | refine KP.gn ?_ | refine KP.qy QK.mv ?_)) <;> (first | refine KP.gn ?_ | refine KP.gu ?_ | refine KP.qy QK.mv ?_) <;> (first | refine KP.gn ?_ | refine KP.gu ?_ | refine KP.qy QK.len ?_) <;> (first | refine KP.gn ?_ | refine KP.gu ?_ | refine KP.qy QK.leq ?_) <;> refine KP.q QK.pk ?_ <;> refine KP.list_nil ?_)
    | (refine CW.region (i := 17) ?_ <;> refine KP.q QK.mv ?_ <;> refine KP.q QK.mv ?_ <;> refine KP.q (by first | exact QY.add1N rfl rfl (by omega) | exact QY.addN rfl rfl (by omega) | exact QK.add) ?_ <;> refine KP.q QK.mv ?_ <;> refine KP.q QK.len ?_ <;> refine KP.q (by first | exact QY.same (QY.minN rfl rfl) hm' | exact QY.same (QY.minN rfl rfl) hto' | exact QY.minN rfl rfl | exact QK.min) ?_ <;> refine KP.q QK.as ?_ <;> refine KP.list_nil ?_)
    | (refine CW.region (i := 18) ?_ <;> refine KP.q QK.mv ?_ <;> refine KP.q QK.mv ?_ <;> refine KP.q QK.mv ?_ <;> refine KP.q QK.mv ?_ <;> refine KP.q QK.mv ?_ <;> refine KP.q (by first | exact QY.cut_hi (hi := m) rfl rfl (Rd.own (by with_reducible first | exact k0 | exact k1 | exact k2 | exact k3 | exact k4 | exact k5 | exact k6 | exact k7 | exact k8 | exact k9 | fail)) RowL.row hm2 | exact QY.cut (lo := at_) (hi := to) rfl rfl rfl (Rd.own (by with_reducible first | exact k0 | exact k1 | exact k2 | exact k3 | exact k4 | exact k5 | exact k6 | exact k7 | exact k8 | exact k9 | fail)) RowL.row ht1 ht2 | exact QK.sl) ?_ <;> refine KP.q QK.mv ?_ <;> refine KP.q QK.mv ?_ <;> refine KP.q QK.len ?_ <;> refine KP.q QK.eqi ?_ <;> (refine KP.e ?_; ((refine EK.call (putE hput) ?_ rfl (Split.cons (by with_reducible first | exact k0 | exact k1 | exact k2 | exact k3 | exact k4 | exact k5 | exact k6 | exact k7 | exact k8 | exact k9 | fail) Split.nil) (.cons (.via (fun _ r => (row.rrow _ r).cut ht1 ht2) (by with_reducible first | exact k0 | exact k1 | exact k2 | exact k3 | exact k4 | exact k5 | exact k6 | exact k7 | exact k8 | exact k9 | fail)) .nil)); repeat' first | refine CP.r ?_ | refine CP.r0 ?_ | refine CP.exP fun e96 => ?_ | refine CP.puP fun h96 => ?_)) <;> refine KP.q QK.not ?_ <;> refine KP.list_nil ?_)
    | (refine CW.region (i := 20) ?_ <;> refine KP.q QK.mv ?_ <;> (refine KP.e ?_; ((refine EK.call (tellE htell) ?_); repeat' first | refine CP.r ?_ | refine CP.r0 ?_ | refine CP.exP fun e99 => ?_ | refine CP.puP fun h99 => ?_)) <;> refine KP.list_nil ?_)
    | (refine CW.region (i := 21) ?_ <;> refine KP.q QK.mv ?_ <;> refine KP.q (by first | exact QY.add1N rfl rfl (by omega) | exact QY.addN rfl rfl (by omega) | exact QK.add) ?_ <;> refine KP.q QK.as ?_ <;> refine KP.list_nil ?_)
    | (((with_reducible refine CW.draw (i := 22) ?_ [[], [0], [], [], [], [3, 4], [2, 3, 4, 5], [0, 1, 2, 3, 4, 5, 6], [0, 1, 2, 3, 4, 5, 6, 7], [0, 1, 2, 3, 4, 5, 6, 7, 8], [0, 1, 2, 3, 4, 5, 6, 7, 8, 9], [0, 1, 2, 3, 4, 5, 6, 7, 8, 9, 10], [0, 1, 2, 3, 4, 5, 6, 7, 8, 9], [0, 1, 2, 3, 4, 5, 6, 7, 8, 9], [0, 1, 2, 3, 4, 5, 6, 7, 8, 9, 12, 13], [0, 1, 2, 3, 4, 5, 6, 7, 8, 9, 10, 11, 12, 13, 14], [0, 1, 2, 3, 4, 5, 6, 7, 8, 9, 10, 11, 12, 13, 14, 15], [0, 1, 2, 3, 4, 5, 6, 7, 8, 9, 10, 11, 12, 13, 14, 15], [0, 1, 2, 3, 4, 5, 6, 7, 8, 9, 10, 11, 12, 13, 14, 15, 17], [0, 1, 2, 3, 4, 5, 6, 7, 8, 9, 10, 11, 12, 13, 14, 15, 16, 17, 18], [0, 1, 2, 3, 4, 5, 6, 7, 8, 9, 10, 11, 12, 13, 14, 15, 16, 17, 18, 19], [0, 1, 2, 3, 4, 5, 6, 7, 8, 9, 10, 11, 12, 13, 14, 15, 16, 17, 18, 19, 20], [0, 1, 2, 3, 4, 5, 6, 7, 8, 9, 10, 11, 12, 13, 14, 15, 16, 17, 18, 19, 20, 21]] ?_ ?_ ?_ ?_); (· rfl); (· kernel_rfl); (· kernel_rfl); (· repeat (first | exact NoHang.post | refine NoHang.then ?_ | refine NoHang.block ?_))) <;> refine DW.p 0 rfl (fun _ => QK.mv) ?_ <;> refine DW.p 2 rfl (fun _ => QK.mv) ?_ <;> refine DW.p 3 rfl (fun _ => QK.mv) ?_ <;> refine DW.p 4 rfl (fun _ => QK.mv) ?_ <;> refine DW.m 5 rfl (by first | exact QY.same (QY.minN rfl rfl) hm' | exact QY.same (QY.minN rfl rfl) hto' | exact QY.minN rfl rfl | exact QK.min) ?_ <;> refine DW.m 6 rfl (by first | exact QY.cut_hi (hi := m) rfl rfl (Rd.own (by with_reducible first | exact k0 | exact k1 | exact k2 | exact k3 | exact k4 | exact k5 | exact k6 | exact k7 | exact k8 | exact k9 | fail)) RowL.row hm2 | exact QY.cut (lo := at_) (hi := to) rfl rfl rfl (Rd.own (by with_reducible first | exact k0 | exact k1 | exact k2 | exact k3 | exact k4 | exact k5 | exact k6 | exact k7 | exact k8 | exact k9 | fail)) RowL.row ht1 ht2 | exact QK.sl_hi) ?_ <;> (refine DW.ex 1 rfl ?_; intro hdk; ((refine EK.call (toldE htold) ?_); repeat' first | refine CP.r ?_ | refine CP.r0 ?_ | refine CP.exP fun e103 => ?_ | refine CP.puP fun h103 => ?_); all_goals (refine DK.mk hdk (by refine Ob.ap rfl (by first | exact QY.cut_hi (hi := m) rfl rfl (Rd.own (by with_reducible first | exact k0 | exact k1 | exact k2 | exact k3 | exact k4 | exact k5 | exact k6 | exact k7 | exact k8 | exact k9 | fail)) RowL.row hm2 | exact QY.cut (lo := at_) (hi := to) rfl rfl rfl (Rd.own (by with_reducible first | exact k0 | exact k1 | exact k2 | exact k3 | exact k4 | exact k5 | exact k6 | exact k7 | exact k8 | exact k9 | fail)) RowL.row ht1 ht2 | exact QK.sl_hi) ?_; refine Ob.ap rfl (by first | exact QY.same (QY.minN rfl rfl) hm' | exact QY.same (QY.minN rfl rfl) hto' | exact QY.minN rfl rfl | exact QK.min) ?_; exact .nil) ?_; clear hdk)) <;> (refine DW.ex 7 rfl ?_; intro hdk; ((refine EK.call (sameE (xs := inn.take m)) ?_ rfl Split.nil (.cons (.via (fun _ r => row.rrow _ r) (by with_reducible first | exact k0 | exact k1 | exact k2 | exact k3 | exact k4 | exact k5 | exact k6 | exact k7 | exact k8 | exact k9 | fail)) (.cons (.via hv (by with_reducible first | exact k0 | exact k1 | exact k2 | exact k3 | exact k4 | exact k5 | exact k6 | exact k7 | exact k8 | exact k9 | fail)) .nil))); repeat' first | refine CP.r ?_ | refine CP.r0 ?_ | refine CP.exP fun e109 => ?_ | refine CP.puP fun h109 => ?_); all_goals (refine DK.mk hdk .nil ?_; clear hdk)) <;> refine DW.p 8 rfl (fun _ => QK.not) ?_ <;> refine DW.p 9 rfl (fun _ => QK.mv) ?_ <;> (first | refine DW.pn 10 rfl rfl rfl ?_ | refine DW.pu 10 rfl rfl rfl ?_ | refine DW.py 10 rfl rfl rfl (fun _ => QK.mv) ?_ | ((first | refine DW.sP (t := 111) ?_ ?_ | refine DW.s (t := 111) ?_ ?_) <;> intro _ <;> first | contradiction | refine DW.pn 10 rfl rfl rfl ?_ | refine DW.pu 10 rfl rfl rfl ?_ | refine DW.py 10 rfl rfl rfl (fun _ => QK.mv) ?_)) <;> (first | refine DW.pn 12 rfl rfl rfl ?_ | refine DW.pu 12 rfl rfl rfl ?_ | refine DW.py 12 rfl rfl rfl (fun _ => QK.mv) ?_) <;> (first | refine DW.pn 13 rfl rfl rfl ?_ | refine DW.pu 13 rfl rfl rfl ?_ | refine DW.py 13 rfl rfl rfl (fun _ => QK.mv) ?_) <;> (first | refine DW.pn 14 rfl rfl rfl ?_ | refine DW.pu 14 rfl rfl rfl ?_ | refine DW.py 14 rfl rfl rfl (fun _ => QK.geq) ?_) <;> (first | (refine DW.exn 11 rfl rfl rfl ?_; intro hdk; refine DK.mk hdk .nil ?_; clear hdk) | (refine DW.exy 11 rfl rfl rfl ?_; intro hdk; ((first | refine EK.call (doneE hdone2) ?_ | refine EK.call (doneE hd) ?_ | refine EK.call (doneE hd) ?_); repeat' first | refine CP.r ?_ | refine CP.r0 ?_ | refine CP.exP fun e113 => ?_ | refine CP.puP fun h113 => ?_); all_goals (refine DK.mk hdk .nil ?_; clear hdk))) <;> (first | refine DW.pn 15 rfl rfl rfl ?_ | refine DW.pu 15 rfl rfl rfl ?_ | refine DW.py 15 rfl rfl rfl (fun _ => QK.mv) ?_) <;> (first | refine DW.pn 16 rfl rfl rfl ?_ | refine DW.pu 16 rfl rfl rfl ?_ | refine DW.py 16 rfl rfl rfl (fun _ => QK.mv) ?_ | ((first | refine DW.sP (t := 117) ?_ ?_ | refine DW.s (t := 117) ?_ ?_) <;> intro _ <;> first | contradiction | refine DW.pn 16 rfl rfl rfl ?_ | refine DW.pu 16 rfl rfl rfl ?_ | refine DW.py 16 rfl rfl rfl (fun _ => QK.mv) ?_)) <;> (first | refine DW.pn 17 rfl rfl rfl ?_ | refine DW.pu 17 rfl rfl rfl ?_ | refine DW.py 17 rfl rfl rfl (fun _ => QK.mv) ?_) <;> (first | refine DW.mn 18 rfl rfl rfl ?_ | refine DW.mu 18 rfl rfl rfl ?_ | refine DW.my 18 rfl rfl rfl QK.len ?_) <;> (first | refine DW.pn 19 rfl rfl rfl ?_ | refine DW.pu 19 rfl rfl rfl ?_ | refine DW.py 19 rfl rfl rfl (fun _ => QK.eqi) ?_) <;> (first | refine DW.pn 20 rfl rfl rfl ?_ | refine DW.pu 20 rfl rfl rfl ?_ | refine DW.py 20 rfl rfl rfl (fun _ => QK.pk) ?_) <;> (first | refine DW.pn 21 rfl rfl rfl ?_ | refine DW.pu 21 rfl rfl rfl ?_ | refine DW.py 21 rfl rfl rfl (fun _ => QK.neb) ?_) <;> refine DW.p 22 rfl (fun _ => QK.pk) ?_ <;> refine DW.zz ?_)
    | (refine CW.region (i := 23) ?_ <;> refine KP.q QK.as ?_ <;> refine KP.list_nil ?_)
    | (refine CW.region (i := 16) ?_ <;> refine KP.q QK.mv ?_ <;> refine KP.q QK.mv ?_ <;> refine KP.q (by first | exact QY.add1N rfl rfl (by omega) | exact QY.addN rfl rfl (by omega) | exact QK.add) ?_ <;> refine KP.q QK.as ?_ <;> refine KP.list_nil ?_)
    | ((with_reducible apply KP.fin1); (· rfl); (· rfl)))
        all_goals first | exact FA.ret | skip
        all_goals exact KA.round (at_ + bt, k + 1, st') (.inl hdone2) (hm := by simp only [hdone2, hd, ↓reduceIte, Bool.false_eq_true]; omega)
      · have hdone2 : st'.done = false := by rw [hdone]; simp [hn3, he]
        have hab : at_ + bt = to := by omega
        repeat' (first
    | (with_reducible refine CW.seq ?_)
    | (with_reducible refine KP.then_code ?_)
    | (with_reducible refine CW.skip ?_)
    | (with_reducible refine CW.ret ?_)
    | (with_reducible refine KP.then_ret ?_)
    | (with_reducible refine KP.block_ret ?_)
    | (with_reducible refine CW.block ?_)
    | (with_reducible refine KP.block_normal ?_)
    | (with_reducible refine CW.exit ?_)
    | (with_reducible refine KP.then_exit ?_)
    | (with_reducible refine KP.block_hit ?_)
    | refine KP.bm ?_
    | refine CW.ct ?_
    | refine CW.cf ?_
    | (refine CW.cP ?_ ?_ <;> intro _ <;> try contradiction)
    | (refine CW.cs ?_ ?_ <;> intro _ <;> try contradiction)
    | (refine CW.region (i := 15) ?_ <;> refine KP.q QK.mv ?_ <;> (refine KP.e ?_; ((first | refine EK.call (doneE hdone2) ?_ | refine EK.call (doneE hd) ?_ | refine EK.call (doneE hd) ?_); repeat' first | refine CP.r ?_ | refine CP.r0 ?_ | refine CP.exP fun e69 => ?_ | refine CP.puP fun h69 => ?_)) <;> refine KP.q QK.not ?_ <;> refine KP.q QK.mv ?_ <;> (first | refine KP.gn ?_ | refine KP.gu ?_ | refine KP.qy QK.mv ?_ | ((first | refine KP.gsP (t := 71) ?_ ?_ | refine KP.gs (t := 71) ?_ ?_) <;> intro _ <;> first | contradiction | refine KP.gn ?_ | refine KP.qy QK.mv ?_)) <;> (first | refine KP.gn ?_ | refine KP.gu ?_ | refine KP.qy QK.mv ?_) <;> (first | refine KP.gn ?_ | refine KP.gu ?_ | refine KP.qy QK.len ?_) <;> (first | refine KP.gn ?_ | refine KP.gu ?_ | refine KP.qy QK.leq ?_) <;> refine KP.q QK.pk ?_ <;> refine KP.list_nil ?_)
    | (refine CW.region (i := 17) ?_ <;> refine KP.q QK.mv ?_ <;> refine KP.q QK.mv ?_ <;> refine KP.q (by first | exact QY.add1N rfl rfl (by omega) | exact QY.addN rfl rfl (by omega) | exact QK.add) ?_ <;> refine KP.q QK.mv ?_ <;> refine KP.q QK.len ?_ <;> refine KP.q (by first | exact QY.same (QY.minN rfl rfl) hm' | exact QY.same (QY.minN rfl rfl) hto' | exact QY.minN rfl rfl | exact QK.min) ?_ <;> refine KP.q QK.as ?_ <;> refine KP.list_nil ?_)
    | (refine CW.region (i := 18) ?_ <;> refine KP.q QK.mv ?_ <;> refine KP.q QK.mv ?_ <;> refine KP.q QK.mv ?_ <;> refine KP.q QK.mv ?_ <;> refine KP.q QK.mv ?_ <;> refine KP.q (by first | exact QY.cut_hi (hi := m) rfl rfl (Rd.own (by with_reducible first | exact k0 | exact k1 | exact k2 | exact k3 | exact k4 | exact k5 | exact k6 | exact k7 | exact k8 | exact k9 | fail)) RowL.row hm2 | exact QY.cut (lo := at_) (hi := to) rfl rfl rfl (Rd.own (by with_reducible first | exact k0 | exact k1 | exact k2 | exact k3 | exact k4 | exact k5 | exact k6 | exact k7 | exact k8 | exact k9 | fail)) RowL.row ht1 ht2 | exact QK.sl) ?_ <;> refine KP.q QK.mv ?_ <;> refine KP.q QK.mv ?_ <;> refine KP.q QK.len ?_ <;> refine KP.q QK.eqi ?_ <;> (refine KP.e ?_; ((refine EK.call (putE hput) ?_ rfl (Split.cons (by with_reducible first | exact k0 | exact k1 | exact k2 | exact k3 | exact k4 | exact k5 | exact k6 | exact k7 | exact k8 | exact k9 | fail) Split.nil) (.cons (.via (fun _ r => (row.rrow _ r).cut ht1 ht2) (by with_reducible first | exact k0 | exact k1 | exact k2 | exact k3 | exact k4 | exact k5 | exact k6 | exact k7 | exact k8 | exact k9 | fail)) .nil)); repeat' first | refine CP.r ?_ | refine CP.r0 ?_ | refine CP.exP fun e96 => ?_ | refine CP.puP fun h96 => ?_)) <;> refine KP.q QK.not ?_ <;> refine KP.list_nil ?_)
    | (refine CW.region (i := 20) ?_ <;> refine KP.q QK.mv ?_ <;> (refine KP.e ?_; ((refine EK.call (tellE htell) ?_); repeat' first | refine CP.r ?_ | refine CP.r0 ?_ | refine CP.exP fun e99 => ?_ | refine CP.puP fun h99 => ?_)) <;> refine KP.list_nil ?_)
    | (refine CW.region (i := 21) ?_ <;> refine KP.q QK.mv ?_ <;> refine KP.q (by first | exact QY.add1N rfl rfl (by omega) | exact QY.addN rfl rfl (by omega) | exact QK.add) ?_ <;> refine KP.q QK.as ?_ <;> refine KP.list_nil ?_)
    | (((with_reducible refine CW.draw (i := 22) ?_ [[], [0], [], [], [], [3, 4], [2, 3, 4, 5], [0, 1, 2, 3, 4, 5, 6], [0, 1, 2, 3, 4, 5, 6, 7], [0, 1, 2, 3, 4, 5, 6, 7, 8], [0, 1, 2, 3, 4, 5, 6, 7, 8, 9], [0, 1, 2, 3, 4, 5, 6, 7, 8, 9, 10], [0, 1, 2, 3, 4, 5, 6, 7, 8, 9], [0, 1, 2, 3, 4, 5, 6, 7, 8, 9], [0, 1, 2, 3, 4, 5, 6, 7, 8, 9, 12, 13], [0, 1, 2, 3, 4, 5, 6, 7, 8, 9, 10, 11, 12, 13, 14], [0, 1, 2, 3, 4, 5, 6, 7, 8, 9, 10, 11, 12, 13, 14, 15], [0, 1, 2, 3, 4, 5, 6, 7, 8, 9, 10, 11, 12, 13, 14, 15], [0, 1, 2, 3, 4, 5, 6, 7, 8, 9, 10, 11, 12, 13, 14, 15, 17], [0, 1, 2, 3, 4, 5, 6, 7, 8, 9, 10, 11, 12, 13, 14, 15, 16, 17, 18], [0, 1, 2, 3, 4, 5, 6, 7, 8, 9, 10, 11, 12, 13, 14, 15, 16, 17, 18, 19], [0, 1, 2, 3, 4, 5, 6, 7, 8, 9, 10, 11, 12, 13, 14, 15, 16, 17, 18, 19, 20], [0, 1, 2, 3, 4, 5, 6, 7, 8, 9, 10, 11, 12, 13, 14, 15, 16, 17, 18, 19, 20, 21]] ?_ ?_ ?_ ?_); (· rfl); (· kernel_rfl); (· kernel_rfl); (· repeat (first | exact NoHang.post | refine NoHang.then ?_ | refine NoHang.block ?_))) <;> refine DW.p 0 rfl (fun _ => QK.mv) ?_ <;> refine DW.p 2 rfl (fun _ => QK.mv) ?_ <;> refine DW.p 3 rfl (fun _ => QK.mv) ?_ <;> refine DW.p 4 rfl (fun _ => QK.mv) ?_ <;> refine DW.m 5 rfl (by first | exact QY.same (QY.minN rfl rfl) hm' | exact QY.same (QY.minN rfl rfl) hto' | exact QY.minN rfl rfl | exact QK.min) ?_ <;> refine DW.m 6 rfl (by first | exact QY.cut_hi (hi := m) rfl rfl (Rd.own (by with_reducible first | exact k0 | exact k1 | exact k2 | exact k3 | exact k4 | exact k5 | exact k6 | exact k7 | exact k8 | exact k9 | fail)) RowL.row hm2 | exact QY.cut (lo := at_) (hi := to) rfl rfl rfl (Rd.own (by with_reducible first | exact k0 | exact k1 | exact k2 | exact k3 | exact k4 | exact k5 | exact k6 | exact k7 | exact k8 | exact k9 | fail)) RowL.row ht1 ht2 | exact QK.sl_hi) ?_ <;> (refine DW.ex 1 rfl ?_; intro hdk; ((refine EK.call (toldE htold) ?_); repeat' first | refine CP.r ?_ | refine CP.r0 ?_ | refine CP.exP fun e103 => ?_ | refine CP.puP fun h103 => ?_); all_goals (refine DK.mk hdk (by refine Ob.ap rfl (by first | exact QY.cut_hi (hi := m) rfl rfl (Rd.own (by with_reducible first | exact k0 | exact k1 | exact k2 | exact k3 | exact k4 | exact k5 | exact k6 | exact k7 | exact k8 | exact k9 | fail)) RowL.row hm2 | exact QY.cut (lo := at_) (hi := to) rfl rfl rfl (Rd.own (by with_reducible first | exact k0 | exact k1 | exact k2 | exact k3 | exact k4 | exact k5 | exact k6 | exact k7 | exact k8 | exact k9 | fail)) RowL.row ht1 ht2 | exact QK.sl_hi) ?_; refine Ob.ap rfl (by first | exact QY.same (QY.minN rfl rfl) hm' | exact QY.same (QY.minN rfl rfl) hto' | exact QY.minN rfl rfl | exact QK.min) ?_; exact .nil) ?_; clear hdk)) <;> (refine DW.ex 7 rfl ?_; intro hdk; ((refine EK.call (sameE (xs := inn.take m)) ?_ rfl Split.nil (.cons (.via (fun _ r => row.rrow _ r) (by with_reducible first | exact k0 | exact k1 | exact k2 | exact k3 | exact k4 | exact k5 | exact k6 | exact k7 | exact k8 | exact k9 | fail)) (.cons (.via hv (by with_reducible first | exact k0 | exact k1 | exact k2 | exact k3 | exact k4 | exact k5 | exact k6 | exact k7 | exact k8 | exact k9 | fail)) .nil))); repeat' first | refine CP.r ?_ | refine CP.r0 ?_ | refine CP.exP fun e109 => ?_ | refine CP.puP fun h109 => ?_); all_goals (refine DK.mk hdk .nil ?_; clear hdk)) <;> refine DW.p 8 rfl (fun _ => QK.not) ?_ <;> refine DW.p 9 rfl (fun _ => QK.mv) ?_ <;> (first | refine DW.pn 10 rfl rfl rfl ?_ | refine DW.pu 10 rfl rfl rfl ?_ | refine DW.py 10 rfl rfl rfl (fun _ => QK.mv) ?_ | ((first | refine DW.sP (t := 111) ?_ ?_ | refine DW.s (t := 111) ?_ ?_) <;> intro _ <;> first | contradiction | refine DW.pn 10 rfl rfl rfl ?_ | refine DW.pu 10 rfl rfl rfl ?_ | refine DW.py 10 rfl rfl rfl (fun _ => QK.mv) ?_)) <;> (first | refine DW.pn 12 rfl rfl rfl ?_ | refine DW.pu 12 rfl rfl rfl ?_ | refine DW.py 12 rfl rfl rfl (fun _ => QK.mv) ?_) <;> (first | refine DW.pn 13 rfl rfl rfl ?_ | refine DW.pu 13 rfl rfl rfl ?_ | refine DW.py 13 rfl rfl rfl (fun _ => QK.mv) ?_) <;> (first | refine DW.pn 14 rfl rfl rfl ?_ | refine DW.pu 14 rfl rfl rfl ?_ | refine DW.py 14 rfl rfl rfl (fun _ => QK.geq) ?_) <;> (first | (refine DW.exn 11 rfl rfl rfl ?_; intro hdk; refine DK.mk hdk .nil ?_; clear hdk) | (refine DW.exy 11 rfl rfl rfl ?_; intro hdk; ((first | refine EK.call (doneE hdone2) ?_ | refine EK.call (doneE hd) ?_ | refine EK.call (doneE hd) ?_); repeat' first | refine CP.r ?_ | refine CP.r0 ?_ | refine CP.exP fun e113 => ?_ | refine CP.puP fun h113 => ?_); all_goals (refine DK.mk hdk .nil ?_; clear hdk))) <;> (first | refine DW.pn 15 rfl rfl rfl ?_ | refine DW.pu 15 rfl rfl rfl ?_ | refine DW.py 15 rfl rfl rfl (fun _ => QK.mv) ?_) <;> (first | refine DW.pn 16 rfl rfl rfl ?_ | refine DW.pu 16 rfl rfl rfl ?_ | refine DW.py 16 rfl rfl rfl (fun _ => QK.mv) ?_ | ((first | refine DW.sP (t := 117) ?_ ?_ | refine DW.s (t := 117) ?_ ?_) <;> intro _ <;> first | contradiction | refine DW.pn 16 rfl rfl rfl ?_ | refine DW.pu 16 rfl rfl rfl ?_ | refine DW.py 16 rfl rfl rfl (fun _ => QK.mv) ?_)) <;> (first | refine DW.pn 17 rfl rfl rfl ?_ | refine DW.pu 17 rfl rfl rfl ?_ | refine DW.py 17 rfl rfl rfl (fun _ => QK.mv) ?_) <;> (first | refine DW.mn 18 rfl rfl rfl ?_ | refine DW.mu 18 rfl rfl rfl ?_ | refine DW.my 18 rfl rfl rfl QK.len ?_) <;> (first | refine DW.pn 19 rfl rfl rfl ?_ | refine DW.pu 19 rfl rfl rfl ?_ | refine DW.py 19 rfl rfl rfl (fun _ => QK.eqi) ?_) <;> (first | refine DW.pn 20 rfl rfl rfl ?_ | refine DW.pu 20 rfl rfl rfl ?_ | refine DW.py 20 rfl rfl rfl (fun _ => QK.pk) ?_) <;> (first | refine DW.pn 21 rfl rfl rfl ?_ | refine DW.pu 21 rfl rfl rfl ?_ | refine DW.py 21 rfl rfl rfl (fun _ => QK.neb) ?_) <;> refine DW.p 22 rfl (fun _ => QK.pk) ?_ <;> refine DW.zz ?_)
    | (refine CW.region (i := 23) ?_ <;> refine KP.q QK.as ?_ <;> refine KP.list_nil ?_)
    | (refine CW.region (i := 16) ?_ <;> refine KP.q QK.mv ?_ <;> refine KP.q QK.mv ?_ <;> refine KP.q (by first | exact QY.add1N rfl rfl (by omega) | exact QY.addN rfl rfl (by omega) | exact QK.add) ?_ <;> refine KP.q QK.as ?_ <;> refine KP.list_nil ?_)
    | ((with_reducible apply KP.fin1); (· rfl); (· rfl)))
        all_goals first | exact FA.ret | skip
        exact KA.round (at_ + bt, k + 1, st') (.inr ⟨by simp only [hab]; exact hno ⟨he, by omega⟩, by simp only; omega, by simp only; omega, by simp only; omega, by simp only; omega⟩) (hm := by simp only [hdone2, hd, ↓reduceIte, Bool.false_eq_true]; omega)

end Go.Proofs.Ytpmhelfdmhjnbaa
