import Derived.Test.YtpmhelfdmhjnbaaV1
import Derived.Test.YtpmhelfdmhjnbaaMD
/- MergeScript: New, Num, great; small words. -/
namespace Go.Proofs.Ytpmhelfdmhjnbaa
open Go Go.Ink Go.Plain
set_option linter.unusedVariables false
set_option linter.unusedSimpArgs false

theorem lent_row {α : Type _} {enc : α → List Value} {n b : Nat} {e : TypeId} [E : Enc enc n] {xs ys : List α} (hp : 0 < xs.length + ys.length) : ∀ h, lent e n enc b xs ys h → row e n enc (.slice (some ⟨b, 0, none⟩) xs.length (xs.length + ys.length)) xs h := fun h r => by
  unfold lent at r
  rcases r with ⟨_, e⟩ | ⟨b', off, cap, cs, hv, h1, h2, h3, h4, h5⟩
  · have := congrArg List.length e
    rw [List.length_append, List.length_nil] at this; omega
  · simp only [Value.slice.injEq, Option.some.injEq, Addr.mk.injEq] at hv
    obtain ⟨⟨rfl, rfl, _⟩, hlen, rfl⟩ := hv
    refine .inr ⟨b, 0, _, cs, rfl, by omega, h2, h3, ?_, h5⟩
    have h6 := congrArg (List.take (xs.length * n)) h4
    rw [List.take_take, List.flatMap_append, ← flatMap_length E.len xs, List.take_left, flatMap_length E.len xs, Nat.min_eq_left] at h6
    · exact h6
    · rw [List.length_append]; exact Nat.mul_le_mul_right _ (by omega)
attribute [local irreducible] KP QY EW CW DW DX QG CP Spc DK Fina wpList lessF lent
theorem greatI_size2 {xs : List Item} (h : greatI xs = false) : ∀ y ∈ xs, y.word.size ≤ 1000000 := by
  intro y hy
  simp [greatI] at h
  have := h.2 y hy
  omega
theorem keptI_t2 {b : Nat} {v : Value} {xs : List Item} (hl : xs.length ≤ 100000) : Spc Try.prog 37 #[lentV b xs.length, v] [lent 39 2 eI b xs [mark7, mark7, mark7], rrow 2 eI v xs] [] (ret (.bool true) []) := by
  have := keptI_spec (b := b) (v := v) (xs := xs) (ys := xs) hl
  simpa using this
theorem small_new {least : List Int} {n : Int} : (newF least n).Small := by
  refine ⟨fun s hs => ?_, fun s hs x hx => ?_⟩
  · obtain ⟨d, _, rfl⟩ := List.mem_map.1 hs
    exact (by decide : (0 : Nat) ≤ 1000000)
  · obtain ⟨d, _, rfl⟩ := List.mem_map.1 hs
    simp [mkSh] at hx
theorem small_put {st : MS} {i seq : Int} {items : List Item} {e : Bool} (h : st.Small) (hi : ∀ x ∈ items, x.word.size ≤ 1000000) : (st.put i seq items e).2.Small := by
  unfold MS.put
  split
  · split
    · rename_i s hs
      split
      · refine ⟨fun q hq => ?_, fun q hq x hx => ?_⟩
        · rcases List.mem_or_eq_of_mem_set hq with h2 | rfl
          · exact h.last q h2
          · show ((items.getLast?).getD s.last).word.size ≤ 1000000
            cases hl : items.getLast? with
            | none => exact h.last s (List.mem_of_getElem? hs)
            | some la => exact hi la (List.mem_of_getLast? hl)
        · rcases List.mem_or_eq_of_mem_set hq with h2 | rfl
          · exact h.waits q h2 x hx
          · exact hi x hx
      · exact h
    · exact h
  · exact h
theorem step_small {st st' : MS} {x : Item} (h : st.Small) (hs : st.step = some (x, st')) : st'.Small := by
  unfold MS.step at hs
  split at hs
  · cases hs
  · split at hs
    · cases hs
    · split at hs
      · cases hs
      · split at hs
        · cases hs
        · rename_i s hj
          simp only [Option.some.injEq, Prod.mk.injEq] at hs
          obtain ⟨_, rfl⟩ := hs
          have hm := List.mem_of_getElem? hj
          refine ⟨fun q hq => ?_, fun q hq x hx => ?_⟩
          · rcases List.mem_or_eq_of_mem_set hq with h2 | rfl
            · exact h.last q h2
            · exact h.last s hm
          · rcases List.mem_or_eq_of_mem_set hq with h2 | rfl
            · exact h.waits q h2 x hx
            · exact h.waits s hm x (List.mem_of_mem_tail hx)
theorem small_tell : ∀ (k : Nat) (st : MS), st.left ≤ k → st.Small → st.tell.2.Small
  | k, st, hk, h => by
    cases hs : st.step with
    | none => rw [tell_end hs]; exact h
    | some p =>
      obtain ⟨x, st'⟩ := p
      have hl := step_left hs
      rw [tell_step hs]
      match k, hk with
      | 0, hk => omega
      | k + 1, hk => exact small_tell k st' (by omega) (step_small h hs)
theorem ref_new_bad {v : Value} {least : List Int} {n : Int} (h : least.length = 0 ∨ 6 < least.length ∨ n < 1 ∨ 10 < n) : Spc Try.prog 63 #[v, iv n] [rrow 1 eN v least] [] (ret (rNw (.pointer none) 2) []) := by
  refine Spc.enter' (args := [v, iv n]) (T0 := [(0, v), (1, iv n)]) Try.func63 rfl Try.ntmps63 (Nat.le_of_ble_eq_true rfl) rfl ?_
  intro w0 own
  refine CW.roFact (List.Mem.head _) (fun _ h => rrow.le h) fun hxs => ?_
  repeat' (first
    | (with_reducible refine CW.seq ?_)
    | (with_reducible refine KP.then_code ?_)
    | (with_reducible refine CW.skip ?_)
    | (with_reducible refine CW.ret ?_)
    | (with_reducible refine KP.then_ret ?_)
    | (with_reducible refine KP.block_ret ?_)
    | (with_reducible refine CW.block ?_)
    | (with_reducible refine KP.block_normal ?_)
    | (with_reducible refine CW.exit ?_)
    | (with_reducible refine KP.then_exit ?_)
    | (with_reducible refine KP.block_hit ?_)
    | refine KP.bm ?_
    | refine CW.ct ?_
    | refine CW.cf ?_
    | (refine CW.cP ?_ ?_ <;> intro _ <;> try contradiction)
    | (refine CW.cs ?_ ?_ <;> intro _ <;> try contradiction)
    | (refine CW.region (i := 0) ?_ <;> refine KP.q QK.as ?_ <;> refine KP.q QK.as ?_ <;> refine KP.list_nil ?_)
    | (refine CW.region (i := 1) ?_ <;> refine KP.q QK.mv ?_ <;> refine KP.q QK.len ?_ <;> refine KP.q QK.lss ?_ <;> refine KP.q QK.mv ?_ <;> (first | refine KP.gn ?_ | refine KP.gu ?_ | refine KP.qy QK.mv ?_ | ((first | refine KP.gsP (t := 11) ?_ ?_ | refine KP.gs (t := 11) ?_ ?_) <;> intro _ <;> first | contradiction | refine KP.gn ?_ | refine KP.qy QK.mv ?_)) <;> (first | refine KP.gn ?_ | refine KP.gu ?_ | refine KP.qy QK.len ?_) <;> (first | refine KP.gn ?_ | refine KP.gu ?_ | refine KP.qy QK.gtr ?_) <;> refine KP.q QK.pk ?_ <;> refine KP.q QK.mv ?_ <;> (first | refine KP.gn ?_ | refine KP.gu ?_ | refine KP.qy QK.mv ?_ | ((first | refine KP.gsP (t := 16) ?_ ?_ | refine KP.gs (t := 16) ?_ ?_) <;> intro _ <;> first | contradiction | refine KP.gn ?_ | refine KP.qy QK.mv ?_)) <;> (first | refine KP.gn ?_ | refine KP.gu ?_ | refine KP.qy QK.lss ?_) <;> refine KP.q QK.pk ?_ <;> refine KP.q QK.mv ?_ <;> (first | refine KP.gn ?_ | refine KP.gu ?_ | refine KP.qy QK.mv ?_ | ((first | refine KP.gsP (t := 20) ?_ ?_ | refine KP.gs (t := 20) ?_ ?_) <;> intro _ <;> first | contradiction | refine KP.gn ?_ | refine KP.qy QK.mv ?_)) <;> (first | refine KP.gn ?_ | refine KP.gu ?_ | refine KP.qy QK.gtr ?_) <;> refine KP.q QK.pk ?_ <;> refine KP.list_nil ?_)
    | (refine CW.region (i := 2) ?_ <;> refine KP.q QK.as ?_ <;> refine KP.q QK.as ?_ <;> refine KP.list_nil ?_)
    | ((with_reducible apply KP.fin2); (· rfl); (· rfl); (· rfl)))
  all_goals first | exact FA.ret | omega
theorem ref_new_ok {v : Value} {least : List Int} {n : Int} (h0 : 0 < least.length) (h6 : least.length ≤ 6) (h1 : 1 ≤ n) (h10 : n ≤ 10) : Spc Try.prog 63 #[v, iv n] [rrow 1 eN v least] [] (exP fun m => ret (rNw (qp m) 0) [Rg m (newF least n)]) := by
  refine Spc.enter' (args := [v, iv n]) (T0 := [(0, v), (1, iv n)]) Try.func63 rfl Try.ntmps63 (Nat.le_of_ble_eq_true rfl) rfl ?_
  intro w0 own
  repeat' (first
    | (with_reducible refine CW.seq ?_)
    | (with_reducible refine KP.then_code ?_)
    | (with_reducible refine CW.skip ?_)
    | (with_reducible refine CW.ret ?_)
    | (with_reducible refine KP.then_ret ?_)
    | (with_reducible refine KP.block_ret ?_)
    | (with_reducible refine CW.block ?_)
    | (with_reducible refine KP.block_normal ?_)
    | (with_reducible refine CW.exit ?_)
    | (with_reducible refine KP.then_exit ?_)
    | (with_reducible refine KP.block_hit ?_)
    | refine KP.bm ?_
    | refine CW.ct ?_
    | refine CW.cf ?_
    | (refine CW.cP ?_ ?_ <;> intro _ <;> try contradiction)
    | (refine CW.cs ?_ ?_ <;> intro _ <;> try contradiction)
    | (refine CW.region (i := 0) ?_ <;> refine KP.q QK.as ?_ <;> refine KP.q QK.as ?_ <;> refine KP.list_nil ?_)
    | (refine CW.region (i := 1) ?_ <;> refine KP.q QK.mv ?_ <;> refine KP.q QK.len ?_ <;> refine KP.q QK.lss ?_ <;> refine KP.q QK.mv ?_ <;> (first | refine KP.gn ?_ | refine KP.gu ?_ | refine KP.qy QK.mv ?_ | ((first | refine KP.gsP (t := 11) ?_ ?_ | refine KP.gs (t := 11) ?_ ?_) <;> intro _ <;> first | contradiction | refine KP.gn ?_ | refine KP.qy QK.mv ?_)) <;> (first | refine KP.gn ?_ | refine KP.gu ?_ | refine KP.qy QK.len ?_) <;> (first | refine KP.gn ?_ | refine KP.gu ?_ | refine KP.qy QK.gtr ?_) <;> refine KP.q QK.pk ?_ <;> refine KP.q QK.mv ?_ <;> (first | refine KP.gn ?_ | refine KP.gu ?_ | refine KP.qy QK.mv ?_ | ((first | refine KP.gsP (t := 16) ?_ ?_ | refine KP.gs (t := 16) ?_ ?_) <;> intro _ <;> first | contradiction | refine KP.gn ?_ | refine KP.qy QK.mv ?_)) <;> (first | refine KP.gn ?_ | refine KP.gu ?_ | refine KP.qy QK.lss ?_) <;> refine KP.q QK.pk ?_ <;> refine KP.q QK.mv ?_ <;> (first | refine KP.gn ?_ | refine KP.gu ?_ | refine KP.qy QK.mv ?_ | ((first | refine KP.gsP (t := 20) ?_ ?_ | refine KP.gs (t := 20) ?_ ?_) <;> intro _ <;> first | contradiction | refine KP.gn ?_ | refine KP.qy QK.mv ?_)) <;> (first | refine KP.gn ?_ | refine KP.gu ?_ | refine KP.qy QK.gtr ?_) <;> refine KP.q QK.pk ?_ <;> refine KP.list_nil ?_)
    | (refine CW.region (i := 3) ?_ <;> refine KP.q QK.mv ?_ <;> refine KP.q QK.bd ?_ <;> (refine KP.e ?_; (refine EK.box_a ?_; intro b26)) <;> refine KP.q QK.as ?_ <;> refine KP.list_nil ?_)
    | (refine CW.region (i := 4) ?_ <;> refine KP.q QK.as ?_ <;> refine KP.list_nil ?_)
    | ((with_reducible apply KP.fin2); (· rfl); (· rfl); (· rfl)))
  refine CW.add (B := row 110 7 eSh (.slice none 0 0) ((least.take 0).map mkSh)) row.none ?_
  refine CA.loop (X := Nat × Value) (fun z => [(0, v), (6, qp b26), (7, iv (z.1 : Nat))]) (fun z => [pt b26 108 [z.2, iv n, .slice none 0 0], row 110 7 eSh z.2 ((least.take z.1).map mkSh)]) (fun z => z.1 ≤ least.length ∧ z.2.oneCell' = true) (fun z => least.length - z.1) (0, .slice none 0 0) ⟨by simp, rfl⟩ ?_
  rintro ⟨i, sv⟩ ⟨hi, hv⟩
  try dsimp only at hi hv ⊢
  rcases Nat.lt_or_ge i least.length with hlt | hge
  · obtain ⟨d, hd⟩ := at_lt hlt
    have hst : (least.take (i + 1)).map mkSh = (least.take i).map mkSh ++ [mkSh d] := by rw [List.take_add_one, hd]; simp
    have hlen : ((least.take i).map mkSh).length ≤ 6 := by simp; omega
    
    
    repeat' (first
    | (with_reducible refine CW.seq ?_)
    | (with_reducible refine KP.then_code ?_)
    | (with_reducible refine CW.skip ?_)
    | (with_reducible refine CW.ret ?_)
    | (with_reducible refine KP.then_ret ?_)
    | (with_reducible refine KP.block_ret ?_)
    | (with_reducible refine CW.block ?_)
    | (with_reducible refine KP.block_normal ?_)
    | (with_reducible refine CW.exit ?_)
    | (with_reducible refine KP.then_exit ?_)
    | (with_reducible refine KP.block_hit ?_)
    | refine KP.bm ?_
    | refine CW.ct ?_
    | refine CW.cf ?_
    | (refine CW.cP ?_ ?_ <;> intro _ <;> try contradiction)
    | (refine CW.cs ?_ ?_ <;> intro _ <;> try contradiction)
    | (refine CW.region (i := 5) ?_ <;> refine KP.q QK.mv ?_ <;> refine KP.q QK.mv ?_ <;> refine KP.q QK.len ?_ <;> refine KP.q QK.lss ?_ <;> refine KP.list_nil ?_)
    | (((with_reducible refine CW.draw (i := 7) ?_ [[], [], [1], [1, 2], [1, 2, 3], [], [], [5, 6], [5, 6, 7], [], [], [9, 10], [9, 10, 11], [9, 10, 11, 12], [5, 6, 7, 8, 9, 10, 11, 12, 13], [5, 6, 7, 8, 9, 10, 11, 12, 13, 14], [1, 2, 3, 4, 5, 6, 7, 8, 9, 10, 11, 12, 13, 14, 15], [0, 1, 2, 3, 4, 5, 6, 7, 8, 9, 10, 11, 12, 13, 14, 15, 16], [0, 1, 2, 3, 4, 5, 6, 7, 8, 9, 10, 11, 12, 13, 14, 15, 16, 17], [0, 1, 2, 3, 4, 5, 6, 7, 8, 9, 10, 11, 12, 13, 14, 15, 16, 17, 18]] ?_ ?_ ?_ ?_); (· rfl); (· kernel_rfl); (· kernel_rfl); (· repeat (first | exact NoHang.post | refine NoHang.then ?_ | refine NoHang.block ?_))) <;> refine DW.p 0 rfl (fun _ => QK.mv) ?_ <;> refine DW.p 1 rfl (fun _ => QK.mv) ?_ <;> refine DW.p 2 rfl (fun _ => QK.nc) ?_ <;> refine DW.p 3 rfl (fun _ => QK.fa) ?_ <;> refine DW.p 5 rfl (fun _ => QK.mv) ?_ <;> refine DW.p 6 rfl (fun _ => QK.mv) ?_ <;> refine DW.p 9 rfl (fun _ => QK.mv) ?_ <;> refine DW.p 10 rfl (fun _ => QK.mv) ?_ <;> refine DW.m 4 rfl (by first | exact QY.load_s rfl (Rd.ro (by with_reducible first | exact m0 | exact m1 | exact m2 | exact m3 | exact m4 | exact m5 | fail)) (Reads.row0 RowL.rrow hd rfl) | exact QK.lds) ?_ <;> refine DW.m 7 rfl QK.ia ?_ <;> refine DW.m 8 rfl (by first | exact QY.load_s rfl (Rd.ro (by with_reducible first | exact m0 | exact m1 | exact m2 | exact m3 | exact m4 | exact m5 | fail)) (Reads.row0 RowL.rrow hd rfl) | exact QK.lds) ?_ <;> refine DW.m 11 rfl QK.ia ?_ <;> refine DW.m 12 rfl (by first | exact QY.load_s rfl (Rd.ro (by with_reducible first | exact m0 | exact m1 | exact m2 | exact m3 | exact m4 | exact m5 | fail)) (Reads.row0 RowL.rrow hd rfl) | exact QK.lds) ?_ <;> refine DW.p 13 rfl (fun _ => QK.lss) ?_ <;> refine DW.p 14 rfl (fun _ => QK.bd) ?_ <;> (refine DW.ex 15 rfl ?_; intro hdk; ((first | refine EW.buildSlice1_s (by decide) rfl (by first | rfl | assumption) rfl ?_ | refine EW.buildSlice1_a (by decide) rfl (by rfl) (by rfl) (by decide) (by decide) ?_); intro b48); all_goals (refine DK.mk hdk (by refine Ob.ap rfl (by first | exact QY.load_s rfl (Rd.ro (by with_reducible first | exact m0 | exact m1 | exact m2 | exact m3 | exact m4 | exact m5 | fail)) (Reads.row0 RowL.rrow hd rfl) | exact QK.lds) ?_; exact .nil) ?_; clear hdk)) <;> (refine DW.ex 16 rfl ?_; intro hdk; (first | (refine EK.app1 (enc := eSh) (mkSh d) ?_; intro w49 o49) | (refine EK.app1 _ ?_; intro w49 o49)); all_goals (refine DK.mk hdk .nil ?_; clear hdk)) <;> refine DW.p 17 rfl (fun _ => QK.nc) ?_ <;> refine DW.p 18 rfl (fun _ => QK.fa) ?_ <;> (refine DW.ex 19 rfl ?_; intro hdk; (first | refine EK.st_s ?_ | refine EK.st_rf ?_ | refine EK.st_rf0 ?_); all_goals (refine DK.mk hdk .nil ?_; clear hdk)) <;> refine DW.zz ?_)
    | (refine CW.region (i := 6) ?_ <;> refine KP.q QK.mv ?_ <;> refine KP.q QK.add ?_ <;> refine KP.q QK.as ?_ <;> refine KP.list_nil ?_)
    | ((with_reducible apply KP.fin2); (· rfl); (· rfl); (· rfl)))
    rw [← hst]
    exact KA.round (i + 1, w49) ⟨by simp only; omega, by assumption⟩
  · rw [List.take_of_length_le hge]
    repeat' (first
    | (with_reducible refine CW.seq ?_)
    | (with_reducible refine KP.then_code ?_)
    | (with_reducible refine CW.skip ?_)
    | (with_reducible refine CW.ret ?_)
    | (with_reducible refine KP.then_ret ?_)
    | (with_reducible refine KP.block_ret ?_)
    | (with_reducible refine CW.block ?_)
    | (with_reducible refine KP.block_normal ?_)
    | (with_reducible refine CW.exit ?_)
    | (with_reducible refine KP.then_exit ?_)
    | (with_reducible refine KP.block_hit ?_)
    | refine KP.bm ?_
    | refine CW.ct ?_
    | refine CW.cf ?_
    | (refine CW.cP ?_ ?_ <;> intro _ <;> try contradiction)
    | (refine CW.cs ?_ ?_ <;> intro _ <;> try contradiction)
    | (refine CW.region (i := 5) ?_ <;> refine KP.q QK.mv ?_ <;> refine KP.q QK.mv ?_ <;> refine KP.q QK.len ?_ <;> refine KP.q QK.lss ?_ <;> refine KP.list_nil ?_)
    | (refine CW.region (i := 8) ?_ <;> refine KP.q QK.mv ?_ <;> refine KP.q QK.as ?_ <;> refine KP.q QK.as ?_ <;> refine KP.list_nil ?_)
    | ((with_reducible apply KP.fin2); (· rfl); (· rfl); (· rfl)))
    refine Fina.exP b26 (Fina.add (wl_new least) (Fina.add (B := row 39 2 eI (.slice none 0 0) []) row.none (FA.gather (Rg.intro (m := b26) (n := n) (sv := sv) (tv := .slice none 0 0) (shs := least.map mkSh) (told := []) (st := newF least n) rfl ⟨h1, h10, by simp [newF]; omega, by simpa [newF] using h6, by simp [newF, mkSh]⟩ (by simp [newF]) rfl hv rfl) ?_)))
    exact FA.ret

theorem num_spec {e : Int} : Spc Try.prog 64 #[iv e] [] [] (ret (iv e) []) := by
  refine Spc.enter' (args := [iv e]) (T0 := [(0, iv e)]) Try.func64 rfl Try.ntmps64 (Nat.le_of_ble_eq_true rfl) rfl ?_
  intro w0 own
  repeat' (first
    | (with_reducible refine CW.seq ?_)
    | (with_reducible refine KP.then_code ?_)
    | (with_reducible refine CW.skip ?_)
    | (with_reducible refine CW.ret ?_)
    | (with_reducible refine KP.then_ret ?_)
    | (with_reducible refine KP.block_ret ?_)
    | (with_reducible refine CW.block ?_)
    | (with_reducible refine KP.block_normal ?_)
    | (with_reducible refine CW.exit ?_)
    | (with_reducible refine KP.then_exit ?_)
    | (with_reducible refine KP.block_hit ?_)
    | refine KP.bm ?_
    | refine CW.ct ?_
    | refine CW.cf ?_
    | (refine CW.cP ?_ ?_ <;> intro _ <;> try contradiction)
    | (refine CW.cs ?_ ?_ <;> intro _ <;> try contradiction)
    | (refine CW.region (i := 0) ?_ <;> refine KP.q QK.as ?_ <;> refine KP.list_nil ?_)
    | (refine CW.region (i := 1) ?_ <;> refine KP.q QK.mv ?_ <;> refine KP.q QK.as ?_ <;> refine KP.list_nil ?_)
    | ((with_reducible apply KP.fin1); (· rfl); (· rfl)))
  exact FA.ret
theorem greatA_spec {v : Value} {acts : List ActV} : Spc Try.prog 62 #[v, iv 60] [rrow 5 eAct v acts, AllA actA acts] [] (exP fun b : Bool => puP (b = false → acts.length ≤ 60 ∧ ∀ a ∈ acts, greatI a.items = false) (ret (.bool b) [])) := by
  refine Spc.enter' (args := [v, iv 60]) (T0 := [(0, v), (1, iv 60)]) Try.func62 rfl Try.ntmps62 (Nat.le_of_ble_eq_true rfl) rfl ?_
  intro w0 own
  refine CW.roFact (A := rrow 5 eAct v acts) (by simp) (fun _ h => rrow.le h) fun hxs => ?_
  repeat' (first
    | (with_reducible refine CW.seq ?_)
    | (with_reducible refine KP.then_code ?_)
    | (with_reducible refine CW.skip ?_)
    | (with_reducible refine CW.ret ?_)
    | (with_reducible refine KP.then_ret ?_)
    | (with_reducible refine KP.block_ret ?_)
    | (with_reducible refine CW.block ?_)
    | (with_reducible refine KP.block_normal ?_)
    | (with_reducible refine CW.exit ?_)
    | (with_reducible refine KP.then_exit ?_)
    | (with_reducible refine KP.block_hit ?_)
    | refine KP.bm ?_
    | refine CW.ct ?_
    | refine CW.cf ?_
    | (refine CW.cP ?_ ?_ <;> intro _ <;> try contradiction)
    | (refine CW.cs ?_ ?_ <;> intro _ <;> try contradiction)
    | (refine CW.region (i := 0) ?_ <;> refine KP.q QK.as ?_ <;> refine KP.list_nil ?_)
    | (refine CW.region (i := 1) ?_ <;> refine KP.q QK.as ?_ <;> refine KP.list_nil ?_)
    | ((with_reducible apply KP.fin1); (· rfl); (· rfl)))
  refine CA.loop (X := Nat) (fun i => [(0, v), (1, iv 60), (5, iv (i : Nat))]) (fun _ => []) (fun i => i ≤ acts.length ∧ ∀ a ∈ acts.take i, greatI a.items = false) (fun i => acts.length - i) 0 ⟨by simp, by simp⟩ ?_
  rintro i ⟨hi, hb⟩
  try dsimp only at hi hb ⊢
  by_cases h60 : (acts.length : Int) ≤ 60
  · rcases Nat.lt_or_ge i acts.length with hlt | hge
    · obtain ⟨a, ha⟩ := at_lt hlt
      
      cases hg : greatI a.items
      · 
        repeat' (first
    | (with_reducible refine CW.seq ?_)
    | (with_reducible refine KP.then_code ?_)
    | (with_reducible refine CW.skip ?_)
    | (with_reducible refine CW.ret ?_)
    | (with_reducible refine KP.then_ret ?_)
    | (with_reducible refine KP.block_ret ?_)
    | (with_reducible refine CW.block ?_)
    | (with_reducible refine KP.block_normal ?_)
    | (with_reducible refine CW.exit ?_)
    | (with_reducible refine KP.then_exit ?_)
    | (with_reducible refine KP.block_hit ?_)
    | refine KP.bm ?_
    | refine CW.ct ?_
    | refine CW.cf ?_
    | (refine CW.cP ?_ ?_ <;> intro _ <;> try contradiction)
    | (refine CW.cs ?_ ?_ <;> intro _ <;> try contradiction)
    | (refine CW.region (i := 2) ?_ <;> refine KP.q QK.mv ?_ <;> refine KP.q QK.mv ?_ <;> refine KP.q QK.len ?_ <;> refine KP.q QK.lss ?_ <;> refine KP.q QK.mv ?_ <;> (first | refine KP.gn ?_ | refine KP.gu ?_ | refine KP.qy QK.mv ?_ | ((first | refine KP.gsP (t := 10) ?_ ?_ | refine KP.gs (t := 10) ?_ ?_) <;> intro _ <;> first | contradiction | refine KP.gn ?_ | refine KP.qy QK.mv ?_)) <;> (first | refine KP.gn ?_ | refine KP.gu ?_ | refine KP.qy QK.len ?_) <;> (first | refine KP.gn ?_ | refine KP.gu ?_ | refine KP.qy QK.mv ?_) <;> (first | refine KP.gn ?_ | refine KP.gu ?_ | refine KP.qy QK.leq ?_) <;> refine KP.q QK.pk ?_ <;> refine KP.list_nil ?_)
    | (refine CW.region (i := 4) ?_ <;> refine KP.q QK.mv ?_ <;> refine KP.q QK.mv ?_ <;> refine KP.q QK.ia ?_ <;> refine KP.q QK.fa ?_ <;> refine KP.q (by first | exact QY.load_s rfl (Rd.ro m0) (Reads.row1 RowL.rrow ha rfl) | exact QK.lds) ?_ <;> (refine KP.e ?_; ((refine EK.call (greatIE (v := a.wv) hg) ?_ rfl Split.nil (.cons (.ro (B := AllA actA acts) (by simp) (AllA.at ha)) .nil)); repeat' first | refine CP.r ?_ | refine CP.r0 ?_ | refine CP.exP fun e23 => ?_ | refine CP.puP fun h23 => ?_)) <;> refine KP.list_nil ?_)
    | (refine CW.region (i := 3) ?_ <;> refine KP.q QK.mv ?_ <;> refine KP.q QK.add ?_ <;> refine KP.q QK.as ?_ <;> refine KP.list_nil ?_)
    | ((with_reducible apply KP.fin1); (· rfl); (· rfl)))
        refine KA.round (i + 1) ⟨by omega, fun c hc => ?_⟩
        rw [List.take_add_one, ha] at hc
        rcases List.mem_append.1 hc with hc | hc
        · exact hb c hc
        · simp at hc; subst hc; exact hg
      · 
        
        repeat' (first
    | (with_reducible refine CW.seq ?_)
    | (with_reducible refine KP.then_code ?_)
    | (with_reducible refine CW.skip ?_)
    | (with_reducible refine CW.ret ?_)
    | (with_reducible refine KP.then_ret ?_)
    | (with_reducible refine KP.block_ret ?_)
    | (with_reducible refine CW.block ?_)
    | (with_reducible refine KP.block_normal ?_)
    | (with_reducible refine CW.exit ?_)
    | (with_reducible refine KP.then_exit ?_)
    | (with_reducible refine KP.block_hit ?_)
    | refine KP.bm ?_
    | refine CW.ct ?_
    | refine CW.cf ?_
    | (refine CW.cP ?_ ?_ <;> intro _ <;> try contradiction)
    | (refine CW.cs ?_ ?_ <;> intro _ <;> try contradiction)
    | (refine CW.region (i := 2) ?_ <;> refine KP.q QK.mv ?_ <;> refine KP.q QK.mv ?_ <;> refine KP.q QK.len ?_ <;> refine KP.q QK.lss ?_ <;> refine KP.q QK.mv ?_ <;> (first | refine KP.gn ?_ | refine KP.gu ?_ | refine KP.qy QK.mv ?_ | ((first | refine KP.gsP (t := 10) ?_ ?_ | refine KP.gs (t := 10) ?_ ?_) <;> intro _ <;> first | contradiction | refine KP.gn ?_ | refine KP.qy QK.mv ?_)) <;> (first | refine KP.gn ?_ | refine KP.gu ?_ | refine KP.qy QK.len ?_) <;> (first | refine KP.gn ?_ | refine KP.gu ?_ | refine KP.qy QK.mv ?_) <;> (first | refine KP.gn ?_ | refine KP.gu ?_ | refine KP.qy QK.leq ?_) <;> refine KP.q QK.pk ?_ <;> refine KP.list_nil ?_)
    | (refine CW.region (i := 4) ?_ <;> refine KP.q QK.mv ?_ <;> refine KP.q QK.mv ?_ <;> refine KP.q QK.ia ?_ <;> refine KP.q QK.fa ?_ <;> refine KP.q (by first | exact QY.load_s rfl (Rd.ro m0) (Reads.row1 RowL.rrow ha rfl) | exact QK.lds) ?_ <;> (refine KP.e ?_; ((refine EK.call (greatIE (v := a.wv) hg) ?_ rfl Split.nil (.cons (.ro (B := AllA actA acts) (by simp) (AllA.at ha)) .nil)); repeat' first | refine CP.r ?_ | refine CP.r0 ?_ | refine CP.exP fun e23 => ?_ | refine CP.puP fun h23 => ?_)) <;> refine KP.list_nil ?_)
    | (refine CW.region (i := 5) ?_ <;> refine KP.q QK.as ?_ <;> refine KP.list_nil ?_)
    | ((with_reducible apply KP.fin1); (· rfl); (· rfl)))
        refine Fina.exP true (Fina.puP (fun h => by cases h) ?_)
        exact FA.ret
    · rw [List.take_of_length_le hge] at hb
      repeat' (first
    | (with_reducible refine CW.seq ?_)
    | (with_reducible refine KP.then_code ?_)
    | (with_reducible refine CW.skip ?_)
    | (with_reducible refine CW.ret ?_)
    | (with_reducible refine KP.then_ret ?_)
    | (with_reducible refine KP.block_ret ?_)
    | (with_reducible refine CW.block ?_)
    | (with_reducible refine KP.block_normal ?_)
    | (with_reducible refine CW.exit ?_)
    | (with_reducible refine KP.then_exit ?_)
    | (with_reducible refine KP.block_hit ?_)
    | refine KP.bm ?_
    | refine CW.ct ?_
    | refine CW.cf ?_
    | (refine CW.cP ?_ ?_ <;> intro _ <;> try contradiction)
    | (refine CW.cs ?_ ?_ <;> intro _ <;> try contradiction)
    | (refine CW.region (i := 2) ?_ <;> refine KP.q QK.mv ?_ <;> refine KP.q QK.mv ?_ <;> refine KP.q QK.len ?_ <;> refine KP.q QK.lss ?_ <;> refine KP.q QK.mv ?_ <;> (first | refine KP.gn ?_ | refine KP.gu ?_ | refine KP.qy QK.mv ?_ | ((first | refine KP.gsP (t := 10) ?_ ?_ | refine KP.gs (t := 10) ?_ ?_) <;> intro _ <;> first | contradiction | refine KP.gn ?_ | refine KP.qy QK.mv ?_)) <;> (first | refine KP.gn ?_ | refine KP.gu ?_ | refine KP.qy QK.len ?_) <;> (first | refine KP.gn ?_ | refine KP.gu ?_ | refine KP.qy QK.mv ?_) <;> (first | refine KP.gn ?_ | refine KP.gu ?_ | refine KP.qy QK.leq ?_) <;> refine KP.q QK.pk ?_ <;> refine KP.list_nil ?_)
    | (refine CW.region (i := 6) ?_ <;> refine KP.q QK.mv ?_ <;> refine KP.q QK.len ?_ <;> refine KP.q QK.mv ?_ <;> refine KP.q QK.gtr ?_ <;> refine KP.q QK.as ?_ <;> refine KP.list_nil ?_)
    | ((with_reducible apply KP.fin1); (· rfl); (· rfl)))
      refine Fina.exP false (Fina.puP (fun _ => ⟨by omega, hb⟩) ?_)
      exact FA.ret
  · rcases Nat.lt_or_ge i acts.length with hlt | hge
    · repeat' (first
    | (with_reducible refine CW.seq ?_)
    | (with_reducible refine KP.then_code ?_)
    | (with_reducible refine CW.skip ?_)
    | (with_reducible refine CW.ret ?_)
    | (with_reducible refine KP.then_ret ?_)
    | (with_reducible refine KP.block_ret ?_)
    | (with_reducible refine CW.block ?_)
    | (with_reducible refine KP.block_normal ?_)
    | (with_reducible refine CW.exit ?_)
    | (with_reducible refine KP.then_exit ?_)
    | (with_reducible refine KP.block_hit ?_)
    | refine KP.bm ?_
    | refine CW.ct ?_
    | refine CW.cf ?_
    | (refine CW.cP ?_ ?_ <;> intro _ <;> try contradiction)
    | (refine CW.cs ?_ ?_ <;> intro _ <;> try contradiction)
    | (refine CW.region (i := 2) ?_ <;> refine KP.q QK.mv ?_ <;> refine KP.q QK.mv ?_ <;> refine KP.q QK.len ?_ <;> refine KP.q QK.lss ?_ <;> refine KP.q QK.mv ?_ <;> (first | refine KP.gn ?_ | refine KP.gu ?_ | refine KP.qy QK.mv ?_ | ((first | refine KP.gsP (t := 10) ?_ ?_ | refine KP.gs (t := 10) ?_ ?_) <;> intro _ <;> first | contradiction | refine KP.gn ?_ | refine KP.qy QK.mv ?_)) <;> (first | refine KP.gn ?_ | refine KP.gu ?_ | refine KP.qy QK.len ?_) <;> (first | refine KP.gn ?_ | refine KP.gu ?_ | refine KP.qy QK.mv ?_) <;> (first | refine KP.gn ?_ | refine KP.gu ?_ | refine KP.qy QK.leq ?_) <;> refine KP.q QK.pk ?_ <;> refine KP.list_nil ?_)
    | (refine CW.region (i := 6) ?_ <;> refine KP.q QK.mv ?_ <;> refine KP.q QK.len ?_ <;> refine KP.q QK.mv ?_ <;> refine KP.q QK.gtr ?_ <;> refine KP.q QK.as ?_ <;> refine KP.list_nil ?_)
    | ((with_reducible apply KP.fin1); (· rfl); (· rfl)))
      refine Fina.exP true (Fina.puP (fun h => by cases h) ?_)
      exact FA.ret
    · repeat' (first
    | (with_reducible refine CW.seq ?_)
    | (with_reducible refine KP.then_code ?_)
    | (with_reducible refine CW.skip ?_)
    | (with_reducible refine CW.ret ?_)
    | (with_reducible refine KP.then_ret ?_)
    | (with_reducible refine KP.block_ret ?_)
    | (with_reducible refine CW.block ?_)
    | (with_reducible refine KP.block_normal ?_)
    | (with_reducible refine CW.exit ?_)
    | (with_reducible refine KP.then_exit ?_)
    | (with_reducible refine KP.block_hit ?_)
    | refine KP.bm ?_
    | refine CW.ct ?_
    | refine CW.cf ?_
    | (refine CW.cP ?_ ?_ <;> intro _ <;> try contradiction)
    | (refine CW.cs ?_ ?_ <;> intro _ <;> try contradiction)
    | (refine CW.region (i := 2) ?_ <;> refine KP.q QK.mv ?_ <;> refine KP.q QK.mv ?_ <;> refine KP.q QK.len ?_ <;> refine KP.q QK.lss ?_ <;> refine KP.q QK.mv ?_ <;> (first | refine KP.gn ?_ | refine KP.gu ?_ | refine KP.qy QK.mv ?_ | ((first | refine KP.gsP (t := 10) ?_ ?_ | refine KP.gs (t := 10) ?_ ?_) <;> intro _ <;> first | contradiction | refine KP.gn ?_ | refine KP.qy QK.mv ?_)) <;> (first | refine KP.gn ?_ | refine KP.gu ?_ | refine KP.qy QK.len ?_) <;> (first | refine KP.gn ?_ | refine KP.gu ?_ | refine KP.qy QK.mv ?_) <;> (first | refine KP.gn ?_ | refine KP.gu ?_ | refine KP.qy QK.leq ?_) <;> refine KP.q QK.pk ?_ <;> refine KP.list_nil ?_)
    | (refine CW.region (i := 6) ?_ <;> refine KP.q QK.mv ?_ <;> refine KP.q QK.len ?_ <;> refine KP.q QK.mv ?_ <;> refine KP.q QK.gtr ?_ <;> refine KP.q QK.as ?_ <;> refine KP.list_nil ?_)
    | ((with_reducible apply KP.fin1); (· rfl); (· rfl)))
      refine Fina.exP true (Fina.puP (fun h => by cases h) ?_)
      exact FA.ret

end Go.Proofs.Ytpmhelfdmhjnbaa
