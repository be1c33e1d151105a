import Derived.Test.YtnnobondpimnpaaQ8
/- QueueStops. -/
namespace Go.Proofs.Ytnnobondpimnpaa
open Go Go.Ink
set_option linter.unusedVariables false
set_option linter.unusedSimpArgs false
attribute [local irreducible] KP QY EW CW DW QG CP Spc DK Fina

theorem act_ask {c : Actn} : ∀ j v, (eA c.a)[j]? = some v → (eC c)[3 + j]? = some v := fun j v h => by
  have := act_part (c := c) j v h
  simpa using this
/-- The pushes of a list of acts, one after another. -/
def pushesF (l : List Ask) (cs : List Actn) : List Ask := cs.foldl (fun l c => (pushF l c.a).2) l
theorem pushes_step {cs : List Actn} {i : Nat} {c : Actn} (h : cs[i]? = some c) : pushesF [] (cs.take (i + 1)) = (pushF (pushesF [] (cs.take i)) c.a).2 := by
  unfold pushesF
  rw [List.take_add_one, h, List.foldl_append]; rfl
abbrev bigC (c : Actn) : Bool := decide (100 < c.a.text.size) || decide (100 < c.a.word.size)
def greatF (xs : List Actn) : Bool := decide (100 < xs.length) || xs.any bigC
theorem great_big {xs : List Actn} {i : Nat} {c : Actn} (h : xs[i]? = some c) (hb : 100 < c.a.text.size ∨ 100 < c.a.word.size) : greatF xs = true := by
  unfold greatF
  rw [Bool.or_eq_true]; right
  exact List.any_eq_true.2 ⟨c, List.mem_of_getElem? h, by simpa [bigC] using hb⟩
theorem great_len {xs : List Actn} (h : greatF xs = false) : xs.length ≤ 100 := by
  unfold greatF at h
  simp at h; omega



theorem great_eq {v : Value} {xs : List Actn} : Spc Try.prog 13 #[v] [rrow 14 eC v xs] [] (ret (.bool (greatF xs)) []) := by
  refine Spc.enter' (args := [v]) (T0 := [(0, v)]) Try.func13 rfl Try.ntmps13 (Nat.le_of_ble_eq_true rfl) rfl ?_
  intro w0 own
  refine CW.roFact (List.Mem.head _) (fun _ h => rrow.le h) fun hxs => ?_
  repeat' (first
    | (with_reducible refine CW.seq ?_)
    | (with_reducible refine CW.region ?_)
    | (with_reducible refine KP.list_nil ?_)
    | (with_reducible refine KP.then_code ?_)
    | (with_reducible refine CW.skip ?_)
    | (with_reducible refine CW.ret ?_)
    | (with_reducible refine KP.then_ret ?_)
    | (with_reducible refine KP.block_ret ?_)
    | (with_reducible refine CW.block ?_)
    | (with_reducible refine KP.block_normal ?_)
    | (with_reducible refine CW.exit ?_)
    | (with_reducible refine KP.then_exit ?_)
    | (with_reducible refine KP.block_hit ?_)
    | ((with_reducible refine KP.block_miss ?_ ?_); (· rfl))
    | ((with_reducible refine CW.cond_t ?_ ?_); (· rfl))
    | ((with_reducible refine CW.cond_f ?_ ?_); (· rfl))
    | ((with_reducible apply CW.condP); (· rfl))
    | ((with_reducible apply CW.cond); (· rfl))
    | (with_reducible refine CP.exP fun _ => ?_)
    | (with_reducible refine CP.puP fun _ => ?_)
    | ((with_reducible refine CP.ret_0 ?_ ?_); (· decide))
    | ((with_reducible refine CP.ret_1 ?_ ?_); (· decide))
    | ((with_reducible refine CP.ret_2 ?_ ?_); (· decide))
    | ((with_reducible refine CP.ret_3 ?_ ?_); (· decide))
    | ((with_reducible refine CP.ret_4 ?_ ?_); (· decide))
    | (with_reducible refine CP.ret0_0 ?_)
    | (with_reducible refine CP.ret0_1 ?_)
    | (with_reducible refine CP.ret0_2 ?_)
    | (with_reducible refine CP.ret0_3 ?_)
    | (with_reducible refine CP.ret0_4 ?_)
    | ((with_reducible apply KP.guard_yes); (· rfl); (· rfl))
    | ((with_reducible apply KP.guard_no); (· rfl); (· rfl); (· decide))
    | ((with_reducible apply KP.guard_un); (· rfl); (· rfl); (· decide))
    | ((with_reducible apply KP.guard_no0); (· rfl); (· rfl))
    | ((with_reducible apply KP.guard_un0); (· rfl); (· rfl))
    | ((with_reducible apply KP.quiet); (· first | exact QY.assign rfl | exact QY.move rfl | exact QY.len_row rfl (Rd.ro (by with_reducible first | exact m0 | exact m1 | exact m2 | exact m3 | exact m4 | exact m5 | fail)) RowL.rrow | exact QY.len_str rfl | exact QY.len rfl | exact QY.same (QY.lss rfl rfl) (dec_t (by omega)) | exact QY.same (QY.lss rfl rfl) (dec_f (by omega)) | exact QY.lss rfl rfl | exact QY.same (QY.leq rfl rfl) (dec_t (by omega)) | exact QY.same (QY.leq rfl rfl) (dec_f (by omega)) | exact QY.leq rfl rfl | exact QY.pick_t rfl rfl | exact QY.pick_f rfl rfl | exact QY.index (i := i) rfl rfl (Rd.ro (by with_reducible first | exact m0 | exact m1 | exact m2 | exact m3 | exact m4 | exact m5 | fail)) (RowL.rrow (n := 14)) (by omega) | exact QY.fieldAddr0 rfl | exact QY.fieldAddr rfl | exact QY.load_s rfl (Rd.ro (by with_reducible first | exact m0 | exact m1 | exact m2 | exact m3 | exact m4 | exact m5 | fail)) (Reads.row1 (i := i) (x := c) (enc := eC) (o := 8) RowL.rrow hc rfl) | exact QY.load_s rfl (Rd.ro (by with_reducible first | exact m0 | exact m1 | exact m2 | exact m3 | exact m4 | exact m5 | fail)) (Reads.row1 (i := i) (x := c) (enc := eC) (o := 13) RowL.rrow hc rfl) | exact QY.load_s rfl (Rd.own (by with_reducible first | exact k0 | exact k1 | exact k2 | exact k3 | exact k4 | exact k5 | exact k6 | exact k7 | exact k8 | exact k9 | fail)) (Reads.pt1 (by rfl)) | exact QY.load_a rfl (Rd.own (by with_reducible first | exact k0 | exact k1 | exact k2 | exact k3 | exact k4 | exact k5 | exact k6 | exact k7 | exact k8 | exact k9 | fail)) Reads.pt_all (by rfl) | exact QY.same (QY.gtr rfl rfl) (dec_t (by omega)) | exact QY.same (QY.gtr rfl rfl) (dec_f (by omega)) | exact QY.gtr rfl rfl | exact QY.inc64 rfl rfl (by omega) | exact QY.add64 rfl rfl (by omega) | exact QY.add rfl rfl); (· decide))
    | ((with_reducible apply KP.fin1); (· rfl); (· rfl))
    | ((with_reducible apply KP.fin2); (· rfl); (· rfl); (· rfl))
    | ((with_reducible refine KP.fin0 ?_ ?_); (· rfl))
    | ((with_reducible refine KP.fin0r ?_ ?_); (· rfl))
    | (intro _))
  refine CW.loop (X := Nat) (ks := [0, 3]) (fun i => [(0, v), (3, iv i)]) (fun _ => []) (fun i => i ≤ xs.length ∧ ∀ c ∈ xs.take i, bigC c = false) (fun i => xs.length - i) 0 ⟨by simp, by simp⟩ (by repeat first | exact Keeps.nil | (apply Keeps.cons; (· rfl))) Ent.nil ?_
  rintro i ⟨hi, hb⟩
  try dsimp only at hi hb ⊢
  rcases Nat.lt_or_ge i xs.length with hlt | hge
  · obtain ⟨c, hc⟩ : ∃ c, xs[i]? = some c := ⟨xs[i], by simp [hlt]⟩
    by_cases h100 : xs.length ≤ 100
    · by_cases hb1 : 100 < c.a.text.size
      · repeat' (first
    | (with_reducible refine CW.seq ?_)
    | (with_reducible refine CW.region ?_)
    | (with_reducible refine KP.list_nil ?_)
    | (with_reducible refine KP.then_code ?_)
    | (with_reducible refine CW.skip ?_)
    | (with_reducible refine CW.ret ?_)
    | (with_reducible refine KP.then_ret ?_)
    | (with_reducible refine KP.block_ret ?_)
    | (with_reducible refine CW.block ?_)
    | (with_reducible refine KP.block_normal ?_)
    | (with_reducible refine CW.exit ?_)
    | (with_reducible refine KP.then_exit ?_)
    | (with_reducible refine KP.block_hit ?_)
    | ((with_reducible refine KP.block_miss ?_ ?_); (· rfl))
    | ((with_reducible refine CW.cond_t ?_ ?_); (· rfl))
    | ((with_reducible refine CW.cond_f ?_ ?_); (· rfl))
    | ((with_reducible apply CW.condP); (· rfl))
    | ((with_reducible apply CW.cond); (· rfl))
    | (with_reducible refine CP.exP fun _ => ?_)
    | (with_reducible refine CP.puP fun _ => ?_)
    | ((with_reducible refine CP.ret_0 ?_ ?_); (· decide))
    | ((with_reducible refine CP.ret_1 ?_ ?_); (· decide))
    | ((with_reducible refine CP.ret_2 ?_ ?_); (· decide))
    | ((with_reducible refine CP.ret_3 ?_ ?_); (· decide))
    | ((with_reducible refine CP.ret_4 ?_ ?_); (· decide))
    | (with_reducible refine CP.ret0_0 ?_)
    | (with_reducible refine CP.ret0_1 ?_)
    | (with_reducible refine CP.ret0_2 ?_)
    | (with_reducible refine CP.ret0_3 ?_)
    | (with_reducible refine CP.ret0_4 ?_)
    | ((with_reducible apply KP.guard_yes); (· rfl); (· rfl))
    | ((with_reducible apply KP.guard_no); (· rfl); (· rfl); (· decide))
    | ((with_reducible apply KP.guard_un); (· rfl); (· rfl); (· decide))
    | ((with_reducible apply KP.guard_no0); (· rfl); (· rfl))
    | ((with_reducible apply KP.guard_un0); (· rfl); (· rfl))
    | ((with_reducible apply KP.quiet); (· first | exact QY.assign rfl | exact QY.move rfl | exact QY.len_row rfl (Rd.ro (by with_reducible first | exact m0 | exact m1 | exact m2 | exact m3 | exact m4 | exact m5 | fail)) RowL.rrow | exact QY.len_str rfl | exact QY.len rfl | exact QY.same (QY.lss rfl rfl) (dec_t (by omega)) | exact QY.same (QY.lss rfl rfl) (dec_f (by omega)) | exact QY.lss rfl rfl | exact QY.same (QY.leq rfl rfl) (dec_t (by omega)) | exact QY.same (QY.leq rfl rfl) (dec_f (by omega)) | exact QY.leq rfl rfl | exact QY.pick_t rfl rfl | exact QY.pick_f rfl rfl | exact QY.index (i := i) rfl rfl (Rd.ro (by with_reducible first | exact m0 | exact m1 | exact m2 | exact m3 | exact m4 | exact m5 | fail)) (RowL.rrow (n := 14)) (by omega) | exact QY.fieldAddr0 rfl | exact QY.fieldAddr rfl | exact QY.load_s rfl (Rd.ro (by with_reducible first | exact m0 | exact m1 | exact m2 | exact m3 | exact m4 | exact m5 | fail)) (Reads.row1 (i := i) (x := c) (enc := eC) (o := 8) RowL.rrow hc rfl) | exact QY.load_s rfl (Rd.ro (by with_reducible first | exact m0 | exact m1 | exact m2 | exact m3 | exact m4 | exact m5 | fail)) (Reads.row1 (i := i) (x := c) (enc := eC) (o := 13) RowL.rrow hc rfl) | exact QY.load_s rfl (Rd.own (by with_reducible first | exact k0 | exact k1 | exact k2 | exact k3 | exact k4 | exact k5 | exact k6 | exact k7 | exact k8 | exact k9 | fail)) (Reads.pt1 (by rfl)) | exact QY.load_a rfl (Rd.own (by with_reducible first | exact k0 | exact k1 | exact k2 | exact k3 | exact k4 | exact k5 | exact k6 | exact k7 | exact k8 | exact k9 | fail)) Reads.pt_all (by rfl) | exact QY.same (QY.gtr rfl rfl) (dec_t (by omega)) | exact QY.same (QY.gtr rfl rfl) (dec_f (by omega)) | exact QY.gtr rfl rfl | exact QY.inc64 rfl rfl (by omega) | exact QY.add64 rfl rfl (by omega) | exact QY.add rfl rfl); (· decide))
    | ((with_reducible apply KP.fin1); (· rfl); (· rfl))
    | ((with_reducible apply KP.fin2); (· rfl); (· rfl); (· rfl))
    | ((with_reducible refine KP.fin0 ?_ ?_); (· rfl))
    | ((with_reducible refine KP.fin0r ?_ ?_); (· rfl))
    | (intro _))
        exact Fina.ret' (by rw [great_big hc (.inl hb1)]) .nil
      · by_cases hb2 : 100 < c.a.word.size
        · repeat' (first
    | (with_reducible refine CW.seq ?_)
    | (with_reducible refine CW.region ?_)
    | (with_reducible refine KP.list_nil ?_)
    | (with_reducible refine KP.then_code ?_)
    | (with_reducible refine CW.skip ?_)
    | (with_reducible refine CW.ret ?_)
    | (with_reducible refine KP.then_ret ?_)
    | (with_reducible refine KP.block_ret ?_)
    | (with_reducible refine CW.block ?_)
    | (with_reducible refine KP.block_normal ?_)
    | (with_reducible refine CW.exit ?_)
    | (with_reducible refine KP.then_exit ?_)
    | (with_reducible refine KP.block_hit ?_)
    | ((with_reducible refine KP.block_miss ?_ ?_); (· rfl))
    | ((with_reducible refine CW.cond_t ?_ ?_); (· rfl))
    | ((with_reducible refine CW.cond_f ?_ ?_); (· rfl))
    | ((with_reducible apply CW.condP); (· rfl))
    | ((with_reducible apply CW.cond); (· rfl))
    | (with_reducible refine CP.exP fun _ => ?_)
    | (with_reducible refine CP.puP fun _ => ?_)
    | ((with_reducible refine CP.ret_0 ?_ ?_); (· decide))
    | ((with_reducible refine CP.ret_1 ?_ ?_); (· decide))
    | ((with_reducible refine CP.ret_2 ?_ ?_); (· decide))
    | ((with_reducible refine CP.ret_3 ?_ ?_); (· decide))
    | ((with_reducible refine CP.ret_4 ?_ ?_); (· decide))
    | (with_reducible refine CP.ret0_0 ?_)
    | (with_reducible refine CP.ret0_1 ?_)
    | (with_reducible refine CP.ret0_2 ?_)
    | (with_reducible refine CP.ret0_3 ?_)
    | (with_reducible refine CP.ret0_4 ?_)
    | ((with_reducible apply KP.guard_yes); (· rfl); (· rfl))
    | ((with_reducible apply KP.guard_no); (· rfl); (· rfl); (· decide))
    | ((with_reducible apply KP.guard_un); (· rfl); (· rfl); (· decide))
    | ((with_reducible apply KP.guard_no0); (· rfl); (· rfl))
    | ((with_reducible apply KP.guard_un0); (· rfl); (· rfl))
    | ((with_reducible apply KP.quiet); (· first | exact QY.assign rfl | exact QY.move rfl | exact QY.len_row rfl (Rd.ro (by with_reducible first | exact m0 | exact m1 | exact m2 | exact m3 | exact m4 | exact m5 | fail)) RowL.rrow | exact QY.len_str rfl | exact QY.len rfl | exact QY.same (QY.lss rfl rfl) (dec_t (by omega)) | exact QY.same (QY.lss rfl rfl) (dec_f (by omega)) | exact QY.lss rfl rfl | exact QY.same (QY.leq rfl rfl) (dec_t (by omega)) | exact QY.same (QY.leq rfl rfl) (dec_f (by omega)) | exact QY.leq rfl rfl | exact QY.pick_t rfl rfl | exact QY.pick_f rfl rfl | exact QY.index (i := i) rfl rfl (Rd.ro (by with_reducible first | exact m0 | exact m1 | exact m2 | exact m3 | exact m4 | exact m5 | fail)) (RowL.rrow (n := 14)) (by omega) | exact QY.fieldAddr0 rfl | exact QY.fieldAddr rfl | exact QY.load_s rfl (Rd.ro (by with_reducible first | exact m0 | exact m1 | exact m2 | exact m3 | exact m4 | exact m5 | fail)) (Reads.row1 (i := i) (x := c) (enc := eC) (o := 8) RowL.rrow hc rfl) | exact QY.load_s rfl (Rd.ro (by with_reducible first | exact m0 | exact m1 | exact m2 | exact m3 | exact m4 | exact m5 | fail)) (Reads.row1 (i := i) (x := c) (enc := eC) (o := 13) RowL.rrow hc rfl) | exact QY.load_s rfl (Rd.own (by with_reducible first | exact k0 | exact k1 | exact k2 | exact k3 | exact k4 | exact k5 | exact k6 | exact k7 | exact k8 | exact k9 | fail)) (Reads.pt1 (by rfl)) | exact QY.load_a rfl (Rd.own (by with_reducible first | exact k0 | exact k1 | exact k2 | exact k3 | exact k4 | exact k5 | exact k6 | exact k7 | exact k8 | exact k9 | fail)) Reads.pt_all (by rfl) | exact QY.same (QY.gtr rfl rfl) (dec_t (by omega)) | exact QY.same (QY.gtr rfl rfl) (dec_f (by omega)) | exact QY.gtr rfl rfl | exact QY.inc64 rfl rfl (by omega) | exact QY.add64 rfl rfl (by omega) | exact QY.add rfl rfl); (· decide))
    | ((with_reducible apply KP.fin1); (· rfl); (· rfl))
    | ((with_reducible apply KP.fin2); (· rfl); (· rfl); (· rfl))
    | ((with_reducible refine KP.fin0 ?_ ?_); (· rfl))
    | ((with_reducible refine KP.fin0r ?_ ?_); (· rfl))
    | (intro _))
          exact Fina.ret' (by rw [great_big hc (.inr hb2)]) .nil
        · repeat' (first
    | (with_reducible refine CW.seq ?_)
    | (with_reducible refine CW.region ?_)
    | (with_reducible refine KP.list_nil ?_)
    | (with_reducible refine KP.then_code ?_)
    | (with_reducible refine CW.skip ?_)
    | (with_reducible refine CW.ret ?_)
    | (with_reducible refine KP.then_ret ?_)
    | (with_reducible refine KP.block_ret ?_)
    | (with_reducible refine CW.block ?_)
    | (with_reducible refine KP.block_normal ?_)
    | (with_reducible refine CW.exit ?_)
    | (with_reducible refine KP.then_exit ?_)
    | (with_reducible refine KP.block_hit ?_)
    | ((with_reducible refine KP.block_miss ?_ ?_); (· rfl))
    | ((with_reducible refine CW.cond_t ?_ ?_); (· rfl))
    | ((with_reducible refine CW.cond_f ?_ ?_); (· rfl))
    | ((with_reducible apply CW.condP); (· rfl))
    | ((with_reducible apply CW.cond); (· rfl))
    | (with_reducible refine CP.exP fun _ => ?_)
    | (with_reducible refine CP.puP fun _ => ?_)
    | ((with_reducible refine CP.ret_0 ?_ ?_); (· decide))
    | ((with_reducible refine CP.ret_1 ?_ ?_); (· decide))
    | ((with_reducible refine CP.ret_2 ?_ ?_); (· decide))
    | ((with_reducible refine CP.ret_3 ?_ ?_); (· decide))
    | ((with_reducible refine CP.ret_4 ?_ ?_); (· decide))
    | (with_reducible refine CP.ret0_0 ?_)
    | (with_reducible refine CP.ret0_1 ?_)
    | (with_reducible refine CP.ret0_2 ?_)
    | (with_reducible refine CP.ret0_3 ?_)
    | (with_reducible refine CP.ret0_4 ?_)
    | ((with_reducible apply KP.guard_yes); (· rfl); (· rfl))
    | ((with_reducible apply KP.guard_no); (· rfl); (· rfl); (· decide))
    | ((with_reducible apply KP.guard_un); (· rfl); (· rfl); (· decide))
    | ((with_reducible apply KP.guard_no0); (· rfl); (· rfl))
    | ((with_reducible apply KP.guard_un0); (· rfl); (· rfl))
    | ((with_reducible apply KP.quiet); (· first | exact QY.assign rfl | exact QY.move rfl | exact QY.len_row rfl (Rd.ro (by with_reducible first | exact m0 | exact m1 | exact m2 | exact m3 | exact m4 | exact m5 | fail)) RowL.rrow | exact QY.len_str rfl | exact QY.len rfl | exact QY.same (QY.lss rfl rfl) (dec_t (by omega)) | exact QY.same (QY.lss rfl rfl) (dec_f (by omega)) | exact QY.lss rfl rfl | exact QY.same (QY.leq rfl rfl) (dec_t (by omega)) | exact QY.same (QY.leq rfl rfl) (dec_f (by omega)) | exact QY.leq rfl rfl | exact QY.pick_t rfl rfl | exact QY.pick_f rfl rfl | exact QY.index (i := i) rfl rfl (Rd.ro (by with_reducible first | exact m0 | exact m1 | exact m2 | exact m3 | exact m4 | exact m5 | fail)) (RowL.rrow (n := 14)) (by omega) | exact QY.fieldAddr0 rfl | exact QY.fieldAddr rfl | exact QY.load_s rfl (Rd.ro (by with_reducible first | exact m0 | exact m1 | exact m2 | exact m3 | exact m4 | exact m5 | fail)) (Reads.row1 (i := i) (x := c) (enc := eC) (o := 8) RowL.rrow hc rfl) | exact QY.load_s rfl (Rd.ro (by with_reducible first | exact m0 | exact m1 | exact m2 | exact m3 | exact m4 | exact m5 | fail)) (Reads.row1 (i := i) (x := c) (enc := eC) (o := 13) RowL.rrow hc rfl) | exact QY.load_s rfl (Rd.own (by with_reducible first | exact k0 | exact k1 | exact k2 | exact k3 | exact k4 | exact k5 | exact k6 | exact k7 | exact k8 | exact k9 | fail)) (Reads.pt1 (by rfl)) | exact QY.load_a rfl (Rd.own (by with_reducible first | exact k0 | exact k1 | exact k2 | exact k3 | exact k4 | exact k5 | exact k6 | exact k7 | exact k8 | exact k9 | fail)) Reads.pt_all (by rfl) | exact QY.same (QY.gtr rfl rfl) (dec_t (by omega)) | exact QY.same (QY.gtr rfl rfl) (dec_f (by omega)) | exact QY.gtr rfl rfl | exact QY.inc64 rfl rfl (by omega) | exact QY.add64 rfl rfl (by omega) | exact QY.add rfl rfl); (· decide))
    | ((with_reducible apply KP.fin1); (· rfl); (· rfl))
    | ((with_reducible apply KP.fin2); (· rfl); (· rfl); (· rfl))
    | ((with_reducible refine KP.fin0 ?_ ?_); (· rfl))
    | ((with_reducible refine KP.fin0r ?_ ?_); (· rfl))
    | (intro _))
          refine KP.round (ks := [0, 3]) (i + 1) ⟨by omega, fun d hd => ?_⟩ (by first | omega | (simp only; omega)) (by repeat first | exact Keeps.nil | (apply Keeps.cons; (· rfl))) Ent.nil
          rw [List.take_add_one, hc] at hd
          rcases List.mem_append.1 hd with hd | hd
          · exact hb d hd
          · simp at hd; subst hd; simp [bigC]; omega
    · repeat' (first
    | (with_reducible refine CW.seq ?_)
    | (with_reducible refine CW.region ?_)
    | (with_reducible refine KP.list_nil ?_)
    | (with_reducible refine KP.then_code ?_)
    | (with_reducible refine CW.skip ?_)
    | (with_reducible refine CW.ret ?_)
    | (with_reducible refine KP.then_ret ?_)
    | (with_reducible refine KP.block_ret ?_)
    | (with_reducible refine CW.block ?_)
    | (with_reducible refine KP.block_normal ?_)
    | (with_reducible refine CW.exit ?_)
    | (with_reducible refine KP.then_exit ?_)
    | (with_reducible refine KP.block_hit ?_)
    | ((with_reducible refine KP.block_miss ?_ ?_); (· rfl))
    | ((with_reducible refine CW.cond_t ?_ ?_); (· rfl))
    | ((with_reducible refine CW.cond_f ?_ ?_); (· rfl))
    | ((with_reducible apply CW.condP); (· rfl))
    | ((with_reducible apply CW.cond); (· rfl))
    | (with_reducible refine CP.exP fun _ => ?_)
    | (with_reducible refine CP.puP fun _ => ?_)
    | ((with_reducible refine CP.ret_0 ?_ ?_); (· decide))
    | ((with_reducible refine CP.ret_1 ?_ ?_); (· decide))
    | ((with_reducible refine CP.ret_2 ?_ ?_); (· decide))
    | ((with_reducible refine CP.ret_3 ?_ ?_); (· decide))
    | ((with_reducible refine CP.ret_4 ?_ ?_); (· decide))
    | (with_reducible refine CP.ret0_0 ?_)
    | (with_reducible refine CP.ret0_1 ?_)
    | (with_reducible refine CP.ret0_2 ?_)
    | (with_reducible refine CP.ret0_3 ?_)
    | (with_reducible refine CP.ret0_4 ?_)
    | ((with_reducible apply KP.guard_yes); (· rfl); (· rfl))
    | ((with_reducible apply KP.guard_no); (· rfl); (· rfl); (· decide))
    | ((with_reducible apply KP.guard_un); (· rfl); (· rfl); (· decide))
    | ((with_reducible apply KP.guard_no0); (· rfl); (· rfl))
    | ((with_reducible apply KP.guard_un0); (· rfl); (· rfl))
    | ((with_reducible apply KP.quiet); (· first | exact QY.assign rfl | exact QY.move rfl | exact QY.len_row rfl (Rd.ro (by with_reducible first | exact m0 | exact m1 | exact m2 | exact m3 | exact m4 | exact m5 | fail)) RowL.rrow | exact QY.len_str rfl | exact QY.len rfl | exact QY.same (QY.lss rfl rfl) (dec_t (by omega)) | exact QY.same (QY.lss rfl rfl) (dec_f (by omega)) | exact QY.lss rfl rfl | exact QY.same (QY.leq rfl rfl) (dec_t (by omega)) | exact QY.same (QY.leq rfl rfl) (dec_f (by omega)) | exact QY.leq rfl rfl | exact QY.pick_t rfl rfl | exact QY.pick_f rfl rfl | exact QY.index (i := i) rfl rfl (Rd.ro (by with_reducible first | exact m0 | exact m1 | exact m2 | exact m3 | exact m4 | exact m5 | fail)) (RowL.rrow (n := 14)) (by omega) | exact QY.fieldAddr0 rfl | exact QY.fieldAddr rfl | exact QY.load_s rfl (Rd.ro (by with_reducible first | exact m0 | exact m1 | exact m2 | exact m3 | exact m4 | exact m5 | fail)) (Reads.row1 (i := i) (x := c) (enc := eC) (o := 8) RowL.rrow hc rfl) | exact QY.load_s rfl (Rd.ro (by with_reducible first | exact m0 | exact m1 | exact m2 | exact m3 | exact m4 | exact m5 | fail)) (Reads.row1 (i := i) (x := c) (enc := eC) (o := 13) RowL.rrow hc rfl) | exact QY.load_s rfl (Rd.own (by with_reducible first | exact k0 | exact k1 | exact k2 | exact k3 | exact k4 | exact k5 | exact k6 | exact k7 | exact k8 | exact k9 | fail)) (Reads.pt1 (by rfl)) | exact QY.load_a rfl (Rd.own (by with_reducible first | exact k0 | exact k1 | exact k2 | exact k3 | exact k4 | exact k5 | exact k6 | exact k7 | exact k8 | exact k9 | fail)) Reads.pt_all (by rfl) | exact QY.same (QY.gtr rfl rfl) (dec_t (by omega)) | exact QY.same (QY.gtr rfl rfl) (dec_f (by omega)) | exact QY.gtr rfl rfl | exact QY.inc64 rfl rfl (by omega) | exact QY.add64 rfl rfl (by omega) | exact QY.add rfl rfl); (· decide))
    | ((with_reducible apply KP.fin1); (· rfl); (· rfl))
    | ((with_reducible apply KP.fin2); (· rfl); (· rfl); (· rfl))
    | ((with_reducible refine KP.fin0 ?_ ?_); (· rfl))
    | ((with_reducible refine KP.fin0r ?_ ?_); (· rfl))
    | (intro _))
      exact Fina.ret' (by unfold greatF; simp; omega) .nil
  · by_cases h100 : xs.length ≤ 100
    · repeat' (first
    | (with_reducible refine CW.seq ?_)
    | (with_reducible refine CW.region ?_)
    | (with_reducible refine KP.list_nil ?_)
    | (with_reducible refine KP.then_code ?_)
    | (with_reducible refine CW.skip ?_)
    | (with_reducible refine CW.ret ?_)
    | (with_reducible refine KP.then_ret ?_)
    | (with_reducible refine KP.block_ret ?_)
    | (with_reducible refine CW.block ?_)
    | (with_reducible refine KP.block_normal ?_)
    | (with_reducible refine CW.exit ?_)
    | (with_reducible refine KP.then_exit ?_)
    | (with_reducible refine KP.block_hit ?_)
    | ((with_reducible refine KP.block_miss ?_ ?_); (· rfl))
    | ((with_reducible refine CW.cond_t ?_ ?_); (· rfl))
    | ((with_reducible refine CW.cond_f ?_ ?_); (· rfl))
    | ((with_reducible apply CW.condP); (· rfl))
    | ((with_reducible apply CW.cond); (· rfl))
    | (with_reducible refine CP.exP fun _ => ?_)
    | (with_reducible refine CP.puP fun _ => ?_)
    | ((with_reducible refine CP.ret_0 ?_ ?_); (· decide))
    | ((with_reducible refine CP.ret_1 ?_ ?_); (· decide))
    | ((with_reducible refine CP.ret_2 ?_ ?_); (· decide))
    | ((with_reducible refine CP.ret_3 ?_ ?_); (· decide))
    | ((with_reducible refine CP.ret_4 ?_ ?_); (· decide))
    | (with_reducible refine CP.ret0_0 ?_)
    | (with_reducible refine CP.ret0_1 ?_)
    | (with_reducible refine CP.ret0_2 ?_)
    | (with_reducible refine CP.ret0_3 ?_)
    | (with_reducible refine CP.ret0_4 ?_)
    | ((with_reducible apply KP.guard_yes); (· rfl); (· rfl))
    | ((with_reducible apply KP.guard_no); (· rfl); (· rfl); (· decide))
    | ((with_reducible apply KP.guard_un); (· rfl); (· rfl); (· decide))
    | ((with_reducible apply KP.guard_no0); (· rfl); (· rfl))
    | ((with_reducible apply KP.guard_un0); (· rfl); (· rfl))
    | ((with_reducible apply KP.quiet); (· first | exact QY.assign rfl | exact QY.move rfl | exact QY.len_row rfl (Rd.ro (by with_reducible first | exact m0 | exact m1 | exact m2 | exact m3 | exact m4 | exact m5 | fail)) RowL.rrow | exact QY.len_str rfl | exact QY.len rfl | exact QY.same (QY.lss rfl rfl) (dec_t (by omega)) | exact QY.same (QY.lss rfl rfl) (dec_f (by omega)) | exact QY.lss rfl rfl | exact QY.same (QY.leq rfl rfl) (dec_t (by omega)) | exact QY.same (QY.leq rfl rfl) (dec_f (by omega)) | exact QY.leq rfl rfl | exact QY.pick_t rfl rfl | exact QY.pick_f rfl rfl | exact QY.index (i := i) rfl rfl (Rd.ro (by with_reducible first | exact m0 | exact m1 | exact m2 | exact m3 | exact m4 | exact m5 | fail)) (RowL.rrow (n := 14)) (by omega) | exact QY.fieldAddr0 rfl | exact QY.fieldAddr rfl | exact QY.load_s rfl (Rd.ro (by with_reducible first | exact m0 | exact m1 | exact m2 | exact m3 | exact m4 | exact m5 | fail)) (Reads.row1 (i := i) (x := c) (enc := eC) (o := 8) RowL.rrow hc rfl) | exact QY.load_s rfl (Rd.ro (by with_reducible first | exact m0 | exact m1 | exact m2 | exact m3 | exact m4 | exact m5 | fail)) (Reads.row1 (i := i) (x := c) (enc := eC) (o := 13) RowL.rrow hc rfl) | exact QY.load_s rfl (Rd.own (by with_reducible first | exact k0 | exact k1 | exact k2 | exact k3 | exact k4 | exact k5 | exact k6 | exact k7 | exact k8 | exact k9 | fail)) (Reads.pt1 (by rfl)) | exact QY.load_a rfl (Rd.own (by with_reducible first | exact k0 | exact k1 | exact k2 | exact k3 | exact k4 | exact k5 | exact k6 | exact k7 | exact k8 | exact k9 | fail)) Reads.pt_all (by rfl) | exact QY.same (QY.gtr rfl rfl) (dec_t (by omega)) | exact QY.same (QY.gtr rfl rfl) (dec_f (by omega)) | exact QY.gtr rfl rfl | exact QY.inc64 rfl rfl (by omega) | exact QY.add64 rfl rfl (by omega) | exact QY.add rfl rfl); (· decide))
    | ((with_reducible apply KP.fin1); (· rfl); (· rfl))
    | ((with_reducible apply KP.fin2); (· rfl); (· rfl); (· rfl))
    | ((with_reducible refine KP.fin0 ?_ ?_); (· rfl))
    | ((with_reducible refine KP.fin0r ?_ ?_); (· rfl))
    | (intro _))
      refine Fina.ret' ?_ .nil
      rw [List.take_of_length_le hge] at hb
      have : greatF xs = false := by
        unfold greatF
        rw [Bool.or_eq_false_iff]
        exact ⟨by simp; omega, by rw [List.any_eq_false]; intro c hc; simp [hb c hc]⟩
      rw [this]
    · repeat' (first
    | (with_reducible refine CW.seq ?_)
    | (with_reducible refine CW.region ?_)
    | (with_reducible refine KP.list_nil ?_)
    | (with_reducible refine KP.then_code ?_)
    | (with_reducible refine CW.skip ?_)
    | (with_reducible refine CW.ret ?_)
    | (with_reducible refine KP.then_ret ?_)
    | (with_reducible refine KP.block_ret ?_)
    | (with_reducible refine CW.block ?_)
    | (with_reducible refine KP.block_normal ?_)
    | (with_reducible refine CW.exit ?_)
    | (with_reducible refine KP.then_exit ?_)
    | (with_reducible refine KP.block_hit ?_)
    | ((with_reducible refine KP.block_miss ?_ ?_); (· rfl))
    | ((with_reducible refine CW.cond_t ?_ ?_); (· rfl))
    | ((with_reducible refine CW.cond_f ?_ ?_); (· rfl))
    | ((with_reducible apply CW.condP); (· rfl))
    | ((with_reducible apply CW.cond); (· rfl))
    | (with_reducible refine CP.exP fun _ => ?_)
    | (with_reducible refine CP.puP fun _ => ?_)
    | ((with_reducible refine CP.ret_0 ?_ ?_); (· decide))
    | ((with_reducible refine CP.ret_1 ?_ ?_); (· decide))
    | ((with_reducible refine CP.ret_2 ?_ ?_); (· decide))
    | ((with_reducible refine CP.ret_3 ?_ ?_); (· decide))
    | ((with_reducible refine CP.ret_4 ?_ ?_); (· decide))
    | (with_reducible refine CP.ret0_0 ?_)
    | (with_reducible refine CP.ret0_1 ?_)
    | (with_reducible refine CP.ret0_2 ?_)
    | (with_reducible refine CP.ret0_3 ?_)
    | (with_reducible refine CP.ret0_4 ?_)
    | ((with_reducible apply KP.guard_yes); (· rfl); (· rfl))
    | ((with_reducible apply KP.guard_no); (· rfl); (· rfl); (· decide))
    | ((with_reducible apply KP.guard_un); (· rfl); (· rfl); (· decide))
    | ((with_reducible apply KP.guard_no0); (· rfl); (· rfl))
    | ((with_reducible apply KP.guard_un0); (· rfl); (· rfl))
    | ((with_reducible apply KP.quiet); (· first | exact QY.assign rfl | exact QY.move rfl | exact QY.len_row rfl (Rd.ro (by with_reducible first | exact m0 | exact m1 | exact m2 | exact m3 | exact m4 | exact m5 | fail)) RowL.rrow | exact QY.len_str rfl | exact QY.len rfl | exact QY.same (QY.lss rfl rfl) (dec_t (by omega)) | exact QY.same (QY.lss rfl rfl) (dec_f (by omega)) | exact QY.lss rfl rfl | exact QY.same (QY.leq rfl rfl) (dec_t (by omega)) | exact QY.same (QY.leq rfl rfl) (dec_f (by omega)) | exact QY.leq rfl rfl | exact QY.pick_t rfl rfl | exact QY.pick_f rfl rfl | exact QY.index (i := i) rfl rfl (Rd.ro (by with_reducible first | exact m0 | exact m1 | exact m2 | exact m3 | exact m4 | exact m5 | fail)) (RowL.rrow (n := 14)) (by omega) | exact QY.fieldAddr0 rfl | exact QY.fieldAddr rfl | exact QY.load_s rfl (Rd.ro (by with_reducible first | exact m0 | exact m1 | exact m2 | exact m3 | exact m4 | exact m5 | fail)) (Reads.row1 (i := i) (x := c) (enc := eC) (o := 8) RowL.rrow hc rfl) | exact QY.load_s rfl (Rd.ro (by with_reducible first | exact m0 | exact m1 | exact m2 | exact m3 | exact m4 | exact m5 | fail)) (Reads.row1 (i := i) (x := c) (enc := eC) (o := 13) RowL.rrow hc rfl) | exact QY.load_s rfl (Rd.own (by with_reducible first | exact k0 | exact k1 | exact k2 | exact k3 | exact k4 | exact k5 | exact k6 | exact k7 | exact k8 | exact k9 | fail)) (Reads.pt1 (by rfl)) | exact QY.load_a rfl (Rd.own (by with_reducible first | exact k0 | exact k1 | exact k2 | exact k3 | exact k4 | exact k5 | exact k6 | exact k7 | exact k8 | exact k9 | fail)) Reads.pt_all (by rfl) | exact QY.same (QY.gtr rfl rfl) (dec_t (by omega)) | exact QY.same (QY.gtr rfl rfl) (dec_f (by omega)) | exact QY.gtr rfl rfl | exact QY.inc64 rfl rfl (by omega) | exact QY.add64 rfl rfl (by omega) | exact QY.add rfl rfl); (· decide))
    | ((with_reducible apply KP.fin1); (· rfl); (· rfl))
    | ((with_reducible apply KP.fin2); (· rfl); (· rfl); (· rfl))
    | ((with_reducible refine KP.fin0 ?_ ?_); (· rfl))
    | ((with_reducible refine KP.fin0r ?_ ?_); (· rfl))
    | (intro _))
      exact Fina.ret' (by unfold greatF; simp; omega) .nil

theorem great_t {v : Value} {xs : List Actn} (h : greatF xs = true) : Spc Try.prog 13 #[v] [rrow 14 eC v xs] [] (ret (.bool true) []) := h ▸ great_eq
theorem great_f {v : Value} {xs : List Actn} (h : greatF xs = false) : Spc Try.prog 13 #[v] [rrow 14 eC v xs] [] (ret (.bool false) []) := h ▸ great_eq
theorem stop_at {q : Nat} {l : List Ask} {slot query : Int} : Spc Try.prog 15 #[qp q, iv slot, iv query] [] [Qu q l] (ret (iv ((l.length : Int) - ((keepF slot query l).length : Int))) [Qu q (keepF slot query l)]) := stop_spec
theorem keep_keep {l : List Ask} {slot query : Int} : keepF slot query (keepF slot query l) = keepF slot query l := by
  unfold keepF; simp [List.filter_filter]
theorem stop_again {q : Nat} {l : List Ask} {slot query : Int} : Spc Try.prog 15 #[qp q, iv slot, iv query] [] [Qu q (keepF slot query l)] (ret (iv 0) [Qu q (keepF slot query l)]) := by
  have := stop_at (q := q) (l := keepF slot query l) (slot := slot) (query := query)
  rw [keep_keep, Int.sub_self] at this; exact this
theorem same_refl {va vb' : Value} {xs : List Ask} : Spc Try.prog 16 #[va, vb'] [rrow 11 eA va xs, rrow 11 eA vb' xs] [] (ret (.bool true) []) := by
  have := same_spec (va := va) (vb' := vb') (xs := xs) (ys := xs)
  simp only [decide_true] at this; exact this
theorem app_okK {l : List Ask} {a : Ask} (h : l.length ≤ 24) : l.length + [a].length ≤ maxLen ∧ (l.length + [a].length) * 104 ≤ 140737488355328 := by
  simp [maxLen]; omega
theorem QF.fact {q : Nat} {l : List Ask} {h : Frag} (s : Qu q l h) : ∃ m, QF l m := by
  obtain ⟨z, hz, _⟩ := s
  exact ⟨_, hz.1⟩
theorem Reads.rowp {α : Type _} {enc : α → List Value} {n : Nat} [E : Enc enc n] {A : Asrt} {v : Value} {xs : List α} (r : RowL A n enc v xs) {i o : Nat} {x : α} {cs : List Value} (hx : xs[i]? = some x) (ho : ∀ j u, cs[j]? = some u → (enc x)[o + j]? = some u) : Reads A (vb v) (vo v + i * n + o) cs := by
  intro h ha j u hj
  have := Reads.row r hx h ha (o + j) u (ho j u hj)
  rw [Nat.add_assoc]; rw [Nat.add_assoc] at this; simpa [Nat.add_assoc] using this
end Go.Proofs.Ytnnobondpimnpaa
