import Derived.Test.YtpmhelfdmhjnbaaR4
import Derived.Test.YtpmhelfdmhjnbaaT5
/- Lists of words: Word, Compare, Good; edit.rows, Runes, Distance. -/
namespace Go.Proofs.Ytpmhelfdmhjnbaa
open Go Go.Ink Go.Plain
set_option linter.unusedVariables false
set_option linter.unusedSimpArgs false
attribute [local irreducible] KP QY EW CW DW QG CP Spc DK Fina wpList lessF

def wordF (s : ByteArray) : Bool := decide (1 ≤ lenF s) && decide (lenF s ≤ 12)
theorem word_fine {s : ByteArray} (h : wordF s = true) : fine s = true := by
  unfold wordF lenF at h
  by_cases hf : fine s = true
  · exact hf
  · rw [if_neg hf] at h; simp at h

theorem word_spec {s : ByteArray} (hs : s.size ≤ 1000000) : Spc Try.prog 84 #[.string s] [] [] (ret (.bool (wordF s)) []) := by
  refine Spc.enter' (args := [.string s]) (T0 := [(0, .string s)]) Try.func84 rfl Try.ntmps84 (Nat.le_of_ble_eq_true rfl) rfl ?_
  intro w0 own
  repeat' (first
    | (with_reducible refine CW.seq ?_)
    | (with_reducible refine KP.then_code ?_)
    | (with_reducible refine CW.skip ?_)
    | (with_reducible refine CW.ret ?_)
    | (with_reducible refine KP.then_ret ?_)
    | (with_reducible refine KP.block_ret ?_)
    | (with_reducible refine CW.block ?_)
    | (with_reducible refine KP.block_normal ?_)
    | (with_reducible refine CW.exit ?_)
    | (with_reducible refine KP.then_exit ?_)
    | (with_reducible refine KP.block_hit ?_)
    | refine KP.bm ?_
    | refine CW.ct ?_
    | refine CW.cf ?_
    | (refine CW.cP ?_ ?_ <;> intro _ <;> try contradiction)
    | (refine CW.cs ?_ ?_ <;> intro _ <;> try contradiction)
    | (refine CW.region (i := 0) ?_ <;> refine KP.q QK.as ?_ <;> refine KP.list_nil ?_)
    | (refine CW.region (i := 1) ?_ <;> refine KP.q QK.mv ?_ <;> (refine KP.e ?_; ((refine EK.call (rlen_spec hs) ?_); repeat' first | refine CP.r ?_ | refine CP.r0 ?_ | refine CP.exP fun e5 => ?_ | refine CP.puP fun h5 => ?_)) <;> refine KP.q QK.as ?_ <;> refine KP.list_nil ?_)
    | (refine CW.region (i := 2) ?_ <;> refine KP.q QK.mv ?_ <;> refine KP.q QK.geq ?_ <;> refine KP.q QK.mv ?_ <;> (first | refine KP.gn ?_ | refine KP.gu ?_ | refine KP.qy QK.mv ?_ | ((first | refine KP.gsP (t := 8) ?_ ?_ | refine KP.gs (t := 8) ?_ ?_) <;> intro _ <;> first | contradiction | refine KP.gn ?_ | refine KP.qy QK.mv ?_)) <;> (first | refine KP.gn ?_ | refine KP.gu ?_ | refine KP.qy QK.leq ?_) <;> refine KP.q QK.pk ?_ <;> refine KP.q QK.as ?_ <;> refine KP.list_nil ?_)
    | ((with_reducible apply KP.fin1); (· rfl); (· rfl)))
  all_goals exact FA.ret' (by first | (simp_all [wordF]; done) | (simp_all [wordF]; omega))

theorem wordE {s : ByteArray} {b : Bool} (hs : s.size ≤ 1000000) (h : wordF s = b) : Spc Try.prog 84 #[.string s] [] [] (ret (.bool b) []) := h ▸ word_spec hs
/-! ### the whole table -/
abbrev editV (xa xb : List Nat) (n : Nat) : List Nat := rowF (fun j => lev xa xb j n) (xa.length + 1)
structure Half (a b : List Nat) (i j e : Nat) (f : Nat → Nat) : Prop where
  diag : e = lev a b j i
  done : ∀ m, m ≤ j → f m = lev a b m (i + 1)
  rest : ∀ m, j < m → m ≤ a.length → f m = lev a b m i
theorem half_step {a b : List Nat} {i j e : Nat} {f : Nat → Nat} (h : Half a b i j e f) (h2 : j < a.length) {cost : Nat} (hc : cost = e + (if a[j]? = b[i]? then 0 else 1)) : Half a b i (j + 1) (f (j + 1)) (upd f (j + 1) (min (min (f (j + 1) + 1) (f j + 1)) cost)) where
  diag := h.rest (j + 1) (by omega) (by omega)
  done m hm := by
    by_cases e0 : m = j + 1
    · subst e0
      rw [upd_same, hc, h.diag, h.rest (j + 1) (by omega) (by omega), h.done j (Nat.le_refl _), lev]
      split <;> omega
    · rw [upd_other e0]; exact h.done m (by omega)
  rest m hm hm2 := by rw [upd_other (by omega)]; exact h.rest m (by omega) hm2
theorem rowF_congr {f g : Nat → Nat} {m : Nat} (h : ∀ j, j < m → f j = g j) : rowF f m = rowF g m := by
  unfold rowF
  exact List.map_congr_left fun j hj => h j (List.mem_range.1 hj)





set_option maxHeartbeats 4000000 in
theorem rows_spec {va vb : Value} {xa xb : List Nat} (ha : xa.length ≤ 1000000) (hb : xb.length ≤ 1000000) : Spc Try.prog 109 #[va, vb] [rrow 1 eR va xa, rrow 1 eR vb xb] [] (exP fun v => puP (v.oneCell' = true) (ret v [row 3 1 eK v (editV xa xb xb.length)])) := by
  refine Spc.enter' (args := [va, vb]) (T0 := [(0, va), (1, vb)]) Try.func109 rfl Try.ntmps109 (Nat.le_of_ble_eq_true rfl) rfl ?_
  intro w0 own
  repeat' (first
    | (with_reducible refine CW.seq ?_)
    | (with_reducible refine KP.then_code ?_)
    | (with_reducible refine CW.skip ?_)
    | (with_reducible refine CW.ret ?_)
    | (with_reducible refine KP.then_ret ?_)
    | (with_reducible refine KP.block_ret ?_)
    | (with_reducible refine CW.block ?_)
    | (with_reducible refine KP.block_normal ?_)
    | (with_reducible refine CW.exit ?_)
    | (with_reducible refine KP.then_exit ?_)
    | (with_reducible refine KP.block_hit ?_)
    | refine KP.bm ?_
    | refine CW.ct ?_
    | refine CW.cf ?_
    | (refine CW.cP ?_ ?_ <;> intro _ <;> try contradiction)
    | (refine CW.cs ?_ ?_ <;> intro _ <;> try contradiction)
    | (refine CW.region (i := 0) ?_ <;> refine KP.q QK.as ?_ <;> refine KP.list_nil ?_)
    | (refine CW.region (i := 1) ?_ <;> refine KP.q QK.mv ?_ <;> refine KP.q (by first | exact QY.same (QY.len_row rfl (Rd.own (by with_reducible first | exact k0 | exact k1 | exact k2 | exact k3 | exact k4 | exact k5 | exact k6 | exact k7 | exact k8 | exact k9 | fail)) RowL.row) (rowF_lv _ _) | exact QK.len) ?_ <;> refine KP.q (by first | exact QY.addN rfl rfl (by omega) | exact QK.add) ?_ <;> (refine KP.e ?_; (first | (refine makeN (by decide) rfl rfl (by omega) (fun e16 h16 => ?_)))) <;> refine KP.q QK.as ?_ <;> refine KP.list_nil ?_)
    | (refine CW.region (i := 2) ?_ <;> refine KP.q QK.mv ?_ <;> refine KP.q (by first | exact QY.same (QY.len_row rfl (Rd.own (by with_reducible first | exact k0 | exact k1 | exact k2 | exact k3 | exact k4 | exact k5 | exact k6 | exact k7 | exact k8 | exact k9 | fail)) RowL.row) (rowF_lv _ _) | exact QK.len) ?_ <;> refine KP.q QK.mv ?_ <;> refine KP.list_nil ?_)
    | ((with_reducible apply KP.fin1); (· rfl); (· rfl)))
  refine CA.loop (X := Nat × (Nat → Nat)) (fun z => [(0, va), (1, vb), (5, e16), (18, iv ((xa.length + 1 : Nat) : Int)), (19, iv (z.1 : Nat))]) (fun z => [row 3 1 eK e16 (rowF z.2 (xa.length + 1))]) (fun z => z.1 ≤ xa.length + 1 ∧ ∀ j, j < z.1 → z.2 j = j) (fun z => xa.length + 1 - z.1) (0, fun _ => 0) ⟨by simp, fun j h => by simp at h⟩ ?_
  rintro ⟨i, f⟩ ⟨hi, hf⟩
  try dsimp only at hi hf ⊢
  rcases Nat.lt_or_ge i (xa.length + 1) with hlt | hge2
  · repeat' (first
    | (with_reducible refine CW.seq ?_)
    | (with_reducible refine KP.then_code ?_)
    | (with_reducible refine CW.skip ?_)
    | (with_reducible refine CW.ret ?_)
    | (with_reducible refine KP.then_ret ?_)
    | (with_reducible refine KP.block_ret ?_)
    | (with_reducible refine CW.block ?_)
    | (with_reducible refine KP.block_normal ?_)
    | (with_reducible refine CW.exit ?_)
    | (with_reducible refine KP.then_exit ?_)
    | (with_reducible refine KP.block_hit ?_)
    | refine KP.bm ?_
    | refine CW.ct ?_
    | refine CW.cf ?_
    | (refine CW.cP ?_ ?_ <;> intro _ <;> try contradiction)
    | (refine CW.cs ?_ ?_ <;> intro _ <;> try contradiction)
    | (refine CW.region (i := 3) ?_ <;> refine KP.q QK.lss ?_ <;> refine KP.list_nil ?_)
    | (refine CW.region (i := 4) ?_ <;> refine KP.q QK.mv ?_ <;> refine KP.q QK.as ?_ <;> refine KP.list_nil ?_)
    | (refine CW.region (i := 5) ?_ <;> refine KP.q QK.mv ?_ <;> refine KP.q QK.mv ?_ <;> refine KP.q QK.mv ?_ <;> refine KP.q (by first | exact QY.index rfl rfl (Rd.own (by with_reducible first | exact k0 | exact k1 | exact k2 | exact k3 | exact k4 | exact k5 | exact k6 | exact k7 | exact k8 | exact k9 | fail)) RowL.row (by rw [rowF_len]; omega) | exact QY.index0 rfl rfl (Rd.own (by with_reducible first | exact k0 | exact k1 | exact k2 | exact k3 | exact k4 | exact k5 | exact k6 | exact k7 | exact k8 | exact k9 | fail)) RowL.row (by rw [rowF_len]; omega) | exact QK.ia) ?_ <;> (refine KP.e ?_; (first | refine st_f ?_ rfl rfl (by with_reducible first | exact k0 | exact k1 | exact k2 | exact k3 | exact k4 | exact k5 | exact k6 | exact k7 | exact k8 | exact k9 | fail) (by omega) | refine EK.st_s ?_ | refine EK.st_rf ?_ | refine EK.st_rf0 ?_)) <;> refine KP.list_nil ?_)
    | (refine CW.region (i := 6) ?_ <;> refine KP.q (by first | exact QY.addN rfl rfl (by omega) | exact QK.add) ?_ <;> refine KP.q QK.mv ?_ <;> refine KP.list_nil ?_)
    | ((with_reducible apply KP.fin1); (· rfl); (· rfl)))
    refine KA.round (i + 1, upd f i i) ⟨by simp only; omega, fun j hj => ?_⟩
    simp only at hj ⊢
    by_cases e : j = i
    · subst e; exact upd_same ..
    · rw [upd_other e]; exact hf j (by omega)
  obtain rfl : i = xa.length + 1 := by omega
  repeat' (first
    | (with_reducible refine CW.seq ?_)
    | (with_reducible refine KP.then_code ?_)
    | (with_reducible refine CW.skip ?_)
    | (with_reducible refine CW.ret ?_)
    | (with_reducible refine KP.then_ret ?_)
    | (with_reducible refine KP.block_ret ?_)
    | (with_reducible refine CW.block ?_)
    | (with_reducible refine KP.block_normal ?_)
    | (with_reducible refine CW.exit ?_)
    | (with_reducible refine KP.then_exit ?_)
    | (with_reducible refine KP.block_hit ?_)
    | refine KP.bm ?_
    | refine CW.ct ?_
    | refine CW.cf ?_
    | (refine CW.cP ?_ ?_ <;> intro _ <;> try contradiction)
    | (refine CW.cs ?_ ?_ <;> intro _ <;> try contradiction)
    | (refine CW.region (i := 3) ?_ <;> refine KP.q QK.lss ?_ <;> refine KP.list_nil ?_)
    | (refine CW.region (i := 7) ?_ <;> refine KP.q QK.mv ?_ <;> refine KP.q (by first | exact QY.same (QY.len_row rfl (Rd.own (by with_reducible first | exact k0 | exact k1 | exact k2 | exact k3 | exact k4 | exact k5 | exact k6 | exact k7 | exact k8 | exact k9 | fail)) RowL.row) (rowF_lv _ _) | exact QK.len) ?_ <;> refine KP.q QK.mv ?_ <;> refine KP.list_nil ?_)
    | ((with_reducible apply KP.fin1); (· rfl); (· rfl)))
  refine CA.loop (X := Nat × (Nat → Nat)) (fun z => [(0, va), (1, vb), (5, e16), (27, vb), (28, iv (xb.length : Nat)), (29, iv (z.1 : Nat))]) (fun z => [row 3 1 eK e16 (rowF z.2 (xa.length + 1))]) (fun z => z.1 ≤ xb.length ∧ ∀ j, j ≤ xa.length → z.2 j = lev xa xb j z.1) (fun z => xb.length - z.1) (0, f) ⟨by simp, ?_⟩ ?_
  · intro j h1
    simp only
    rw [hf j (by omega), lev_zero_right]
  clear hf hi hge2 f
  rintro ⟨i, f⟩ ⟨hi, hB⟩
  try dsimp only at hi hB ⊢
  
  rcases Nat.lt_or_ge i xb.length with hlt | hge2
  rotate_left
  · obtain rfl : i = xb.length := by omega
    have he : rowF f (xa.length + 1) = editV xa xb xb.length := rowF_congr fun j hj => hB j (by omega)
    rw [he]
    repeat' (first
    | (with_reducible refine CW.seq ?_)
    | (with_reducible refine KP.then_code ?_)
    | (with_reducible refine CW.skip ?_)
    | (with_reducible refine CW.ret ?_)
    | (with_reducible refine KP.then_ret ?_)
    | (with_reducible refine KP.block_ret ?_)
    | (with_reducible refine CW.block ?_)
    | (with_reducible refine KP.block_normal ?_)
    | (with_reducible refine CW.exit ?_)
    | (with_reducible refine KP.then_exit ?_)
    | (with_reducible refine KP.block_hit ?_)
    | refine KP.bm ?_
    | refine CW.ct ?_
    | refine CW.cf ?_
    | (refine CW.cP ?_ ?_ <;> intro _ <;> try contradiction)
    | (refine CW.cs ?_ ?_ <;> intro _ <;> try contradiction)
    | (refine CW.region (i := 8) ?_ <;> refine KP.q QK.lss ?_ <;> refine KP.list_nil ?_)
    | (refine CW.region (i := 22) ?_ <;> refine KP.q QK.mv ?_ <;> refine KP.q QK.as ?_ <;> refine KP.list_nil ?_)
    | ((with_reducible apply KP.fin1); (· rfl); (· rfl)))
    refine Fina.exP e16 (Fina.puP h16 ?_)
    exact FA.ret
  obtain ⟨y, hy⟩ := at_lt hlt
  
  repeat' (first
    | (with_reducible refine CW.seq ?_)
    | (with_reducible refine KP.then_code ?_)
    | (with_reducible refine CW.skip ?_)
    | (with_reducible refine CW.ret ?_)
    | (with_reducible refine KP.then_ret ?_)
    | (with_reducible refine KP.block_ret ?_)
    | (with_reducible refine CW.block ?_)
    | (with_reducible refine KP.block_normal ?_)
    | (with_reducible refine CW.exit ?_)
    | (with_reducible refine KP.then_exit ?_)
    | (with_reducible refine KP.block_hit ?_)
    | refine KP.bm ?_
    | refine CW.ct ?_
    | refine CW.cf ?_
    | (refine CW.cP ?_ ?_ <;> intro _ <;> try contradiction)
    | (refine CW.cs ?_ ?_ <;> intro _ <;> try contradiction)
    | (refine CW.region (i := 8) ?_ <;> refine KP.q QK.lss ?_ <;> refine KP.list_nil ?_)
    | (refine CW.region (i := 9) ?_ <;> refine KP.q QK.mv ?_ <;> refine KP.q (by first | exact QY.index rfl rfl (Rd.own (by with_reducible first | exact k0 | exact k1 | exact k2 | exact k3 | exact k4 | exact k5 | exact k6 | exact k7 | exact k8 | exact k9 | fail)) RowL.row (by rw [rowF_len]; omega) | exact QY.index0 rfl rfl (Rd.own (by with_reducible first | exact k0 | exact k1 | exact k2 | exact k3 | exact k4 | exact k5 | exact k6 | exact k7 | exact k8 | exact k9 | fail)) RowL.row (by rw [rowF_len]; omega) | exact QK.ia) ?_ <;> refine KP.q (by first | exact QY.load_s rfl (Rd.ro (by with_reducible first | exact m0 | exact m1 | exact m2 | exact m3 | exact m4 | exact m5 | fail)) (Reads.row0 RowL.rrow hy rfl) | exact QY.load_s rfl (Rd.own (by with_reducible first | exact k0 | exact k1 | exact k2 | exact k3 | exact k4 | exact k5 | exact k6 | exact k7 | exact k8 | exact k9 | fail)) (Reads.row0 RowL.row (rowF_at (by omega)) rfl) | exact QK.lds) ?_ <;> refine KP.q QK.as ?_ <;> refine KP.q QK.as ?_ <;> refine KP.list_nil ?_)
    | (refine CW.region (i := 10) ?_ <;> refine KP.q QK.mv ?_ <;> refine KP.q (by first | exact QY.index rfl rfl (Rd.own (by with_reducible first | exact k0 | exact k1 | exact k2 | exact k3 | exact k4 | exact k5 | exact k6 | exact k7 | exact k8 | exact k9 | fail)) RowL.row (by rw [rowF_len]; omega) | exact QY.index0 rfl rfl (Rd.own (by with_reducible first | exact k0 | exact k1 | exact k2 | exact k3 | exact k4 | exact k5 | exact k6 | exact k7 | exact k8 | exact k9 | fail)) RowL.row (by rw [rowF_len]; omega) | exact QK.ia) ?_ <;> refine KP.q (by first | exact QY.load_s rfl (Rd.ro (by with_reducible first | exact m0 | exact m1 | exact m2 | exact m3 | exact m4 | exact m5 | fail)) (Reads.row0 RowL.rrow hy rfl) | exact QY.load_s rfl (Rd.own (by with_reducible first | exact k0 | exact k1 | exact k2 | exact k3 | exact k4 | exact k5 | exact k6 | exact k7 | exact k8 | exact k9 | fail)) (Reads.row0 RowL.row (rowF_at (by omega)) rfl) | exact QK.lds) ?_ <;> refine KP.q QK.as ?_ <;> refine KP.list_nil ?_)
    | (refine CW.region (i := 11) ?_ <;> refine KP.q QK.mv ?_ <;> refine KP.q QK.mv ?_ <;> refine KP.q (by first | exact QY.addN rfl rfl (by omega) | exact QK.add) ?_ <;> refine KP.q (by first | exact QY.index rfl rfl (Rd.own (by with_reducible first | exact k0 | exact k1 | exact k2 | exact k3 | exact k4 | exact k5 | exact k6 | exact k7 | exact k8 | exact k9 | fail)) RowL.row (by rw [rowF_len]; omega) | exact QY.index0 rfl rfl (Rd.own (by with_reducible first | exact k0 | exact k1 | exact k2 | exact k3 | exact k4 | exact k5 | exact k6 | exact k7 | exact k8 | exact k9 | fail)) RowL.row (by rw [rowF_len]; omega) | exact QK.ia) ?_ <;> (refine KP.e ?_; (first | refine st_f ?_ rfl rfl (by with_reducible first | exact k0 | exact k1 | exact k2 | exact k3 | exact k4 | exact k5 | exact k6 | exact k7 | exact k8 | exact k9 | fail) (by omega) | refine EK.st_s ?_ | refine EK.st_rf ?_ | refine EK.st_rf0 ?_)) <;> refine KP.list_nil ?_)
    | (refine CW.region (i := 12) ?_ <;> refine KP.q QK.mv ?_ <;> refine KP.q (by first | exact QY.same (QY.len_row rfl (Rd.own (by with_reducible first | exact k0 | exact k1 | exact k2 | exact k3 | exact k4 | exact k5 | exact k6 | exact k7 | exact k8 | exact k9 | fail)) RowL.row) (rowF_lv _ _) | exact QK.len) ?_ <;> refine KP.q QK.mv ?_ <;> refine KP.list_nil ?_)
    | ((with_reducible apply KP.fin1); (· rfl); (· rfl)))
  refine CA.loop (X := Nat × Nat × (Nat → Nat)) (fun z => [(0, va), (1, vb), (5, e16), (27, vb), (28, iv (xb.length : Nat)), (29, iv (i : Nat)), (8, .int .i32 (y : Nat)), (9, iv (z.2.1 : Nat)), (41, va), (42, iv (xa.length : Nat)), (43, iv (z.1 : Nat))]) (fun z => [row 3 1 eK e16 (rowF z.2.2 (xa.length + 1))]) (fun z => z.1 ≤ xa.length ∧ Half xa xb i z.1 z.2.1 z.2.2) (fun z => xa.length - z.1) (0, f 0, upd f 0 (i + 1)) ⟨by simp, ⟨hB 0 (by omega), fun m hm => ?_, fun m hm hm2 => ?_⟩⟩ ?_
  · obtain rfl : m = 0 := by simpa using hm
    show upd f 0 (i + 1) 0 = _
    rw [upd_same]; simp [lev]
  · have hm3 : m ≠ 0 := by simp only at hm; omega
    show upd f 0 (i + 1) m = _
    rw [upd_other hm3]; exact hB m hm2
  clear hB f
  rintro ⟨j, e, f⟩ ⟨hj, hM⟩
  try dsimp only at hj hM ⊢
  rcases Nat.lt_or_ge j xa.length with hlt2 | hge2
  · obtain ⟨x, hx⟩ := at_lt hlt2
    have hst : ∀ cost, cost = e + (if x = y then 0 else 1) → Half xa xb i (j + 1) (f (j + 1)) (upd f (j + 1) (min (min (f (j + 1) + 1) (f j + 1)) cost)) := fun cost h => half_step hM hlt2 (by rw [h, hx, hy]; simp)
    have hg1 := hM.diag
    have hg2 := hM.done j (Nat.le_refl _)
    have hg3 := hM.rest (j + 1) (by omega) (by omega)
    have hk1 := lev_le xa xb j i
    have hk2 := lev_le xa xb j (i + 1)
    have hk3 := lev_le xa xb (j + 1) i
    rw [← hg1] at hk1
    rw [← hg2] at hk2
    rw [← hg3] at hk3
    
    
    repeat' (first
    | (with_reducible refine CW.seq ?_)
    | (with_reducible refine KP.then_code ?_)
    | (with_reducible refine CW.skip ?_)
    | (with_reducible refine CW.ret ?_)
    | (with_reducible refine KP.then_ret ?_)
    | (with_reducible refine KP.block_ret ?_)
    | (with_reducible refine CW.block ?_)
    | (with_reducible refine KP.block_normal ?_)
    | (with_reducible refine CW.exit ?_)
    | (with_reducible refine KP.then_exit ?_)
    | (with_reducible refine KP.block_hit ?_)
    | refine KP.bm ?_
    | refine CW.ct ?_
    | refine CW.cf ?_
    | (refine CW.cP ?_ ?_ <;> intro _ <;> try contradiction)
    | (refine CW.cs ?_ ?_ <;> intro _ <;> try contradiction)
    | (refine CW.region (i := 13) ?_ <;> refine KP.q QK.lss ?_ <;> refine KP.list_nil ?_)
    | (refine CW.region (i := 14) ?_ <;> refine KP.q QK.mv ?_ <;> refine KP.q (by first | exact QY.index rfl rfl (Rd.own (by with_reducible first | exact k0 | exact k1 | exact k2 | exact k3 | exact k4 | exact k5 | exact k6 | exact k7 | exact k8 | exact k9 | fail)) RowL.row (by rw [rowF_len]; omega) | exact QY.index0 rfl rfl (Rd.own (by with_reducible first | exact k0 | exact k1 | exact k2 | exact k3 | exact k4 | exact k5 | exact k6 | exact k7 | exact k8 | exact k9 | fail)) RowL.row (by rw [rowF_len]; omega) | exact QK.ia) ?_ <;> refine KP.q (by first | exact QY.load_s rfl (Rd.ro (by with_reducible first | exact m0 | exact m1 | exact m2 | exact m3 | exact m4 | exact m5 | fail)) (Reads.row0 RowL.rrow hx rfl) | exact QY.load_s rfl (Rd.ro (by with_reducible first | exact m0 | exact m1 | exact m2 | exact m3 | exact m4 | exact m5 | fail)) (Reads.row0 RowL.rrow hy rfl) | exact QY.load_s rfl (Rd.own (by with_reducible first | exact k0 | exact k1 | exact k2 | exact k3 | exact k4 | exact k5 | exact k6 | exact k7 | exact k8 | exact k9 | fail)) (Reads.row0 RowL.row (rowF_at (by omega)) rfl) | exact QK.lds) ?_ <;> refine KP.q QK.as ?_ <;> refine KP.q QK.as ?_ <;> refine KP.list_nil ?_)
    | (refine CW.region (i := 15) ?_ <;> refine KP.q QK.mv ?_ <;> refine KP.q QK.as ?_ <;> refine KP.list_nil ?_)
    | (refine CW.region (i := 16) ?_ <;> refine KP.q QK.mv ?_ <;> refine KP.q QK.mv ?_ <;> refine KP.q QK.nei ?_ <;> refine KP.list_nil ?_)
    | (refine CW.region (i := 17) ?_ <;> refine KP.q QK.mv ?_ <;> refine KP.q (by first | exact QY.addN rfl rfl (by omega) | exact QK.add) ?_ <;> refine KP.q QK.as ?_ <;> refine KP.list_nil ?_)
    | (refine CW.region (i := 18) ?_ <;> refine KP.q QK.mv ?_ <;> refine KP.q QK.mv ?_ <;> refine KP.q (by first | exact QY.addN rfl rfl (by omega) | exact QK.add) ?_ <;> refine KP.q (by first | exact QY.index rfl rfl (Rd.own (by with_reducible first | exact k0 | exact k1 | exact k2 | exact k3 | exact k4 | exact k5 | exact k6 | exact k7 | exact k8 | exact k9 | fail)) RowL.row (by rw [rowF_len]; omega) | exact QY.index0 rfl rfl (Rd.own (by with_reducible first | exact k0 | exact k1 | exact k2 | exact k3 | exact k4 | exact k5 | exact k6 | exact k7 | exact k8 | exact k9 | fail)) RowL.row (by rw [rowF_len]; omega) | exact QK.ia) ?_ <;> refine KP.q (by first | exact QY.load_s rfl (Rd.ro (by with_reducible first | exact m0 | exact m1 | exact m2 | exact m3 | exact m4 | exact m5 | fail)) (Reads.row0 RowL.rrow hx rfl) | exact QY.load_s rfl (Rd.ro (by with_reducible first | exact m0 | exact m1 | exact m2 | exact m3 | exact m4 | exact m5 | fail)) (Reads.row0 RowL.rrow hy rfl) | exact QY.load_s rfl (Rd.own (by with_reducible first | exact k0 | exact k1 | exact k2 | exact k3 | exact k4 | exact k5 | exact k6 | exact k7 | exact k8 | exact k9 | fail)) (Reads.row0 RowL.row (rowF_at (by omega)) rfl) | exact QK.lds) ?_ <;> refine KP.q QK.as ?_ <;> refine KP.list_nil ?_)
    | (refine CW.region (i := 19) ?_ <;> refine KP.q QK.mv ?_ <;> refine KP.q QK.mv ?_ <;> refine KP.q (by first | exact QY.addN rfl rfl (by omega) | exact QK.add) ?_ <;> refine KP.q QK.mv ?_ <;> refine KP.q (by first | exact QY.addN rfl rfl (by omega) | exact QK.add) ?_ <;> refine KP.q QK.mv ?_ <;> refine KP.q QK.mv ?_ <;> refine KP.q (by first | exact QY.index rfl rfl (Rd.own (by with_reducible first | exact k0 | exact k1 | exact k2 | exact k3 | exact k4 | exact k5 | exact k6 | exact k7 | exact k8 | exact k9 | fail)) RowL.row (by rw [rowF_len]; omega) | exact QY.index0 rfl rfl (Rd.own (by with_reducible first | exact k0 | exact k1 | exact k2 | exact k3 | exact k4 | exact k5 | exact k6 | exact k7 | exact k8 | exact k9 | fail)) RowL.row (by rw [rowF_len]; omega) | exact QK.ia) ?_ <;> refine KP.q (by first | exact QY.load_s rfl (Rd.ro (by with_reducible first | exact m0 | exact m1 | exact m2 | exact m3 | exact m4 | exact m5 | fail)) (Reads.row0 RowL.rrow hx rfl) | exact QY.load_s rfl (Rd.ro (by with_reducible first | exact m0 | exact m1 | exact m2 | exact m3 | exact m4 | exact m5 | fail)) (Reads.row0 RowL.rrow hy rfl) | exact QY.load_s rfl (Rd.own (by with_reducible first | exact k0 | exact k1 | exact k2 | exact k3 | exact k4 | exact k5 | exact k6 | exact k7 | exact k8 | exact k9 | fail)) (Reads.row0 RowL.row (rowF_at (by omega)) rfl) | exact QK.lds) ?_ <;> refine KP.q (by first | exact QY.addN rfl rfl (by omega) | exact QK.add) ?_ <;> refine KP.q QK.mv ?_ <;> refine KP.q (by first | exact min3N rfl rfl rfl | exact QK.min) ?_ <;> refine KP.q (by first | exact QY.index rfl rfl (Rd.own (by with_reducible first | exact k0 | exact k1 | exact k2 | exact k3 | exact k4 | exact k5 | exact k6 | exact k7 | exact k8 | exact k9 | fail)) RowL.row (by rw [rowF_len]; omega) | exact QY.index0 rfl rfl (Rd.own (by with_reducible first | exact k0 | exact k1 | exact k2 | exact k3 | exact k4 | exact k5 | exact k6 | exact k7 | exact k8 | exact k9 | fail)) RowL.row (by rw [rowF_len]; omega) | exact QK.ia) ?_ <;> (refine KP.e ?_; (first | refine st_f ?_ rfl rfl (by with_reducible first | exact k0 | exact k1 | exact k2 | exact k3 | exact k4 | exact k5 | exact k6 | exact k7 | exact k8 | exact k9 | fail) (by omega) | refine EK.st_s ?_ | refine EK.st_rf ?_ | refine EK.st_rf0 ?_)) <;> refine KP.list_nil ?_)
    | (refine CW.region (i := 20) ?_ <;> refine KP.q (by first | exact QY.addN rfl rfl (by omega) | exact QK.add) ?_ <;> refine KP.q QK.mv ?_ <;> refine KP.list_nil ?_)
    | ((with_reducible apply KP.fin1); (· rfl); (· rfl)))
    · rename_i hne
      refine KA.round (j + 1, f (j + 1), upd f (j + 1) (min (min (f (j + 1) + 1) (f j + 1)) (e + 1))) ⟨by simp only; omega, hst _ ?_⟩
      rw [if_neg (by intro h; exact hne (by rw [h]))]
    · rename_i hne
      refine KA.round (j + 1, f (j + 1), upd f (j + 1) (min (min (f (j + 1) + 1) (f j + 1)) e)) ⟨by simp only; omega, hst _ ?_⟩
      rw [if_pos (by omega)]; rfl
  · obtain rfl : j = xa.length := by omega
    repeat' (first
    | (with_reducible refine CW.seq ?_)
    | (with_reducible refine KP.then_code ?_)
    | (with_reducible refine CW.skip ?_)
    | (with_reducible refine CW.ret ?_)
    | (with_reducible refine KP.then_ret ?_)
    | (with_reducible refine KP.block_ret ?_)
    | (with_reducible refine CW.block ?_)
    | (with_reducible refine KP.block_normal ?_)
    | (with_reducible refine CW.exit ?_)
    | (with_reducible refine KP.then_exit ?_)
    | (with_reducible refine KP.block_hit ?_)
    | refine KP.bm ?_
    | refine CW.ct ?_
    | refine CW.cf ?_
    | (refine CW.cP ?_ ?_ <;> intro _ <;> try contradiction)
    | (refine CW.cs ?_ ?_ <;> intro _ <;> try contradiction)
    | (refine CW.region (i := 13) ?_ <;> refine KP.q QK.lss ?_ <;> refine KP.list_nil ?_)
    | (refine CW.region (i := 21) ?_ <;> refine KP.q (by first | exact QY.addN rfl rfl (by omega) | exact QK.add) ?_ <;> refine KP.q QK.mv ?_ <;> refine KP.list_nil ?_)
    | ((with_reducible apply KP.fin1); (· rfl); (· rfl)))
    exact KA.round (i + 1, f) ⟨by simp only; omega, fun j hj => hM.done j hj⟩


theorem editR_spec {va vb : Value} {xa xb : List Nat} (ha : xa.length ≤ 1000000) (hb : xb.length ≤ 1000000) : Spc Try.prog 87 #[va, vb] [rrow 1 eR va xa, rrow 1 eR vb xb] [] (ret (iv (dist xa xb : Nat)) []) := by
  refine Spc.enter' (args := [va, vb]) (T0 := [(0, va), (1, vb)]) Try.func87 rfl Try.ntmps87 (Nat.le_of_ble_eq_true rfl) rfl ?_
  intro w0 own
  
  
  repeat' (first
    | (with_reducible refine CW.seq ?_)
    | (with_reducible refine KP.then_code ?_)
    | (with_reducible refine CW.skip ?_)
    | (with_reducible refine CW.ret ?_)
    | (with_reducible refine KP.then_ret ?_)
    | (with_reducible refine KP.block_ret ?_)
    | (with_reducible refine CW.block ?_)
    | (with_reducible refine KP.block_normal ?_)
    | (with_reducible refine CW.exit ?_)
    | (with_reducible refine KP.then_exit ?_)
    | (with_reducible refine KP.block_hit ?_)
    | refine KP.bm ?_
    | refine CW.ct ?_
    | refine CW.cf ?_
    | (refine CW.cP ?_ ?_ <;> intro _ <;> try contradiction)
    | (refine CW.cs ?_ ?_ <;> intro _ <;> try contradiction)
    | (refine CW.region (i := 0) ?_ <;> refine KP.q QK.as ?_ <;> refine KP.list_nil ?_)
    | (refine CW.region (i := 1) ?_ <;> refine KP.q QK.mv ?_ <;> refine KP.q QK.mv ?_ <;> (refine KP.e ?_; ((refine EK.call (rows_spec ha hb) ?_); repeat' first | refine CP.r ?_ | refine CP.r0 ?_ | refine CP.exP fun e7 => ?_ | refine CP.puP fun h7 => ?_)) <;> refine KP.q QK.mv ?_ <;> refine KP.q QK.len ?_ <;> refine KP.q (by first | exact QY.index rfl rfl (Rd.own (by with_reducible first | exact k0 | exact k1 | exact k2 | exact k3 | exact k4 | exact k5 | exact k6 | exact k7 | exact k8 | exact k9 | fail)) RowL.row (by unfold editV; rw [rowF_len]; omega) | exact QY.index rfl rfl (Rd.own (by with_reducible first | exact k0 | exact k1 | exact k2 | exact k3 | exact k4 | exact k5 | exact k6 | exact k7 | exact k8 | exact k9 | fail)) RowL.row (by rw [rowF_len]; omega) | exact QK.ia) ?_ <;> refine KP.q (by first | exact QY.load_s rfl (Rd.own (by with_reducible first | exact k0 | exact k1 | exact k2 | exact k3 | exact k4 | exact k5 | exact k6 | exact k7 | exact k8 | exact k9 | fail)) (Reads.row0 RowL.row (rowF_at (f := fun j => lev xa xb j xb.length) (by omega)) rfl) | exact QK.lds) ?_ <;> refine KP.q QK.as ?_ <;> refine KP.list_nil ?_)
    | ((with_reducible apply KP.fin1); (· rfl); (· rfl)))
  exact FA.ret' rfl

/-- The distance of two texts, or -1. -/
def editF (q t : ByteArray) : Int := if fine q = true ∧ fine t = true then (dist (runesF q) (runesF t) : Int) else -1
theorem edit_spec {q t : ByteArray} (hq : q.size ≤ 1000000) (ht : t.size ≤ 1000000) : Spc Try.prog 53 #[.string q, .string t] [] [] (ret (iv (editF q t)) []) := by
  refine Spc.enter' (args := [.string q, .string t]) (T0 := [(0, .string q), (1, .string t)]) Try.func53 rfl Try.ntmps53 (Nat.le_of_ble_eq_true rfl) rfl ?_
  intro w0 own
  have hlq := runes_len q
  have hlt := runes_len t
  by_cases h1 : fine q = true
  · by_cases h2 : fine t = true
    · rw [editF, if_pos ⟨h1, h2⟩]
      
      
      repeat' (first
    | (with_reducible refine CW.seq ?_)
    | (with_reducible refine KP.then_code ?_)
    | (with_reducible refine CW.skip ?_)
    | (with_reducible refine CW.ret ?_)
    | (with_reducible refine KP.then_ret ?_)
    | (with_reducible refine KP.block_ret ?_)
    | (with_reducible refine CW.block ?_)
    | (with_reducible refine KP.block_normal ?_)
    | (with_reducible refine CW.exit ?_)
    | (with_reducible refine KP.then_exit ?_)
    | (with_reducible refine KP.block_hit ?_)
    | refine KP.bm ?_
    | refine CW.ct ?_
    | refine CW.cf ?_
    | (refine CW.cP ?_ ?_ <;> intro _ <;> try contradiction)
    | (refine CW.cs ?_ ?_ <;> intro _ <;> try contradiction)
    | (refine CW.region (i := 0) ?_ <;> refine KP.q QK.as ?_ <;> refine KP.list_nil ?_)
    | (refine CW.region (i := 1) ?_ <;> refine KP.q QK.mv ?_ <;> (refine KP.e ?_; ((first | refine EK.call (runes_ok hq h1) ?_ | refine EK.call (runes_ok ht h2) ?_); repeat' first | refine CP.r ?_ | refine CP.r0 ?_ | refine CP.exP fun e11 => ?_ | refine CP.puP fun h11 => ?_)) <;> refine KP.q QK.mv ?_ <;> refine KP.q QK.ex ?_ <;> refine KP.q QK.ex ?_ <;> refine KP.q QK.as ?_ <;> refine KP.q QK.as ?_ <;> refine KP.list_nil ?_)
    | (refine CW.region (i := 2) ?_ <;> refine KP.q QK.mv ?_ <;> (refine KP.e ?_; ((first | refine EK.call (runes_ok hq h1) ?_ | refine EK.call (runes_ok ht h2) ?_); repeat' first | refine CP.r ?_ | refine CP.r0 ?_ | refine CP.exP fun e16 => ?_ | refine CP.puP fun h16 => ?_)) <;> refine KP.q QK.mv ?_ <;> refine KP.q QK.ex ?_ <;> refine KP.q QK.ex ?_ <;> refine KP.q QK.as ?_ <;> refine KP.q QK.as ?_ <;> refine KP.list_nil ?_)
    | (refine CW.region (i := 3) ?_ <;> refine KP.q QK.mv ?_ <;> refine KP.q QK.not ?_ <;> refine KP.q QK.mv ?_ <;> (first | refine KP.gn ?_ | refine KP.gu ?_ | refine KP.qy QK.mv ?_ | ((first | refine KP.gsP (t := 21) ?_ ?_ | refine KP.gs (t := 21) ?_ ?_) <;> intro _ <;> first | contradiction | refine KP.gn ?_ | refine KP.qy QK.mv ?_)) <;> (first | refine KP.gn ?_ | refine KP.gu ?_ | refine KP.qy QK.not ?_) <;> refine KP.q QK.pk ?_ <;> refine KP.list_nil ?_)
    | (refine CW.region (i := 5) ?_ <;> refine KP.q QK.mv ?_ <;> refine KP.q QK.mv ?_ <;> (refine KP.e ?_; ((refine EK.call (editR_spec (xa := runesF q) (xb := runesF t) (by omega) (by omega)) ?_); repeat' first | refine CP.r ?_ | refine CP.r0 ?_ | refine CP.exP fun e27 => ?_ | refine CP.puP fun h27 => ?_)) <;> refine KP.q QK.as ?_ <;> refine KP.list_nil ?_)
    | ((with_reducible apply KP.fin1); (· rfl); (· rfl)))
      exact FA.ret
    · rw [editF, if_neg (fun h => h2 h.2)]
      
      repeat' (first
    | (with_reducible refine CW.seq ?_)
    | (with_reducible refine KP.then_code ?_)
    | (with_reducible refine CW.skip ?_)
    | (with_reducible refine CW.ret ?_)
    | (with_reducible refine KP.then_ret ?_)
    | (with_reducible refine KP.block_ret ?_)
    | (with_reducible refine CW.block ?_)
    | (with_reducible refine KP.block_normal ?_)
    | (with_reducible refine CW.exit ?_)
    | (with_reducible refine KP.then_exit ?_)
    | (with_reducible refine KP.block_hit ?_)
    | refine KP.bm ?_
    | refine CW.ct ?_
    | refine CW.cf ?_
    | (refine CW.cP ?_ ?_ <;> intro _ <;> try contradiction)
    | (refine CW.cs ?_ ?_ <;> intro _ <;> try contradiction)
    | (refine CW.region (i := 0) ?_ <;> refine KP.q QK.as ?_ <;> refine KP.list_nil ?_)
    | (refine CW.region (i := 1) ?_ <;> refine KP.q QK.mv ?_ <;> (refine KP.e ?_; ((first | refine EK.call (runes_ok hq h1) ?_ | refine EK.call (runes_bad ht h2) ?_ | refine EK.call (runes_ok hq h1) ?_ | refine EK.call (runes_ok ht h2) ?_); repeat' first | refine CP.r ?_ | refine CP.r0 ?_ | refine CP.exP fun e11 => ?_ | refine CP.puP fun h11 => ?_)) <;> refine KP.q QK.mv ?_ <;> refine KP.q QK.ex ?_ <;> refine KP.q QK.ex ?_ <;> refine KP.q QK.as ?_ <;> refine KP.q QK.as ?_ <;> refine KP.list_nil ?_)
    | (refine CW.region (i := 2) ?_ <;> refine KP.q QK.mv ?_ <;> (refine KP.e ?_; ((first | refine EK.call (runes_ok hq h1) ?_ | refine EK.call (runes_bad ht h2) ?_ | refine EK.call (runes_ok hq h1) ?_ | refine EK.call (runes_ok ht h2) ?_); repeat' first | refine CP.r ?_ | refine CP.r0 ?_ | refine CP.exP fun e16 => ?_ | refine CP.puP fun h16 => ?_)) <;> refine KP.q QK.mv ?_ <;> refine KP.q QK.ex ?_ <;> refine KP.q QK.ex ?_ <;> refine KP.q QK.as ?_ <;> refine KP.q QK.as ?_ <;> refine KP.list_nil ?_)
    | (refine CW.region (i := 3) ?_ <;> refine KP.q QK.mv ?_ <;> refine KP.q QK.not ?_ <;> refine KP.q QK.mv ?_ <;> (first | refine KP.gn ?_ | refine KP.gu ?_ | refine KP.qy QK.mv ?_ | ((first | refine KP.gsP (t := 21) ?_ ?_ | refine KP.gs (t := 21) ?_ ?_) <;> intro _ <;> first | contradiction | refine KP.gn ?_ | refine KP.qy QK.mv ?_)) <;> (first | refine KP.gn ?_ | refine KP.gu ?_ | refine KP.qy QK.not ?_) <;> refine KP.q QK.pk ?_ <;> refine KP.list_nil ?_)
    | (refine CW.region (i := 4) ?_ <;> refine KP.q QK.as ?_ <;> refine KP.list_nil ?_)
    | ((with_reducible apply KP.fin1); (· rfl); (· rfl)))
      exact FA.ret
  · rw [editF, if_neg (fun h => h1 h.1)]
    by_cases h2 : fine t = true
    · 
      repeat' (first
    | (with_reducible refine CW.seq ?_)
    | (with_reducible refine KP.then_code ?_)
    | (with_reducible refine CW.skip ?_)
    | (with_reducible refine CW.ret ?_)
    | (with_reducible refine KP.then_ret ?_)
    | (with_reducible refine KP.block_ret ?_)
    | (with_reducible refine CW.block ?_)
    | (with_reducible refine KP.block_normal ?_)
    | (with_reducible refine CW.exit ?_)
    | (with_reducible refine KP.then_exit ?_)
    | (with_reducible refine KP.block_hit ?_)
    | refine KP.bm ?_
    | refine CW.ct ?_
    | refine CW.cf ?_
    | (refine CW.cP ?_ ?_ <;> intro _ <;> try contradiction)
    | (refine CW.cs ?_ ?_ <;> intro _ <;> try contradiction)
    | (refine CW.region (i := 0) ?_ <;> refine KP.q QK.as ?_ <;> refine KP.list_nil ?_)
    | (refine CW.region (i := 1) ?_ <;> refine KP.q QK.mv ?_ <;> (refine KP.e ?_; ((first | refine EK.call (runes_bad hq h1) ?_ | refine EK.call (runes_ok ht h2) ?_ | refine EK.call (runes_ok hq h1) ?_ | refine EK.call (runes_bad ht h2) ?_ | refine EK.call (runes_ok hq h1) ?_ | refine EK.call (runes_ok ht h2) ?_); repeat' first | refine CP.r ?_ | refine CP.r0 ?_ | refine CP.exP fun e11 => ?_ | refine CP.puP fun h11 => ?_)) <;> refine KP.q QK.mv ?_ <;> refine KP.q QK.ex ?_ <;> refine KP.q QK.ex ?_ <;> refine KP.q QK.as ?_ <;> refine KP.q QK.as ?_ <;> refine KP.list_nil ?_)
    | (refine CW.region (i := 2) ?_ <;> refine KP.q QK.mv ?_ <;> (refine KP.e ?_; ((first | refine EK.call (runes_bad hq h1) ?_ | refine EK.call (runes_ok ht h2) ?_ | refine EK.call (runes_ok hq h1) ?_ | refine EK.call (runes_bad ht h2) ?_ | refine EK.call (runes_ok hq h1) ?_ | refine EK.call (runes_ok ht h2) ?_); repeat' first | refine CP.r ?_ | refine CP.r0 ?_ | refine CP.exP fun e16 => ?_ | refine CP.puP fun h16 => ?_)) <;> refine KP.q QK.mv ?_ <;> refine KP.q QK.ex ?_ <;> refine KP.q QK.ex ?_ <;> refine KP.q QK.as ?_ <;> refine KP.q QK.as ?_ <;> refine KP.list_nil ?_)
    | (refine CW.region (i := 3) ?_ <;> refine KP.q QK.mv ?_ <;> refine KP.q QK.not ?_ <;> refine KP.q QK.mv ?_ <;> (first | refine KP.gn ?_ | refine KP.gu ?_ | refine KP.qy QK.mv ?_ | ((first | refine KP.gsP (t := 21) ?_ ?_ | refine KP.gs (t := 21) ?_ ?_) <;> intro _ <;> first | contradiction | refine KP.gn ?_ | refine KP.qy QK.mv ?_)) <;> (first | refine KP.gn ?_ | refine KP.gu ?_ | refine KP.qy QK.not ?_) <;> refine KP.q QK.pk ?_ <;> refine KP.list_nil ?_)
    | (refine CW.region (i := 4) ?_ <;> refine KP.q QK.as ?_ <;> refine KP.list_nil ?_)
    | ((with_reducible apply KP.fin1); (· rfl); (· rfl)))
      exact FA.ret
    · 
      repeat' (first
    | (with_reducible refine CW.seq ?_)
    | (with_reducible refine KP.then_code ?_)
    | (with_reducible refine CW.skip ?_)
    | (with_reducible refine CW.ret ?_)
    | (with_reducible refine KP.then_ret ?_)
    | (with_reducible refine KP.block_ret ?_)
    | (with_reducible refine CW.block ?_)
    | (with_reducible refine KP.block_normal ?_)
    | (with_reducible refine CW.exit ?_)
    | (with_reducible refine KP.then_exit ?_)
    | (with_reducible refine KP.block_hit ?_)
    | refine KP.bm ?_
    | refine CW.ct ?_
    | refine CW.cf ?_
    | (refine CW.cP ?_ ?_ <;> intro _ <;> try contradiction)
    | (refine CW.cs ?_ ?_ <;> intro _ <;> try contradiction)
    | (refine CW.region (i := 0) ?_ <;> refine KP.q QK.as ?_ <;> refine KP.list_nil ?_)
    | (refine CW.region (i := 1) ?_ <;> refine KP.q QK.mv ?_ <;> (refine KP.e ?_; ((first | refine EK.call (runes_bad hq h1) ?_ | refine EK.call (runes_bad ht h2) ?_ | refine EK.call (runes_bad hq h1) ?_ | refine EK.call (runes_ok ht h2) ?_ | refine EK.call (runes_ok hq h1) ?_ | refine EK.call (runes_bad ht h2) ?_ | refine EK.call (runes_ok hq h1) ?_ | refine EK.call (runes_ok ht h2) ?_); repeat' first | refine CP.r ?_ | refine CP.r0 ?_ | refine CP.exP fun e11 => ?_ | refine CP.puP fun h11 => ?_)) <;> refine KP.q QK.mv ?_ <;> refine KP.q QK.ex ?_ <;> refine KP.q QK.ex ?_ <;> refine KP.q QK.as ?_ <;> refine KP.q QK.as ?_ <;> refine KP.list_nil ?_)
    | (refine CW.region (i := 2) ?_ <;> refine KP.q QK.mv ?_ <;> (refine KP.e ?_; ((first | refine EK.call (runes_bad hq h1) ?_ | refine EK.call (runes_bad ht h2) ?_ | refine EK.call (runes_bad hq h1) ?_ | refine EK.call (runes_ok ht h2) ?_ | refine EK.call (runes_ok hq h1) ?_ | refine EK.call (runes_bad ht h2) ?_ | refine EK.call (runes_ok hq h1) ?_ | refine EK.call (runes_ok ht h2) ?_); repeat' first | refine CP.r ?_ | refine CP.r0 ?_ | refine CP.exP fun e16 => ?_ | refine CP.puP fun h16 => ?_)) <;> refine KP.q QK.mv ?_ <;> refine KP.q QK.ex ?_ <;> refine KP.q QK.ex ?_ <;> refine KP.q QK.as ?_ <;> refine KP.q QK.as ?_ <;> refine KP.list_nil ?_)
    | (refine CW.region (i := 3) ?_ <;> refine KP.q QK.mv ?_ <;> refine KP.q QK.not ?_ <;> refine KP.q QK.mv ?_ <;> (first | refine KP.gn ?_ | refine KP.gu ?_ | refine KP.qy QK.mv ?_ | ((first | refine KP.gsP (t := 21) ?_ ?_ | refine KP.gs (t := 21) ?_ ?_) <;> intro _ <;> first | contradiction | refine KP.gn ?_ | refine KP.qy QK.mv ?_)) <;> (first | refine KP.gn ?_ | refine KP.gu ?_ | refine KP.qy QK.not ?_) <;> refine KP.q QK.pk ?_ <;> refine KP.list_nil ?_)
    | (refine CW.region (i := 4) ?_ <;> refine KP.q QK.as ?_ <;> refine KP.list_nil ?_)
    | ((with_reducible apply KP.fin1); (· rfl); (· rfl)))
      exact FA.ret

end Go.Proofs.Ytpmhelfdmhjnbaa
