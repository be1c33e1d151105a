import Derived.Test.YtpmhelfdmhjnbaaT7
/- list.At, by binary search. -/
namespace Go.Proofs.Ytpmhelfdmhjnbaa
open Go Go.Ink Go.Plain
set_option linter.unusedVariables false
set_option linter.unusedSimpArgs false
attribute [local irreducible] KP QY EW CW DW QG CP Spc DK Fina wpList lessF

theorem inc_lt {ts : List ByteArray} (h : Inc ts) : ∀ (n i : Nat) (a b : ByteArray), ts[i]? = some a → ts[i + n + 1]? = some b → cmpW a b < 0
  | 0, i, a, b, ha, hb => h i a b ha hb
  | n + 1, i, a, b, ha, hb => by
    have hl := (List.getElem?_eq_some_iff.1 hb).1
    obtain ⟨c, hc⟩ := at_lt (xs := ts) (i := i + n + 1) (by omega)
    exact cmpW_trans (inc_lt h n i a c ha hc) (h (i + n + 1) c b hc hb)
theorem inc_lt' {ts : List ByteArray} (h : Inc ts) {i j : Nat} {a b : ByteArray} (hij : i < j) (ha : ts[i]? = some a) (hb : ts[j]? = some b) : cmpW a b < 0 :=
  inc_lt h (j - i - 1) i a b ha (by rw [show i + (j - i - 1) + 1 = j by omega]; exact hb)
abbrev cmpTv : Value := .func (.func 85) #[] #[]
theorem find_spec {v : Value} {ts : List ByteArray} {t : ByteArray} (hi : Inc ts) (hl : ts.length ≤ 1000000) : Spc Try.prog 88 #[v, .string t, cmpTv] [rrow 1 eS v ts] [] (exP fun i : Nat => exP fun b : Bool => puP (b = true ↔ t ∈ ts) (ret (.tuple #[iv (i : Nat), .bool b]) [])) := by
  refine Spc.enter' (args := [v, .string t, cmpTv]) (T0 := [(0, v), (1, .string t), (2, cmpTv)]) Try.func88 rfl Try.ntmps88 (Nat.le_of_ble_eq_true rfl) rfl ?_
  intro w0 own
  
  repeat' (first
    | (with_reducible refine CW.seq ?_)
    | (with_reducible refine KP.then_code ?_)
    | (with_reducible refine CW.skip ?_)
    | (with_reducible refine CW.ret ?_)
    | (with_reducible refine KP.then_ret ?_)
    | (with_reducible refine KP.block_ret ?_)
    | (with_reducible refine CW.block ?_)
    | (with_reducible refine KP.block_normal ?_)
    | (with_reducible refine CW.exit ?_)
    | (with_reducible refine KP.then_exit ?_)
    | (with_reducible refine KP.block_hit ?_)
    | refine KP.bm ?_
    | refine CW.ct ?_
    | refine CW.cf ?_
    | (refine CW.cP ?_ ?_ <;> intro _ <;> try contradiction)
    | (refine CW.cs ?_ ?_ <;> intro _ <;> try contradiction)
    | (refine CW.region (i := 0) ?_ <;> refine KP.q QK.as ?_ <;> refine KP.q QK.as ?_ <;> refine KP.list_nil ?_)
    | (refine CW.region (i := 1) ?_ <;> refine KP.q QK.mv ?_ <;> refine KP.q QK.len ?_ <;> refine KP.q QK.as ?_ <;> refine KP.list_nil ?_)
    | (refine CW.region (i := 2) ?_ <;> refine KP.q QK.mv ?_ <;> refine KP.q QK.as ?_ <;> refine KP.q QK.as ?_ <;> refine KP.list_nil ?_)
    | ((with_reducible apply KP.fin2); (· rfl); (· rfl); (· rfl)))
  refine CA.loop (X := Nat × Nat) (fun z => [(0, v), (1, .string t), (2, cmpTv), (8, iv (ts.length : Nat)), (9, iv (z.1 : Nat)), (10, iv (z.2 : Nat))]) (fun _ => []) (fun z => z.1 ≤ z.2 ∧ z.2 ≤ ts.length ∧ (∀ j a, j < z.1 → ts[j]? = some a → cmpW a t < 0) ∧ (∀ j a, z.2 ≤ j → ts[j]? = some a → 0 ≤ cmpW a t)) (fun z => z.2 - z.1) (0, ts.length) ⟨by simp, by simp, fun j a h => by simp at h, fun j a h h2 => by have := (List.getElem?_eq_some_iff.1 h2).1; simp at h; omega⟩ ?_
  rintro ⟨lo, up⟩ ⟨h1, h2, h3, h4⟩
  try dsimp only at h1 h2 h3 h4 ⊢
  rcases Nat.lt_or_ge lo up with hlt | hge
  · obtain ⟨m, hm⟩ : ∃ m, (lo + up) / 2 = m := ⟨_, rfl⟩
    have hmv : Value.int .u64 (((lo + up) / 2 : Nat) : Int) = .int .u64 (m : Nat) := by rw [hm]
    obtain ⟨a, ha⟩ := at_lt (xs := ts) (i := m) (by omega)
    
    
    
    
    repeat' (first
    | (with_reducible refine CW.seq ?_)
    | (with_reducible refine KP.then_code ?_)
    | (with_reducible refine CW.skip ?_)
    | (with_reducible refine CW.ret ?_)
    | (with_reducible refine KP.then_ret ?_)
    | (with_reducible refine KP.block_ret ?_)
    | (with_reducible refine CW.block ?_)
    | (with_reducible refine KP.block_normal ?_)
    | (with_reducible refine CW.exit ?_)
    | (with_reducible refine KP.then_exit ?_)
    | (with_reducible refine KP.block_hit ?_)
    | refine KP.bm ?_
    | refine CW.ct ?_
    | refine CW.cf ?_
    | (refine CW.cP ?_ ?_ <;> intro _ <;> try contradiction)
    | (refine CW.cs ?_ ?_ <;> intro _ <;> try contradiction)
    | (refine CW.region (i := 3) ?_ <;> refine KP.q QK.mv ?_ <;> refine KP.q QK.mv ?_ <;> refine KP.q QK.lss ?_ <;> refine KP.list_nil ?_)
    | (refine CW.region (i := 4) ?_ <;> refine KP.q QK.mv ?_ <;> refine KP.q QK.mv ?_ <;> refine KP.q (by first | exact QY.add1N rfl rfl (by omega) | exact QY.addN rfl rfl (by omega) | exact QK.add) ?_ <;> refine KP.q (by first | exact QY.toU rfl (by omega) | exact QY.toI rfl (by omega) | exact QK.cv) ?_ <;> refine KP.q (QY.same (QY.half rfl rfl) hmv) ?_ <;> refine KP.q (by first | exact QY.toU rfl (by omega) | exact QY.toI rfl (by omega) | exact QK.cv) ?_ <;> refine KP.q QK.as ?_ <;> refine KP.list_nil ?_)
    | (refine CW.region (i := 5) ?_ <;> refine KP.q QK.mv ?_ <;> refine KP.q QK.mv ?_ <;> refine KP.q QK.mv ?_ <;> refine KP.q QK.ia ?_ <;> refine KP.q (by first | exact QY.load_s rfl (Rd.ro (by with_reducible first | exact m0 | exact m1 | exact m2 | exact m3 | exact m4 | exact m5 | fail)) (Reads.row0 RowL.rrow ha rfl) | exact QK.lds) ?_ <;> refine KP.q QK.mv ?_ <;> (refine KP.e ?_; ((refine EK.callv (cmpT_spec (a := a) (b := t)) ?_); repeat' first | refine CP.r ?_ | refine CP.r0 ?_ | refine CP.exP fun e30 => ?_ | refine CP.puP fun h30 => ?_)) <;> refine KP.q QK.lss ?_ <;> refine KP.list_nil ?_)
    | (refine CW.region (i := 6) ?_ <;> refine KP.q QK.mv ?_ <;> refine KP.q (by first | exact QY.add1N rfl rfl (by omega) | exact QY.addN rfl rfl (by omega) | exact QK.add) ?_ <;> refine KP.q QK.as ?_ <;> refine KP.list_nil ?_)
    | (refine CW.region (i := 7) ?_ <;> refine KP.q QK.mv ?_ <;> refine KP.q QK.as ?_ <;> refine KP.list_nil ?_)
    | ((with_reducible apply KP.fin2); (· rfl); (· rfl); (· rfl)))
    · rename_i hc
      refine KA.round (m + 1, up) ⟨by simp only; omega, h2, fun j b hj hb => ?_, h4⟩
      by_cases e : j = m
      · subst e; rw [ha] at hb; cases hb; exact hc
      · exact cmpW_trans (inc_lt' hi (by simp only at hj; omega) hb ha) hc
    · rename_i hc
      refine KA.round (lo, m) ⟨by simp only; omega, by simp only; omega, h3, fun j b hj hb => ?_⟩
      by_cases e : j = m
      · subst e; rw [ha] at hb; cases hb; omega
      · have h5 := inc_lt' hi (show m < j by simp only at hj; omega) ha hb
        by_cases h6 : cmpW b t < 0
        · have := cmpW_trans h5 h6; omega
        · omega
  · obtain rfl : lo = up := by omega
    have hin : ∀ j, ts[j]? = some t → j = lo := fun j hj => by
      have e0 := cmpW_self t
      have g1 : ¬ j < lo := fun h => by have := h3 j t h hj; omega
      have g2 : ¬ lo < j := fun h => by
        have hjl := (List.getElem?_eq_some_iff.1 hj).1
        obtain ⟨a, ha⟩ := at_lt (xs := ts) (i := lo) (by omega)
        have := h4 lo a (Nat.le_refl _) ha
        have := inc_lt' hi h ha hj
        omega
      omega
    rcases Nat.lt_or_ge lo ts.length with hl2 | hl2
    · obtain ⟨a, ha⟩ := at_lt hl2
      have hmem : t ∈ ts ↔ cmpW a t = 0 := ⟨fun h => by
        obtain ⟨j, hj⟩ := List.getElem?_of_mem h
        have := hin j hj; subst this
        rw [ha] at hj; cases hj; exact cmpW_self _, fun h => by rw [← cmpW_eq h]; exact List.mem_of_getElem? ha⟩
      
      
      repeat' (first
    | (with_reducible refine CW.seq ?_)
    | (with_reducible refine KP.then_code ?_)
    | (with_reducible refine CW.skip ?_)
    | (with_reducible refine CW.ret ?_)
    | (with_reducible refine KP.then_ret ?_)
    | (with_reducible refine KP.block_ret ?_)
    | (with_reducible refine CW.block ?_)
    | (with_reducible refine KP.block_normal ?_)
    | (with_reducible refine CW.exit ?_)
    | (with_reducible refine KP.then_exit ?_)
    | (with_reducible refine KP.block_hit ?_)
    | refine KP.bm ?_
    | refine CW.ct ?_
    | refine CW.cf ?_
    | (refine CW.cP ?_ ?_ <;> intro _ <;> try contradiction)
    | (refine CW.cs ?_ ?_ <;> intro _ <;> try contradiction)
    | (refine CW.region (i := 3) ?_ <;> refine KP.q QK.mv ?_ <;> refine KP.q QK.mv ?_ <;> refine KP.q QK.lss ?_ <;> refine KP.list_nil ?_)
    | (refine CW.region (i := 8) ?_ <;> refine KP.q QK.mv ?_ <;> refine KP.q QK.mv ?_ <;> refine KP.q QK.mv ?_ <;> refine KP.q QK.lss ?_ <;> refine KP.q QK.mv ?_ <;> (first | refine KP.gn ?_ | refine KP.gu ?_ | refine KP.qy QK.mv ?_ | ((first | refine KP.gsP (t := 39) ?_ ?_ | refine KP.gs (t := 39) ?_ ?_) <;> intro _ <;> first | contradiction | refine KP.gn ?_ | refine KP.qy QK.mv ?_)) <;> (first | refine KP.gn ?_ | refine KP.gu ?_ | refine KP.qy QK.mv ?_) <;> (first | refine KP.gn ?_ | refine KP.gu ?_ | refine KP.qy QK.mv ?_) <;> (first | refine KP.gn ?_ | refine KP.gu ?_ | refine KP.qy QK.ia ?_) <;> (first | refine KP.gn ?_ | refine KP.gu ?_ | refine KP.qy (by first | exact QY.load_s rfl (Rd.ro (by with_reducible first | exact m0 | exact m1 | exact m2 | exact m3 | exact m4 | exact m5 | fail)) (Reads.row0 RowL.rrow ha rfl) | exact QY.load_s rfl (Rd.ro (by with_reducible first | exact m0 | exact m1 | exact m2 | exact m3 | exact m4 | exact m5 | fail)) (Reads.row0 RowL.rrow ha rfl) | exact QK.lds) ?_) <;> (first | refine KP.gn ?_ | refine KP.gu ?_ | refine KP.qy QK.mv ?_) <;> (first | refine KP.gn ?_ | refine KP.gu ?_ | (refine KP.gy ?_; refine KP.e ?_; ((first | refine EK.callv (cmpT_spec (a := a) (b := t)) ?_ | refine EK.callv (cmpT_spec (a := a) (b := t)) ?_); repeat' first | refine CP.r ?_ | refine CP.r0 ?_ | refine CP.exP fun e46 => ?_ | refine CP.puP fun h46 => ?_))) <;> (first | refine KP.gn ?_ | refine KP.gu ?_ | refine KP.qy QK.eqi ?_) <;> refine KP.q QK.pk ?_ <;> refine KP.q QK.as ?_ <;> refine KP.q QK.as ?_ <;> refine KP.list_nil ?_)
    | ((with_reducible apply KP.fin2); (· rfl); (· rfl); (· rfl)))
      all_goals refine Fina.exP lo (Fina.exP (decide (cmpW a t = 0)) (Fina.puP (by rw [decide_eq_true_eq]; exact hmem.symm) ?_))
      all_goals exact FA.ret' (by first | rfl | simp_all)
    · have hmem : ¬ t ∈ ts := fun h => by
        obtain ⟨j, hj⟩ := List.getElem?_of_mem h
        have := hin j hj; have := (List.getElem?_eq_some_iff.1 hj).1; omega
      repeat' (first
    | (with_reducible refine CW.seq ?_)
    | (with_reducible refine KP.then_code ?_)
    | (with_reducible refine CW.skip ?_)
    | (with_reducible refine CW.ret ?_)
    | (with_reducible refine KP.then_ret ?_)
    | (with_reducible refine KP.block_ret ?_)
    | (with_reducible refine CW.block ?_)
    | (with_reducible refine KP.block_normal ?_)
    | (with_reducible refine CW.exit ?_)
    | (with_reducible refine KP.then_exit ?_)
    | (with_reducible refine KP.block_hit ?_)
    | refine KP.bm ?_
    | refine CW.ct ?_
    | refine CW.cf ?_
    | (refine CW.cP ?_ ?_ <;> intro _ <;> try contradiction)
    | (refine CW.cs ?_ ?_ <;> intro _ <;> try contradiction)
    | (refine CW.region (i := 3) ?_ <;> refine KP.q QK.mv ?_ <;> refine KP.q QK.mv ?_ <;> refine KP.q QK.lss ?_ <;> refine KP.list_nil ?_)
    | (refine CW.region (i := 8) ?_ <;> refine KP.q QK.mv ?_ <;> refine KP.q QK.mv ?_ <;> refine KP.q QK.mv ?_ <;> refine KP.q QK.lss ?_ <;> refine KP.q QK.mv ?_ <;> (first | refine KP.gn ?_ | refine KP.gu ?_ | refine KP.qy QK.mv ?_ | ((first | refine KP.gsP (t := 39) ?_ ?_ | refine KP.gs (t := 39) ?_ ?_) <;> intro _ <;> first | contradiction | refine KP.gn ?_ | refine KP.qy QK.mv ?_)) <;> (first | refine KP.gn ?_ | refine KP.gu ?_ | refine KP.qy QK.mv ?_) <;> (first | refine KP.gn ?_ | refine KP.gu ?_ | refine KP.qy QK.mv ?_) <;> (first | refine KP.gn ?_ | refine KP.gu ?_ | refine KP.qy QK.ia ?_) <;> (first | refine KP.gn ?_ | refine KP.gu ?_ | refine KP.qy (by first | exact QY.load_s rfl (Rd.ro (by with_reducible first | exact m0 | exact m1 | exact m2 | exact m3 | exact m4 | exact m5 | fail)) (Reads.row0 RowL.rrow ha rfl) | exact QY.load_s rfl (Rd.ro (by with_reducible first | exact m0 | exact m1 | exact m2 | exact m3 | exact m4 | exact m5 | fail)) (Reads.row0 RowL.rrow ha rfl) | exact QK.lds) ?_) <;> (first | refine KP.gn ?_ | refine KP.gu ?_ | refine KP.qy QK.mv ?_) <;> (first | refine KP.gn ?_ | refine KP.gu ?_ | (refine KP.gy ?_; refine KP.e ?_; ((first | refine EK.callv (cmpT_spec (a := a) (b := t)) ?_ | refine EK.callv (cmpT_spec (a := a) (b := t)) ?_); repeat' first | refine CP.r ?_ | refine CP.r0 ?_ | refine CP.exP fun e46 => ?_ | refine CP.puP fun h46 => ?_))) <;> (first | refine KP.gn ?_ | refine KP.gu ?_ | refine KP.qy QK.eqi ?_) <;> refine KP.q QK.pk ?_ <;> refine KP.q QK.as ?_ <;> refine KP.q QK.as ?_ <;> refine KP.list_nil ?_)
    | ((with_reducible apply KP.fin2); (· rfl); (· rfl); (· rfl)))
      all_goals refine Fina.exP lo (Fina.exP false (Fina.puP ⟨fun h => by (cases h), fun h => absurd h hmem⟩ ?_))
      all_goals exact FA.ret' (by first | rfl | simp_all)

def memB (us : List ByteArray) (t : ByteArray) : Bool := us.any fun u => decide (cmpW u t = 0)
theorem memB_iff {us : List ByteArray} {t : ByteArray} : memB us t = true ↔ t ∈ us := by
  unfold memB
  rw [List.any_eq_true]
  exact ⟨fun ⟨u, hu, h⟩ => by rw [← cmpW_eq (of_decide_eq_true h)]; exact hu, fun h => ⟨t, h, by rw [cmpW_self]; rfl⟩⟩

theorem at_spec {v : Value} {ts : List ByteArray} {t : ByteArray} (hi : Inc ts) (hl : ts.length ≤ 1000000) : Spc Try.prog 54 #[v, .string t] [rrow 1 eS v ts] [] (exP fun i : Nat => ret (.tuple #[iv (i : Nat), .bool (memB ts t)]) []) := by
  refine Spc.enter' (args := [v, .string t]) (T0 := [(0, v), (1, .string t)]) Try.func54 rfl Try.ntmps54 (Nat.le_of_ble_eq_true rfl) rfl ?_
  intro w0 own
  repeat' (first
    | (with_reducible refine CW.seq ?_)
    | (with_reducible refine KP.then_code ?_)
    | (with_reducible refine CW.skip ?_)
    | (with_reducible refine CW.ret ?_)
    | (with_reducible refine KP.then_ret ?_)
    | (with_reducible refine KP.block_ret ?_)
    | (with_reducible refine CW.block ?_)
    | (with_reducible refine KP.block_normal ?_)
    | (with_reducible refine CW.exit ?_)
    | (with_reducible refine KP.then_exit ?_)
    | (with_reducible refine KP.block_hit ?_)
    | refine KP.bm ?_
    | refine CW.ct ?_
    | refine CW.cf ?_
    | (refine CW.cP ?_ ?_ <;> intro _ <;> try contradiction)
    | (refine CW.cs ?_ ?_ <;> intro _ <;> try contradiction)
    | (refine CW.region (i := 0) ?_ <;> refine KP.q QK.as ?_ <;> refine KP.q QK.as ?_ <;> refine KP.list_nil ?_)
    | (refine CW.region (i := 1) ?_ <;> refine KP.q QK.mv ?_ <;> refine KP.q QK.mv ?_ <;> (refine KP.e ?_; ((refine EK.call (find_spec hi hl) ?_); repeat' first | refine CP.r ?_ | refine CP.r0 ?_ | refine CP.exP fun e8 => ?_ | refine CP.puP fun h8 => ?_)) <;> refine KP.q QK.ex ?_ <;> refine KP.q QK.ex ?_ <;> refine KP.q QK.as ?_ <;> refine KP.q QK.as ?_ <;> refine KP.list_nil ?_)
    | ((with_reducible apply KP.fin2); (· rfl); (· rfl); (· rfl)))
  rename_i e9
  rw [show memB ts t = e8 from by rw [Bool.eq_iff_iff, memB_iff]; exact h8.symm]
  refine Fina.exP e9 ?_
  exact FA.ret

theorem atE {v : Value} {ts : List ByteArray} {t : ByteArray} {b : Bool} (hi : Inc ts) (hl : ts.length ≤ 1000000) (h : memB ts t = b) : Spc Try.prog 54 #[v, .string t] [rrow 1 eS v ts] [] (exP fun i : Nat => ret (.tuple #[iv (i : Nat), .bool b]) []) := h ▸ at_spec hi hl
/-! ### Without -/
def outF (ts us : List ByteArray) : List ByteArray := ts.filter fun t => !memB us t
theorem out_len (ts us : List ByteArray) : (outF ts us).length ≤ ts.length := List.length_filter_le _ _
theorem out_step {ts us : List ByteArray} {t : ByteArray} : outF (ts ++ [t]) us = outF ts us ++ (if memB us t = true then [] else [t]) := by
  unfold outF
  rw [List.filter_append]
  cases h : memB us t <;> simp [h]
theorem out_spec {v u : Value} {ts us : List ByteArray} (hi : Inc us) (hu : us.length ≤ 1000000) (hl : ts.length ≤ 1000000) : Spc Try.prog 51 #[v, u] [rrow 1 eS v ts, rrow 1 eS u us] [] (exP fun v' => puP (v'.oneCell' = true) (ret v' [row 9 1 eS v' (outF ts us)])) := by
  refine Spc.enter' (args := [v, u]) (T0 := [(0, v), (1, u)]) Try.func51 rfl Try.ntmps51 (Nat.le_of_ble_eq_true rfl) rfl ?_
  intro w0 own
  repeat' (first
    | (with_reducible refine CW.seq ?_)
    | (with_reducible refine KP.then_code ?_)
    | (with_reducible refine CW.skip ?_)
    | (with_reducible refine CW.ret ?_)
    | (with_reducible refine KP.then_ret ?_)
    | (with_reducible refine KP.block_ret ?_)
    | (with_reducible refine CW.block ?_)
    | (with_reducible refine KP.block_normal ?_)
    | (with_reducible refine CW.exit ?_)
    | (with_reducible refine KP.then_exit ?_)
    | (with_reducible refine KP.block_hit ?_)
    | refine KP.bm ?_
    | refine CW.ct ?_
    | refine CW.cf ?_
    | (refine CW.cP ?_ ?_ <;> intro _ <;> try contradiction)
    | (refine CW.cs ?_ ?_ <;> intro _ <;> try contradiction)
    | (refine CW.region (i := 0) ?_ <;> refine KP.q QK.as ?_ <;> refine KP.list_nil ?_)
    | (refine CW.region (i := 1) ?_ <;> refine KP.q QK.as ?_ <;> refine KP.list_nil ?_)
    | (refine CW.region (i := 2) ?_ <;> refine KP.q QK.mv ?_ <;> refine KP.q QK.len ?_ <;> refine KP.q QK.mv ?_ <;> refine KP.list_nil ?_)
    | ((with_reducible apply KP.fin1); (· rfl); (· rfl)))
  refine CW.add (B := row 9 1 eS (.slice none 0 0) (outF (ts.take 0) us)) row.none ?_
  refine CA.loop (X := Nat × Value) (fun z => [(1, u), (10, v), (11, iv (ts.length : Nat)), (12, iv (z.1 : Nat)), (5, z.2)]) (fun z => [row 9 1 eS z.2 (outF (ts.take z.1) us)]) (fun z => z.1 ≤ ts.length ∧ z.2.oneCell' = true) (fun z => ts.length - z.1) (0, .slice none 0 0) ⟨by simp, rfl⟩ ?_
  rintro ⟨i, r⟩ ⟨hi2, hr⟩
  try dsimp only at hi2 hr ⊢
  rcases Nat.lt_or_ge i ts.length with hlt | hge
  · obtain ⟨t, htt⟩ := at_lt hlt
    have htk : ts.take (i + 1) = ts.take i ++ [t] := by rw [List.take_add_one, htt]; rfl
    have hnl := out_len (ts.take i) us
    rw [List.length_take] at hnl
    have hst := out_step (ts := ts.take i) (us := us) (t := t)
    rw [← htk] at hst
    
    
    cases hm : memB us t
    · 
      rw [hm, if_neg (by decide)] at hst
      repeat' (first
    | (with_reducible refine CW.seq ?_)
    | (with_reducible refine KP.then_code ?_)
    | (with_reducible refine CW.skip ?_)
    | (with_reducible refine CW.ret ?_)
    | (with_reducible refine KP.then_ret ?_)
    | (with_reducible refine KP.block_ret ?_)
    | (with_reducible refine CW.block ?_)
    | (with_reducible refine KP.block_normal ?_)
    | (with_reducible refine CW.exit ?_)
    | (with_reducible refine KP.then_exit ?_)
    | (with_reducible refine KP.block_hit ?_)
    | refine KP.bm ?_
    | refine CW.ct ?_
    | refine CW.cf ?_
    | (refine CW.cP ?_ ?_ <;> intro _ <;> try contradiction)
    | (refine CW.cs ?_ ?_ <;> intro _ <;> try contradiction)
    | (refine CW.region (i := 3) ?_ <;> refine KP.q QK.lss ?_ <;> refine KP.list_nil ?_)
    | (refine CW.region (i := 4) ?_ <;> refine KP.q QK.ia ?_ <;> refine KP.q (by first | exact QY.load_s rfl (Rd.ro (by with_reducible first | exact m0 | exact m1 | exact m2 | exact m3 | exact m4 | exact m5 | fail)) (Reads.row0 RowL.rrow htt rfl) | exact QK.lds) ?_ <;> refine KP.q QK.as ?_ <;> refine KP.list_nil ?_)
    | (refine CW.region (i := 5) ?_ <;> refine KP.q QK.mv ?_ <;> refine KP.q QK.mv ?_ <;> (refine KP.e ?_; ((refine EK.call (atE hi hu hm) ?_); repeat' first | refine CP.r ?_ | refine CP.r0 ?_ | refine CP.exP fun e19 => ?_ | refine CP.puP fun h19 => ?_)) <;> refine KP.q QK.mv ?_ <;> refine KP.q QK.ex ?_ <;> refine KP.q QK.ex ?_ <;> refine KP.q QK.as ?_ <;> refine KP.q QK.as ?_ <;> refine KP.list_nil ?_)
    | (refine CW.region (i := 6) ?_ <;> refine KP.q QK.mv ?_ <;> refine KP.q QK.not ?_ <;> refine KP.list_nil ?_)
    | (refine CW.region (i := 7) ?_ <;> refine KP.q QK.mv ?_ <;> refine KP.q QK.mv ?_ <;> (refine KP.e ?_; ((first | refine EW.buildSlice1_s (by decide) rfl (by first | rfl | assumption) rfl ?_ | refine EW.buildSlice1_a (by decide) rfl (by rfl) (by rfl) (by decide) (by decide) ?_); intro b26)) <;> (refine KP.e ?_; (first | (refine EK.app1 (enc := eS) t ?_; intro w27 o27) | (refine EK.app1 _ ?_; intro w27 o27))) <;> refine KP.q QK.as ?_ <;> refine KP.list_nil ?_)
    | (refine CW.region (i := 8) ?_ <;> refine KP.q QK.add ?_ <;> refine KP.q QK.mv ?_ <;> refine KP.list_nil ?_)
    | ((with_reducible apply KP.fin1); (· rfl); (· rfl)))
      rw [← hst]
      exact KA.round (i + 1, w27) ⟨by simp only; omega, by assumption⟩
    · 
      rw [hm, if_pos rfl, List.append_nil] at hst
      repeat' (first
    | (with_reducible refine CW.seq ?_)
    | (with_reducible refine KP.then_code ?_)
    | (with_reducible refine CW.skip ?_)
    | (with_reducible refine CW.ret ?_)
    | (with_reducible refine KP.then_ret ?_)
    | (with_reducible refine KP.block_ret ?_)
    | (with_reducible refine CW.block ?_)
    | (with_reducible refine KP.block_normal ?_)
    | (with_reducible refine CW.exit ?_)
    | (with_reducible refine KP.then_exit ?_)
    | (with_reducible refine KP.block_hit ?_)
    | refine KP.bm ?_
    | refine CW.ct ?_
    | refine CW.cf ?_
    | (refine CW.cP ?_ ?_ <;> intro _ <;> try contradiction)
    | (refine CW.cs ?_ ?_ <;> intro _ <;> try contradiction)
    | (refine CW.region (i := 3) ?_ <;> refine KP.q QK.lss ?_ <;> refine KP.list_nil ?_)
    | (refine CW.region (i := 4) ?_ <;> refine KP.q QK.ia ?_ <;> refine KP.q (by first | exact QY.load_s rfl (Rd.ro (by with_reducible first | exact m0 | exact m1 | exact m2 | exact m3 | exact m4 | exact m5 | fail)) (Reads.row0 RowL.rrow htt rfl) | exact QK.lds) ?_ <;> refine KP.q QK.as ?_ <;> refine KP.list_nil ?_)
    | (refine CW.region (i := 5) ?_ <;> refine KP.q QK.mv ?_ <;> refine KP.q QK.mv ?_ <;> (refine KP.e ?_; ((first | refine EK.call (atE hi hu hm) ?_ | refine EK.call (atE hi hu hm) ?_); repeat' first | refine CP.r ?_ | refine CP.r0 ?_ | refine CP.exP fun e19 => ?_ | refine CP.puP fun h19 => ?_)) <;> refine KP.q QK.mv ?_ <;> refine KP.q QK.ex ?_ <;> refine KP.q QK.ex ?_ <;> refine KP.q QK.as ?_ <;> refine KP.q QK.as ?_ <;> refine KP.list_nil ?_)
    | (refine CW.region (i := 6) ?_ <;> refine KP.q QK.mv ?_ <;> refine KP.q QK.not ?_ <;> refine KP.list_nil ?_)
    | (refine CW.region (i := 8) ?_ <;> refine KP.q QK.add ?_ <;> refine KP.q QK.mv ?_ <;> refine KP.list_nil ?_)
    | ((with_reducible apply KP.fin1); (· rfl); (· rfl)))
      rw [← hst]
      exact KA.round (i + 1, r) ⟨by simp only; omega, hr⟩
  · obtain rfl : i = ts.length := by omega
    rw [List.take_length]
    repeat' (first
    | (with_reducible refine CW.seq ?_)
    | (with_reducible refine KP.then_code ?_)
    | (with_reducible refine CW.skip ?_)
    | (with_reducible refine CW.ret ?_)
    | (with_reducible refine KP.then_ret ?_)
    | (with_reducible refine KP.block_ret ?_)
    | (with_reducible refine CW.block ?_)
    | (with_reducible refine KP.block_normal ?_)
    | (with_reducible refine CW.exit ?_)
    | (with_reducible refine KP.then_exit ?_)
    | (with_reducible refine KP.block_hit ?_)
    | refine KP.bm ?_
    | refine CW.ct ?_
    | refine CW.cf ?_
    | (refine CW.cP ?_ ?_ <;> intro _ <;> try contradiction)
    | (refine CW.cs ?_ ?_ <;> intro _ <;> try contradiction)
    | (refine CW.region (i := 3) ?_ <;> refine KP.q QK.lss ?_ <;> refine KP.list_nil ?_)
    | (refine CW.region (i := 9) ?_ <;> refine KP.q QK.mv ?_ <;> refine KP.q QK.as ?_ <;> refine KP.list_nil ?_)
    | ((with_reducible apply KP.fin1); (· rfl); (· rfl)))
    refine Fina.exP r (Fina.puP hr ?_)
    exact FA.ret

end Go.Proofs.Ytpmhelfdmhjnbaa
