import Derived.Test.YtpmhelfdmhjnbaaM8
import Derived.Test.YtpmhelfdmhjnbaaInkE
import Derived.Laws.Shifts
/- MergeSkips: bits, and the plain part. -/
namespace Go.Proofs.Ytpmhelfdmhjnbaa
open Go Go.Ink
set_option linter.unusedVariables false
set_option linter.unusedSimpArgs false

def bitV (bits : Int) (i : Nat) : Int := IntKind.i64.wrap ((BitVec.ofInt 64 (bits / 2 ^ min i 64) &&& BitVec.ofInt 64 1).toNat : Nat)
section
variable {P : Program} {c : Cx} {N : Nat} {T : Tm} {L : List Asrt} {dst : Option Tmp} {gd : Option (Nat × Bool)} {ty xt yt : TypeId} {pos : String} {aft : Array Edge} {x y : Operand} {m n : Int}
theorem QY.shrN {i : Nat} (hx : ev T x = some (.int .i64 m)) (hy : ev T y = some (.int .i64 (i : Int))) : QY P c N T L ⟨dst, .binOp .shr xt x y yt, ty, pos, aft, gd⟩ (.int .i64 (m / 2 ^ min i 64)) := fun a w g _ => by
  have h := shift_shr_any .i64 .i64 m (i : Int) (by omega)
  have e : IntKind.i64.bits = 64 := rfl
  rw [e, Int.toNat_natCast] at h
  simp [execOp, g.ev hx, g.ev hy, eqGuard_shr, binOp_shr, h]
theorem QY.and1 {i : Nat} (hx : ev T x = some (.int .i64 (m / 2 ^ min i 64))) (hy : ev T y = some (.int .i64 1)) : QY P c N T L ⟨dst, .binOp .and xt x y yt, ty, pos, aft, gd⟩ (.int .i64 (bitV m i)) := fun a w g _ => by
  have h : Op.intBits .and .i64 (m / 2 ^ min i 64) 1 = pure (.int .i64 (bitV m i)) := rfl
  simp [execOp, g.ev hx, g.ev hy, eqGuard_and, binOp_and, h]
end
def leastF (bits : Int) (n : Nat) : List Int := (List.range n).map fun i : Nat => if bitV bits i = 1 then 0 else -1 - (i : Int)
def wantF (bits : Int) (n : Nat) : List Int := ((List.range n).filter fun i => decide (bitV bits i = 1)).map fun i : Nat => (i : Int)
theorem least_len (bits : Int) (n : Nat) : (leastF bits n).length = n := by simp [leastF]
theorem least_step {bits : Int} {n : Nat} : leastF bits (n + 1) = leastF bits n ++ [if bitV bits n = 1 then 0 else -1 - (n : Int)] := by
  unfold leastF; rw [List.range_succ, List.map_append]; rfl
theorem want_step {bits : Int} {n : Nat} : wantF bits (n + 1) = wantF bits n ++ (if bitV bits n = 1 then [(n : Int)] else []) := by
  unfold wantF
  rw [List.range_succ, List.filter_append, List.map_append]
  by_cases h : bitV bits n = 1
  · rw [if_pos h]; simp [h]
  · rw [if_neg h]; simp [h]
theorem want_len (bits : Int) (n : Nat) : (wantF bits n).length ≤ n := by
  unfold wantF
  rw [List.length_map]
  exact Nat.le_trans (List.length_filter_le _ _) (by simp)
theorem least_at {bits : Int} {n i : Nat} (h : i < n) : (leastF bits n)[i]? = some (if bitV bits i = 1 then 0 else -1 - (i : Int)) := by
  unfold leastF
  rw [List.getElem?_map, List.getElem?_range h]; rfl
/-- A shard at the start. -/
def startP (bits : Int) (i : Nat) : PSh := (mkSh (if bitV bits i = 1 then 0 else -1 - (i : Int))).p
theorem start_at {bits N : Int} {n i : Nat} (h : i < n) : (newF (leastF bits n) N).shs[i]? = some (startP bits i) := by
  show ((leastF bits n).map fun d => (mkSh d).p)[i]? = _
  rw [List.getElem?_map, least_at h]; rfl
theorem start_t {bits : Int} {i : Nat} (h : bitV bits i = 1) : startP bits i = ⟨0, 0, false, false, Item.zero, []⟩ := by
  unfold startP mkSh; rw [if_pos h]; rfl
theorem start_f {bits : Int} {i : Nat} (h : ¬ bitV bits i = 1) : (startP bits i).ended = true ∧ (startP bits i).waits = [] := by
  unfold startP mkSh; rw [if_neg h]
  exact ⟨decide_eq_true (by omega), rfl⟩
theorem wanted_start {bits : Int} {i : Nat} : (startP bits i).wanted = decide (bitV bits i = 1) := by
  by_cases h : bitV bits i = 1
  · rw [start_t h, decide_eq_true h]; rfl
  · have := start_f h
    unfold PSh.wanted
    rw [this.1, decide_eq_false h]; rfl
theorem busy_start {bits : Int} {i : Nat} : (startP bits i).busy = decide (bitV bits i = 1) := by
  by_cases h : bitV bits i = 1
  · rw [start_t h, decide_eq_true h]; rfl
  · have := start_f h
    unfold PSh.busy
    rw [this.1, this.2, decide_eq_false h]; rfl
theorem new_len (bits N : Int) (n : Nat) : (newF (leastF bits n) N).shs.length = n := by simp [newF, least_len]
theorem new_wantsU (bits N : Int) (n : Nat) : wantsU (newF (leastF bits n) N).shs n = wantF bits n := by
  unfold wantsU wantF
  congr 1
  apply List.filter_congr
  intro i hi
  rw [start_at (List.mem_range.1 hi)]
  exact wanted_start
theorem new_busy {bits N : Int} {n : Nat} : (newF (leastF bits n) N).shs.any PSh.busy = decide (wantF bits n ≠ []) := by
  rw [Bool.eq_iff_iff, List.any_eq_true, decide_eq_true_eq]
  constructor
  · rintro ⟨s, hs, hb⟩ he
    obtain ⟨i, hi⟩ := List.getElem?_of_mem hs
    have hil := (List.getElem?_eq_some_iff.1 hi).1
    rw [new_len] at hil
    rw [start_at hil] at hi
    obtain rfl := Option.some.inj hi
    rw [busy_start, decide_eq_true_eq] at hb
    have : (i : Int) ∈ wantF bits n := by
      unfold wantF
      exact List.mem_map.2 ⟨i, List.mem_filter.2 ⟨List.mem_range.2 hil, decide_eq_true hb⟩, rfl⟩
    rw [he] at this
    simp at this
  · intro h
    obtain ⟨j, hj⟩ := List.exists_mem_of_ne_nil _ h
    unfold wantF at hj
    obtain ⟨i, hi, rfl⟩ := List.mem_map.1 hj
    obtain ⟨h1, h2⟩ := List.mem_filter.1 hi
    exact ⟨_, List.mem_of_getElem? (start_at (List.mem_range.1 h1)), by rw [busy_start]; exact h2⟩
theorem new_done {bits N : Int} {n : Nat} (hN : 1 ≤ N) : (newF (leastF bits n) N).done = decide (wantF bits n = []) := by
  unfold MS.done
  have h0 : decide (((newF (leastF bits n) N).told.length : Int) = (newF (leastF bits n) N).n) = false := decide_eq_false (by simp [newF]; omega)
  rw [h0, new_busy, Bool.false_or]
  by_cases h : wantF bits n = [] <;> simp [h]
theorem new_wants {bits N : Int} {n : Nat} (hN : 1 ≤ N) : (newF (leastF bits n) N).wants = wantF bits n := by
  unfold MS.wants
  rw [new_done hN, new_len, new_wantsU]
  by_cases h : wantF bits n = [] <;> simp [h]
/-- The shards up to i have ended; the others are as at the start. -/
structure SkS (bits N : Int) (n i : Nat) (st : MS) : Prop where
  n_ : st.n = N
  told : st.told = []
  len : st.shs.length = n
  before : ∀ (j : Nat) (s : PSh), j < i → st.shs[j]? = some s → s.ended = true
  rest : ∀ (j : Nat), i ≤ j → j < n → st.shs[j]? = some (startP bits j)
theorem sk_new {bits N : Int} {n : Nat} : SkS bits N n 0 (newF (leastF bits n) N) := ⟨rfl, rfl, new_len _ _ _, fun j s h => by omega, fun j _ h => start_at h⟩
theorem sk_put {bits N : Int} {n i : Nat} {st : MS} {l : List Item} (h : SkS bits N n i st) (hN : 1 ≤ N) (hi : i < n) (hl : l.length ≤ 5) (hc : chainF Item.zero false 0 l = true) : ∃ st', st.put i 0 l true = (decide (bitV bits i = 1), st') ∧ SkS bits N n (i + 1) st' := by
  have hs := h.rest i (Nat.le_refl _) hi
  have hput : st.put i 0 l true = if st.takes (startP bits i) 0 l true then (true, { st with shs := st.shs.set i ((startP bits i).put l true) }) else (false, st) := by
    unfold MS.put
    rw [if_pos (by omega), Int.toNat_natCast, hs]
  by_cases hb : bitV bits i = 1
  · have hst := start_t hb
    have hd : st.done = false := by
      unfold MS.done
      have h0 : decide ((st.told.length : Int) = st.n) = false := decide_eq_false (by rw [h.told, h.n_]; simp; omega)
      have h1 : st.shs.any PSh.busy = true := List.any_eq_true.2 ⟨_, List.mem_of_getElem? hs, by rw [busy_start]; exact decide_eq_true hb⟩
      rw [h0, h1]; rfl
    have ht : st.takes (startP bits i) 0 l true = true := by
      unfold MS.takes
      rw [hd, hst, hc]
      simp [PSh.wanted, hl, hc]
    rw [hput, ht, if_pos rfl]
    refine ⟨{ st with shs := st.shs.set i ((startP bits i).put l true) }, by rw [decide_eq_true hb], h.n_, h.told, by simp [h.len], fun j s hj hjs => ?_, fun j hj hjn => ?_⟩
    · simp only at hjs
      by_cases e : j = i
      · subst e
        rw [List.getElem?_set_self (by rw [h.len]; exact hi)] at hjs
        cases hjs; rfl
      · rw [List.getElem?_set_ne (fun e2 => e e2.symm)] at hjs
        exact h.before j s (by omega) hjs
    · simp only
      rw [List.getElem?_set_ne (by omega)]
      exact h.rest j (by omega) hjn
  · have ht : st.takes (startP bits i) 0 l true = false := by
      unfold MS.takes PSh.wanted
      rw [(start_f hb).1]
      simp
    rw [hput, ht, if_neg Bool.false_ne_true]
    refine ⟨_, by rw [decide_eq_false hb], h.n_, h.told, h.len, fun j s hj hjs => ?_, fun j hj hjn => h.rest j (by omega) hjn⟩
    by_cases e : j = i
    · subst e
      rw [hs] at hjs
      cases hjs; exact (start_f hb).1
    · exact h.before j s (by omega) hjs
/-! ### what Tell comes to -/
theorem tell_fix : ∀ (k : Nat) (st : MS), st.left ≤ k → st.tell.2.step = none
  | k, st, h => by
    cases hs : st.step with
    | none => rw [tell_end hs]; exact hs
    | some p =>
      obtain ⟨x, st'⟩ := p
      have hl := step_left hs
      rw [tell_step hs]
      match k, h with
      | 0, h => omega
      | k + 1, h => exact tell_fix k st' (by omega)
theorem step_parts {st st' : MS} {x : Item} (h : st.step = some (x, st')) : ∃ j s, st.shs[j]? = some s ∧ st.done = false ∧ aheadP st.shs st.shs.length = some (j, x) ∧ (st.shs.any fun s => s.might x) = false ∧ st' = { st with shs := st.shs.set j s.pop, told := st.told ++ [x] } := by
  unfold MS.step at h
  split at h
  · cases h
  · rename_i hd
    split at h
    · cases h
    · rename_i j y ha
      split at h
      · cases h
      · rename_i hm
        split at h
        · cases h
        · rename_i s hs
          simp only [Option.some.injEq, Prod.mk.injEq] at h
          obtain ⟨rfl, rfl⟩ := h
          exact ⟨j, s, hs, by simpa using hd, ha, by simpa using hm, rfl⟩
theorem tell_ended : ∀ (k : Nat) (st : MS), st.left ≤ k → (∀ s ∈ st.shs, s.ended = true) → ∀ s ∈ st.tell.2.shs, s.ended = true
  | k, st, h, he => by
    cases hs : st.step with
    | none => rw [tell_end hs]; exact he
    | some p =>
      obtain ⟨x, st'⟩ := p
      have hl := step_left hs
      obtain ⟨j, s, hj, _, _, _, rfl⟩ := step_parts hs
      rw [tell_step hs]
      match k, h with
      | 0, h => omega
      | k + 1, h =>
        refine tell_ended k _ (by omega) fun q hq => ?_
        simp only at hq
        rcases List.mem_or_eq_of_mem_set hq with hq | rfl
        · exact he q hq
        · exact he s (List.mem_of_getElem? hj)
theorem ahead_none : ∀ {k : Nat} {shs : List PSh}, aheadP shs k = none → ∀ (j : Nat) (s : PSh), j < k → shs[j]? = some s → s.waits = []
  | 0, shs, _, j, s, h, _ => by omega
  | k + 1, shs, h, j, s, hj, hs => by
    rw [aheadP] at h
    split at h
    · rename_i hx
      by_cases e : j = k
      · subst e
        rw [hs] at hx
        simp only [Option.bind_some] at hx
        cases hw : s.waits with
        | nil => rfl
        | cons a b => rw [hw] at hx; simp at hx
      · exact ahead_none h j s (by omega) hs
    · split at h
      · cases h
      · split at h <;> cases h
/-- Where all shards have ended, all is told behind Tell. -/
theorem tell_done {st : MS} (h : ∀ s ∈ st.shs, s.ended = true) : st.tell.2.done = true := by
  have h1 := tell_fix st.left st (Nat.le_refl _)
  have h2 := tell_ended st.left st (Nat.le_refl _) h
  generalize st.tell.2 = s0 at h1 h2
  cases hd : s0.done
  · exfalso
    unfold MS.step at h1
    rw [hd, if_neg Bool.false_ne_true] at h1
    cases ha : aheadP s0.shs s0.shs.length with
    | none =>
      have hb : s0.shs.any PSh.busy = false := by
        rw [List.any_eq_false]
        intro s hs
        obtain ⟨j, hj⟩ := List.getElem?_of_mem hs
        have hw := ahead_none ha j s (List.getElem?_eq_some_iff.1 hj).1 hj
        unfold PSh.busy
        rw [h2 s hs, hw]; simp
      unfold MS.done at hd
      rw [hb] at hd
      simp at hd
    | some p =>
      obtain ⟨j, x⟩ := p
      rw [ha] at h1
      simp only at h1
      have hm : (s0.shs.any fun s => s.might x) = false := by
        rw [List.any_eq_false]
        intro s hs
        unfold PSh.might PSh.wanted
        rw [h2 s hs]; simp
      rw [hm, if_neg Bool.false_ne_true] at h1
      obtain ⟨_, s, l, hs, _⟩ := ahead_at ha
      rw [hs] at h1
      cases h1
  · rfl
theorem sk_done {bits N : Int} {n : Nat} {st : MS} (h : SkS bits N n n st) : st.tell.2.done = true := tell_done fun s hs => by
  obtain ⟨j, hj⟩ := List.getElem?_of_mem hs
  have hl := (List.getElem?_eq_some_iff.1 hj).1
  exact h.before j s (by rw [h.len] at hl; exact hl) hj
theorem done_wants {st : MS} (h : st.done = true) : st.wants = [] := by unfold MS.wants; rw [if_pos h]
end Go.Proofs.Ytpmhelfdmhjnbaa
