import Derived.Test.YtpmhelfdmhjnbaaR0
/- Within: the banded distance. -/
namespace Go.Proofs.Ytpmhelfdmhjnbaa
open Go Go.Ink Go.Plain
set_option linter.unusedVariables false
set_option linter.unusedSimpArgs false
section
variable {c : Cx} {N : Nat} {T : Tm} {L : List Asrt}
variable {dst : Option Tmp} {gd : Option (Nat × Bool)} {ty : TypeId} {pos : String} {aft : Array Edge} {ts : Array TypeId} {k k2 k3 k4 : IntKind} {x y z u : Operand}
theorem min3N {a b d : Nat} (hx : ev T x = some (.int k (a : Nat))) (hy : ev T y = some (.int k2 (b : Nat))) (hz : ev T z = some (.int k3 (d : Nat))) :
    QY Try.prog c N T L ⟨dst, .call { callee := .builtin .min, args := #[x, y, z], argTypes := ts }, ty, pos, aft, gd⟩ (.int k ((min (min a b) d : Nat) : Int)) := fun a' w g _ => by
  have : (Builtin.min_ ts ty #[.int k (a : Nat), .int k2 (b : Nat), .int k3 (d : Nat)]).run Try.prog w = .ok (.int k ((min (min a b) d : Nat) : Int)) w := by
    simp [Builtin.min_, Builtin.min2]
    repeat' split
    all_goals omega
  simp [execOp, resolve, invoke, builtin, g.ev hx, g.ev hy, g.ev hz, this]
theorem min4N {a b d e : Nat} (hx : ev T x = some (.int k (a : Nat))) (hy : ev T y = some (.int k2 (b : Nat))) (hz : ev T z = some (.int k3 (d : Nat))) (hu : ev T u = some (.int k4 (e : Nat))) :
    QY Try.prog c N T L ⟨dst, .call { callee := .builtin .min, args := #[x, y, z, u], argTypes := ts }, ty, pos, aft, gd⟩ (.int k ((min (min (min a b) d) e : Nat) : Int)) := fun a' w g _ => by
  have : (Builtin.min_ ts ty #[.int k (a : Nat), .int k2 (b : Nat), .int k3 (d : Nat), .int k4 (e : Nat)]).run Try.prog w = .ok (.int k ((min (min (min a b) d) e : Nat) : Int)) w := by
    simp [Builtin.min_, Builtin.min2]
    repeat' split
    all_goals omega
  simp [execOp, resolve, invoke, builtin, g.ev hx, g.ev hy, g.ev hz, g.ev hu, this]
end
attribute [local irreducible] KP QY EW CW DW QG CP Spc DK Fina wpList lessF

/-! ### a row of counts, by what stands at each place -/
def eK (n : Nat) : List Value := [.int .i64 n]
instance : Enc eK 1 := ⟨fun _ => rfl, by decide, fun a u hu => by
  simp only [eK, List.mem_cons, List.not_mem_nil, or_false] at hu
  subst hu; rfl⟩
def rowF (f : Nat → Nat) (m : Nat) : List Nat := (List.range m).map f
def upd (f : Nat → Nat) (i x : Nat) : Nat → Nat := fun j => if j = i then x else f j
@[simp] theorem rowF_len (f : Nat → Nat) (m : Nat) : (rowF f m).length = m := by simp [rowF]
theorem rowF_at {f : Nat → Nat} {i m : Nat} (h : i < m) : (rowF f m)[i]? = some (f i) := by simp [rowF, h]
theorem rowF_set {f : Nat → Nat} {i x m : Nat} : (rowF f m).set i x = rowF (upd f i x) m := by
  apply List.ext_getElem?
  intro j
  rw [List.getElem?_set]
  simp only [rowF_len]
  by_cases h : i = j
  · subst h
    by_cases hm : i < m
    · rw [if_pos rfl, if_pos hm, rowF_at hm]; simp [upd]
    · rw [if_pos rfl, if_neg hm]; simp [rowF, hm]
  · rw [if_neg h]
    by_cases hm : j < m
    · rw [rowF_at hm, rowF_at hm]; simp [upd, Ne.symm h]
    · simp [rowF, hm]
theorem upd_same (f : Nat → Nat) (i x : Nat) : upd f i x i = x := by simp [upd]
theorem upd_other {f : Nat → Nat} {i x j : Nat} (h : j ≠ i) : upd f i x j = f j := by simp [upd, h]
section
variable {c : Cx} {N : Nat} {T : Tm} {L L1 : List Asrt} {R : Exit → Act → World → Prop} {K : Act → World → Prop}
theorem makeN {l d : Nat} {x y : Operand} {ty pos aft gd} (hd : d < N) (hx : ev T x = some (.int .i64 (l : Nat))) (hy : ev T y = some (.int .i64 (l : Nat))) (hb : l ≤ 10000000)
    (h : ∀ v, v.oneCell' = true → KP c N ((d, v) :: T) (row 3 1 eK v (rowF (fun _ => 0) l) :: L) K) : EW Try.prog c N T L ⟨some d, .makeSlice 61 x y, ty, pos, aft, gd⟩ R K :=
  EW.makeSlice (by_ := 8) (e := 3) (n := 1) (zs := [iv 0]) (z := iv 0) hd hx hy rfl (Nat.le_refl _) (by omega) (by decide) fun g => by
    have hp := pt_row (b := g) (e := 3) (enc := eK) (n := 1) (ds := (List.replicate l [iv 0]).flatten) (xs := rowF (fun _ => 0) l) (by
      unfold rowF
      clear hx hy hb h
      induction l with
      | zero => rfl
      | succ l ih => rw [List.replicate_succ', List.flatten_append, ih, List.range_succ, List.map_append, List.flatMap_append]; rfl) (by rw [rowF_len]; simp [maxLen]; omega)
    rw [rowF_len] at hp
    exact KP.imp hp (h _ rfl)
theorem st_f {f : Nat → Nat} {i m y : Nat} {v : Value} {x yy : Operand} {ty pos aft gd} (h : KP c N T (row 3 1 eK v (rowF (upd f i y) m) :: L1) K) (hx : ev T x = some (.pointer (some ⟨vb v, vo v + i * 1, none⟩))) (hy : ev T yy = some (.int .i64 (y : Nat))) (p : Pick L (row 3 1 eK v (rowF f m)) L1) (hi : i < m) :
    EW Try.prog c N T L ⟨none, .store 3 x yy, ty, pos, aft, gd⟩ R K :=
  EK.st_rf0 (enc := eK) (x' := f i) (y' := y) (i := i) (v := v) (by rw [rowF_set]; exact h) hx hy p (rowF_at hi) rfl rfl
end

/-! ### the band -/
/-- Row i of the bounded reckoning stands in f, so far xa the band reaches. -/
def Band (a b : List Nat) (K i : Nat) (f : Nat → Nat) : Prop := ∀ j, j ≤ b.length → i ≤ j + K + 1 → j ≤ i + K + 1 → f j = min (lev a b i j) (K + 1)
theorem band_edge {a b : List Nat} {K i j : Nat} (h : i + K + 1 ≤ j ∨ j + K + 1 ≤ i) : min (lev a b i j) (K + 1) = K + 1 := by
  have := lev_ge a b i j
  omega
/-- Row i + 1, up to (and not with) place j, and row i from there on; e is what row i held at j - 1. -/
structure Mid (a b : List Nat) (K i lo j e : Nat) (f : Nat → Nat) : Prop where
  diag : e = min (lev a b i (j - 1)) (K + 1)
  done : ∀ m, m < j → lo ≤ m + 1 → f m = min (lev a b (i + 1) m) (K + 1)
  rest : ∀ m, j ≤ m → m ≤ b.length → m ≤ i + K + 1 → f m = min (lev a b i m) (K + 1)
theorem mid_start {a b : List Nat} {K i lo : Nat} {f f1 : Nat → Nat} (hB : Band a b K i f) (hlo : lo = max (i + 1 - K) 1) (hb : lo ≤ b.length + 1) (h1 : f1 (lo - 1) = if lo = 1 then min (i + 1) (K + 1) else K + 1) (h2 : ∀ m, m ≠ lo - 1 → f1 m = f m) : Mid a b K i lo lo (f (lo - 1)) f1 where
  diag := hB _ (by omega) (by omega) (by omega)
  done m hm1 hm2 := by
    obtain rfl : m = lo - 1 := by omega
    rw [h1]
    by_cases h : lo = 1
    · rw [if_pos h, h]
      rw [show (1 - 1 : Nat) = 0 from rfl, lev_zero_right]
    · rw [if_neg h, band_edge (.inr (by omega))]
  rest m hm1 hm2 hm3 := by rw [h2 m (by omega)]; exact hB m hm2 (by omega) (by omega)
theorem mid_step {a b : List Nat} {K i lo j e : Nat} {f : Nat → Nat} (h : Mid a b K i lo j e f) (h1 : lo ≤ j) (h0 : 1 ≤ lo) (h2 : j ≤ b.length) (h3 : j ≤ i + 1 + K) {cost : Nat} (hc : cost = e + (if a[i]? = b[j - 1]? then 0 else 1)) : Mid a b K i lo (j + 1) (f j) (upd f j (min (min (min (f j + 1) (f (j - 1) + 1)) cost) (K + 1))) where
  diag := h.rest j (Nat.le_refl _) h2 (by omega)
  done m hm1 hm2 := by
    by_cases hm : m = j
    · subst hm
      rw [upd_same, hc, h.diag, h.rest m (Nat.le_refl _) h2 (by omega), h.done (m - 1) (by omega) (by omega)]
      have := lev_cut a b i (m - 1) (K + 1)
      rw [show m - 1 + 1 = m by omega] at this
      rw [this]
      omega
    · rw [upd_other hm]; exact h.done m (by omega) hm2
  rest m hm1 hm2 hm3 := by rw [upd_other (by omega)]; exact h.rest m (by omega) hm2 hm3
theorem mid_end {a b : List Nat} {K i lo hi e : Nat} {f f2 : Nat → Nat} (h : Mid a b K i lo (hi + 1) e f) (hlo : lo = max (i + 1 - K) 1) (hhi : hi = min (i + 1 + K) b.length) (h1 : hi < b.length → f2 (hi + 1) = K + 1) (h2 : ∀ m, m ≤ hi → f2 m = f m) : Band a b K (i + 1) f2 := fun j hj1 hj2 hj3 => by
  by_cases hj : j ≤ hi
  · rw [h2 j hj]; exact h.done j (by omega) (by omega)
  · obtain rfl : j = hi + 1 := by omega
    rw [h1 (by omega), band_edge (.inl (by omega))]
def withinV (a b : List Nat) (k : Int) : Value := if (dist a b : Int) ≤ k then .tuple #[iv (dist a b : Nat), .bool true] else .tuple #[iv 0, .bool false]





theorem rowF_lv (f : Nat → Nat) (m : Nat) : Value.int .i64 ((rowF f m).length : Int) = iv (m : Nat) := by rw [rowF_len]
set_option maxHeartbeats 4000000 in
theorem within_spec {va vb : Value} {xa xb : List Nat} {k : Int} (ha : xa.length ≤ 1000000) (hb : xb.length ≤ 1000000) : Spc Try.prog 100 #[va, vb, iv k] [rrow 1 eR va xa, rrow 1 eR vb xb] [] (ret (withinV xa xb k) []) := by
  refine Spc.enter' (args := [va, vb, iv k]) (T0 := [(0, va), (1, vb), (2, iv k)]) Try.func100 rfl Try.ntmps100 (Nat.le_of_ble_eq_true rfl) rfl ?_
  intro w0 own
  have hge := lev_ge xa xb xa.length xb.length
  have hle := lev_le xa xb xa.length xb.length
  by_cases hbad : k < 0 ∨ (xa.length : Int) - xb.length > k ∨ (xb.length : Int) - xa.length > k
  · have hv : withinV xa xb k = .tuple #[iv 0, .bool false] := if_neg (by unfold dist; omega)
    rw [hv]
    repeat' (first
    | (with_reducible refine CW.seq ?_)
    | (with_reducible refine KP.then_code ?_)
    | (with_reducible refine CW.skip ?_)
    | (with_reducible refine CW.ret ?_)
    | (with_reducible refine KP.then_ret ?_)
    | (with_reducible refine KP.block_ret ?_)
    | (with_reducible refine CW.block ?_)
    | (with_reducible refine KP.block_normal ?_)
    | (with_reducible refine CW.exit ?_)
    | (with_reducible refine KP.then_exit ?_)
    | (with_reducible refine KP.block_hit ?_)
    | refine KP.bm ?_
    | refine CW.ct ?_
    | refine CW.cf ?_
    | (refine CW.cP ?_ ?_ <;> intro _ <;> try contradiction)
    | (refine CW.cs ?_ ?_ <;> intro _ <;> try contradiction)
    | (refine CW.region (i := 0) ?_ <;> refine KP.q QK.as ?_ <;> refine KP.q QK.as ?_ <;> refine KP.list_nil ?_)
    | (refine CW.region (i := 1) ?_ <;> refine KP.q QK.mv ?_ <;> refine KP.q QK.lss ?_ <;> refine KP.q QK.mv ?_ <;> (first | refine KP.gn ?_ | refine KP.gu ?_ | refine KP.qy QK.mv ?_ | ((first | refine KP.gsP (t := 20) ?_ ?_ | refine KP.gs (t := 20) ?_ ?_) <;> intro _ <;> first | contradiction | refine KP.gn ?_ | refine KP.qy QK.mv ?_)) <;> (first | refine KP.gn ?_ | refine KP.gu ?_ | refine KP.qy (by first | exact QY.same (QY.len_row rfl (Rd.own (by with_reducible first | exact k0 | exact k1 | exact k2 | exact k3 | exact k4 | exact k5 | exact k6 | exact k7 | exact k8 | exact k9 | fail)) RowL.row) (rowF_lv _ _) | exact QK.len) ?_) <;> (first | refine KP.gn ?_ | refine KP.gu ?_ | refine KP.qy QK.mv ?_) <;> (first | refine KP.gn ?_ | refine KP.gu ?_ | refine KP.qy (by first | exact QY.same (QY.len_row rfl (Rd.own (by with_reducible first | exact k0 | exact k1 | exact k2 | exact k3 | exact k4 | exact k5 | exact k6 | exact k7 | exact k8 | exact k9 | fail)) RowL.row) (rowF_lv _ _) | exact QK.len) ?_) <;> (first | refine KP.gn ?_ | refine KP.gu ?_ | refine KP.qy QK.sub ?_) <;> (first | refine KP.gn ?_ | refine KP.gu ?_ | refine KP.qy QK.mv ?_) <;> (first | refine KP.gn ?_ | refine KP.gu ?_ | refine KP.qy QK.gtr ?_) <;> refine KP.q QK.pk ?_ <;> refine KP.q QK.mv ?_ <;> (first | refine KP.gn ?_ | refine KP.gu ?_ | refine KP.qy QK.mv ?_ | ((first | refine KP.gsP (t := 29) ?_ ?_ | refine KP.gs (t := 29) ?_ ?_) <;> intro _ <;> first | contradiction | refine KP.gn ?_ | refine KP.qy QK.mv ?_)) <;> (first | refine KP.gn ?_ | refine KP.gu ?_ | refine KP.qy (by first | exact QY.same (QY.len_row rfl (Rd.own (by with_reducible first | exact k0 | exact k1 | exact k2 | exact k3 | exact k4 | exact k5 | exact k6 | exact k7 | exact k8 | exact k9 | fail)) RowL.row) (rowF_lv _ _) | exact QK.len) ?_) <;> (first | refine KP.gn ?_ | refine KP.gu ?_ | refine KP.qy QK.mv ?_) <;> (first | refine KP.gn ?_ | refine KP.gu ?_ | refine KP.qy (by first | exact QY.same (QY.len_row rfl (Rd.own (by with_reducible first | exact k0 | exact k1 | exact k2 | exact k3 | exact k4 | exact k5 | exact k6 | exact k7 | exact k8 | exact k9 | fail)) RowL.row) (rowF_lv _ _) | exact QK.len) ?_) <;> (first | refine KP.gn ?_ | refine KP.gu ?_ | refine KP.qy QK.sub ?_) <;> (first | refine KP.gn ?_ | refine KP.gu ?_ | refine KP.qy QK.mv ?_) <;> (first | refine KP.gn ?_ | refine KP.gu ?_ | refine KP.qy QK.gtr ?_) <;> refine KP.q QK.pk ?_ <;> refine KP.list_nil ?_)
    | (refine CW.region (i := 2) ?_ <;> refine KP.q QK.as ?_ <;> refine KP.q QK.as ?_ <;> refine KP.list_nil ?_)
    | ((with_reducible apply KP.fin2); (· rfl); (· rfl); (· rfl)))
    all_goals first | exact FA.ret | skip
  obtain ⟨K, hK⟩ : ∃ K : Nat, min k ((xa.length + xb.length : Nat) : Int) = K := ⟨(min k ((xa.length + xb.length : Nat) : Int)).toNat, by omega⟩
  have hKv : iv (min k ((xa.length + xb.length : Nat) : Int)) = iv (K : Nat) := by rw [hK]
  have hKl : K ≤ xa.length + xb.length := by omega
  have hv : withinV xa xb k = if dist xa xb ≤ K then .tuple #[iv (dist xa xb : Nat), .bool true] else .tuple #[iv 0, .bool false] := by
    unfold withinV dist
    by_cases h : (lev xa xb xa.length xb.length : Int) ≤ k
    · rw [if_pos h, if_pos (by omega)]
    · rw [if_neg h, if_neg (by omega)]
  rw [hv]
  have hab : xa.length ≤ xb.length + K := by omega
  have hba : xb.length ≤ xa.length + K := by omega
  
  repeat' (first
    | (with_reducible refine CW.seq ?_)
    | (with_reducible refine KP.then_code ?_)
    | (with_reducible refine CW.skip ?_)
    | (with_reducible refine CW.ret ?_)
    | (with_reducible refine KP.then_ret ?_)
    | (with_reducible refine KP.block_ret ?_)
    | (with_reducible refine CW.block ?_)
    | (with_reducible refine KP.block_normal ?_)
    | (with_reducible refine CW.exit ?_)
    | (with_reducible refine KP.then_exit ?_)
    | (with_reducible refine KP.block_hit ?_)
    | refine KP.bm ?_
    | refine CW.ct ?_
    | refine CW.cf ?_
    | (refine CW.cP ?_ ?_ <;> intro _ <;> try contradiction)
    | (refine CW.cs ?_ ?_ <;> intro _ <;> try contradiction)
    | (refine CW.region (i := 0) ?_ <;> refine KP.q QK.as ?_ <;> refine KP.q QK.as ?_ <;> refine KP.list_nil ?_)
    | (refine CW.region (i := 1) ?_ <;> refine KP.q QK.mv ?_ <;> refine KP.q QK.lss ?_ <;> refine KP.q QK.mv ?_ <;> (first | refine KP.gn ?_ | refine KP.gu ?_ | refine KP.qy QK.mv ?_ | ((first | refine KP.gsP (t := 20) ?_ ?_ | refine KP.gs (t := 20) ?_ ?_) <;> intro _ <;> first | contradiction | refine KP.gn ?_ | refine KP.qy QK.mv ?_)) <;> (first | refine KP.gn ?_ | refine KP.gu ?_ | refine KP.qy (by first | exact QY.same (QY.len_row rfl (Rd.own (by with_reducible first | exact k0 | exact k1 | exact k2 | exact k3 | exact k4 | exact k5 | exact k6 | exact k7 | exact k8 | exact k9 | fail)) RowL.row) (rowF_lv _ _) | exact QK.len) ?_) <;> (first | refine KP.gn ?_ | refine KP.gu ?_ | refine KP.qy QK.mv ?_) <;> (first | refine KP.gn ?_ | refine KP.gu ?_ | refine KP.qy (by first | exact QY.same (QY.len_row rfl (Rd.own (by with_reducible first | exact k0 | exact k1 | exact k2 | exact k3 | exact k4 | exact k5 | exact k6 | exact k7 | exact k8 | exact k9 | fail)) RowL.row) (rowF_lv _ _) | exact QK.len) ?_) <;> (first | refine KP.gn ?_ | refine KP.gu ?_ | refine KP.qy QK.sub ?_) <;> (first | refine KP.gn ?_ | refine KP.gu ?_ | refine KP.qy QK.mv ?_) <;> (first | refine KP.gn ?_ | refine KP.gu ?_ | refine KP.qy QK.gtr ?_) <;> refine KP.q QK.pk ?_ <;> refine KP.q QK.mv ?_ <;> (first | refine KP.gn ?_ | refine KP.gu ?_ | refine KP.qy QK.mv ?_ | ((first | refine KP.gsP (t := 29) ?_ ?_ | refine KP.gs (t := 29) ?_ ?_) <;> intro _ <;> first | contradiction | refine KP.gn ?_ | refine KP.qy QK.mv ?_)) <;> (first | refine KP.gn ?_ | refine KP.gu ?_ | refine KP.qy (by first | exact QY.same (QY.len_row rfl (Rd.own (by with_reducible first | exact k0 | exact k1 | exact k2 | exact k3 | exact k4 | exact k5 | exact k6 | exact k7 | exact k8 | exact k9 | fail)) RowL.row) (rowF_lv _ _) | exact QK.len) ?_) <;> (first | refine KP.gn ?_ | refine KP.gu ?_ | refine KP.qy QK.mv ?_) <;> (first | refine KP.gn ?_ | refine KP.gu ?_ | refine KP.qy (by first | exact QY.same (QY.len_row rfl (Rd.own (by with_reducible first | exact k0 | exact k1 | exact k2 | exact k3 | exact k4 | exact k5 | exact k6 | exact k7 | exact k8 | exact k9 | fail)) RowL.row) (rowF_lv _ _) | exact QK.len) ?_) <;> (first | refine KP.gn ?_ | refine KP.gu ?_ | refine KP.qy QK.sub ?_) <;> (first | refine KP.gn ?_ | refine KP.gu ?_ | refine KP.qy QK.mv ?_) <;> (first | refine KP.gn ?_ | refine KP.gu ?_ | refine KP.qy QK.gtr ?_) <;> refine KP.q QK.pk ?_ <;> refine KP.list_nil ?_)
    | (refine CW.region (i := 3) ?_ <;> refine KP.q QK.mv ?_ <;> refine KP.q QK.mv ?_ <;> refine KP.q (by first | exact QY.same (QY.len_row rfl (Rd.own (by with_reducible first | exact k0 | exact k1 | exact k2 | exact k3 | exact k4 | exact k5 | exact k6 | exact k7 | exact k8 | exact k9 | fail)) RowL.row) (rowF_lv _ _) | exact QK.len) ?_ <;> refine KP.q QK.mv ?_ <;> refine KP.q (by first | exact QY.same (QY.len_row rfl (Rd.own (by with_reducible first | exact k0 | exact k1 | exact k2 | exact k3 | exact k4 | exact k5 | exact k6 | exact k7 | exact k8 | exact k9 | fail)) RowL.row) (rowF_lv _ _) | exact QK.len) ?_ <;> refine KP.q (by first | exact QY.addN rfl rfl (by omega) | exact QK.add) ?_ <;> refine KP.q (by first | exact QY.same (QY.min2 rfl rfl) hKv | exact QK.min) ?_ <;> refine KP.q QK.as ?_ <;> refine KP.list_nil ?_)
    | (refine CW.region (i := 4) ?_ <;> refine KP.q QK.mv ?_ <;> refine KP.q (by first | exact QY.addN rfl rfl (by omega) | exact QK.add) ?_ <;> refine KP.q QK.as ?_ <;> refine KP.list_nil ?_)
    | (refine CW.region (i := 5) ?_ <;> refine KP.q QK.mv ?_ <;> refine KP.q (by first | exact QY.same (QY.len_row rfl (Rd.own (by with_reducible first | exact k0 | exact k1 | exact k2 | exact k3 | exact k4 | exact k5 | exact k6 | exact k7 | exact k8 | exact k9 | fail)) RowL.row) (rowF_lv _ _) | exact QK.len) ?_ <;> refine KP.q (by first | exact QY.addN rfl rfl (by omega) | exact QK.add) ?_ <;> (refine KP.e ?_; (first | (refine makeN (by decide) rfl rfl (by omega) (fun e50 h50 => ?_)))) <;> refine KP.q QK.as ?_ <;> refine KP.list_nil ?_)
    | (refine CW.region (i := 6) ?_ <;> refine KP.q QK.mv ?_ <;> refine KP.q (by first | exact QY.same (QY.len_row rfl (Rd.own (by with_reducible first | exact k0 | exact k1 | exact k2 | exact k3 | exact k4 | exact k5 | exact k6 | exact k7 | exact k8 | exact k9 | fail)) RowL.row) (rowF_lv _ _) | exact QK.len) ?_ <;> refine KP.q QK.mv ?_ <;> refine KP.list_nil ?_)
    | ((with_reducible apply KP.fin2); (· rfl); (· rfl); (· rfl)))
  refine CA.loop (X := Nat × (Nat → Nat)) (fun z => [(0, va), (1, vb), (2, iv (K : Nat)), (8, iv ((K + 1 : Nat) : Int)), (9, e50), (52, iv ((xb.length + 1 : Nat) : Int)), (53, iv (z.1 : Nat))]) (fun z => [row 3 1 eK e50 (rowF z.2 (xb.length + 1))]) (fun z => z.1 ≤ xb.length + 1 ∧ ∀ j, j < z.1 → z.2 j = min j (K + 1)) (fun z => xb.length + 1 - z.1) (0, fun _ => 0) ⟨by simp, fun j h => by simp at h⟩ ?_
  rintro ⟨i, f⟩ ⟨hi, hf⟩
  try dsimp only at hi hf ⊢
  
  rcases Nat.lt_or_ge i (xb.length + 1) with hlt | hge2
  · repeat' (first
    | (with_reducible refine CW.seq ?_)
    | (with_reducible refine KP.then_code ?_)
    | (with_reducible refine CW.skip ?_)
    | (with_reducible refine CW.ret ?_)
    | (with_reducible refine KP.then_ret ?_)
    | (with_reducible refine KP.block_ret ?_)
    | (with_reducible refine CW.block ?_)
    | (with_reducible refine KP.block_normal ?_)
    | (with_reducible refine CW.exit ?_)
    | (with_reducible refine KP.then_exit ?_)
    | (with_reducible refine KP.block_hit ?_)
    | refine KP.bm ?_
    | refine CW.ct ?_
    | refine CW.cf ?_
    | (refine CW.cP ?_ ?_ <;> intro _ <;> try contradiction)
    | (refine CW.cs ?_ ?_ <;> intro _ <;> try contradiction)
    | (refine CW.region (i := 7) ?_ <;> refine KP.q QK.lss ?_ <;> refine KP.list_nil ?_)
    | (refine CW.region (i := 8) ?_ <;> refine KP.q QK.mv ?_ <;> refine KP.q QK.as ?_ <;> refine KP.list_nil ?_)
    | (refine CW.region (i := 9) ?_ <;> refine KP.q QK.mv ?_ <;> refine KP.q QK.mv ?_ <;> refine KP.q QK.mv ?_ <;> refine KP.q QK.mv ?_ <;> refine KP.q (by first | exact QY.minN rfl rfl | exact QY.same (QY.min2 rfl rfl) hKv | exact QK.min) ?_ <;> refine KP.q (by first | exact QY.index rfl rfl (Rd.own (by with_reducible first | exact k0 | exact k1 | exact k2 | exact k3 | exact k4 | exact k5 | exact k6 | exact k7 | exact k8 | exact k9 | fail)) RowL.row (by rw [rowF_len]; omega) | exact QY.index0 rfl rfl (Rd.own (by with_reducible first | exact k0 | exact k1 | exact k2 | exact k3 | exact k4 | exact k5 | exact k6 | exact k7 | exact k8 | exact k9 | fail)) RowL.row (by rw [rowF_len]; omega) | exact QK.ia) ?_ <;> (refine KP.e ?_; (first | refine st_f ?_ rfl rfl (by with_reducible first | exact k0 | exact k1 | exact k2 | exact k3 | exact k4 | exact k5 | exact k6 | exact k7 | exact k8 | exact k9 | fail) (by omega) | refine EK.st_s ?_ | refine EK.st_rf ?_ | refine EK.st_rf0 ?_)) <;> refine KP.list_nil ?_)
    | (refine CW.region (i := 10) ?_ <;> refine KP.q (by first | exact QY.addN rfl rfl (by omega) | exact QK.add) ?_ <;> refine KP.q QK.mv ?_ <;> refine KP.list_nil ?_)
    | ((with_reducible apply KP.fin2); (· rfl); (· rfl); (· rfl)))
    refine KA.round (i + 1, upd f i (min i (K + 1))) ⟨by simp only; omega, fun j hj => ?_⟩
    simp only at hj ⊢
    by_cases e : j = i
    · subst e; exact upd_same ..
    · rw [upd_other e]; exact hf j (by omega)
  obtain rfl : i = xb.length + 1 := by omega
  repeat' (first
    | (with_reducible refine CW.seq ?_)
    | (with_reducible refine KP.then_code ?_)
    | (with_reducible refine CW.skip ?_)
    | (with_reducible refine CW.ret ?_)
    | (with_reducible refine KP.then_ret ?_)
    | (with_reducible refine KP.block_ret ?_)
    | (with_reducible refine CW.block ?_)
    | (with_reducible refine KP.block_normal ?_)
    | (with_reducible refine CW.exit ?_)
    | (with_reducible refine KP.then_exit ?_)
    | (with_reducible refine KP.block_hit ?_)
    | refine KP.bm ?_
    | refine CW.ct ?_
    | refine CW.cf ?_
    | (refine CW.cP ?_ ?_ <;> intro _ <;> try contradiction)
    | (refine CW.cs ?_ ?_ <;> intro _ <;> try contradiction)
    | (refine CW.region (i := 7) ?_ <;> refine KP.q QK.lss ?_ <;> refine KP.list_nil ?_)
    | (refine CW.region (i := 11) ?_ <;> refine KP.q QK.mv ?_ <;> refine KP.q (by first | exact QY.same (QY.len_row rfl (Rd.own (by with_reducible first | exact k0 | exact k1 | exact k2 | exact k3 | exact k4 | exact k5 | exact k6 | exact k7 | exact k8 | exact k9 | fail)) RowL.row) (rowF_lv _ _) | exact QK.len) ?_ <;> refine KP.q QK.mv ?_ <;> refine KP.list_nil ?_)
    | ((with_reducible apply KP.fin2); (· rfl); (· rfl); (· rfl)))
  refine CA.loop (X := Nat × (Nat → Nat)) (fun z => [(0, va), (1, vb), (2, iv (K : Nat)), (8, iv ((K + 1 : Nat) : Int)), (9, e50), (64, iv (xa.length : Nat)), (65, iv (z.1 : Nat))]) (fun z => [row 3 1 eK e50 (rowF z.2 (xb.length + 1))]) (fun z => z.1 ≤ xa.length ∧ Band xa xb K z.1 z.2) (fun z => xa.length - z.1) (0, f) ⟨by simp, ?_⟩ ?_
  · intro j h1 h2 h3
    simp only
    rw [hf j (by omega)]
    cases j <;> simp [lev]
  clear hf hi hge2 f
  rintro ⟨i, f⟩ ⟨hi, hB⟩
  try dsimp only at hi hB ⊢
  
  rcases Nat.lt_or_ge i xa.length with hlt | hge2
  · obtain ⟨x, hx⟩ := at_lt hlt
    obtain ⟨lo, hlo⟩ : ∃ lo : Nat, lo = max (i + 1 - K) 1 := ⟨_, rfl⟩
    obtain ⟨up, hup⟩ : ∃ up : Nat, up = min (i + 1 + K) xb.length := ⟨_, rfl⟩
    have hlov : iv (max (((i + 1 : Nat) : Int) - (K : Nat)) 1) = iv (lo : Nat) := by congr 1; omega
    have hupv : iv ((min (i + 1 + K) xb.length : Nat) : Int) = iv (up : Nat) := by rw [hup]
    have hcnt : iv ((up : Int) - (lo : Nat) + 1) = iv ((up + 1 - lo : Nat) : Int) := by congr 1; omega
    
    
    
    
    repeat' (first
    | (with_reducible refine CW.seq ?_)
    | (with_reducible refine KP.then_code ?_)
    | (with_reducible refine CW.skip ?_)
    | (with_reducible refine CW.ret ?_)
    | (with_reducible refine KP.then_ret ?_)
    | (with_reducible refine KP.block_ret ?_)
    | (with_reducible refine CW.block ?_)
    | (with_reducible refine KP.block_normal ?_)
    | (with_reducible refine CW.exit ?_)
    | (with_reducible refine KP.then_exit ?_)
    | (with_reducible refine KP.block_hit ?_)
    | refine KP.bm ?_
    | refine CW.ct ?_
    | refine CW.cf ?_
    | (refine CW.cP ?_ ?_ <;> intro _ <;> try contradiction)
    | (refine CW.cs ?_ ?_ <;> intro _ <;> try contradiction)
    | (refine CW.region (i := 12) ?_ <;> refine KP.q QK.lss ?_ <;> refine KP.list_nil ?_)
    | (refine CW.region (i := 13) ?_ <;> refine KP.q QK.mv ?_ <;> refine KP.q QK.as ?_ <;> refine KP.list_nil ?_)
    | (refine CW.region (i := 14) ?_ <;> refine KP.q QK.mv ?_ <;> refine KP.q (by first | exact QY.same (QY.add64 rfl rfl (by omega)) hcnt | exact QY.addN rfl rfl (by omega) | exact QK.add) ?_ <;> refine KP.q QK.mv ?_ <;> refine KP.q (by first | exact QY.sub1N rfl rfl (by omega) | exact QK.sub) ?_ <;> refine KP.q (by first | exact QY.same (QY.max2 rfl rfl) hlov | exact QK.max) ?_ <;> refine KP.q QK.mv ?_ <;> refine KP.q (by first | exact QY.same (QY.add64 rfl rfl (by omega)) hcnt | exact QY.addN rfl rfl (by omega) | exact QK.add) ?_ <;> refine KP.q QK.mv ?_ <;> refine KP.q (by first | exact QY.same (QY.add64 rfl rfl (by omega)) hcnt | exact QY.addN rfl rfl (by omega) | exact QK.add) ?_ <;> refine KP.q QK.mv ?_ <;> refine KP.q (by first | exact QY.same (QY.len_row rfl (Rd.own (by with_reducible first | exact k0 | exact k1 | exact k2 | exact k3 | exact k4 | exact k5 | exact k6 | exact k7 | exact k8 | exact k9 | fail)) RowL.row) (rowF_lv _ _) | exact QK.len) ?_ <;> refine KP.q (by first | exact QY.same (QY.minN rfl rfl) hupv | exact QY.minN rfl rfl | exact QY.same (QY.min2 rfl rfl) hKv | exact QK.min) ?_ <;> refine KP.q QK.as ?_ <;> refine KP.q QK.as ?_ <;> refine KP.list_nil ?_)
    | (refine CW.region (i := 15) ?_ <;> refine KP.q QK.mv ?_ <;> refine KP.q QK.mv ?_ <;> refine KP.q (by first | exact QY.sub1N rfl rfl (by omega) | exact QK.sub) ?_ <;> refine KP.q (by first | exact QY.index rfl rfl (Rd.own (by with_reducible first | exact k0 | exact k1 | exact k2 | exact k3 | exact k4 | exact k5 | exact k6 | exact k7 | exact k8 | exact k9 | fail)) RowL.row (by rw [rowF_len]; omega) | exact QY.index0 rfl rfl (Rd.own (by with_reducible first | exact k0 | exact k1 | exact k2 | exact k3 | exact k4 | exact k5 | exact k6 | exact k7 | exact k8 | exact k9 | fail)) RowL.row (by rw [rowF_len]; omega) | exact QK.ia) ?_ <;> refine KP.q (by first | exact QY.load_s rfl (Rd.own (by with_reducible first | exact k0 | exact k1 | exact k2 | exact k3 | exact k4 | exact k5 | exact k6 | exact k7 | exact k8 | exact k9 | fail)) (Reads.row0 RowL.row (rowF_at (by omega)) rfl) | exact QK.lds) ?_ <;> refine KP.q QK.as ?_ <;> refine KP.list_nil ?_)
    | (refine CW.region (i := 16) ?_ <;> refine KP.q QK.mv ?_ <;> refine KP.q QK.mv ?_ <;> refine KP.q (by first | exact QY.sub1N rfl rfl (by omega) | exact QK.sub) ?_ <;> refine KP.q QK.mv ?_ <;> refine KP.q (by first | exact QY.index rfl rfl (Rd.own (by with_reducible first | exact k0 | exact k1 | exact k2 | exact k3 | exact k4 | exact k5 | exact k6 | exact k7 | exact k8 | exact k9 | fail)) RowL.row (by rw [rowF_len]; omega) | exact QY.index0 rfl rfl (Rd.own (by with_reducible first | exact k0 | exact k1 | exact k2 | exact k3 | exact k4 | exact k5 | exact k6 | exact k7 | exact k8 | exact k9 | fail)) RowL.row (by rw [rowF_len]; omega) | exact QK.ia) ?_ <;> (refine KP.e ?_; (first | refine st_f ?_ rfl rfl (by with_reducible first | exact k0 | exact k1 | exact k2 | exact k3 | exact k4 | exact k5 | exact k6 | exact k7 | exact k8 | exact k9 | fail) (by omega) | refine EK.st_s ?_ | refine EK.st_rf ?_ | refine EK.st_rf0 ?_)) <;> refine KP.list_nil ?_)
    | ((with_reducible apply KP.fin2); (· rfl); (· rfl); (· rfl)))
    refine CW.mid2 (X := Nat → Nat) (fun _ => [(0, va), (1, vb), (2, iv (K : Nat)), (8, iv ((K + 1 : Nat) : Int)), (9, e50), (64, iv (xa.length : Nat)), (65, iv (i : Nat)), (11, iv (i : Nat)), (12, iv (lo : Nat)), (13, iv (up : Nat)), (14, iv ((f (lo - 1) : Nat) : Int))]) (fun g => [row 3 1 eK e50 (rowF g (xb.length + 1))]) (fun g => Mid xa xb K i lo lo (f (lo - 1)) g) ?_ ?_
    · 
      
      by_cases h1 : lo = 1
      · repeat' (first
    | (with_reducible refine CW.seq ?_)
    | (with_reducible refine KP.then_code ?_)
    | (with_reducible refine CW.skip ?_)
    | (with_reducible refine CW.ret ?_)
    | (with_reducible refine KP.then_ret ?_)
    | (with_reducible refine KP.block_ret ?_)
    | (with_reducible refine CW.block ?_)
    | (with_reducible refine KP.block_normal ?_)
    | (with_reducible refine CW.exit ?_)
    | (with_reducible refine KP.then_exit ?_)
    | (with_reducible refine KP.block_hit ?_)
    | refine KP.bm ?_
    | refine CW.ct ?_
    | refine CW.cf ?_
    | (refine CW.cP ?_ ?_ <;> intro _ <;> try contradiction)
    | (refine CW.cs ?_ ?_ <;> intro _ <;> try contradiction)
    | (refine CW.region (i := 17) ?_ <;> refine KP.q QK.mv ?_ <;> refine KP.q QK.eqi ?_ <;> refine KP.list_nil ?_)
    | (refine CW.region (i := 18) ?_ <;> refine KP.q QK.mv ?_ <;> refine KP.q QK.mv ?_ <;> refine KP.q (by first | exact QY.addN rfl rfl (by omega) | exact QY.same (QY.add64 rfl rfl (by omega)) hcnt | exact QY.addN rfl rfl (by omega) | exact QK.add) ?_ <;> refine KP.q QK.mv ?_ <;> refine KP.q (by first | exact QY.minN rfl rfl | exact QY.same (QY.minN rfl rfl) hupv | exact QY.minN rfl rfl | exact QY.same (QY.min2 rfl rfl) hKv | exact QK.min) ?_ <;> refine KP.q (by first | exact QY.index rfl rfl (Rd.own (by with_reducible first | exact k0 | exact k1 | exact k2 | exact k3 | exact k4 | exact k5 | exact k6 | exact k7 | exact k8 | exact k9 | fail)) RowL.row (by rw [rowF_len]; omega) | exact QY.index0 rfl rfl (Rd.own (by with_reducible first | exact k0 | exact k1 | exact k2 | exact k3 | exact k4 | exact k5 | exact k6 | exact k7 | exact k8 | exact k9 | fail)) RowL.row (by rw [rowF_len]; omega) | exact QK.ia) ?_ <;> (refine KP.e ?_; (first | refine st_f ?_ rfl rfl (by with_reducible first | exact k0 | exact k1 | exact k2 | exact k3 | exact k4 | exact k5 | exact k6 | exact k7 | exact k8 | exact k9 | fail) (by omega) | refine EK.st_s ?_ | refine EK.st_rf ?_ | refine EK.st_rf0 ?_)) <;> refine KP.list_nil ?_)
    | ((with_reducible apply KP.fin2); (· rfl); (· rfl); (· rfl)))
        refine KA.joint (upd (upd f (lo - 1) (K + 1)) 0 (min (i + 1) (K + 1))) (mid_start hB hlo (by omega) (by rw [h1, if_pos rfl]; exact upd_same ..) fun m hm => by rw [upd_other (by omega), upd_other hm])
      · repeat' (first
    | (with_reducible refine CW.seq ?_)
    | (with_reducible refine KP.then_code ?_)
    | (with_reducible refine CW.skip ?_)
    | (with_reducible refine CW.ret ?_)
    | (with_reducible refine KP.then_ret ?_)
    | (with_reducible refine KP.block_ret ?_)
    | (with_reducible refine CW.block ?_)
    | (with_reducible refine KP.block_normal ?_)
    | (with_reducible refine CW.exit ?_)
    | (with_reducible refine KP.then_exit ?_)
    | (with_reducible refine KP.block_hit ?_)
    | refine KP.bm ?_
    | refine CW.ct ?_
    | refine CW.cf ?_
    | (refine CW.cP ?_ ?_ <;> intro _ <;> try contradiction)
    | (refine CW.cs ?_ ?_ <;> intro _ <;> try contradiction)
    | (refine CW.region (i := 17) ?_ <;> refine KP.q QK.mv ?_ <;> refine KP.q QK.eqi ?_ <;> refine KP.list_nil ?_)
    | (refine CW.region (i := 18) ?_ <;> refine KP.q QK.mv ?_ <;> refine KP.q QK.mv ?_ <;> refine KP.q (by first | exact QY.addN rfl rfl (by omega) | exact QY.same (QY.add64 rfl rfl (by omega)) hcnt | exact QY.addN rfl rfl (by omega) | exact QK.add) ?_ <;> refine KP.q QK.mv ?_ <;> refine KP.q (by first | exact QY.minN rfl rfl | exact QY.same (QY.minN rfl rfl) hupv | exact QY.minN rfl rfl | exact QY.same (QY.min2 rfl rfl) hKv | exact QK.min) ?_ <;> refine KP.q (by first | exact QY.index rfl rfl (Rd.own (by with_reducible first | exact k0 | exact k1 | exact k2 | exact k3 | exact k4 | exact k5 | exact k6 | exact k7 | exact k8 | exact k9 | fail)) RowL.row (by rw [rowF_len]; omega) | exact QY.index0 rfl rfl (Rd.own (by with_reducible first | exact k0 | exact k1 | exact k2 | exact k3 | exact k4 | exact k5 | exact k6 | exact k7 | exact k8 | exact k9 | fail)) RowL.row (by rw [rowF_len]; omega) | exact QK.ia) ?_ <;> (refine KP.e ?_; (first | refine st_f ?_ rfl rfl (by with_reducible first | exact k0 | exact k1 | exact k2 | exact k3 | exact k4 | exact k5 | exact k6 | exact k7 | exact k8 | exact k9 | fail) (by omega) | refine EK.st_s ?_ | refine EK.st_rf ?_ | refine EK.st_rf0 ?_)) <;> refine KP.list_nil ?_)
    | ((with_reducible apply KP.fin2); (· rfl); (· rfl); (· rfl)))
        refine KA.joint (upd f (lo - 1) (K + 1)) (mid_start hB hlo (by omega) (by rw [if_neg h1]; exact upd_same ..) fun m hm => upd_other hm)
    intro g hM
    repeat' (first
    | (with_reducible refine CW.seq ?_)
    | (with_reducible refine KP.then_code ?_)
    | (with_reducible refine CW.skip ?_)
    | (with_reducible refine CW.ret ?_)
    | (with_reducible refine KP.then_ret ?_)
    | (with_reducible refine KP.block_ret ?_)
    | (with_reducible refine CW.block ?_)
    | (with_reducible refine KP.block_normal ?_)
    | (with_reducible refine CW.exit ?_)
    | (with_reducible refine KP.then_exit ?_)
    | (with_reducible refine KP.block_hit ?_)
    | refine KP.bm ?_
    | refine CW.ct ?_
    | refine CW.cf ?_
    | (refine CW.cP ?_ ?_ <;> intro _ <;> try contradiction)
    | (refine CW.cs ?_ ?_ <;> intro _ <;> try contradiction)
    | (refine CW.region (i := 19) ?_ <;> refine KP.q QK.mv ?_ <;> refine KP.q QK.mv ?_ <;> refine KP.q (by first | exact QY.sub1N rfl rfl (by omega) | exact QK.sub) ?_ <;> refine KP.q (by first | exact QY.addN rfl rfl (by omega) | exact QY.same (QY.add64 rfl rfl (by omega)) hcnt | exact QY.addN rfl rfl (by omega) | exact QK.add) ?_ <;> refine KP.q QK.mv ?_ <;> refine KP.list_nil ?_)
    | ((with_reducible apply KP.fin2); (· rfl); (· rfl); (· rfl)))
    refine CA.loop (X := Nat × Nat × (Nat → Nat)) (fun z => [(0, va), (1, vb), (2, iv (K : Nat)), (8, iv ((K + 1 : Nat) : Int)), (9, e50), (64, iv (xa.length : Nat)), (65, iv (i : Nat)), (11, iv (i : Nat)), (12, iv (lo : Nat)), (13, iv (up : Nat)), (14, iv (z.2.1 : Nat)), (101, iv ((up + 1 - lo : Nat) : Int)), (102, iv (z.1 : Nat))]) (fun z => [row 3 1 eK e50 (rowF z.2.2 (xb.length + 1))]) (fun z => z.1 ≤ up + 1 - lo ∧ Mid xa xb K i lo (z.1 + lo) z.2.1 z.2.2) (fun z => up + 1 - lo - z.1) (0, f (lo - 1), g) ⟨by simp, by simpa using hM⟩ ?_
    clear hM g
    rintro ⟨c, e, g⟩ ⟨hc, hM⟩
    try dsimp only at hc hM ⊢
    
    rcases Nat.lt_or_ge c (up + 1 - lo) with hlt2 | hge2
    · obtain ⟨y, hy⟩ := at_lt (xs := xb) (i := c + lo - 1) (by omega)
      have hel := hM.diag
      have hg1 := hM.rest (c + lo) (Nat.le_refl _) (by omega) (by omega)
      have hg2 := hM.done (c + lo - 1) (by omega) (by omega)
      have hg3 : g (c + lo) ≤ K + 1 := by omega
      have hg4 : g (c + lo - 1) ≤ K + 1 := by omega
      have hst : ∀ cost, cost = e + (if x = y then 0 else 1) → Mid xa xb K i lo (c + 1 + lo) (g (c + lo)) (upd g (c + lo) (min (min (min (g (c + lo) + 1) (g (c + lo - 1) + 1)) cost) (K + 1))) := fun cost h => by
        rw [show c + 1 + lo = c + lo + 1 by omega]
        exact mid_step hM (by omega) (by omega) (by omega) (by omega) (by rw [h, hx, hy]; simp)
      
      
      repeat' (first
    | (with_reducible refine CW.seq ?_)
    | (with_reducible refine KP.then_code ?_)
    | (with_reducible refine CW.skip ?_)
    | (with_reducible refine CW.ret ?_)
    | (with_reducible refine KP.then_ret ?_)
    | (with_reducible refine KP.block_ret ?_)
    | (with_reducible refine CW.block ?_)
    | (with_reducible refine KP.block_normal ?_)
    | (with_reducible refine CW.exit ?_)
    | (with_reducible refine KP.then_exit ?_)
    | (with_reducible refine KP.block_hit ?_)
    | refine KP.bm ?_
    | refine CW.ct ?_
    | refine CW.cf ?_
    | (refine CW.cP ?_ ?_ <;> intro _ <;> try contradiction)
    | (refine CW.cs ?_ ?_ <;> intro _ <;> try contradiction)
    | (refine CW.region (i := 20) ?_ <;> refine KP.q QK.lss ?_ <;> refine KP.list_nil ?_)
    | (refine CW.region (i := 21) ?_ <;> refine KP.q QK.mv ?_ <;> refine KP.q QK.as ?_ <;> refine KP.list_nil ?_)
    | (refine CW.region (i := 22) ?_ <;> refine KP.q QK.mv ?_ <;> refine KP.q QK.mv ?_ <;> refine KP.q (by first | exact QY.addN rfl rfl (by omega) | exact QY.addN rfl rfl (by omega) | exact QY.same (QY.add64 rfl rfl (by omega)) hcnt | exact QY.addN rfl rfl (by omega) | exact QK.add) ?_ <;> refine KP.q QK.as ?_ <;> refine KP.list_nil ?_)
    | (refine CW.region (i := 23) ?_ <;> refine KP.q QK.mv ?_ <;> refine KP.q QK.as ?_ <;> refine KP.list_nil ?_)
    | (((with_reducible refine CW.draw (i := 24) ?_ [[], [], [0, 1], [0, 1, 2], [], [], [5], [4, 5, 6], [4, 5, 6, 7], [0, 1, 2, 3, 4, 5, 6, 7, 8]] ?_ ?_ ?_ ?_); (· rfl); (· kernel_rfl); (· kernel_rfl); (· repeat (first | exact NoHang.post | refine NoHang.then ?_ | refine NoHang.block ?_))) <;> refine DW.p 0 rfl (fun _ => QK.mv) ?_ <;> refine DW.p 1 rfl (fun _ => QK.mv) ?_ <;> refine DW.p 4 rfl (fun _ => QK.mv) ?_ <;> refine DW.p 5 rfl (fun _ => QK.mv) ?_ <;> refine DW.p 6 rfl (fun _ => (by first | exact QY.sub1N rfl rfl (by omega) | exact QK.sub)) ?_ <;> refine DW.m 2 rfl (by first | exact QY.index rfl rfl (Rd.own (by with_reducible first | exact k0 | exact k1 | exact k2 | exact k3 | exact k4 | exact k5 | exact k6 | exact k7 | exact k8 | exact k9 | fail)) RowL.row (by rw [rowF_len]; omega) | exact QY.index0 rfl rfl (Rd.own (by with_reducible first | exact k0 | exact k1 | exact k2 | exact k3 | exact k4 | exact k5 | exact k6 | exact k7 | exact k8 | exact k9 | fail)) RowL.row (by rw [rowF_len]; omega) | exact QK.ia) ?_ <;> refine DW.m 3 rfl (by first | exact QY.load_s rfl (Rd.ro (by with_reducible first | exact m0 | exact m1 | exact m2 | exact m3 | exact m4 | exact m5 | fail)) (Reads.row0 RowL.rrow hx rfl) | exact QY.load_s rfl (Rd.ro (by with_reducible first | exact m0 | exact m1 | exact m2 | exact m3 | exact m4 | exact m5 | fail)) (Reads.row0 RowL.rrow hy rfl) | exact QY.load_s rfl (Rd.own (by with_reducible first | exact k0 | exact k1 | exact k2 | exact k3 | exact k4 | exact k5 | exact k6 | exact k7 | exact k8 | exact k9 | fail)) (Reads.row0 RowL.row (rowF_at (by omega)) rfl) | exact QK.lds) ?_ <;> refine DW.m 7 rfl (by first | exact QY.index rfl rfl (Rd.own (by with_reducible first | exact k0 | exact k1 | exact k2 | exact k3 | exact k4 | exact k5 | exact k6 | exact k7 | exact k8 | exact k9 | fail)) RowL.row (by rw [rowF_len]; omega) | exact QY.index0 rfl rfl (Rd.own (by with_reducible first | exact k0 | exact k1 | exact k2 | exact k3 | exact k4 | exact k5 | exact k6 | exact k7 | exact k8 | exact k9 | fail)) RowL.row (by rw [rowF_len]; omega) | exact QK.ia) ?_ <;> refine DW.m 8 rfl (by first | exact QY.load_s rfl (Rd.ro (by with_reducible first | exact m0 | exact m1 | exact m2 | exact m3 | exact m4 | exact m5 | fail)) (Reads.row0 RowL.rrow hx rfl) | exact QY.load_s rfl (Rd.ro (by with_reducible first | exact m0 | exact m1 | exact m2 | exact m3 | exact m4 | exact m5 | fail)) (Reads.row0 RowL.rrow hy rfl) | exact QY.load_s rfl (Rd.own (by with_reducible first | exact k0 | exact k1 | exact k2 | exact k3 | exact k4 | exact k5 | exact k6 | exact k7 | exact k8 | exact k9 | fail)) (Reads.row0 RowL.row (rowF_at (by omega)) rfl) | exact QK.lds) ?_ <;> refine DW.p 9 rfl (fun _ => QK.nei) ?_ <;> refine DW.zz ?_)
    | (refine CW.region (i := 25) ?_ <;> refine KP.q QK.mv ?_ <;> refine KP.q (by first | exact QY.addN rfl rfl (by omega) | exact QY.addN rfl rfl (by omega) | exact QY.same (QY.add64 rfl rfl (by omega)) hcnt | exact QY.addN rfl rfl (by omega) | exact QK.add) ?_ <;> refine KP.q QK.as ?_ <;> refine KP.list_nil ?_)
    | (refine CW.region (i := 26) ?_ <;> refine KP.q QK.mv ?_ <;> refine KP.q QK.mv ?_ <;> refine KP.q (by first | exact QY.index rfl rfl (Rd.own (by with_reducible first | exact k0 | exact k1 | exact k2 | exact k3 | exact k4 | exact k5 | exact k6 | exact k7 | exact k8 | exact k9 | fail)) RowL.row (by rw [rowF_len]; omega) | exact QY.index0 rfl rfl (Rd.own (by with_reducible first | exact k0 | exact k1 | exact k2 | exact k3 | exact k4 | exact k5 | exact k6 | exact k7 | exact k8 | exact k9 | fail)) RowL.row (by rw [rowF_len]; omega) | exact QK.ia) ?_ <;> refine KP.q (by first | exact QY.load_s rfl (Rd.ro (by with_reducible first | exact m0 | exact m1 | exact m2 | exact m3 | exact m4 | exact m5 | fail)) (Reads.row0 RowL.rrow hx rfl) | exact QY.load_s rfl (Rd.ro (by with_reducible first | exact m0 | exact m1 | exact m2 | exact m3 | exact m4 | exact m5 | fail)) (Reads.row0 RowL.rrow hy rfl) | exact QY.load_s rfl (Rd.own (by with_reducible first | exact k0 | exact k1 | exact k2 | exact k3 | exact k4 | exact k5 | exact k6 | exact k7 | exact k8 | exact k9 | fail)) (Reads.row0 RowL.row (rowF_at (by omega)) rfl) | exact QK.lds) ?_ <;> refine KP.q QK.as ?_ <;> refine KP.list_nil ?_)
    | (refine CW.region (i := 27) ?_ <;> refine KP.q QK.mv ?_ <;> refine KP.q QK.mv ?_ <;> refine KP.q QK.mv ?_ <;> refine KP.q (by first | exact QY.addN rfl rfl (by omega) | exact QY.addN rfl rfl (by omega) | exact QY.same (QY.add64 rfl rfl (by omega)) hcnt | exact QY.addN rfl rfl (by omega) | exact QK.add) ?_ <;> refine KP.q QK.mv ?_ <;> refine KP.q QK.mv ?_ <;> refine KP.q (by first | exact QY.sub1N rfl rfl (by omega) | exact QK.sub) ?_ <;> refine KP.q (by first | exact QY.index rfl rfl (Rd.own (by with_reducible first | exact k0 | exact k1 | exact k2 | exact k3 | exact k4 | exact k5 | exact k6 | exact k7 | exact k8 | exact k9 | fail)) RowL.row (by rw [rowF_len]; omega) | exact QY.index0 rfl rfl (Rd.own (by with_reducible first | exact k0 | exact k1 | exact k2 | exact k3 | exact k4 | exact k5 | exact k6 | exact k7 | exact k8 | exact k9 | fail)) RowL.row (by rw [rowF_len]; omega) | exact QK.ia) ?_ <;> refine KP.q (by first | exact QY.load_s rfl (Rd.ro (by with_reducible first | exact m0 | exact m1 | exact m2 | exact m3 | exact m4 | exact m5 | fail)) (Reads.row0 RowL.rrow hx rfl) | exact QY.load_s rfl (Rd.ro (by with_reducible first | exact m0 | exact m1 | exact m2 | exact m3 | exact m4 | exact m5 | fail)) (Reads.row0 RowL.rrow hy rfl) | exact QY.load_s rfl (Rd.own (by with_reducible first | exact k0 | exact k1 | exact k2 | exact k3 | exact k4 | exact k5 | exact k6 | exact k7 | exact k8 | exact k9 | fail)) (Reads.row0 RowL.row (rowF_at (by omega)) rfl) | exact QK.lds) ?_ <;> refine KP.q (by first | exact QY.addN rfl rfl (by omega) | exact QY.addN rfl rfl (by omega) | exact QY.same (QY.add64 rfl rfl (by omega)) hcnt | exact QY.addN rfl rfl (by omega) | exact QK.add) ?_ <;> refine KP.q QK.mv ?_ <;> refine KP.q QK.mv ?_ <;> refine KP.q (by first | exact min4N rfl rfl rfl rfl | exact QY.minN rfl rfl | exact QY.same (QY.minN rfl rfl) hupv | exact QY.minN rfl rfl | exact QY.same (QY.min2 rfl rfl) hKv | exact QK.min) ?_ <;> refine KP.q (by first | exact QY.index rfl rfl (Rd.own (by with_reducible first | exact k0 | exact k1 | exact k2 | exact k3 | exact k4 | exact k5 | exact k6 | exact k7 | exact k8 | exact k9 | fail)) RowL.row (by rw [rowF_len]; omega) | exact QY.index0 rfl rfl (Rd.own (by with_reducible first | exact k0 | exact k1 | exact k2 | exact k3 | exact k4 | exact k5 | exact k6 | exact k7 | exact k8 | exact k9 | fail)) RowL.row (by rw [rowF_len]; omega) | exact QK.ia) ?_ <;> (refine KP.e ?_; (first | refine st_f ?_ rfl rfl (by with_reducible first | exact k0 | exact k1 | exact k2 | exact k3 | exact k4 | exact k5 | exact k6 | exact k7 | exact k8 | exact k9 | fail) (by omega) | refine EK.st_s ?_ | refine EK.st_rf ?_ | refine EK.st_rf0 ?_)) <;> refine KP.list_nil ?_)
    | (refine CW.region (i := 28) ?_ <;> refine KP.q (by first | exact QY.addN rfl rfl (by omega) | exact QY.addN rfl rfl (by omega) | exact QY.same (QY.add64 rfl rfl (by omega)) hcnt | exact QY.addN rfl rfl (by omega) | exact QK.add) ?_ <;> refine KP.q QK.mv ?_ <;> refine KP.list_nil ?_)
    | ((with_reducible apply KP.fin2); (· rfl); (· rfl); (· rfl)))
      · rename_i hne
        refine KA.round (c + 1, g (c + lo), upd g (c + lo) (min (min (min (g (c + lo) + 1) (g (c + lo - 1) + 1)) (e + 1)) (K + 1))) ⟨by simp only; omega, hst _ ?_⟩
        rw [if_neg (by intro h; exact hne (by rw [h]))]
      · rename_i hne
        refine KA.round (c + 1, g (c + lo), upd g (c + lo) (min (min (min (g (c + lo) + 1) (g (c + lo - 1) + 1)) e) (K + 1))) ⟨by simp only; omega, hst _ ?_⟩
        rw [if_pos (by omega)]; rfl
    · obtain rfl : c = up + 1 - lo := by omega
      rw [show up + 1 - lo + lo = up + 1 by omega] at hM
      repeat' (first
    | (with_reducible refine CW.seq ?_)
    | (with_reducible refine KP.then_code ?_)
    | (with_reducible refine CW.skip ?_)
    | (with_reducible refine CW.ret ?_)
    | (with_reducible refine KP.then_ret ?_)
    | (with_reducible refine KP.block_ret ?_)
    | (with_reducible refine CW.block ?_)
    | (with_reducible refine KP.block_normal ?_)
    | (with_reducible refine CW.exit ?_)
    | (with_reducible refine KP.then_exit ?_)
    | (with_reducible refine KP.block_hit ?_)
    | refine KP.bm ?_
    | refine CW.ct ?_
    | refine CW.cf ?_
    | (refine CW.cP ?_ ?_ <;> intro _ <;> try contradiction)
    | (refine CW.cs ?_ ?_ <;> intro _ <;> try contradiction)
    | (refine CW.region (i := 20) ?_ <;> refine KP.q QK.lss ?_ <;> refine KP.list_nil ?_)
    | (refine CW.region (i := 29) ?_ <;> refine KP.q QK.mv ?_ <;> refine KP.q QK.mv ?_ <;> refine KP.q (by first | exact QY.same (QY.len_row rfl (Rd.own (by with_reducible first | exact k0 | exact k1 | exact k2 | exact k3 | exact k4 | exact k5 | exact k6 | exact k7 | exact k8 | exact k9 | fail)) RowL.row) (rowF_lv _ _) | exact QK.len) ?_ <;> refine KP.q QK.lss ?_ <;> refine KP.list_nil ?_)
    | (refine CW.region (i := 30) ?_ <;> refine KP.q QK.mv ?_ <;> refine KP.q QK.mv ?_ <;> refine KP.q (by first | exact QY.addN rfl rfl (by omega) | exact QY.addN rfl rfl (by omega) | exact QY.same (QY.add64 rfl rfl (by omega)) hcnt | exact QY.addN rfl rfl (by omega) | exact QK.add) ?_ <;> refine KP.q QK.mv ?_ <;> refine KP.q (by first | exact QY.index rfl rfl (Rd.own (by with_reducible first | exact k0 | exact k1 | exact k2 | exact k3 | exact k4 | exact k5 | exact k6 | exact k7 | exact k8 | exact k9 | fail)) RowL.row (by rw [rowF_len]; omega) | exact QY.index0 rfl rfl (Rd.own (by with_reducible first | exact k0 | exact k1 | exact k2 | exact k3 | exact k4 | exact k5 | exact k6 | exact k7 | exact k8 | exact k9 | fail)) RowL.row (by rw [rowF_len]; omega) | exact QK.ia) ?_ <;> (refine KP.e ?_; (first | refine st_f ?_ rfl rfl (by with_reducible first | exact k0 | exact k1 | exact k2 | exact k3 | exact k4 | exact k5 | exact k6 | exact k7 | exact k8 | exact k9 | fail) (by omega) | refine EK.st_s ?_ | refine EK.st_rf ?_ | refine EK.st_rf0 ?_)) <;> refine KP.list_nil ?_)
    | (refine CW.region (i := 31) ?_ <;> refine KP.q (by first | exact QY.addN rfl rfl (by omega) | exact QY.addN rfl rfl (by omega) | exact QY.same (QY.add64 rfl rfl (by omega)) hcnt | exact QY.addN rfl rfl (by omega) | exact QK.add) ?_ <;> refine KP.q QK.mv ?_ <;> refine KP.list_nil ?_)
    | ((with_reducible apply KP.fin2); (· rfl); (· rfl); (· rfl)))
      · refine KA.round (i + 1, upd g (up + 1) (K + 1)) ⟨by simp only; omega, mid_end hM hlo hup (fun _ => upd_same ..) fun m hm => upd_other (by omega)⟩
      · refine KA.round (i + 1, g) ⟨by simp only; omega, mid_end hM hlo hup (fun h => by omega) fun m hm => rfl⟩
  · obtain rfl : i = xa.length := by omega
    have hd := hB xb.length (Nat.le_refl _) (by omega) (by omega)
    have hd2 : dist xa xb = lev xa xb xa.length xb.length := rfl
    repeat' (first
    | (with_reducible refine CW.seq ?_)
    | (with_reducible refine KP.then_code ?_)
    | (with_reducible refine CW.skip ?_)
    | (with_reducible refine CW.ret ?_)
    | (with_reducible refine KP.then_ret ?_)
    | (with_reducible refine KP.block_ret ?_)
    | (with_reducible refine CW.block ?_)
    | (with_reducible refine KP.block_normal ?_)
    | (with_reducible refine CW.exit ?_)
    | (with_reducible refine KP.then_exit ?_)
    | (with_reducible refine KP.block_hit ?_)
    | refine KP.bm ?_
    | refine CW.ct ?_
    | refine CW.cf ?_
    | (refine CW.cP ?_ ?_ <;> intro _ <;> try contradiction)
    | (refine CW.cs ?_ ?_ <;> intro _ <;> try contradiction)
    | (refine CW.region (i := 12) ?_ <;> refine KP.q QK.lss ?_ <;> refine KP.list_nil ?_)
    | (refine CW.region (i := 32) ?_ <;> refine KP.q QK.mv ?_ <;> refine KP.q QK.mv ?_ <;> refine KP.q (by first | exact QY.same (QY.len_row rfl (Rd.own (by with_reducible first | exact k0 | exact k1 | exact k2 | exact k3 | exact k4 | exact k5 | exact k6 | exact k7 | exact k8 | exact k9 | fail)) RowL.row) (rowF_lv _ _) | exact QK.len) ?_ <;> refine KP.q (by first | exact QY.index rfl rfl (Rd.own (by with_reducible first | exact k0 | exact k1 | exact k2 | exact k3 | exact k4 | exact k5 | exact k6 | exact k7 | exact k8 | exact k9 | fail)) RowL.row (by rw [rowF_len]; omega) | exact QY.index0 rfl rfl (Rd.own (by with_reducible first | exact k0 | exact k1 | exact k2 | exact k3 | exact k4 | exact k5 | exact k6 | exact k7 | exact k8 | exact k9 | fail)) RowL.row (by rw [rowF_len]; omega) | exact QK.ia) ?_ <;> refine KP.q (by first | exact QY.load_s rfl (Rd.ro (by with_reducible first | exact m0 | exact m1 | exact m2 | exact m3 | exact m4 | exact m5 | fail)) (Reads.row0 RowL.rrow hx rfl) | exact QY.load_s rfl (Rd.ro (by with_reducible first | exact m0 | exact m1 | exact m2 | exact m3 | exact m4 | exact m5 | fail)) (Reads.row0 RowL.rrow hy rfl) | exact QY.load_s rfl (Rd.own (by with_reducible first | exact k0 | exact k1 | exact k2 | exact k3 | exact k4 | exact k5 | exact k6 | exact k7 | exact k8 | exact k9 | fail)) (Reads.row0 RowL.row (rowF_at (by omega)) rfl) | exact QK.lds) ?_ <;> refine KP.q QK.as ?_ <;> refine KP.list_nil ?_)
    | (refine CW.region (i := 33) ?_ <;> refine KP.q QK.mv ?_ <;> refine KP.q QK.mv ?_ <;> refine KP.q QK.gtr ?_ <;> refine KP.list_nil ?_)
    | (refine CW.region (i := 34) ?_ <;> refine KP.q QK.as ?_ <;> refine KP.q QK.as ?_ <;> refine KP.list_nil ?_)
    | (refine CW.region (i := 35) ?_ <;> refine KP.q QK.mv ?_ <;> refine KP.q QK.as ?_ <;> refine KP.q QK.as ?_ <;> refine KP.list_nil ?_)
    | ((with_reducible apply KP.fin2); (· rfl); (· rfl); (· rfl)))
    · rename_i h9
      rw [if_neg (by rw [hd2]; omega)]
      exact FA.ret
    · rename_i h9
      rw [if_pos (by rw [hd2]; omega), show dist xa xb = f xb.length by omega]
      exact FA.ret

end Go.Proofs.Ytpmhelfdmhjnbaa
