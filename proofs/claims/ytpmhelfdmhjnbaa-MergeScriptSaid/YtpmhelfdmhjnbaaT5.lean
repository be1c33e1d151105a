import Derived.Test.YtpmhelfdmhjnbaaR3
/- RankAgain. -/
namespace Go.Proofs.Ytpmhelfdmhjnbaa
open Go Go.Ink Go.Plain
set_option linter.unusedVariables false
set_option linter.unusedSimpArgs false
attribute [local irreducible] KP QY EW CW DW QG CP Spc DK Fina wpList lessF

theorem sortF_rev (xs : List Item) : sortF xs.reverse = sortF xs := (sort_eq (xs := xs.reverse) ((sortF_perm xs).trans (List.reverse_perm xs).symm) (sortF_sorted xs)).symm
theorem sortF_again (xs : List Item) : sortF (sortF xs) = sortF xs := sortF_id (sortF_sorted xs)
theorem sortE {v : Value} {xs ys : List Item} (hl : xs.length ≤ 50000) (h : sortF xs = ys) : Spc Try.prog 35 #[v] [rrow 2 eI v xs] [] (exP fun v' => puP (v'.oneCell' = true) (ret v' [row 39 2 eI v' ys])) := h ▸ sort_spec hl
theorem greatIE {v : Value} {xs : List Item} {b : Bool} (h : greatI xs = b) : Spc Try.prog 33 #[v] [rrow 2 eI v xs] [] (ret (.bool b) []) := h ▸ greatI_spec
/-- What the inner loop has reckoned, ahead of place i. -/
def bal (xs ys : List Item) (c : Item) (i : Nat) : Int := ((xs.take i).count c : Int) - ((ys.take i).count c : Int)
theorem count_step {xs : List Item} {c x : Item} {i : Nat} (h : xs[i]? = some x) : (xs.take (i + 1)).count c = (xs.take i).count c + (if x = c then 1 else 0) := by
  rw [List.take_add_one, h, List.count_append]
  by_cases e : x = c
  · subst e; simp
  · simp [e]
theorem bal_step {xs ys : List Item} {c x y : Item} {i : Nat} (hx : xs[i]? = some x) (hy : ys[i]? = some y) : bal xs ys c (i + 1) = bal xs ys c i + (if x = c then 1 else 0) - (if y = c then 1 else 0) := by
  unfold bal
  rw [count_step hx, count_step hy]
  split <;> split <;> omega
theorem bal_bound {xs ys : List Item} {c : Item} {i : Nat} : bal xs ys c i ≤ i ∧ -(i : Int) ≤ bal xs ys c i := by
  unfold bal
  have h1 := List.count_le_length (l := xs.take i) (a := c)
  have h2 := List.count_le_length (l := ys.take i) (a := c)
  simp only [List.length_take] at h1 h2
  omega
theorem bal_end {xs : List Item} {c : Item} {n : Nat} (h : n = xs.length) : bal xs (sortF xs) c n = 0 := by
  unfold bal
  rw [List.take_of_length_le (by omega), List.take_of_length_le (by rw [sortF_len]; omega), (sortF_perm xs).count_eq]
  omega
theorem drop_rev {xs : List Item} {i : Nat} {x : Item} (h : xs[i]? = some x) : (xs.drop i).reverse = (xs.drop (i + 1)).reverse ++ [x] := by
  obtain ⟨h1, h2⟩ := List.getElem?_eq_some_iff.1 h
  rw [List.drop_eq_getElem_cons h1, List.reverse_cons, h2]
theorem lessE {a b : Item} {r : Bool} (h : lessF a b = r) : Spc Try.prog 38 #[Iv a, Iv b] [] [] (ret (.bool r) []) := h ▸ less_spec

set_option maxHeartbeats 4000000 in
theorem rankAgain_spec {v : Value} {xs : List Item} : Spc Try.prog 7 #[v] [rrow 2 eI v xs] [] (ret (.bool true) []) := by
  refine Spc.enter' (args := [v]) (T0 := [(0, v)]) Try.func7 rfl Try.ntmps7 (Nat.le_of_ble_eq_true rfl) rfl ?_
  intro w0 own
  cases hg : greatI xs
  rotate_left
  · 
    repeat' (first
    | (with_reducible refine CW.seq ?_)
    | (with_reducible refine KP.then_code ?_)
    | (with_reducible refine CW.skip ?_)
    | (with_reducible refine CW.ret ?_)
    | (with_reducible refine KP.then_ret ?_)
    | (with_reducible refine KP.block_ret ?_)
    | (with_reducible refine CW.block ?_)
    | (with_reducible refine KP.block_normal ?_)
    | (with_reducible refine CW.exit ?_)
    | (with_reducible refine KP.then_exit ?_)
    | (with_reducible refine KP.block_hit ?_)
    | refine KP.bm ?_
    | refine CW.ct ?_
    | refine CW.cf ?_
    | (refine CW.cP ?_ ?_ <;> intro _ <;> try contradiction)
    | (refine CW.cs ?_ ?_ <;> intro _ <;> try contradiction)
    | (refine CW.region (i := 0) ?_ <;> refine KP.q QK.as ?_ <;> refine KP.list_nil ?_)
    | (refine CW.region (i := 1) ?_ <;> refine KP.q QK.mv ?_ <;> (refine KP.e ?_; ((refine EK.call (greatIE hg) ?_); repeat' first | refine CP.r ?_ | refine CP.r0 ?_ | refine CP.exP fun e10 => ?_ | refine CP.puP fun h10 => ?_)) <;> refine KP.list_nil ?_)
    | (refine CW.region (i := 2) ?_ <;> (refine KP.e ?_; ((refine EK.call (awakeR) ?_); repeat' first | refine CP.r ?_ | refine CP.r0 ?_ | refine CP.exP fun e11 => ?_ | refine CP.puP fun h11 => ?_)) <;> refine KP.q QK.as ?_ <;> refine KP.list_nil ?_)
    | ((with_reducible apply KP.fin1); (· rfl); (· rfl)))
    exact FA.ret
  have hl := greatI_len hg
  obtain ⟨ys, hys⟩ : ∃ ys, sortF xs = ys := ⟨_, rfl⟩
  have hyl : ys.length = xs.length := by rw [← hys]; exact sortF_len xs
  have hyy : sortF ys = ys := by rw [← hys]; exact sortF_again xs
  have hyr : sortF xs.reverse = ys := by rw [sortF_rev]; exact hys
  have hss : SortedI ys := by rw [← hys]; exact sortF_sorted xs
  
  
  repeat' (first
    | (with_reducible refine CW.seq ?_)
    | (with_reducible refine KP.then_code ?_)
    | (with_reducible refine CW.skip ?_)
    | (with_reducible refine CW.ret ?_)
    | (with_reducible refine KP.then_ret ?_)
    | (with_reducible refine KP.block_ret ?_)
    | (with_reducible refine CW.block ?_)
    | (with_reducible refine KP.block_normal ?_)
    | (with_reducible refine CW.exit ?_)
    | (with_reducible refine KP.then_exit ?_)
    | (with_reducible refine KP.block_hit ?_)
    | refine KP.bm ?_
    | refine CW.ct ?_
    | refine CW.cf ?_
    | (refine CW.cP ?_ ?_ <;> intro _ <;> try contradiction)
    | (refine CW.cs ?_ ?_ <;> intro _ <;> try contradiction)
    | (refine CW.region (i := 0) ?_ <;> refine KP.q QK.as ?_ <;> refine KP.list_nil ?_)
    | (refine CW.region (i := 1) ?_ <;> refine KP.q QK.mv ?_ <;> (refine KP.e ?_; ((first | refine EK.call (greatIE hg) ?_ | refine EK.call (greatIE hg) ?_); repeat' first | refine CP.r ?_ | refine CP.r0 ?_ | refine CP.exP fun e10 => ?_ | refine CP.puP fun h10 => ?_)) <;> refine KP.list_nil ?_)
    | (refine CW.region (i := 3) ?_ <;> refine KP.q QK.mv ?_ <;> (refine KP.e ?_; ((refine EK.call (sortE (xs := xs) (by omega) hys) ?_); repeat' first | refine CP.r ?_ | refine CP.r0 ?_ | refine CP.exP fun e13 => ?_ | refine CP.puP fun h13 => ?_)) <;> refine KP.q QK.as ?_ <;> refine KP.list_nil ?_)
    | (refine CW.region (i := 4) ?_ <;> refine KP.q QK.as ?_ <;> refine KP.list_nil ?_)
    | (refine CW.region (i := 5) ?_ <;> refine KP.q QK.mv ?_ <;> refine KP.q QK.len ?_ <;> refine KP.q QK.sub ?_ <;> refine KP.q QK.as ?_ <;> refine KP.list_nil ?_)
    | ((with_reducible apply KP.fin1); (· rfl); (· rfl)))
  refine CW.add (B := row 39 2 eI (.slice none 0 0) (xs.drop xs.length).reverse) (by rw [List.drop_length]; exact row.none) ?_
  refine CA.loop (X := Nat × Value) (fun z => [(0, v), (3, e13), (5, .int .i64 ((z.1 : Int) - 1)), (4, z.2)]) (fun z => [row 39 2 eI e13 ys, row 39 2 eI z.2 (xs.drop z.1).reverse]) (fun z => z.1 ≤ xs.length ∧ z.2.oneCell' = true) (fun z => z.1) (xs.length, .slice none 0 0) ⟨by simp, rfl⟩ ?_
  rintro ⟨i, r⟩ ⟨hi, hr⟩
  try dsimp only at hi hr ⊢
  cases i with
  | succ i =>
    obtain ⟨x, hx⟩ := at_lt (xs := xs) (i := i) (by omega)
    rw [show ((i + 1 : Nat) : Int) - 1 = (i : Nat) by omega]
    
    
    repeat' (first
    | (with_reducible refine CW.seq ?_)
    | (with_reducible refine KP.then_code ?_)
    | (with_reducible refine CW.skip ?_)
    | (with_reducible refine CW.ret ?_)
    | (with_reducible refine KP.then_ret ?_)
    | (with_reducible refine KP.block_ret ?_)
    | (with_reducible refine CW.block ?_)
    | (with_reducible refine KP.block_normal ?_)
    | (with_reducible refine CW.exit ?_)
    | (with_reducible refine KP.then_exit ?_)
    | (with_reducible refine KP.block_hit ?_)
    | refine KP.bm ?_
    | refine CW.ct ?_
    | refine CW.cf ?_
    | (refine CW.cP ?_ ?_ <;> intro _ <;> try contradiction)
    | (refine CW.cs ?_ ?_ <;> intro _ <;> try contradiction)
    | (refine CW.region (i := 6) ?_ <;> refine KP.q QK.mv ?_ <;> refine KP.q QK.geq ?_ <;> refine KP.list_nil ?_)
    | (refine CW.region (i := 8) ?_ <;> refine KP.q QK.mv ?_ <;> refine KP.q QK.mv ?_ <;> refine KP.q QK.mv ?_ <;> refine KP.q QK.ia ?_ <;> refine KP.q (by first | exact QY.load_a rfl (Rd.ro (by with_reducible first | exact m0 | exact m1 | exact m2 | exact m3 | exact m4 | exact m5 | fail)) (Reads.row RowL.rrow hx) (by rfl) | exact QK.lda) ?_ <;> (refine KP.e ?_; ((first | refine EW.buildSlice1_s (by decide) rfl (by first | rfl | assumption) rfl ?_ | refine EW.buildSlice1_a (by decide) rfl (by rfl) (by rfl) (by decide) (by decide) ?_); intro b26)) <;> (refine KP.e ?_; (first | (refine EK.app1 (enc := eI) x ?_; intro w27 o27) | (refine EK.app1 _ ?_; intro w27 o27))) <;> refine KP.q QK.as ?_ <;> refine KP.list_nil ?_)
    | (refine CW.region (i := 7) ?_ <;> refine KP.q QK.mv ?_ <;> refine KP.q QK.sub ?_ <;> refine KP.q QK.as ?_ <;> refine KP.list_nil ?_)
    | ((with_reducible apply KP.fin1); (· rfl); (· rfl)))
    rw [← drop_rev hx]
    exact KA.round (i, w27) ⟨by simp only; omega, by assumption⟩
  | zero =>
  rw [List.drop_zero]
  have hrl : xs.reverse.length ≤ 50000 := by simp; omega
  
  
  repeat' (first
    | (with_reducible refine CW.seq ?_)
    | (with_reducible refine KP.then_code ?_)
    | (with_reducible refine CW.skip ?_)
    | (with_reducible refine CW.ret ?_)
    | (with_reducible refine KP.then_ret ?_)
    | (with_reducible refine KP.block_ret ?_)
    | (with_reducible refine CW.block ?_)
    | (with_reducible refine KP.block_normal ?_)
    | (with_reducible refine CW.exit ?_)
    | (with_reducible refine KP.then_exit ?_)
    | (with_reducible refine KP.block_hit ?_)
    | refine KP.bm ?_
    | refine CW.ct ?_
    | refine CW.cf ?_
    | (refine CW.cP ?_ ?_ <;> intro _ <;> try contradiction)
    | (refine CW.cs ?_ ?_ <;> intro _ <;> try contradiction)
    | (refine CW.region (i := 6) ?_ <;> refine KP.q QK.mv ?_ <;> refine KP.q QK.geq ?_ <;> refine KP.list_nil ?_)
    | (refine CW.region (i := 9) ?_ <;> refine KP.q QK.mv ?_ <;> refine KP.q QK.len ?_ <;> refine KP.q QK.mv ?_ <;> refine KP.q QK.len ?_ <;> refine KP.q QK.nei ?_ <;> refine KP.q QK.mv ?_ <;> (first | refine KP.gn ?_ | refine KP.gu ?_ | refine KP.qy QK.mv ?_ | ((first | refine KP.gsP (t := 33) ?_ ?_ | refine KP.gs (t := 33) ?_ ?_) <;> intro _ <;> first | contradiction | refine KP.gn ?_ | refine KP.qy QK.mv ?_)) <;> (first | refine KP.gn ?_ | refine KP.gu ?_ | (refine KP.gy ?_; refine KP.e ?_; ((first | refine EK.call (sortE (v := e13) (xs := ys) (by omega) hyy) ?_ | refine EK.call (sortE (v := r) (xs := xs.reverse) hrl hyr) ?_ | refine EK.call (sortE (xs := xs) (by omega) hys) ?_); repeat' first | refine CP.r ?_ | refine CP.r0 ?_ | refine CP.exP fun e35 => ?_ | refine CP.puP fun h35 => ?_))) <;> (first | refine KP.gn ?_ | refine KP.gu ?_ | refine KP.qy QK.mv ?_) <;> (first | refine KP.gn ?_ | refine KP.gu ?_ | (refine KP.gy ?_; refine KP.e ?_; ((refine EK.call (sameE (xs := ys)) ?_); repeat' first | refine CP.r ?_ | refine CP.r0 ?_ | refine CP.exP fun e37 => ?_ | refine CP.puP fun h37 => ?_))) <;> (first | refine KP.gn ?_ | refine KP.gu ?_ | refine KP.qy QK.not ?_) <;> refine KP.q QK.pk ?_ <;> refine KP.q QK.mv ?_ <;> (first | refine KP.gn ?_ | refine KP.gu ?_ | refine KP.qy QK.mv ?_ | ((first | refine KP.gsP (t := 40) ?_ ?_ | refine KP.gs (t := 40) ?_ ?_) <;> intro _ <;> first | contradiction | refine KP.gn ?_ | refine KP.qy QK.mv ?_)) <;> (first | refine KP.gn ?_ | refine KP.gu ?_ | (refine KP.gy ?_; refine KP.e ?_; ((first | refine EK.call (sortE (v := e13) (xs := ys) (by omega) hyy) ?_ | refine EK.call (sortE (v := r) (xs := xs.reverse) hrl hyr) ?_ | refine EK.call (sortE (xs := xs) (by omega) hys) ?_); repeat' first | refine CP.r ?_ | refine CP.r0 ?_ | refine CP.exP fun e42 => ?_ | refine CP.puP fun h42 => ?_))) <;> (first | refine KP.gn ?_ | refine KP.gu ?_ | refine KP.qy QK.mv ?_) <;> (first | refine KP.gn ?_ | refine KP.gu ?_ | (refine KP.gy ?_; refine KP.e ?_; ((refine EK.call (sameE (xs := ys)) ?_); repeat' first | refine CP.r ?_ | refine CP.r0 ?_ | refine CP.exP fun e44 => ?_ | refine CP.puP fun h44 => ?_))) <;> (first | refine KP.gn ?_ | refine KP.gu ?_ | refine KP.qy QK.not ?_) <;> refine KP.q QK.pk ?_ <;> refine KP.list_nil ?_)
    | (refine CW.region (i := 11) ?_ <;> refine KP.q QK.as ?_ <;> refine KP.list_nil ?_)
    | ((with_reducible apply KP.fin1); (· rfl); (· rfl)))
  refine CA.loop (X := Nat) (fun z => [(0, v), (3, e13), (6, iv (z : Nat))]) (fun _ => [row 39 2 eI e13 ys]) (fun z => z ≤ xs.length) (fun z => xs.length - z) 0 (by simp) ?_
  clear hi hr r
  rintro i hi
  try dsimp only at hi ⊢
  rcases Nat.lt_or_ge i xs.length with hlt | hge
  rotate_left
  · repeat' (first
    | (with_reducible refine CW.seq ?_)
    | (with_reducible refine KP.then_code ?_)
    | (with_reducible refine CW.skip ?_)
    | (with_reducible refine CW.ret ?_)
    | (with_reducible refine KP.then_ret ?_)
    | (with_reducible refine KP.block_ret ?_)
    | (with_reducible refine CW.block ?_)
    | (with_reducible refine KP.block_normal ?_)
    | (with_reducible refine CW.exit ?_)
    | (with_reducible refine KP.then_exit ?_)
    | (with_reducible refine KP.block_hit ?_)
    | refine KP.bm ?_
    | refine CW.ct ?_
    | refine CW.cf ?_
    | (refine CW.cP ?_ ?_ <;> intro _ <;> try contradiction)
    | (refine CW.cs ?_ ?_ <;> intro _ <;> try contradiction)
    | (refine CW.region (i := 12) ?_ <;> refine KP.q QK.mv ?_ <;> refine KP.q QK.mv ?_ <;> refine KP.q QK.len ?_ <;> refine KP.q QK.lss ?_ <;> refine KP.list_nil ?_)
    | (refine CW.region (i := 24) ?_ <;> (refine KP.e ?_; ((refine EK.call (awakeR) ?_); repeat' first | refine CP.r ?_ | refine CP.r0 ?_ | refine CP.exP fun e99 => ?_ | refine CP.puP fun h99 => ?_)) <;> refine KP.q QK.as ?_ <;> refine KP.list_nil ?_)
    | ((with_reducible apply KP.fin1); (· rfl); (· rfl)))
    exact FA.ret
  obtain ⟨c, hc⟩ := at_lt hlt
  obtain ⟨yi, hyi⟩ := at_lt (xs := ys) (i := i) (by omega)
  repeat' (first
    | (with_reducible refine CW.seq ?_)
    | (with_reducible refine KP.then_code ?_)
    | (with_reducible refine CW.skip ?_)
    | (with_reducible refine CW.ret ?_)
    | (with_reducible refine KP.then_ret ?_)
    | (with_reducible refine KP.block_ret ?_)
    | (with_reducible refine CW.block ?_)
    | (with_reducible refine KP.block_normal ?_)
    | (with_reducible refine CW.exit ?_)
    | (with_reducible refine KP.then_exit ?_)
    | (with_reducible refine KP.block_hit ?_)
    | refine KP.bm ?_
    | refine CW.ct ?_
    | refine CW.cf ?_
    | (refine CW.cP ?_ ?_ <;> intro _ <;> try contradiction)
    | (refine CW.cs ?_ ?_ <;> intro _ <;> try contradiction)
    | (refine CW.region (i := 12) ?_ <;> refine KP.q QK.mv ?_ <;> refine KP.q QK.mv ?_ <;> refine KP.q QK.len ?_ <;> refine KP.q QK.lss ?_ <;> refine KP.list_nil ?_)
    | (refine CW.region (i := 14) ?_ <;> refine KP.q QK.as ?_ <;> refine KP.list_nil ?_)
    | (refine CW.region (i := 15) ?_ <;> refine KP.q QK.as ?_ <;> refine KP.list_nil ?_)
    | ((with_reducible apply KP.fin1); (· rfl); (· rfl)))
  refine CA.loop (X := Nat) (fun z => [(0, v), (3, e13), (6, iv (i : Nat)), (7, .int .i64 (bal xs ys c z)), (8, iv (z : Nat))]) (fun _ => [row 39 2 eI e13 ys]) (fun z => z ≤ xs.length) (fun z => xs.length - z) 0 (by simp) ?_
  rintro j hj
  try dsimp only at hj ⊢
  rcases Nat.lt_or_ge j xs.length with hlt2 | hge2
  · obtain ⟨x, hx⟩ := at_lt hlt2
    obtain ⟨y, hy⟩ := at_lt (xs := ys) (i := j) (by omega)
    have hst := bal_step (c := c) hx hy
    have hbb := bal_bound (xs := xs) (ys := ys) (c := c) (i := j)
    
    
    repeat' (first
    | (with_reducible refine CW.seq ?_)
    | (with_reducible refine KP.then_code ?_)
    | (with_reducible refine CW.skip ?_)
    | (with_reducible refine CW.ret ?_)
    | (with_reducible refine KP.then_ret ?_)
    | (with_reducible refine KP.block_ret ?_)
    | (with_reducible refine CW.block ?_)
    | (with_reducible refine KP.block_normal ?_)
    | (with_reducible refine CW.exit ?_)
    | (with_reducible refine KP.then_exit ?_)
    | (with_reducible refine KP.block_hit ?_)
    | refine KP.bm ?_
    | refine CW.ct ?_
    | refine CW.cf ?_
    | (refine CW.cP ?_ ?_ <;> intro _ <;> try contradiction)
    | (refine CW.cs ?_ ?_ <;> intro _ <;> try contradiction)
    | (refine CW.region (i := 16) ?_ <;> refine KP.q QK.mv ?_ <;> refine KP.q QK.mv ?_ <;> refine KP.q QK.len ?_ <;> refine KP.q QK.lss ?_ <;> refine KP.list_nil ?_)
    | (((with_reducible refine CW.draw (i := 18) ?_ [[], [], [0, 1], [0, 1, 2], [], [], [4, 5], [4, 5, 6], [0, 1, 2, 3, 4, 5, 6, 7]] ?_ ?_ ?_ ?_); (· rfl); (· kernel_rfl); (· kernel_rfl); (· repeat (first | exact NoHang.post | refine NoHang.then ?_ | refine NoHang.block ?_))) <;> refine DW.p 0 rfl (fun _ => QK.mv) ?_ <;> refine DW.p 1 rfl (fun _ => QK.mv) ?_ <;> refine DW.p 4 rfl (fun _ => QK.mv) ?_ <;> refine DW.p 5 rfl (fun _ => QK.mv) ?_ <;> refine DW.m 2 rfl QK.ia ?_ <;> refine DW.m 3 rfl (by first | exact QY.load_a rfl (Rd.own (by with_reducible first | exact k0 | exact k1 | exact k2 | exact k3 | exact k4 | exact k5 | exact k6 | exact k7 | exact k8 | exact k9 | fail)) (Reads.row RowL.row hy) (by rfl) | exact QY.load_a rfl (Rd.ro (by with_reducible first | exact m0 | exact m1 | exact m2 | exact m3 | exact m4 | exact m5 | fail)) (Reads.row RowL.rrow hx) (by rfl) | exact QY.load_a rfl (Rd.ro (by with_reducible first | exact m0 | exact m1 | exact m2 | exact m3 | exact m4 | exact m5 | fail)) (Reads.row RowL.rrow hc) (by rfl) | exact QY.load_a rfl (Rd.ro (by with_reducible first | exact m0 | exact m1 | exact m2 | exact m3 | exact m4 | exact m5 | fail)) (Reads.row RowL.rrow hx) (by rfl) | exact QK.lda) ?_ <;> refine DW.m 6 rfl QK.ia ?_ <;> refine DW.m 7 rfl (by first | exact QY.load_a rfl (Rd.own (by with_reducible first | exact k0 | exact k1 | exact k2 | exact k3 | exact k4 | exact k5 | exact k6 | exact k7 | exact k8 | exact k9 | fail)) (Reads.row RowL.row hy) (by rfl) | exact QY.load_a rfl (Rd.ro (by with_reducible first | exact m0 | exact m1 | exact m2 | exact m3 | exact m4 | exact m5 | fail)) (Reads.row RowL.rrow hx) (by rfl) | exact QY.load_a rfl (Rd.ro (by with_reducible first | exact m0 | exact m1 | exact m2 | exact m3 | exact m4 | exact m5 | fail)) (Reads.row RowL.rrow hc) (by rfl) | exact QY.load_a rfl (Rd.ro (by with_reducible first | exact m0 | exact m1 | exact m2 | exact m3 | exact m4 | exact m5 | fail)) (Reads.row RowL.rrow hx) (by rfl) | exact QK.lda) ?_ <;> refine DW.p 8 rfl (fun _ => (by first | exact QY.eq_agg (enc := eI) (p := x) (q := c) rfl rfl | exact QY.eq_agg (enc := eI) (p := y) (q := c) rfl rfl | exact QK.eqa)) ?_ <;> refine DW.zz ?_)
    | (refine CW.region (i := 19) ?_ <;> refine KP.q QK.mv ?_ <;> refine KP.q QK.add ?_ <;> refine KP.q QK.as ?_ <;> refine KP.list_nil ?_)
    | (((with_reducible refine CW.draw (i := 20) ?_ [[], [], [0, 1], [0, 1, 2], [], [], [4, 5], [4, 5, 6], [0, 1, 2, 3, 4, 5, 6, 7]] ?_ ?_ ?_ ?_); (· rfl); (· kernel_rfl); (· kernel_rfl); (· repeat (first | exact NoHang.post | refine NoHang.then ?_ | refine NoHang.block ?_))) <;> refine DW.p 0 rfl (fun _ => QK.mv) ?_ <;> refine DW.p 1 rfl (fun _ => QK.mv) ?_ <;> refine DW.p 4 rfl (fun _ => QK.mv) ?_ <;> refine DW.p 5 rfl (fun _ => QK.mv) ?_ <;> refine DW.m 2 rfl QK.ia ?_ <;> refine DW.m 3 rfl (by first | exact QY.load_a rfl (Rd.own (by with_reducible first | exact k0 | exact k1 | exact k2 | exact k3 | exact k4 | exact k5 | exact k6 | exact k7 | exact k8 | exact k9 | fail)) (Reads.row RowL.row hy) (by rfl) | exact QY.load_a rfl (Rd.ro (by with_reducible first | exact m0 | exact m1 | exact m2 | exact m3 | exact m4 | exact m5 | fail)) (Reads.row RowL.rrow hx) (by rfl) | exact QY.load_a rfl (Rd.ro (by with_reducible first | exact m0 | exact m1 | exact m2 | exact m3 | exact m4 | exact m5 | fail)) (Reads.row RowL.rrow hc) (by rfl) | exact QY.load_a rfl (Rd.ro (by with_reducible first | exact m0 | exact m1 | exact m2 | exact m3 | exact m4 | exact m5 | fail)) (Reads.row RowL.rrow hx) (by rfl) | exact QK.lda) ?_ <;> refine DW.m 6 rfl QK.ia ?_ <;> refine DW.m 7 rfl (by first | exact QY.load_a rfl (Rd.own (by with_reducible first | exact k0 | exact k1 | exact k2 | exact k3 | exact k4 | exact k5 | exact k6 | exact k7 | exact k8 | exact k9 | fail)) (Reads.row RowL.row hy) (by rfl) | exact QY.load_a rfl (Rd.ro (by with_reducible first | exact m0 | exact m1 | exact m2 | exact m3 | exact m4 | exact m5 | fail)) (Reads.row RowL.rrow hx) (by rfl) | exact QY.load_a rfl (Rd.ro (by with_reducible first | exact m0 | exact m1 | exact m2 | exact m3 | exact m4 | exact m5 | fail)) (Reads.row RowL.rrow hc) (by rfl) | exact QY.load_a rfl (Rd.ro (by with_reducible first | exact m0 | exact m1 | exact m2 | exact m3 | exact m4 | exact m5 | fail)) (Reads.row RowL.rrow hx) (by rfl) | exact QK.lda) ?_ <;> refine DW.p 8 rfl (fun _ => (by first | exact QY.eq_agg (enc := eI) (p := x) (q := c) rfl rfl | exact QY.eq_agg (enc := eI) (p := y) (q := c) rfl rfl | exact QK.eqa)) ?_ <;> refine DW.zz ?_)
    | (refine CW.region (i := 21) ?_ <;> refine KP.q QK.mv ?_ <;> refine KP.q QK.sub ?_ <;> refine KP.q QK.as ?_ <;> refine KP.list_nil ?_)
    | (refine CW.region (i := 17) ?_ <;> refine KP.q QK.mv ?_ <;> refine KP.q QK.add ?_ <;> refine KP.q QK.as ?_ <;> refine KP.list_nil ?_)
    | ((with_reducible apply KP.fin1); (· rfl); (· rfl)))
    all_goals rename_i h1 h2
    all_goals simp only [h1, h2, if_true, if_false, Int.add_zero, Int.sub_zero] at hst
    all_goals (rw [← hst]; exact KA.round (j + 1) (by omega))
  · obtain rfl : j = xs.length := by omega
    have hbe := bal_end (xs := xs) (c := c) rfl
    rw [hys] at hbe
    rw [hbe]
    
    cases i with
    | zero =>
      repeat' (first
    | (with_reducible refine CW.seq ?_)
    | (with_reducible refine KP.then_code ?_)
    | (with_reducible refine CW.skip ?_)
    | (with_reducible refine CW.ret ?_)
    | (with_reducible refine KP.then_ret ?_)
    | (with_reducible refine KP.block_ret ?_)
    | (with_reducible refine CW.block ?_)
    | (with_reducible refine KP.block_normal ?_)
    | (with_reducible refine CW.exit ?_)
    | (with_reducible refine KP.then_exit ?_)
    | (with_reducible refine KP.block_hit ?_)
    | refine KP.bm ?_
    | refine CW.ct ?_
    | refine CW.cf ?_
    | (refine CW.cP ?_ ?_ <;> intro _ <;> try contradiction)
    | (refine CW.cs ?_ ?_ <;> intro _ <;> try contradiction)
    | (refine CW.region (i := 16) ?_ <;> refine KP.q QK.mv ?_ <;> refine KP.q QK.mv ?_ <;> refine KP.q QK.len ?_ <;> refine KP.q QK.lss ?_ <;> refine KP.list_nil ?_)
    | (((with_reducible refine CW.draw (i := 22) ?_ [[], [0], [0, 1], [0, 1, 2], [0, 1, 2, 3], [0, 1, 2, 3, 4], [0, 1, 2, 3, 4, 5], [0, 1, 2, 3, 4, 5], [0, 1, 2, 3, 4, 5, 6, 7], [0, 1, 2, 3, 4, 5, 6, 7, 8], [0, 1, 2, 3, 4, 5], [0, 1, 2, 3, 4, 5], [0, 1, 2, 3, 4, 5, 11], [0, 1, 2, 3, 4, 5, 10, 11, 12], [0, 1, 2, 3, 4, 5, 10, 11, 12, 13], [0, 1, 2, 3, 4, 5, 6, 7, 8, 9, 10, 11, 12, 13, 14], [0, 1, 2, 3, 4, 5, 6, 7, 8, 9, 10, 11, 12, 13, 14, 15], [0, 1, 2, 3, 4, 5, 6, 7, 8, 9, 10, 11, 12, 13, 14, 15, 16]] ?_ ?_ ?_ ?_); (· rfl); (· kernel_rfl); (· kernel_rfl); (· repeat (first | exact NoHang.post | refine NoHang.then ?_ | refine NoHang.block ?_))) <;> refine DW.p 0 rfl (fun _ => QK.mv) ?_ <;> refine DW.p 1 rfl (fun _ => QK.nei) ?_ <;> refine DW.p 2 rfl (fun _ => QK.mv) ?_ <;> (first | refine DW.pn 3 rfl rfl rfl ?_ | refine DW.pu 3 rfl rfl rfl ?_ | refine DW.py 3 rfl rfl rfl (fun _ => QK.mv) ?_ | ((first | refine DW.sP (t := 83) ?_ ?_ | refine DW.s (t := 83) ?_ ?_) <;> intro _ <;> first | contradiction | refine DW.pn 3 rfl rfl rfl ?_ | refine DW.pu 3 rfl rfl rfl ?_ | refine DW.py 3 rfl rfl rfl (fun _ => QK.mv) ?_)) <;> (first | refine DW.pn 4 rfl rfl rfl ?_ | refine DW.pu 4 rfl rfl rfl ?_ | refine DW.py 4 rfl rfl rfl (fun _ => QK.gtr) ?_) <;> (first | refine DW.pn 5 rfl rfl rfl ?_ | refine DW.pu 5 rfl rfl rfl ?_ | refine DW.py 5 rfl rfl rfl (fun _ => QK.mv) ?_) <;> (first | refine DW.pn 6 rfl rfl rfl ?_ | refine DW.pu 6 rfl rfl rfl ?_ | refine DW.py 6 rfl rfl rfl (fun _ => QK.mv) ?_ | ((first | refine DW.sP (t := 86) ?_ ?_ | refine DW.s (t := 86) ?_ ?_) <;> intro _ <;> first | contradiction | refine DW.pn 6 rfl rfl rfl ?_ | refine DW.pu 6 rfl rfl rfl ?_ | refine DW.py 6 rfl rfl rfl (fun _ => QK.mv) ?_)) <;> (first | refine DW.pn 7 rfl rfl rfl ?_ | refine DW.pu 7 rfl rfl rfl ?_ | refine DW.py 7 rfl rfl rfl (fun _ => QK.mv) ?_) <;> (first | refine DW.pn 10 rfl rfl rfl ?_ | refine DW.pu 10 rfl rfl rfl ?_ | refine DW.py 10 rfl rfl rfl (fun _ => QK.mv) ?_) <;> (first | refine DW.pn 11 rfl rfl rfl ?_ | refine DW.pu 11 rfl rfl rfl ?_ | refine DW.py 11 rfl rfl rfl (fun _ => QK.mv) ?_) <;> (first | refine DW.pn 12 rfl rfl rfl ?_ | refine DW.pu 12 rfl rfl rfl ?_ | refine DW.py 12 rfl rfl rfl (fun _ => QK.sub) ?_) <;> (first | refine DW.mn 8 rfl rfl rfl ?_ | refine DW.mu 8 rfl rfl rfl ?_ | refine DW.my 8 rfl rfl rfl QK.ia ?_) <;> (first | refine DW.mn 9 rfl rfl rfl ?_ | refine DW.mu 9 rfl rfl rfl ?_ | refine DW.my 9 rfl rfl rfl (by first | exact QY.load_a rfl (Rd.own (by with_reducible first | exact k0 | exact k1 | exact k2 | exact k3 | exact k4 | exact k5 | exact k6 | exact k7 | exact k8 | exact k9 | fail)) (Reads.row RowL.row hyi) (by rfl) | exact QY.load_a rfl (Rd.own (by with_reducible first | exact k0 | exact k1 | exact k2 | exact k3 | exact k4 | exact k5 | exact k6 | exact k7 | exact k8 | exact k9 | fail)) (Reads.row RowL.row hy) (by rfl) | exact QY.load_a rfl (Rd.ro (by with_reducible first | exact m0 | exact m1 | exact m2 | exact m3 | exact m4 | exact m5 | fail)) (Reads.row RowL.rrow hx) (by rfl) | exact QY.load_a rfl (Rd.ro (by with_reducible first | exact m0 | exact m1 | exact m2 | exact m3 | exact m4 | exact m5 | fail)) (Reads.row RowL.rrow hc) (by rfl) | exact QY.load_a rfl (Rd.ro (by with_reducible first | exact m0 | exact m1 | exact m2 | exact m3 | exact m4 | exact m5 | fail)) (Reads.row RowL.rrow hx) (by rfl) | exact QK.lda) ?_) <;> (first | refine DW.mn 13 rfl rfl rfl ?_ | refine DW.mu 13 rfl rfl rfl ?_ | refine DW.my 13 rfl rfl rfl QK.ia ?_) <;> (first | refine DW.mn 14 rfl rfl rfl ?_ | refine DW.mu 14 rfl rfl rfl ?_ | refine DW.my 14 rfl rfl rfl (by first | exact QY.load_a rfl (Rd.own (by with_reducible first | exact k0 | exact k1 | exact k2 | exact k3 | exact k4 | exact k5 | exact k6 | exact k7 | exact k8 | exact k9 | fail)) (Reads.row RowL.row hyi) (by rfl) | exact QY.load_a rfl (Rd.own (by with_reducible first | exact k0 | exact k1 | exact k2 | exact k3 | exact k4 | exact k5 | exact k6 | exact k7 | exact k8 | exact k9 | fail)) (Reads.row RowL.row hy) (by rfl) | exact QY.load_a rfl (Rd.ro (by with_reducible first | exact m0 | exact m1 | exact m2 | exact m3 | exact m4 | exact m5 | fail)) (Reads.row RowL.rrow hx) (by rfl) | exact QY.load_a rfl (Rd.ro (by with_reducible first | exact m0 | exact m1 | exact m2 | exact m3 | exact m4 | exact m5 | fail)) (Reads.row RowL.rrow hc) (by rfl) | exact QY.load_a rfl (Rd.ro (by with_reducible first | exact m0 | exact m1 | exact m2 | exact m3 | exact m4 | exact m5 | fail)) (Reads.row RowL.rrow hx) (by rfl) | exact QK.lda) ?_) <;> (first | (refine DW.exn 15 rfl rfl rfl ?_; intro hdk; refine DK.mk hdk .nil ?_; clear hdk) | (refine DW.exy 15 rfl rfl rfl ?_; intro hdk; ((fail "no rule f38"); repeat' first | refine CP.r ?_ | refine CP.r0 ?_ | refine CP.exP fun e96 => ?_ | refine CP.puP fun h96 => ?_); all_goals (refine DK.mk hdk .nil ?_; clear hdk))) <;> (first | refine DW.pn 16 rfl rfl rfl ?_ | refine DW.pu 16 rfl rfl rfl ?_ | refine DW.py 16 rfl rfl rfl (fun _ => QK.pk) ?_) <;> refine DW.p 17 rfl (fun _ => QK.pk) ?_ <;> refine DW.zz ?_)
    | (refine CW.region (i := 13) ?_ <;> refine KP.q QK.mv ?_ <;> refine KP.q QK.add ?_ <;> refine KP.q QK.as ?_ <;> refine KP.list_nil ?_)
    | ((with_reducible apply KP.fin1); (· rfl); (· rfl)))
      exact KA.round (0 + 1) (by omega)
    | succ i =>
      obtain ⟨yp, hyp⟩ := at_lt (xs := ys) (i := i) (by omega)
      have hsub : Value.int .i64 (((i + 1 : Nat) : Int) - 1) = iv i := by simp
      have hle := sorted_get hss (Nat.le_succ i) hyp hyi
      
      
      
      repeat' (first
    | (with_reducible refine CW.seq ?_)
    | (with_reducible refine KP.then_code ?_)
    | (with_reducible refine CW.skip ?_)
    | (with_reducible refine CW.ret ?_)
    | (with_reducible refine KP.then_ret ?_)
    | (with_reducible refine KP.block_ret ?_)
    | (with_reducible refine CW.block ?_)
    | (with_reducible refine KP.block_normal ?_)
    | (with_reducible refine CW.exit ?_)
    | (with_reducible refine KP.then_exit ?_)
    | (with_reducible refine KP.block_hit ?_)
    | refine KP.bm ?_
    | refine CW.ct ?_
    | refine CW.cf ?_
    | (refine CW.cP ?_ ?_ <;> intro _ <;> try contradiction)
    | (refine CW.cs ?_ ?_ <;> intro _ <;> try contradiction)
    | (refine CW.region (i := 16) ?_ <;> refine KP.q QK.mv ?_ <;> refine KP.q QK.mv ?_ <;> refine KP.q QK.len ?_ <;> refine KP.q QK.lss ?_ <;> refine KP.list_nil ?_)
    | (((with_reducible refine CW.draw (i := 22) ?_ [[], [0], [0, 1], [0, 1, 2], [0, 1, 2, 3], [0, 1, 2, 3, 4], [0, 1, 2, 3, 4, 5], [0, 1, 2, 3, 4, 5], [0, 1, 2, 3, 4, 5, 6, 7], [0, 1, 2, 3, 4, 5, 6, 7, 8], [0, 1, 2, 3, 4, 5], [0, 1, 2, 3, 4, 5], [0, 1, 2, 3, 4, 5, 11], [0, 1, 2, 3, 4, 5, 10, 11, 12], [0, 1, 2, 3, 4, 5, 10, 11, 12, 13], [0, 1, 2, 3, 4, 5, 6, 7, 8, 9, 10, 11, 12, 13, 14], [0, 1, 2, 3, 4, 5, 6, 7, 8, 9, 10, 11, 12, 13, 14, 15], [0, 1, 2, 3, 4, 5, 6, 7, 8, 9, 10, 11, 12, 13, 14, 15, 16]] ?_ ?_ ?_ ?_); (· rfl); (· kernel_rfl); (· kernel_rfl); (· repeat (first | exact NoHang.post | refine NoHang.then ?_ | refine NoHang.block ?_))) <;> refine DW.p 0 rfl (fun _ => QK.mv) ?_ <;> refine DW.p 1 rfl (fun _ => QK.nei) ?_ <;> refine DW.p 2 rfl (fun _ => QK.mv) ?_ <;> (first | refine DW.pn 3 rfl rfl rfl ?_ | refine DW.pu 3 rfl rfl rfl ?_ | refine DW.py 3 rfl rfl rfl (fun _ => QK.mv) ?_ | ((first | refine DW.sP (t := 83) ?_ ?_ | refine DW.s (t := 83) ?_ ?_) <;> intro _ <;> first | contradiction | refine DW.pn 3 rfl rfl rfl ?_ | refine DW.pu 3 rfl rfl rfl ?_ | refine DW.py 3 rfl rfl rfl (fun _ => QK.mv) ?_)) <;> (first | refine DW.pn 4 rfl rfl rfl ?_ | refine DW.pu 4 rfl rfl rfl ?_ | refine DW.py 4 rfl rfl rfl (fun _ => QK.gtr) ?_) <;> (first | refine DW.pn 5 rfl rfl rfl ?_ | refine DW.pu 5 rfl rfl rfl ?_ | refine DW.py 5 rfl rfl rfl (fun _ => QK.mv) ?_) <;> (first | refine DW.pn 6 rfl rfl rfl ?_ | refine DW.pu 6 rfl rfl rfl ?_ | refine DW.py 6 rfl rfl rfl (fun _ => QK.mv) ?_ | ((first | refine DW.sP (t := 86) ?_ ?_ | refine DW.s (t := 86) ?_ ?_) <;> intro _ <;> first | contradiction | refine DW.pn 6 rfl rfl rfl ?_ | refine DW.pu 6 rfl rfl rfl ?_ | refine DW.py 6 rfl rfl rfl (fun _ => QK.mv) ?_)) <;> (first | refine DW.pn 7 rfl rfl rfl ?_ | refine DW.pu 7 rfl rfl rfl ?_ | refine DW.py 7 rfl rfl rfl (fun _ => QK.mv) ?_) <;> (first | refine DW.pn 10 rfl rfl rfl ?_ | refine DW.pu 10 rfl rfl rfl ?_ | refine DW.py 10 rfl rfl rfl (fun _ => QK.mv) ?_) <;> (first | refine DW.pn 11 rfl rfl rfl ?_ | refine DW.pu 11 rfl rfl rfl ?_ | refine DW.py 11 rfl rfl rfl (fun _ => QK.mv) ?_) <;> (first | refine DW.pn 12 rfl rfl rfl ?_ | refine DW.pu 12 rfl rfl rfl ?_ | refine DW.py 12 rfl rfl rfl (fun _ => (by first | exact QY.same (QY.sub64 rfl rfl (by omega)) hsub | exact QK.sub)) ?_) <;> (first | refine DW.mn 8 rfl rfl rfl ?_ | refine DW.mu 8 rfl rfl rfl ?_ | refine DW.my 8 rfl rfl rfl QK.ia ?_) <;> (first | refine DW.mn 9 rfl rfl rfl ?_ | refine DW.mu 9 rfl rfl rfl ?_ | refine DW.my 9 rfl rfl rfl (by first | exact QY.load_a rfl (Rd.own (by with_reducible first | exact k0 | exact k1 | exact k2 | exact k3 | exact k4 | exact k5 | exact k6 | exact k7 | exact k8 | exact k9 | fail)) (Reads.row RowL.row hyp) (by rfl) | exact QY.load_a rfl (Rd.own (by with_reducible first | exact k0 | exact k1 | exact k2 | exact k3 | exact k4 | exact k5 | exact k6 | exact k7 | exact k8 | exact k9 | fail)) (Reads.row RowL.row hyi) (by rfl) | exact QY.load_a rfl (Rd.own (by with_reducible first | exact k0 | exact k1 | exact k2 | exact k3 | exact k4 | exact k5 | exact k6 | exact k7 | exact k8 | exact k9 | fail)) (Reads.row RowL.row hy) (by rfl) | exact QY.load_a rfl (Rd.ro (by with_reducible first | exact m0 | exact m1 | exact m2 | exact m3 | exact m4 | exact m5 | fail)) (Reads.row RowL.rrow hx) (by rfl) | exact QY.load_a rfl (Rd.ro (by with_reducible first | exact m0 | exact m1 | exact m2 | exact m3 | exact m4 | exact m5 | fail)) (Reads.row RowL.rrow hc) (by rfl) | exact QY.load_a rfl (Rd.ro (by with_reducible first | exact m0 | exact m1 | exact m2 | exact m3 | exact m4 | exact m5 | fail)) (Reads.row RowL.rrow hx) (by rfl) | exact QK.lda) ?_) <;> (first | refine DW.mn 13 rfl rfl rfl ?_ | refine DW.mu 13 rfl rfl rfl ?_ | refine DW.my 13 rfl rfl rfl QK.ia ?_) <;> (first | refine DW.mn 14 rfl rfl rfl ?_ | refine DW.mu 14 rfl rfl rfl ?_ | refine DW.my 14 rfl rfl rfl (by first | exact QY.load_a rfl (Rd.own (by with_reducible first | exact k0 | exact k1 | exact k2 | exact k3 | exact k4 | exact k5 | exact k6 | exact k7 | exact k8 | exact k9 | fail)) (Reads.row RowL.row hyp) (by rfl) | exact QY.load_a rfl (Rd.own (by with_reducible first | exact k0 | exact k1 | exact k2 | exact k3 | exact k4 | exact k5 | exact k6 | exact k7 | exact k8 | exact k9 | fail)) (Reads.row RowL.row hyi) (by rfl) | exact QY.load_a rfl (Rd.own (by with_reducible first | exact k0 | exact k1 | exact k2 | exact k3 | exact k4 | exact k5 | exact k6 | exact k7 | exact k8 | exact k9 | fail)) (Reads.row RowL.row hy) (by rfl) | exact QY.load_a rfl (Rd.ro (by with_reducible first | exact m0 | exact m1 | exact m2 | exact m3 | exact m4 | exact m5 | fail)) (Reads.row RowL.rrow hx) (by rfl) | exact QY.load_a rfl (Rd.ro (by with_reducible first | exact m0 | exact m1 | exact m2 | exact m3 | exact m4 | exact m5 | fail)) (Reads.row RowL.rrow hc) (by rfl) | exact QY.load_a rfl (Rd.ro (by with_reducible first | exact m0 | exact m1 | exact m2 | exact m3 | exact m4 | exact m5 | fail)) (Reads.row RowL.rrow hx) (by rfl) | exact QK.lda) ?_) <;> (first | (refine DW.exn 15 rfl rfl rfl ?_; intro hdk; refine DK.mk hdk .nil ?_; clear hdk) | (refine DW.exy 15 rfl rfl rfl ?_; intro hdk; ((refine EK.call (lessE hle) ?_); repeat' first | refine CP.r ?_ | refine CP.r0 ?_ | refine CP.exP fun e96 => ?_ | refine CP.puP fun h96 => ?_); all_goals (refine DK.mk hdk .nil ?_; clear hdk))) <;> (first | refine DW.pn 16 rfl rfl rfl ?_ | refine DW.pu 16 rfl rfl rfl ?_ | refine DW.py 16 rfl rfl rfl (fun _ => QK.pk) ?_) <;> refine DW.p 17 rfl (fun _ => QK.pk) ?_ <;> refine DW.zz ?_)
    | (refine CW.region (i := 13) ?_ <;> refine KP.q QK.mv ?_ <;> refine KP.q QK.add ?_ <;> refine KP.q QK.as ?_ <;> refine KP.list_nil ?_)
    | ((with_reducible apply KP.fin1); (· rfl); (· rfl)))
      exact KA.round (i + 1 + 1) (by omega)

end Go.Proofs.Ytpmhelfdmhjnbaa
