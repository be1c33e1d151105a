import Derived.Test.YtpmhelfdmhjnbaaM5
/- The merge: which shard is ahead; Tell. -/
namespace Go.Proofs.Ytpmhelfdmhjnbaa
open Go Go.Ink
set_option linter.unusedVariables false
set_option linter.unusedSimpArgs false
attribute [local irreducible] KP QY EW CW DW QG CP Spc DK Fina wpList lessF

/-- Of the shards up to one: which first item is ahead. -/
def aheadP (shs : List PSh) : Nat → Option (Nat × Item)
  | 0 => none
  | i + 1 => match (shs[i]?).bind (·.waits.head?) with
    | none => aheadP shs i
    | some x => match aheadP shs i with
      | none => some (i, x)
      | some (j, y) => if lessF x y then some (i, x) else some (j, y)
def aV (sv : Value) : Option (Nat × Item) → Value
  | none => .pointer none
  | some p => sp sv p.1
theorem ahead_at {shs : List PSh} : ∀ {k j : Nat} {y : Item}, aheadP shs k = some (j, y) → j < k ∧ ∃ s l, shs[j]? = some s ∧ s.waits = y :: l
  | 0, j, y, h => by simp [aheadP] at h
  | k + 1, j, y, h => by
    have ih := @ahead_at shs k
    rw [aheadP] at h
    split at h
    · obtain ⟨h1, h2⟩ := ih h; exact ⟨by omega, h2⟩
    · rename_i x hx
      have hk : ∃ s l, shs[k]? = some s ∧ s.waits = x :: l := by
        cases hs : shs[k]? with
        | none => simp [hs] at hx
        | some s =>
          rw [hs] at hx
          simp only [Option.bind_some] at hx
          cases hw : s.waits with
          | nil => simp [hw] at hx
          | cons z l => simp [hw] at hx; subst hx; exact ⟨s, l, rfl, hw⟩
      split at h
      · cases h; exact ⟨by omega, hk⟩
      · rename_i j' y' hj
        split at h
        · cases h; exact ⟨by omega, hk⟩
        · cases h; obtain ⟨h1, h2⟩ := ih hj; exact ⟨by omega, h2⟩
theorem ahead_in {shs : List Sh} {k j : Nat} {y : Item} (h : aheadP (shs.map Sh.p) k = some (j, y)) : j < k ∧ ∃ s l, shs[j]? = some s ∧ s.p.waits = y :: l := by
  obtain ⟨h1, s, l, h2, h3⟩ := ahead_at h
  rw [List.getElem?_map] at h2
  cases e : shs[j]? with
  | none => simp [e] at h2
  | some sh => simp [e] at h2; exact ⟨h1, sh, l, rfl, by rw [h2]; exact h3⟩
theorem ahead_step_nil {shs : List Sh} {i : Nat} {s : Sh} (h : shs[i]? = some s) (hw : s.p.waits = []) : aheadP (shs.map Sh.p) (i + 1) = aheadP (shs.map Sh.p) i := by
  rw [aheadP]; simp [h, hw]
theorem ahead_step {shs : List Sh} {i : Nat} {s : Sh} {x : Item} {l : List Item} (h : shs[i]? = some s) (hw : s.p.waits = x :: l) : aheadP (shs.map Sh.p) (i + 1) = match aheadP (shs.map Sh.p) i with
      | none => some (i, x)
      | some (j, y) => if lessF x y then some (i, x) else some (j, y) := by
  rw [aheadP]; simp [h, hw]
theorem ahead_spec {m : Nat} {n : Int} {sv tv : Value} {shs : List Sh} : Spc Try.prog 92 #[qp m] [pt m 101 [iv n, sv, tv], rrow 7 eSh sv shs, wl shs] [] (ret (aV sv (aheadP (shs.map Sh.p) shs.length)) []) := by
  refine Spc.enter' (args := [qp m]) (T0 := [(0, qp m)]) Try.func92 rfl Try.ntmps92 (Nat.le_of_ble_eq_true rfl) rfl ?_
  intro w0 own
  refine CW.roFact (.tail _ (.head _)) (fun _ h => rrow.le h) fun hxs => ?_
  
  repeat' (first
    | (with_reducible refine CW.seq ?_)
    | (with_reducible refine KP.then_code ?_)
    | (with_reducible refine CW.skip ?_)
    | (with_reducible refine CW.ret ?_)
    | (with_reducible refine KP.then_ret ?_)
    | (with_reducible refine KP.block_ret ?_)
    | (with_reducible refine CW.block ?_)
    | (with_reducible refine KP.block_normal ?_)
    | (with_reducible refine CW.exit ?_)
    | (with_reducible refine KP.then_exit ?_)
    | (with_reducible refine KP.block_hit ?_)
    | refine KP.bm ?_
    | refine CW.ct ?_
    | refine CW.cf ?_
    | (refine CW.cP ?_ ?_ <;> intro _ <;> try contradiction)
    | (refine CW.cs ?_ ?_ <;> intro _ <;> try contradiction)
    | (refine CW.region (i := 0) ?_ <;> refine KP.q QK.as ?_ <;> refine KP.list_nil ?_)
    | (refine CW.region (i := 1) ?_ <;> refine KP.q QK.as ?_ <;> refine KP.list_nil ?_)
    | (refine CW.region (i := 2) ?_ <;> refine KP.q QK.mv ?_ <;> refine KP.q QK.nc ?_ <;> refine KP.q QK.fa ?_ <;> refine KP.q (by first | exact QY.load_s rfl (Rd.ro m0) (Reads.pt1 (by rfl)) | exact QK.lds) ?_ <;> refine KP.q QK.len ?_ <;> refine KP.q QK.mv ?_ <;> refine KP.list_nil ?_)
    | ((with_reducible apply KP.fin1); (· rfl); (· rfl)))
  refine CA.loop (X := Nat) (fun i => [(0, qp m), (10, iv shs.length), (11, iv i), (3, aV sv (aheadP (shs.map Sh.p) i))]) (fun _ => []) (fun i => i ≤ shs.length) (fun i => shs.length - i) 0 (by simp) ?_
  rintro i hi
  try dsimp only at hi ⊢
  rcases Nat.lt_or_ge i shs.length with hlt | hge
  · obtain ⟨s, hs⟩ := at_lt hlt
    cases hw : s.p.waits with
    | nil =>
      have hst := ahead_step_nil hs hw
      have hl0 : s.p.waits.length = 0 := by rw [hw]; rfl
      
      repeat' (first
    | (with_reducible refine CW.seq ?_)
    | (with_reducible refine KP.then_code ?_)
    | (with_reducible refine CW.skip ?_)
    | (with_reducible refine CW.ret ?_)
    | (with_reducible refine KP.then_ret ?_)
    | (with_reducible refine KP.block_ret ?_)
    | (with_reducible refine CW.block ?_)
    | (with_reducible refine KP.block_normal ?_)
    | (with_reducible refine CW.exit ?_)
    | (with_reducible refine KP.then_exit ?_)
    | (with_reducible refine KP.block_hit ?_)
    | refine KP.bm ?_
    | refine CW.ct ?_
    | refine CW.cf ?_
    | (refine CW.cP ?_ ?_ <;> intro _ <;> try contradiction)
    | (refine CW.cs ?_ ?_ <;> intro _ <;> try contradiction)
    | (refine CW.region (i := 3) ?_ <;> refine KP.q QK.lss ?_ <;> refine KP.list_nil ?_)
    | (refine CW.region (i := 4) ?_ <;> refine KP.q QK.mv ?_ <;> refine KP.q QK.as ?_ <;> refine KP.list_nil ?_)
    | (refine CW.region (i := 5) ?_ <;> refine KP.q QK.mv ?_ <;> refine KP.q QK.nc ?_ <;> refine KP.q QK.fa ?_ <;> refine KP.q (by first | exact QY.load_s rfl (Rd.ro m0) (Reads.pt1 (by rfl)) | exact QK.lds) ?_ <;> refine KP.q QK.mv ?_ <;> refine KP.q QK.ia ?_ <;> refine KP.q QK.as ?_ <;> refine KP.list_nil ?_)
    | (((with_reducible refine CW.draw (i := 6) ?_ [[], [0], [0, 1], [0, 1, 2], [0, 1, 2, 3], [0, 1, 2, 3, 4], [0, 1, 2, 3, 4, 5], [0, 1, 2, 3, 4, 5, 6], [0, 1, 2, 3, 4, 5, 6, 7], [0, 1, 2, 3, 4, 5, 6, 7, 8], [0, 1, 2, 3, 4, 5, 6, 7, 8, 9], [0, 1, 2, 3, 4, 5, 6, 7, 8, 9, 10], [0, 1, 2, 3, 4, 5, 6, 7, 8, 9, 10, 11], [0, 1, 2, 3, 4, 5, 6, 7, 8, 9, 10, 11, 12], [0, 1, 2, 3, 4, 5, 6, 7, 8, 9, 10, 11, 12, 13], [0, 1, 2, 3, 4, 5, 6, 7, 8, 9, 10, 11, 12, 13, 14], [0, 1, 2, 3, 4, 5, 6, 7, 8, 9], [0, 1, 2, 3, 4, 5, 6, 7, 8, 9, 16], [0, 1, 2, 3, 4, 5, 6, 7, 8, 9, 16, 17], [0, 1, 2, 3, 4, 5, 6, 7, 8, 9, 16, 17, 18], [0, 1, 2, 3, 4, 5, 6, 7, 8, 9, 16, 17, 18, 19], [0, 1, 2, 3, 4, 5, 6, 7, 8, 9, 16, 17, 18, 19, 20], [0, 1, 2, 3, 4, 5, 6, 7, 8, 9, 10, 11, 12, 13, 14, 15, 16, 17, 18, 19, 20, 21], [0, 1, 2, 3, 4, 5, 6, 7, 8, 9, 10, 11, 12, 13, 14, 15, 16, 17, 18, 19, 20, 21, 22], [0, 1, 2, 3, 4, 5, 6, 7, 8, 9, 10, 11, 12, 13, 14, 15, 16, 17, 18, 19, 20, 21, 22, 23]] ?_ ?_ ?_ ?_); (· rfl); (· kernel_rfl); (· kernel_rfl); (· repeat (first | exact NoHang.post | refine NoHang.then ?_ | refine NoHang.block ?_))) <;> refine DW.p 0 rfl (fun _ => QK.mv) ?_ <;> refine DW.p 1 rfl (fun _ => QK.nc) ?_ <;> refine DW.p 2 rfl (fun _ => QK.fa) ?_ <;> refine DW.m 3 rfl (by first | exact QY.load_s rfl (Rd.ro m0) (Reads.pt1 (by rfl)) | exact QK.lds) ?_ <;> refine DW.m 4 rfl (by first | exact QY.len_row rfl (Rd.ro m2) (RowL.big hs RowL.row) | exact QK.len) ?_ <;> refine DW.p 5 rfl (fun _ => QK.gtr) ?_ <;> refine DW.p 6 rfl (fun _ => QK.mv) ?_ <;> (first | refine DW.pn 7 rfl rfl rfl ?_ | refine DW.pu 7 rfl rfl rfl ?_ | refine DW.py 7 rfl rfl rfl (fun _ => QK.mv) ?_ | ((first | refine DW.sP (t := 26) ?_ ?_ | refine DW.s (t := 26) ?_ ?_) <;> intro _ <;> first | contradiction | refine DW.pn 7 rfl rfl rfl ?_ | refine DW.pu 7 rfl rfl rfl ?_ | refine DW.py 7 rfl rfl rfl (fun _ => QK.mv) ?_)) <;> (first | refine DW.pn 8 rfl rfl rfl ?_ | refine DW.pu 8 rfl rfl rfl ?_ | refine DW.py 8 rfl rfl rfl (fun _ => QK.eqp) ?_) <;> (first | refine DW.pn 9 rfl rfl rfl ?_ | refine DW.pu 9 rfl rfl rfl ?_ | refine DW.py 9 rfl rfl rfl (fun _ => QK.mv) ?_) <;> (first | refine DW.pn 10 rfl rfl rfl ?_ | refine DW.pu 10 rfl rfl rfl ?_ | refine DW.py 10 rfl rfl rfl (fun _ => QK.mv) ?_ | ((first | refine DW.sP (t := 29) ?_ ?_ | refine DW.s (t := 29) ?_ ?_) <;> intro _ <;> first | contradiction | refine DW.pn 10 rfl rfl rfl ?_ | refine DW.pu 10 rfl rfl rfl ?_ | refine DW.py 10 rfl rfl rfl (fun _ => QK.mv) ?_)) <;> (first | refine DW.pn 11 rfl rfl rfl ?_ | refine DW.pu 11 rfl rfl rfl ?_ | refine DW.py 11 rfl rfl rfl (fun _ => QK.nc) ?_) <;> (first | refine DW.pn 12 rfl rfl rfl ?_ | refine DW.pu 12 rfl rfl rfl ?_ | refine DW.py 12 rfl rfl rfl (fun _ => QK.fa) ?_) <;> (first | refine DW.pn 16 rfl rfl rfl ?_ | refine DW.pu 16 rfl rfl rfl ?_ | refine DW.py 16 rfl rfl rfl (fun _ => QK.mv) ?_) <;> (first | refine DW.pn 17 rfl rfl rfl ?_ | refine DW.pu 17 rfl rfl rfl ?_ | refine DW.py 17 rfl rfl rfl (fun _ => QK.nc) ?_) <;> (first | refine DW.pn 18 rfl rfl rfl ?_ | refine DW.pu 18 rfl rfl rfl ?_ | refine DW.py 18 rfl rfl rfl (fun _ => QK.fa) ?_) <;> (first | refine DW.mn 13 rfl rfl rfl ?_ | refine DW.mu 13 rfl rfl rfl ?_ | refine DW.my 13 rfl rfl rfl (by first | exact QY.load_s rfl (Rd.ro m0) (Reads.pt1 (by rfl)) | exact QK.lds) ?_) <;> (first | refine DW.mn 14 rfl rfl rfl ?_ | refine DW.mu 14 rfl rfl rfl ?_ | refine DW.my 14 rfl rfl rfl QK.ia ?_) <;> (first | refine DW.mn 15 rfl rfl rfl ?_ | refine DW.mu 15 rfl rfl rfl ?_ | refine DW.my 15 rfl rfl rfl QK.lda ?_) <;> (first | refine DW.mn 19 rfl rfl rfl ?_ | refine DW.mu 19 rfl rfl rfl ?_ | refine DW.my 19 rfl rfl rfl (by first | exact QY.load_s rfl (Rd.ro m0) (Reads.pt1 (by rfl)) | exact QK.lds) ?_) <;> (first | refine DW.mn 20 rfl rfl rfl ?_ | refine DW.mu 20 rfl rfl rfl ?_ | refine DW.my 20 rfl rfl rfl QK.ia ?_) <;> (first | refine DW.mn 21 rfl rfl rfl ?_ | refine DW.mu 21 rfl rfl rfl ?_ | refine DW.my 21 rfl rfl rfl QK.lda ?_) <;> (first | (refine DW.exn 22 rfl rfl rfl ?_; intro hdk; refine DK.mk hdk .nil ?_; clear hdk) | (refine DW.exy 22 rfl rfl rfl ?_; intro hdk; ((fail "no rule f38"); repeat' first | refine CP.r ?_ | refine CP.r0 ?_ | refine CP.exP fun e42 => ?_ | refine CP.puP fun h42 => ?_); all_goals (refine DK.mk hdk .nil ?_; clear hdk))) <;> (first | refine DW.pn 23 rfl rfl rfl ?_ | refine DW.pu 23 rfl rfl rfl ?_ | refine DW.py 23 rfl rfl rfl (fun _ => QK.pk) ?_) <;> refine DW.p 24 rfl (fun _ => QK.pk) ?_ <;> refine DW.zz ?_)
    | (refine CW.region (i := 8) ?_ <;> refine KP.q QK.add ?_ <;> refine KP.q QK.mv ?_ <;> refine KP.list_nil ?_)
    | ((with_reducible apply KP.fin1); (· rfl); (· rfl)))
      rw [← hst]
      exact KA.round (i + 1) (by omega)
    | cons x l =>
      have hst := ahead_step hs hw
      have h0 : s.p.waits[0]? = some x := by rw [hw]; rfl
      have hlen : 0 < s.p.waits.length := by rw [hw]; simp
      have hrw : RowL (waitsA s) 2 eI s.wv s.p.waits := RowL.row
      cases ha : aheadP (shs.map Sh.p) i with
      | none =>
        rw [ha] at hst
        repeat' (first
    | (with_reducible refine CW.seq ?_)
    | (with_reducible refine KP.then_code ?_)
    | (with_reducible refine CW.skip ?_)
    | (with_reducible refine CW.ret ?_)
    | (with_reducible refine KP.then_ret ?_)
    | (with_reducible refine KP.block_ret ?_)
    | (with_reducible refine CW.block ?_)
    | (with_reducible refine KP.block_normal ?_)
    | (with_reducible refine CW.exit ?_)
    | (with_reducible refine KP.then_exit ?_)
    | (with_reducible refine KP.block_hit ?_)
    | refine KP.bm ?_
    | refine CW.ct ?_
    | refine CW.cf ?_
    | (refine CW.cP ?_ ?_ <;> intro _ <;> try contradiction)
    | (refine CW.cs ?_ ?_ <;> intro _ <;> try contradiction)
    | (refine CW.region (i := 3) ?_ <;> refine KP.q QK.lss ?_ <;> refine KP.list_nil ?_)
    | (refine CW.region (i := 4) ?_ <;> refine KP.q QK.mv ?_ <;> refine KP.q QK.as ?_ <;> refine KP.list_nil ?_)
    | (refine CW.region (i := 5) ?_ <;> refine KP.q QK.mv ?_ <;> refine KP.q QK.nc ?_ <;> refine KP.q QK.fa ?_ <;> refine KP.q (by first | exact QY.load_s rfl (Rd.ro m0) (Reads.pt1 (by rfl)) | exact QK.lds) ?_ <;> refine KP.q QK.mv ?_ <;> refine KP.q QK.ia ?_ <;> refine KP.q QK.as ?_ <;> refine KP.list_nil ?_)
    | (((with_reducible refine CW.draw (i := 6) ?_ [[], [0], [0, 1], [0, 1, 2], [0, 1, 2, 3], [0, 1, 2, 3, 4], [0, 1, 2, 3, 4, 5], [0, 1, 2, 3, 4, 5, 6], [0, 1, 2, 3, 4, 5, 6, 7], [0, 1, 2, 3, 4, 5, 6, 7, 8], [0, 1, 2, 3, 4, 5, 6, 7, 8, 9], [0, 1, 2, 3, 4, 5, 6, 7, 8, 9, 10], [0, 1, 2, 3, 4, 5, 6, 7, 8, 9, 10, 11], [0, 1, 2, 3, 4, 5, 6, 7, 8, 9, 10, 11, 12], [0, 1, 2, 3, 4, 5, 6, 7, 8, 9, 10, 11, 12, 13], [0, 1, 2, 3, 4, 5, 6, 7, 8, 9, 10, 11, 12, 13, 14], [0, 1, 2, 3, 4, 5, 6, 7, 8, 9], [0, 1, 2, 3, 4, 5, 6, 7, 8, 9, 16], [0, 1, 2, 3, 4, 5, 6, 7, 8, 9, 16, 17], [0, 1, 2, 3, 4, 5, 6, 7, 8, 9, 16, 17, 18], [0, 1, 2, 3, 4, 5, 6, 7, 8, 9, 16, 17, 18, 19], [0, 1, 2, 3, 4, 5, 6, 7, 8, 9, 16, 17, 18, 19, 20], [0, 1, 2, 3, 4, 5, 6, 7, 8, 9, 10, 11, 12, 13, 14, 15, 16, 17, 18, 19, 20, 21], [0, 1, 2, 3, 4, 5, 6, 7, 8, 9, 10, 11, 12, 13, 14, 15, 16, 17, 18, 19, 20, 21, 22], [0, 1, 2, 3, 4, 5, 6, 7, 8, 9, 10, 11, 12, 13, 14, 15, 16, 17, 18, 19, 20, 21, 22, 23]] ?_ ?_ ?_ ?_); (· rfl); (· kernel_rfl); (· kernel_rfl); (· repeat (first | exact NoHang.post | refine NoHang.then ?_ | refine NoHang.block ?_))) <;> refine DW.p 0 rfl (fun _ => QK.mv) ?_ <;> refine DW.p 1 rfl (fun _ => QK.nc) ?_ <;> refine DW.p 2 rfl (fun _ => QK.fa) ?_ <;> refine DW.m 3 rfl (by first | exact QY.load_s rfl (Rd.ro m0) (Reads.pt1 (by rfl)) | exact QK.lds) ?_ <;> refine DW.m 4 rfl (by first | exact QY.len_row rfl (Rd.ro m2) (RowL.big hs RowL.row) | exact QK.len) ?_ <;> refine DW.p 5 rfl (fun _ => QK.gtr) ?_ <;> refine DW.p 6 rfl (fun _ => QK.mv) ?_ <;> (first | refine DW.pn 7 rfl rfl rfl ?_ | refine DW.pu 7 rfl rfl rfl ?_ | refine DW.py 7 rfl rfl rfl (fun _ => QK.mv) ?_ | ((first | refine DW.sP (t := 26) ?_ ?_ | refine DW.s (t := 26) ?_ ?_) <;> intro _ <;> first | contradiction | refine DW.pn 7 rfl rfl rfl ?_ | refine DW.pu 7 rfl rfl rfl ?_ | refine DW.py 7 rfl rfl rfl (fun _ => QK.mv) ?_)) <;> (first | refine DW.pn 8 rfl rfl rfl ?_ | refine DW.pu 8 rfl rfl rfl ?_ | refine DW.py 8 rfl rfl rfl (fun _ => QK.eqp) ?_) <;> (first | refine DW.pn 9 rfl rfl rfl ?_ | refine DW.pu 9 rfl rfl rfl ?_ | refine DW.py 9 rfl rfl rfl (fun _ => QK.mv) ?_) <;> (first | refine DW.pn 10 rfl rfl rfl ?_ | refine DW.pu 10 rfl rfl rfl ?_ | refine DW.py 10 rfl rfl rfl (fun _ => QK.mv) ?_ | ((first | refine DW.sP (t := 29) ?_ ?_ | refine DW.s (t := 29) ?_ ?_) <;> intro _ <;> first | contradiction | refine DW.pn 10 rfl rfl rfl ?_ | refine DW.pu 10 rfl rfl rfl ?_ | refine DW.py 10 rfl rfl rfl (fun _ => QK.mv) ?_)) <;> (first | refine DW.pn 11 rfl rfl rfl ?_ | refine DW.pu 11 rfl rfl rfl ?_ | refine DW.py 11 rfl rfl rfl (fun _ => QK.nc) ?_) <;> (first | refine DW.pn 12 rfl rfl rfl ?_ | refine DW.pu 12 rfl rfl rfl ?_ | refine DW.py 12 rfl rfl rfl (fun _ => QK.fa) ?_) <;> (first | refine DW.pn 16 rfl rfl rfl ?_ | refine DW.pu 16 rfl rfl rfl ?_ | refine DW.py 16 rfl rfl rfl (fun _ => QK.mv) ?_) <;> (first | refine DW.pn 17 rfl rfl rfl ?_ | refine DW.pu 17 rfl rfl rfl ?_ | refine DW.py 17 rfl rfl rfl (fun _ => QK.nc) ?_) <;> (first | refine DW.pn 18 rfl rfl rfl ?_ | refine DW.pu 18 rfl rfl rfl ?_ | refine DW.py 18 rfl rfl rfl (fun _ => QK.fa) ?_) <;> (first | refine DW.mn 13 rfl rfl rfl ?_ | refine DW.mu 13 rfl rfl rfl ?_ | refine DW.my 13 rfl rfl rfl (by first | exact QY.load_s rfl (Rd.ro m0) (Reads.pt1 (by rfl)) | exact QK.lds) ?_) <;> (first | refine DW.mn 14 rfl rfl rfl ?_ | refine DW.mu 14 rfl rfl rfl ?_ | refine DW.my 14 rfl rfl rfl QK.ia ?_) <;> (first | refine DW.mn 15 rfl rfl rfl ?_ | refine DW.mu 15 rfl rfl rfl ?_ | refine DW.my 15 rfl rfl rfl QK.lda ?_) <;> (first | refine DW.mn 19 rfl rfl rfl ?_ | refine DW.mu 19 rfl rfl rfl ?_ | refine DW.my 19 rfl rfl rfl (by first | exact QY.load_s rfl (Rd.ro m0) (Reads.pt1 (by rfl)) | exact QK.lds) ?_) <;> (first | refine DW.mn 20 rfl rfl rfl ?_ | refine DW.mu 20 rfl rfl rfl ?_ | refine DW.my 20 rfl rfl rfl QK.ia ?_) <;> (first | refine DW.mn 21 rfl rfl rfl ?_ | refine DW.mu 21 rfl rfl rfl ?_ | refine DW.my 21 rfl rfl rfl QK.lda ?_) <;> (first | (refine DW.exn 22 rfl rfl rfl ?_; intro hdk; refine DK.mk hdk .nil ?_; clear hdk) | (refine DW.exy 22 rfl rfl rfl ?_; intro hdk; ((fail "no rule f38"); repeat' first | refine CP.r ?_ | refine CP.r0 ?_ | refine CP.exP fun e42 => ?_ | refine CP.puP fun h42 => ?_); all_goals (refine DK.mk hdk .nil ?_; clear hdk))) <;> (first | refine DW.pn 23 rfl rfl rfl ?_ | refine DW.pu 23 rfl rfl rfl ?_ | refine DW.py 23 rfl rfl rfl (fun _ => QK.pk) ?_) <;> refine DW.p 24 rfl (fun _ => QK.pk) ?_ <;> refine DW.zz ?_)
    | (refine CW.region (i := 7) ?_ <;> refine KP.q QK.mv ?_ <;> refine KP.q QK.as ?_ <;> refine KP.list_nil ?_)
    | (refine CW.region (i := 8) ?_ <;> refine KP.q QK.add ?_ <;> refine KP.q QK.mv ?_ <;> refine KP.list_nil ?_)
    | ((with_reducible apply KP.fin1); (· rfl); (· rfl)))
        have e1 : Value.pointer (some ⟨vb sv, vo sv + i * 7, none⟩) = aV sv (aheadP (shs.map Sh.p) (i + 1)) := by rw [hst]; rfl
        rw [e1]
        exact KA.round (i + 1) (by omega)
      | some p =>
        obtain ⟨j, y⟩ := p
        rw [ha] at hst
        obtain ⟨hji, sj, lj, hj, hwj⟩ := ahead_in ha
        have h0j : sj.p.waits[0]? = some y := by rw [hwj]; rfl
        have hlenj : 0 < sj.p.waits.length := by rw [hwj]; simp
        have hrwj : RowL (waitsA sj) 2 eI sj.wv sj.p.waits := RowL.row
        
        
        
        
        repeat' (first
    | (with_reducible refine CW.seq ?_)
    | (with_reducible refine KP.then_code ?_)
    | (with_reducible refine CW.skip ?_)
    | (with_reducible refine CW.ret ?_)
    | (with_reducible refine KP.then_ret ?_)
    | (with_reducible refine KP.block_ret ?_)
    | (with_reducible refine CW.block ?_)
    | (with_reducible refine KP.block_normal ?_)
    | (with_reducible refine CW.exit ?_)
    | (with_reducible refine KP.then_exit ?_)
    | (with_reducible refine KP.block_hit ?_)
    | refine KP.bm ?_
    | refine CW.ct ?_
    | refine CW.cf ?_
    | (refine CW.cP ?_ ?_ <;> intro _ <;> try contradiction)
    | (refine CW.cs ?_ ?_ <;> intro _ <;> try contradiction)
    | (refine CW.region (i := 3) ?_ <;> refine KP.q QK.lss ?_ <;> refine KP.list_nil ?_)
    | (refine CW.region (i := 4) ?_ <;> refine KP.q QK.mv ?_ <;> refine KP.q QK.as ?_ <;> refine KP.list_nil ?_)
    | (refine CW.region (i := 5) ?_ <;> refine KP.q QK.mv ?_ <;> refine KP.q QK.nc ?_ <;> refine KP.q QK.fa ?_ <;> refine KP.q (by first | exact QY.load_s rfl (Rd.ro m1) (Reads.row1 RowL.rrow hs rfl) | exact QY.load_s rfl (Rd.ro m1) (Reads.row1 RowL.rrow hj rfl) | exact QY.load_s rfl (Rd.ro m0) (Reads.pt1 (by rfl)) | exact QK.lds) ?_ <;> refine KP.q QK.mv ?_ <;> refine KP.q (by first | exact QY.index0 rfl rfl (Rd.ro m2) (RowL.big hs hrw) hlen | exact QY.index0 rfl rfl (Rd.ro m2) (RowL.big hj hrwj) hlenj | exact QK.ia) ?_ <;> refine KP.q QK.as ?_ <;> refine KP.list_nil ?_)
    | (((with_reducible refine CW.draw (i := 6) ?_ [[], [0], [0, 1], [0, 1, 2], [0, 1, 2, 3], [0, 1, 2, 3, 4], [0, 1, 2, 3, 4, 5], [0, 1, 2, 3, 4, 5, 6], [0, 1, 2, 3, 4, 5, 6, 7], [0, 1, 2, 3, 4, 5, 6, 7, 8], [0, 1, 2, 3, 4, 5, 6, 7, 8, 9], [0, 1, 2, 3, 4, 5, 6, 7, 8, 9, 10], [0, 1, 2, 3, 4, 5, 6, 7, 8, 9, 10, 11], [0, 1, 2, 3, 4, 5, 6, 7, 8, 9, 10, 11, 12], [0, 1, 2, 3, 4, 5, 6, 7, 8, 9, 10, 11, 12, 13], [0, 1, 2, 3, 4, 5, 6, 7, 8, 9, 10, 11, 12, 13, 14], [0, 1, 2, 3, 4, 5, 6, 7, 8, 9], [0, 1, 2, 3, 4, 5, 6, 7, 8, 9, 16], [0, 1, 2, 3, 4, 5, 6, 7, 8, 9, 16, 17], [0, 1, 2, 3, 4, 5, 6, 7, 8, 9, 16, 17, 18], [0, 1, 2, 3, 4, 5, 6, 7, 8, 9, 16, 17, 18, 19], [0, 1, 2, 3, 4, 5, 6, 7, 8, 9, 16, 17, 18, 19, 20], [0, 1, 2, 3, 4, 5, 6, 7, 8, 9, 10, 11, 12, 13, 14, 15, 16, 17, 18, 19, 20, 21], [0, 1, 2, 3, 4, 5, 6, 7, 8, 9, 10, 11, 12, 13, 14, 15, 16, 17, 18, 19, 20, 21, 22], [0, 1, 2, 3, 4, 5, 6, 7, 8, 9, 10, 11, 12, 13, 14, 15, 16, 17, 18, 19, 20, 21, 22, 23]] ?_ ?_ ?_ ?_); (· rfl); (· kernel_rfl); (· kernel_rfl); (· repeat (first | exact NoHang.post | refine NoHang.then ?_ | refine NoHang.block ?_))) <;> refine DW.p 0 rfl (fun _ => QK.mv) ?_ <;> refine DW.p 1 rfl (fun _ => QK.nc) ?_ <;> refine DW.p 2 rfl (fun _ => QK.fa) ?_ <;> refine DW.m 3 rfl (by first | exact QY.load_s rfl (Rd.ro m1) (Reads.row1 RowL.rrow hs rfl) | exact QY.load_s rfl (Rd.ro m1) (Reads.row1 RowL.rrow hj rfl) | exact QY.load_s rfl (Rd.ro m0) (Reads.pt1 (by rfl)) | exact QK.lds) ?_ <;> refine DW.m 4 rfl (by first | exact QY.len_row rfl (Rd.ro m2) (RowL.big hs RowL.row) | exact QK.len) ?_ <;> refine DW.p 5 rfl (fun _ => QK.gtr) ?_ <;> refine DW.p 6 rfl (fun _ => QK.mv) ?_ <;> (first | refine DW.pn 7 rfl rfl rfl ?_ | refine DW.pu 7 rfl rfl rfl ?_ | refine DW.py 7 rfl rfl rfl (fun _ => QK.mv) ?_ | ((first | refine DW.sP (t := 26) ?_ ?_ | refine DW.s (t := 26) ?_ ?_) <;> intro _ <;> first | contradiction | refine DW.pn 7 rfl rfl rfl ?_ | refine DW.pu 7 rfl rfl rfl ?_ | refine DW.py 7 rfl rfl rfl (fun _ => QK.mv) ?_)) <;> (first | refine DW.pn 8 rfl rfl rfl ?_ | refine DW.pu 8 rfl rfl rfl ?_ | refine DW.py 8 rfl rfl rfl (fun _ => QK.eqp) ?_) <;> (first | refine DW.pn 9 rfl rfl rfl ?_ | refine DW.pu 9 rfl rfl rfl ?_ | refine DW.py 9 rfl rfl rfl (fun _ => QK.mv) ?_) <;> (first | refine DW.pn 10 rfl rfl rfl ?_ | refine DW.pu 10 rfl rfl rfl ?_ | refine DW.py 10 rfl rfl rfl (fun _ => QK.mv) ?_ | ((first | refine DW.sP (t := 29) ?_ ?_ | refine DW.s (t := 29) ?_ ?_) <;> intro _ <;> first | contradiction | refine DW.pn 10 rfl rfl rfl ?_ | refine DW.pu 10 rfl rfl rfl ?_ | refine DW.py 10 rfl rfl rfl (fun _ => QK.mv) ?_)) <;> (first | refine DW.pn 11 rfl rfl rfl ?_ | refine DW.pu 11 rfl rfl rfl ?_ | refine DW.py 11 rfl rfl rfl (fun _ => QK.nc) ?_) <;> (first | refine DW.pn 12 rfl rfl rfl ?_ | refine DW.pu 12 rfl rfl rfl ?_ | refine DW.py 12 rfl rfl rfl (fun _ => QK.fa) ?_) <;> (first | refine DW.pn 16 rfl rfl rfl ?_ | refine DW.pu 16 rfl rfl rfl ?_ | refine DW.py 16 rfl rfl rfl (fun _ => QK.mv) ?_) <;> (first | refine DW.pn 17 rfl rfl rfl ?_ | refine DW.pu 17 rfl rfl rfl ?_ | refine DW.py 17 rfl rfl rfl (fun _ => QK.nc) ?_) <;> (first | refine DW.pn 18 rfl rfl rfl ?_ | refine DW.pu 18 rfl rfl rfl ?_ | refine DW.py 18 rfl rfl rfl (fun _ => QK.fa) ?_) <;> (first | refine DW.mn 13 rfl rfl rfl ?_ | refine DW.mu 13 rfl rfl rfl ?_ | refine DW.my 13 rfl rfl rfl (by first | exact QY.load_s rfl (Rd.ro m1) (Reads.row1 RowL.rrow hs rfl) | exact QY.load_s rfl (Rd.ro m1) (Reads.row1 RowL.rrow hj rfl) | exact QY.load_s rfl (Rd.ro m0) (Reads.pt1 (by rfl)) | exact QK.lds) ?_) <;> (first | refine DW.mn 14 rfl rfl rfl ?_ | refine DW.mu 14 rfl rfl rfl ?_ | refine DW.my 14 rfl rfl rfl (by first | exact QY.index0 rfl rfl (Rd.ro m2) (RowL.big hs hrw) hlen | exact QY.index0 rfl rfl (Rd.ro m2) (RowL.big hj hrwj) hlenj | exact QK.ia) ?_) <;> (first | refine DW.mn 15 rfl rfl rfl ?_ | refine DW.mu 15 rfl rfl rfl ?_ | refine DW.my 15 rfl rfl rfl (by first | exact QY.load_a rfl (Rd.ro m2) (Reads.row0a (RowL.big hs hrw) h0) rfl | exact QY.load_a rfl (Rd.ro m2) (Reads.row0a (RowL.big hj hrwj) h0j) rfl | exact QK.lda) ?_) <;> (first | refine DW.mn 19 rfl rfl rfl ?_ | refine DW.mu 19 rfl rfl rfl ?_ | refine DW.my 19 rfl rfl rfl (by first | exact QY.load_s rfl (Rd.ro m1) (Reads.row1 RowL.rrow hs rfl) | exact QY.load_s rfl (Rd.ro m1) (Reads.row1 RowL.rrow hj rfl) | exact QY.load_s rfl (Rd.ro m0) (Reads.pt1 (by rfl)) | exact QK.lds) ?_) <;> (first | refine DW.mn 20 rfl rfl rfl ?_ | refine DW.mu 20 rfl rfl rfl ?_ | refine DW.my 20 rfl rfl rfl (by first | exact QY.index0 rfl rfl (Rd.ro m2) (RowL.big hs hrw) hlen | exact QY.index0 rfl rfl (Rd.ro m2) (RowL.big hj hrwj) hlenj | exact QK.ia) ?_) <;> (first | refine DW.mn 21 rfl rfl rfl ?_ | refine DW.mu 21 rfl rfl rfl ?_ | refine DW.my 21 rfl rfl rfl (by first | exact QY.load_a rfl (Rd.ro m2) (Reads.row0a (RowL.big hs hrw) h0) rfl | exact QY.load_a rfl (Rd.ro m2) (Reads.row0a (RowL.big hj hrwj) h0j) rfl | exact QK.lda) ?_) <;> (first | (refine DW.exn 22 rfl rfl rfl ?_; intro hdk; refine DK.mk hdk .nil ?_; clear hdk) | (refine DW.exy 22 rfl rfl rfl ?_; intro hdk; ((refine EK.call (less_spec (a := x) (b := y)) ?_); repeat' first | refine CP.r ?_ | refine CP.r0 ?_ | refine CP.exP fun e42 => ?_ | refine CP.puP fun h42 => ?_); all_goals (refine DK.mk hdk .nil ?_; clear hdk))) <;> (first | refine DW.pn 23 rfl rfl rfl ?_ | refine DW.pu 23 rfl rfl rfl ?_ | refine DW.py 23 rfl rfl rfl (fun _ => QK.pk) ?_) <;> refine DW.p 24 rfl (fun _ => QK.pk) ?_ <;> refine DW.zz ?_)
    | (refine CW.region (i := 7) ?_ <;> refine KP.q QK.mv ?_ <;> refine KP.q QK.as ?_ <;> refine KP.list_nil ?_)
    | (refine CW.region (i := 8) ?_ <;> refine KP.q QK.add ?_ <;> refine KP.q QK.mv ?_ <;> refine KP.list_nil ?_)
    | ((with_reducible apply KP.fin1); (· rfl); (· rfl)))
        · have e1 : Value.pointer (some ⟨vb sv, vo sv + i * 7, none⟩) = aV sv (aheadP (shs.map Sh.p) (i + 1)) := by rw [hst]; simp [aV, *]
          rw [e1]
          exact KA.round (i + 1) (by omega)
        · have e1 : aV sv (some (j, y)) = aV sv (aheadP (shs.map Sh.p) (i + 1)) := by rw [hst]; simp [aV, *]
          rw [e1]
          exact KA.round (i + 1) (by omega)
  · obtain rfl : i = shs.length := by omega
    repeat' (first
    | (with_reducible refine CW.seq ?_)
    | (with_reducible refine KP.then_code ?_)
    | (with_reducible refine CW.skip ?_)
    | (with_reducible refine CW.ret ?_)
    | (with_reducible refine KP.then_ret ?_)
    | (with_reducible refine KP.block_ret ?_)
    | (with_reducible refine CW.block ?_)
    | (with_reducible refine KP.block_normal ?_)
    | (with_reducible refine CW.exit ?_)
    | (with_reducible refine KP.then_exit ?_)
    | (with_reducible refine KP.block_hit ?_)
    | refine KP.bm ?_
    | refine CW.ct ?_
    | refine CW.cf ?_
    | (refine CW.cP ?_ ?_ <;> intro _ <;> try contradiction)
    | (refine CW.cs ?_ ?_ <;> intro _ <;> try contradiction)
    | (refine CW.region (i := 3) ?_ <;> refine KP.q QK.lss ?_ <;> refine KP.list_nil ?_)
    | (refine CW.region (i := 9) ?_ <;> refine KP.q QK.mv ?_ <;> refine KP.q QK.as ?_ <;> refine KP.list_nil ?_)
    | ((with_reducible apply KP.fin1); (· rfl); (· rfl)))
    exact FA.ret

end Go.Proofs.Ytpmhelfdmhjnbaa
