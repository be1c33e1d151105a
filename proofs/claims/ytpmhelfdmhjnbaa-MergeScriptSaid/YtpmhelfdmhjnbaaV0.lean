import Derived.Test.YtpmhelfdmhjnbaaM8
import Derived.Test.YtpmhelfdmhjnbaaU1
/- The reference's merge: Done, Wants, sure. -/
namespace Go.Proofs.Ytpmhelfdmhjnbaa
open Go Go.Ink Go.Plain
set_option linter.unusedVariables false
set_option linter.unusedSimpArgs false
attribute [local irreducible] KP QY EW CW DW DX QG CP Spc DK Fina wpList lessF

abbrev rros (m : Nat) (n : Int) (sv tv : Value) (shs : List Sh) (told : List Item) : List Asrt := [pt m 108 [sv, iv n, tv], rrow 7 eSh sv shs, rrow 2 eI tv told, wl shs]
theorem w_row {s : Sh} : RowL (waitsA s) 2 eI s.wv s.p.waits := RowL.row
theorem ref_done_spec {m : Nat} {n : Int} {sv tv : Value} {shs : List Sh} {told : List Item} (hf : (told.length : Int) ≤ n) : Spc Try.prog 96 #[qp m] (rros m n sv tv shs told) [] (ret (.bool (doneF n shs told)) []) := by
  refine Spc.enter' (args := [qp m]) (T0 := [(0, qp m)]) Try.func96 rfl Try.ntmps96 (Nat.le_of_ble_eq_true rfl) rfl ?_
  intro w0 own
  refine CW.roFact (A := rrow 7 eSh sv shs) (by simp) (fun _ h => rrow.le h) fun hxs => ?_
  
  
  by_cases hd : (told.length : Int) = n
  · have hdf : doneF n shs told = true := by unfold doneF; rw [decide_eq_true hd]; rfl
    rw [hdf]
    repeat' (first
    | (with_reducible refine CW.seq ?_)
    | (with_reducible refine KP.then_code ?_)
    | (with_reducible refine CW.skip ?_)
    | (with_reducible refine CW.ret ?_)
    | (with_reducible refine KP.then_ret ?_)
    | (with_reducible refine KP.block_ret ?_)
    | (with_reducible refine CW.block ?_)
    | (with_reducible refine KP.block_normal ?_)
    | (with_reducible refine CW.exit ?_)
    | (with_reducible refine KP.then_exit ?_)
    | (with_reducible refine KP.block_hit ?_)
    | refine KP.bm ?_
    | refine CW.ct ?_
    | refine CW.cf ?_
    | (refine CW.cP ?_ ?_ <;> intro _ <;> try contradiction)
    | (refine CW.cs ?_ ?_ <;> intro _ <;> try contradiction)
    | (refine CW.region (i := 0) ?_ <;> refine KP.q QK.as ?_ <;> refine KP.list_nil ?_)
    | (((with_reducible refine CW.draw (i := 1) ?_ [[], [0], [0, 1], [0, 1, 2], [0, 1, 2, 3], [], [5], [5, 6], [5, 6, 7], [0, 1, 2, 3, 4, 5, 6, 7, 8]] ?_ ?_ ?_ ?_); (· rfl); (· kernel_rfl); (· kernel_rfl); (· repeat (first | exact NoHang.post | refine NoHang.then ?_ | refine NoHang.block ?_))) <;> refine DW.p 0 rfl (fun _ => QK.mv) ?_ <;> refine DW.p 1 rfl (fun _ => QK.nc) ?_ <;> refine DW.p 2 rfl (fun _ => QK.fa) ?_ <;> refine DW.p 5 rfl (fun _ => QK.mv) ?_ <;> refine DW.p 6 rfl (fun _ => QK.nc) ?_ <;> refine DW.p 7 rfl (fun _ => QK.fa) ?_ <;> refine DW.m 3 rfl (by first | exact QY.load_s rfl (Rd.ro m0) (Reads.pt1 (by rfl)) | exact QK.lds) ?_ <;> refine DW.m 4 rfl (by first | exact QY.len_row rfl (Rd.ro m2) RowL.rrow | exact QY.len_row rfl (Rd.ro m1) RowL.rrow | exact QK.len) ?_ <;> refine DW.m 8 rfl (by first | exact QY.load_s rfl (Rd.ro m0) (Reads.pt1 (by rfl)) | exact QK.lds) ?_ <;> refine DW.p 9 rfl (fun _ => QK.geq) ?_ <;> refine DW.zz ?_)
    | (refine CW.region (i := 2) ?_ <;> refine KP.q QK.as ?_ <;> refine KP.list_nil ?_)
    | ((with_reducible apply KP.fin1); (· rfl); (· rfl)))
    exact FA.ret
  have hdf : doneF n shs told = !(shs.any fun s => s.p.busy) := by unfold doneF; rw [decide_eq_false hd]; rfl
  rw [hdf]
  repeat' (first
    | (with_reducible refine CW.seq ?_)
    | (with_reducible refine KP.then_code ?_)
    | (with_reducible refine CW.skip ?_)
    | (with_reducible refine CW.ret ?_)
    | (with_reducible refine KP.then_ret ?_)
    | (with_reducible refine KP.block_ret ?_)
    | (with_reducible refine CW.block ?_)
    | (with_reducible refine KP.block_normal ?_)
    | (with_reducible refine CW.exit ?_)
    | (with_reducible refine KP.then_exit ?_)
    | (with_reducible refine KP.block_hit ?_)
    | refine KP.bm ?_
    | refine CW.ct ?_
    | refine CW.cf ?_
    | (refine CW.cP ?_ ?_ <;> intro _ <;> try contradiction)
    | (refine CW.cs ?_ ?_ <;> intro _ <;> try contradiction)
    | (refine CW.region (i := 0) ?_ <;> refine KP.q QK.as ?_ <;> refine KP.list_nil ?_)
    | (((with_reducible refine CW.draw (i := 1) ?_ [[], [0], [0, 1], [0, 1, 2], [0, 1, 2, 3], [], [5], [5, 6], [5, 6, 7], [0, 1, 2, 3, 4, 5, 6, 7, 8]] ?_ ?_ ?_ ?_); (· rfl); (· kernel_rfl); (· kernel_rfl); (· repeat (first | exact NoHang.post | refine NoHang.then ?_ | refine NoHang.block ?_))) <;> refine DW.p 0 rfl (fun _ => QK.mv) ?_ <;> refine DW.p 1 rfl (fun _ => QK.nc) ?_ <;> refine DW.p 2 rfl (fun _ => QK.fa) ?_ <;> refine DW.p 5 rfl (fun _ => QK.mv) ?_ <;> refine DW.p 6 rfl (fun _ => QK.nc) ?_ <;> refine DW.p 7 rfl (fun _ => QK.fa) ?_ <;> refine DW.m 3 rfl (by first | exact QY.load_s rfl (Rd.ro m0) (Reads.pt1 (by rfl)) | exact QK.lds) ?_ <;> refine DW.m 4 rfl (by first | exact QY.len_row rfl (Rd.ro m2) RowL.rrow | exact QY.len_row rfl (Rd.ro m1) RowL.rrow | exact QK.len) ?_ <;> refine DW.m 8 rfl (by first | exact QY.load_s rfl (Rd.ro m0) (Reads.pt1 (by rfl)) | exact QK.lds) ?_ <;> refine DW.p 9 rfl (fun _ => QK.geq) ?_ <;> refine DW.zz ?_)
    | (refine CW.region (i := 3) ?_ <;> refine KP.q QK.as ?_ <;> refine KP.list_nil ?_)
    | ((with_reducible apply KP.fin1); (· rfl); (· rfl)))
  refine CA.loop (X := Nat) (fun i => [(0, qp m), (3, iv (i : Nat))]) (fun _ => []) (fun i => i ≤ shs.length ∧ ∀ (j : Nat) (s : Sh), j < i → shs[j]? = some s → s.p.busy = false) (fun i => shs.length - i) 0 ⟨by simp, fun j s h => by omega⟩ ?_
  rintro i ⟨hi, hb⟩
  try dsimp only at hi hb ⊢
  rcases Nat.lt_or_ge i shs.length with hlt | hge
  · obtain ⟨s, hs⟩ := at_lt hlt
    have hany : s.p.busy = true → (shs.any fun s => s.p.busy) = true := fun h => List.any_eq_true.2 ⟨s, List.mem_of_getElem? hs, h⟩
    have hnext : s.p.busy = false → ∀ (j : Nat) (q : Sh), j < i + 1 → shs[j]? = some q → q.p.busy = false := fun h j q hj hq => by
      by_cases e : j = i
      · subst e; rw [hs] at hq; cases hq; exact h
      · exact hb j q (by omega) hq
    
    cases he : s.p.ended
    · have hev : Value.bool s.p.ended = .bool false := by rw [he]
      rw [hany (by unfold PSh.busy; rw [he]; rfl)]
      
      repeat' (first
    | (with_reducible refine CW.seq ?_)
    | (with_reducible refine KP.then_code ?_)
    | (with_reducible refine CW.skip ?_)
    | (with_reducible refine CW.ret ?_)
    | (with_reducible refine KP.then_ret ?_)
    | (with_reducible refine KP.block_ret ?_)
    | (with_reducible refine CW.block ?_)
    | (with_reducible refine KP.block_normal ?_)
    | (with_reducible refine CW.exit ?_)
    | (with_reducible refine KP.then_exit ?_)
    | (with_reducible refine KP.block_hit ?_)
    | refine KP.bm ?_
    | refine CW.ct ?_
    | refine CW.cf ?_
    | (refine CW.cP ?_ ?_ <;> intro _ <;> try contradiction)
    | (refine CW.cs ?_ ?_ <;> intro _ <;> try contradiction)
    | (refine CW.region (i := 4) ?_ <;> refine KP.q QK.mv ?_ <;> refine KP.q QK.mv ?_ <;> refine KP.q QK.nc ?_ <;> refine KP.q QK.fa ?_ <;> refine KP.q (by first | exact QY.same (QY.load_s rfl (Rd.ro m1) (Reads.row1 RowL.rrow hs rfl)) hev | exact QY.load_s rfl (Rd.ro m1) (Reads.row1 RowL.rrow hs rfl) | exact QY.load_s rfl (Rd.ro m0) (Reads.pt1 (by rfl)) | exact QK.lds) ?_ <;> refine KP.q (by first | exact QY.len_row rfl (Rd.ro m3) (RowL.big hs w_row) | exact QY.len_row rfl (Rd.ro m1) RowL.rrow | exact QY.len_row rfl (Rd.ro m2) RowL.rrow | exact QY.len_row rfl (Rd.ro m1) RowL.rrow | exact QK.len) ?_ <;> refine KP.q QK.lss ?_ <;> refine KP.list_nil ?_)
    | (refine CW.region (i := 6) ?_ <;> refine KP.q QK.mv ?_ <;> refine KP.q QK.nc ?_ <;> refine KP.q QK.fa ?_ <;> refine KP.q (by first | exact QY.same (QY.load_s rfl (Rd.ro m1) (Reads.row1 RowL.rrow hs rfl)) hev | exact QY.load_s rfl (Rd.ro m1) (Reads.row1 RowL.rrow hs rfl) | exact QY.load_s rfl (Rd.ro m0) (Reads.pt1 (by rfl)) | exact QK.lds) ?_ <;> refine KP.q QK.mv ?_ <;> refine KP.q QK.ia ?_ <;> refine KP.q QK.fa ?_ <;> refine KP.q (by first | exact QY.same (QY.load_s rfl (Rd.ro m1) (Reads.row1 RowL.rrow hs rfl)) hev | exact QY.load_s rfl (Rd.ro m1) (Reads.row1 RowL.rrow hs rfl) | exact QY.load_s rfl (Rd.ro m0) (Reads.pt1 (by rfl)) | exact QK.lds) ?_ <;> refine KP.q QK.not ?_ <;> refine KP.q QK.mv ?_ <;> (first | refine KP.gn ?_ | refine KP.gu ?_ | refine KP.qy QK.mv ?_ | ((first | refine KP.gsP (t := 32) ?_ ?_ | refine KP.gs (t := 32) ?_ ?_) <;> intro _ <;> first | contradiction | refine KP.gn ?_ | refine KP.qy QK.mv ?_)) <;> (first | refine KP.gn ?_ | refine KP.gu ?_ | refine KP.qy QK.nc ?_) <;> (first | refine KP.gn ?_ | refine KP.gu ?_ | refine KP.qy QK.fa ?_) <;> (first | refine KP.gn ?_ | refine KP.gu ?_ | refine KP.qy (by first | exact QY.same (QY.load_s rfl (Rd.ro m1) (Reads.row1 RowL.rrow hs rfl)) hev | exact QY.load_s rfl (Rd.ro m1) (Reads.row1 RowL.rrow hs rfl) | exact QY.load_s rfl (Rd.ro m0) (Reads.pt1 (by rfl)) | exact QK.lds) ?_) <;> (first | refine KP.gn ?_ | refine KP.gu ?_ | refine KP.qy QK.mv ?_) <;> (first | refine KP.gn ?_ | refine KP.gu ?_ | refine KP.qy QK.ia ?_) <;> (first | refine KP.gn ?_ | refine KP.gu ?_ | refine KP.qy QK.fa ?_) <;> (first | refine KP.gn ?_ | refine KP.gu ?_ | refine KP.qy (by first | exact QY.same (QY.load_s rfl (Rd.ro m1) (Reads.row1 RowL.rrow hs rfl)) hev | exact QY.load_s rfl (Rd.ro m1) (Reads.row1 RowL.rrow hs rfl) | exact QY.load_s rfl (Rd.ro m0) (Reads.pt1 (by rfl)) | exact QK.lds) ?_) <;> (first | refine KP.gn ?_ | refine KP.gu ?_ | refine KP.qy (by first | exact QY.len_row rfl (Rd.ro m3) (RowL.big hs w_row) | exact QY.len_row rfl (Rd.ro m1) RowL.rrow | exact QY.len_row rfl (Rd.ro m2) RowL.rrow | exact QY.len_row rfl (Rd.ro m1) RowL.rrow | exact QK.len) ?_) <;> (first | refine KP.gn ?_ | refine KP.gu ?_ | refine KP.qy QK.gtr ?_) <;> refine KP.q QK.pk ?_ <;> refine KP.list_nil ?_)
    | (refine CW.region (i := 7) ?_ <;> refine KP.q QK.as ?_ <;> refine KP.list_nil ?_)
    | ((with_reducible apply KP.fin1); (· rfl); (· rfl)))
      exact FA.ret
    · have hev : Value.bool s.p.ended = .bool true := by rw [he]
      
      
      
      by_cases hw : 0 < (s.p.waits.length : Int)
      · rw [hany (by unfold PSh.busy; rw [he, decide_eq_true hw]; rfl)]
        repeat' (first
    | (with_reducible refine CW.seq ?_)
    | (with_reducible refine KP.then_code ?_)
    | (with_reducible refine CW.skip ?_)
    | (with_reducible refine CW.ret ?_)
    | (with_reducible refine KP.then_ret ?_)
    | (with_reducible refine KP.block_ret ?_)
    | (with_reducible refine CW.block ?_)
    | (with_reducible refine KP.block_normal ?_)
    | (with_reducible refine CW.exit ?_)
    | (with_reducible refine KP.then_exit ?_)
    | (with_reducible refine KP.block_hit ?_)
    | refine KP.bm ?_
    | refine CW.ct ?_
    | refine CW.cf ?_
    | (refine CW.cP ?_ ?_ <;> intro _ <;> try contradiction)
    | (refine CW.cs ?_ ?_ <;> intro _ <;> try contradiction)
    | (refine CW.region (i := 4) ?_ <;> refine KP.q QK.mv ?_ <;> refine KP.q QK.mv ?_ <;> refine KP.q QK.nc ?_ <;> refine KP.q QK.fa ?_ <;> refine KP.q (by first | exact QY.same (QY.load_s rfl (Rd.ro m1) (Reads.row1 RowL.rrow hs rfl)) hev | exact QY.load_s rfl (Rd.ro m1) (Reads.row1 RowL.rrow hs rfl) | exact QY.load_s rfl (Rd.ro m0) (Reads.pt1 (by rfl)) | exact QK.lds) ?_ <;> refine KP.q (by first | exact QY.len_row rfl (Rd.ro m3) (RowL.big hs w_row) | exact QY.len_row rfl (Rd.ro m1) RowL.rrow | exact QY.len_row rfl (Rd.ro m2) RowL.rrow | exact QY.len_row rfl (Rd.ro m1) RowL.rrow | exact QK.len) ?_ <;> refine KP.q QK.lss ?_ <;> refine KP.list_nil ?_)
    | (refine CW.region (i := 6) ?_ <;> refine KP.q QK.mv ?_ <;> refine KP.q QK.nc ?_ <;> refine KP.q QK.fa ?_ <;> refine KP.q (by first | exact QY.same (QY.load_s rfl (Rd.ro m1) (Reads.row1 RowL.rrow hs rfl)) hev | exact QY.load_s rfl (Rd.ro m1) (Reads.row1 RowL.rrow hs rfl) | exact QY.load_s rfl (Rd.ro m0) (Reads.pt1 (by rfl)) | exact QK.lds) ?_ <;> refine KP.q QK.mv ?_ <;> refine KP.q QK.ia ?_ <;> refine KP.q QK.fa ?_ <;> refine KP.q (by first | exact QY.same (QY.load_s rfl (Rd.ro m1) (Reads.row1 RowL.rrow hs rfl)) hev | exact QY.load_s rfl (Rd.ro m1) (Reads.row1 RowL.rrow hs rfl) | exact QY.load_s rfl (Rd.ro m0) (Reads.pt1 (by rfl)) | exact QK.lds) ?_ <;> refine KP.q QK.not ?_ <;> refine KP.q QK.mv ?_ <;> (first | refine KP.gn ?_ | refine KP.gu ?_ | refine KP.qy QK.mv ?_ | ((first | refine KP.gsP (t := 32) ?_ ?_ | refine KP.gs (t := 32) ?_ ?_) <;> intro _ <;> first | contradiction | refine KP.gn ?_ | refine KP.qy QK.mv ?_)) <;> (first | refine KP.gn ?_ | refine KP.gu ?_ | refine KP.qy QK.nc ?_) <;> (first | refine KP.gn ?_ | refine KP.gu ?_ | refine KP.qy QK.fa ?_) <;> (first | refine KP.gn ?_ | refine KP.gu ?_ | refine KP.qy (by first | exact QY.same (QY.load_s rfl (Rd.ro m1) (Reads.row1 RowL.rrow hs rfl)) hev | exact QY.load_s rfl (Rd.ro m1) (Reads.row1 RowL.rrow hs rfl) | exact QY.load_s rfl (Rd.ro m0) (Reads.pt1 (by rfl)) | exact QK.lds) ?_) <;> (first | refine KP.gn ?_ | refine KP.gu ?_ | refine KP.qy QK.mv ?_) <;> (first | refine KP.gn ?_ | refine KP.gu ?_ | refine KP.qy QK.ia ?_) <;> (first | refine KP.gn ?_ | refine KP.gu ?_ | refine KP.qy QK.fa ?_) <;> (first | refine KP.gn ?_ | refine KP.gu ?_ | refine KP.qy (by first | exact QY.same (QY.load_s rfl (Rd.ro m1) (Reads.row1 RowL.rrow hs rfl)) hev | exact QY.load_s rfl (Rd.ro m1) (Reads.row1 RowL.rrow hs rfl) | exact QY.load_s rfl (Rd.ro m0) (Reads.pt1 (by rfl)) | exact QK.lds) ?_) <;> (first | refine KP.gn ?_ | refine KP.gu ?_ | refine KP.qy (by first | exact QY.len_row rfl (Rd.ro m3) (RowL.big hs w_row) | exact QY.len_row rfl (Rd.ro m1) RowL.rrow | exact QY.len_row rfl (Rd.ro m2) RowL.rrow | exact QY.len_row rfl (Rd.ro m1) RowL.rrow | exact QK.len) ?_) <;> (first | refine KP.gn ?_ | refine KP.gu ?_ | refine KP.qy QK.gtr ?_) <;> refine KP.q QK.pk ?_ <;> refine KP.list_nil ?_)
    | (refine CW.region (i := 7) ?_ <;> refine KP.q QK.as ?_ <;> refine KP.list_nil ?_)
    | ((with_reducible apply KP.fin1); (· rfl); (· rfl)))
        exact FA.ret
      · have hbz : s.p.busy = false := by unfold PSh.busy; rw [he, decide_eq_false hw]; rfl
        repeat' (first
    | (with_reducible refine CW.seq ?_)
    | (with_reducible refine KP.then_code ?_)
    | (with_reducible refine CW.skip ?_)
    | (with_reducible refine CW.ret ?_)
    | (with_reducible refine KP.then_ret ?_)
    | (with_reducible refine KP.block_ret ?_)
    | (with_reducible refine CW.block ?_)
    | (with_reducible refine KP.block_normal ?_)
    | (with_reducible refine CW.exit ?_)
    | (with_reducible refine KP.then_exit ?_)
    | (with_reducible refine KP.block_hit ?_)
    | refine KP.bm ?_
    | refine CW.ct ?_
    | refine CW.cf ?_
    | (refine CW.cP ?_ ?_ <;> intro _ <;> try contradiction)
    | (refine CW.cs ?_ ?_ <;> intro _ <;> try contradiction)
    | (refine CW.region (i := 4) ?_ <;> refine KP.q QK.mv ?_ <;> refine KP.q QK.mv ?_ <;> refine KP.q QK.nc ?_ <;> refine KP.q QK.fa ?_ <;> refine KP.q (by first | exact QY.same (QY.load_s rfl (Rd.ro m1) (Reads.row1 RowL.rrow hs rfl)) hev | exact QY.load_s rfl (Rd.ro m1) (Reads.row1 RowL.rrow hs rfl) | exact QY.load_s rfl (Rd.ro m0) (Reads.pt1 (by rfl)) | exact QK.lds) ?_ <;> refine KP.q (by first | exact QY.len_row rfl (Rd.ro m3) (RowL.big hs w_row) | exact QY.len_row rfl (Rd.ro m1) RowL.rrow | exact QY.len_row rfl (Rd.ro m2) RowL.rrow | exact QY.len_row rfl (Rd.ro m1) RowL.rrow | exact QK.len) ?_ <;> refine KP.q QK.lss ?_ <;> refine KP.list_nil ?_)
    | (refine CW.region (i := 6) ?_ <;> refine KP.q QK.mv ?_ <;> refine KP.q QK.nc ?_ <;> refine KP.q QK.fa ?_ <;> refine KP.q (by first | exact QY.same (QY.load_s rfl (Rd.ro m1) (Reads.row1 RowL.rrow hs rfl)) hev | exact QY.load_s rfl (Rd.ro m1) (Reads.row1 RowL.rrow hs rfl) | exact QY.load_s rfl (Rd.ro m0) (Reads.pt1 (by rfl)) | exact QK.lds) ?_ <;> refine KP.q QK.mv ?_ <;> refine KP.q QK.ia ?_ <;> refine KP.q QK.fa ?_ <;> refine KP.q (by first | exact QY.same (QY.load_s rfl (Rd.ro m1) (Reads.row1 RowL.rrow hs rfl)) hev | exact QY.load_s rfl (Rd.ro m1) (Reads.row1 RowL.rrow hs rfl) | exact QY.load_s rfl (Rd.ro m0) (Reads.pt1 (by rfl)) | exact QK.lds) ?_ <;> refine KP.q QK.not ?_ <;> refine KP.q QK.mv ?_ <;> (first | refine KP.gn ?_ | refine KP.gu ?_ | refine KP.qy QK.mv ?_ | ((first | refine KP.gsP (t := 32) ?_ ?_ | refine KP.gs (t := 32) ?_ ?_) <;> intro _ <;> first | contradiction | refine KP.gn ?_ | refine KP.qy QK.mv ?_)) <;> (first | refine KP.gn ?_ | refine KP.gu ?_ | refine KP.qy QK.nc ?_) <;> (first | refine KP.gn ?_ | refine KP.gu ?_ | refine KP.qy QK.fa ?_) <;> (first | refine KP.gn ?_ | refine KP.gu ?_ | refine KP.qy (by first | exact QY.same (QY.load_s rfl (Rd.ro m1) (Reads.row1 RowL.rrow hs rfl)) hev | exact QY.load_s rfl (Rd.ro m1) (Reads.row1 RowL.rrow hs rfl) | exact QY.load_s rfl (Rd.ro m0) (Reads.pt1 (by rfl)) | exact QK.lds) ?_) <;> (first | refine KP.gn ?_ | refine KP.gu ?_ | refine KP.qy QK.mv ?_) <;> (first | refine KP.gn ?_ | refine KP.gu ?_ | refine KP.qy QK.ia ?_) <;> (first | refine KP.gn ?_ | refine KP.gu ?_ | refine KP.qy QK.fa ?_) <;> (first | refine KP.gn ?_ | refine KP.gu ?_ | refine KP.qy (by first | exact QY.same (QY.load_s rfl (Rd.ro m1) (Reads.row1 RowL.rrow hs rfl)) hev | exact QY.load_s rfl (Rd.ro m1) (Reads.row1 RowL.rrow hs rfl) | exact QY.load_s rfl (Rd.ro m0) (Reads.pt1 (by rfl)) | exact QK.lds) ?_) <;> (first | refine KP.gn ?_ | refine KP.gu ?_ | refine KP.qy (by first | exact QY.len_row rfl (Rd.ro m3) (RowL.big hs w_row) | exact QY.len_row rfl (Rd.ro m1) RowL.rrow | exact QY.len_row rfl (Rd.ro m2) RowL.rrow | exact QY.len_row rfl (Rd.ro m1) RowL.rrow | exact QK.len) ?_) <;> (first | refine KP.gn ?_ | refine KP.gu ?_ | refine KP.qy QK.gtr ?_) <;> refine KP.q QK.pk ?_ <;> refine KP.list_nil ?_)
    | (refine CW.region (i := 5) ?_ <;> refine KP.q QK.mv ?_ <;> refine KP.q QK.add ?_ <;> refine KP.q QK.as ?_ <;> refine KP.list_nil ?_)
    | ((with_reducible apply KP.fin1); (· rfl); (· rfl)))
        exact KA.round (i + 1) ⟨by omega, hnext hbz⟩
  · obtain rfl : i = shs.length := by omega
    have hany : (shs.any fun s => s.p.busy) = false := by
      rw [List.any_eq_false]
      intro s hs
      obtain ⟨j, hj⟩ := List.getElem?_of_mem hs
      simp [hb j s (List.getElem?_eq_some_iff.1 hj).1 hj]
    rw [hany]
    repeat' (first
    | (with_reducible refine CW.seq ?_)
    | (with_reducible refine KP.then_code ?_)
    | (with_reducible refine CW.skip ?_)
    | (with_reducible refine CW.ret ?_)
    | (with_reducible refine KP.then_ret ?_)
    | (with_reducible refine KP.block_ret ?_)
    | (with_reducible refine CW.block ?_)
    | (with_reducible refine KP.block_normal ?_)
    | (with_reducible refine CW.exit ?_)
    | (with_reducible refine KP.then_exit ?_)
    | (with_reducible refine KP.block_hit ?_)
    | refine KP.bm ?_
    | refine CW.ct ?_
    | refine CW.cf ?_
    | (refine CW.cP ?_ ?_ <;> intro _ <;> try contradiction)
    | (refine CW.cs ?_ ?_ <;> intro _ <;> try contradiction)
    | (refine CW.region (i := 4) ?_ <;> refine KP.q QK.mv ?_ <;> refine KP.q QK.mv ?_ <;> refine KP.q QK.nc ?_ <;> refine KP.q QK.fa ?_ <;> refine KP.q (by first | exact QY.same (QY.load_s rfl (Rd.ro m1) (Reads.row1 RowL.rrow hs rfl)) hev | exact QY.load_s rfl (Rd.ro m1) (Reads.row1 RowL.rrow hs rfl) | exact QY.load_s rfl (Rd.ro m0) (Reads.pt1 (by rfl)) | exact QK.lds) ?_ <;> refine KP.q (by first | exact QY.len_row rfl (Rd.ro m3) (RowL.big hs w_row) | exact QY.len_row rfl (Rd.ro m1) RowL.rrow | exact QY.len_row rfl (Rd.ro m2) RowL.rrow | exact QY.len_row rfl (Rd.ro m1) RowL.rrow | exact QK.len) ?_ <;> refine KP.q QK.lss ?_ <;> refine KP.list_nil ?_)
    | (refine CW.region (i := 8) ?_ <;> refine KP.q QK.as ?_ <;> refine KP.list_nil ?_)
    | ((with_reducible apply KP.fin1); (· rfl); (· rfl)))
    exact FA.ret

theorem ref_doneE {m : Nat} {n : Int} {sv tv : Value} {shs : List Sh} {told : List Item} {b : Bool} (hf : (told.length : Int) ≤ n) (h : doneF n shs told = b) : Spc Try.prog 96 #[qp m] (rros m n sv tv shs told) [] (ret (.bool b) []) := h ▸ ref_done_spec hf
theorem ref_wants_spec {m : Nat} {n : Int} {sv tv : Value} {shs : List Sh} {told : List Item} (hf : (told.length : Int) ≤ n) (hl : shs.length ≤ 1000) : Spc Try.prog 91 #[qp m] (rros m n sv tv shs told) [] (exP fun v' => puP (v'.oneCell' = true) (ret v' [row 3 1 eN v' (if doneF n shs told then [] else wantsU (shs.map Sh.p) shs.length)])) := by
  refine Spc.enter' (args := [qp m]) (T0 := [(0, qp m)]) Try.func91 rfl Try.ntmps91 (Nat.le_of_ble_eq_true rfl) rfl ?_
  intro w0 own
  
  cases hd : doneF n shs told
  · rw [if_neg Bool.false_ne_true]
    
    repeat' (first
    | (with_reducible refine CW.seq ?_)
    | (with_reducible refine KP.then_code ?_)
    | (with_reducible refine CW.skip ?_)
    | (with_reducible refine CW.ret ?_)
    | (with_reducible refine KP.then_ret ?_)
    | (with_reducible refine KP.block_ret ?_)
    | (with_reducible refine CW.block ?_)
    | (with_reducible refine KP.block_normal ?_)
    | (with_reducible refine CW.exit ?_)
    | (with_reducible refine KP.then_exit ?_)
    | (with_reducible refine KP.block_hit ?_)
    | refine KP.bm ?_
    | refine CW.ct ?_
    | refine CW.cf ?_
    | (refine CW.cP ?_ ?_ <;> intro _ <;> try contradiction)
    | (refine CW.cs ?_ ?_ <;> intro _ <;> try contradiction)
    | (refine CW.region (i := 0) ?_ <;> refine KP.q QK.as ?_ <;> refine KP.list_nil ?_)
    | (refine CW.region (i := 1) ?_ <;> refine KP.q QK.as ?_ <;> refine KP.list_nil ?_)
    | (refine CW.region (i := 2) ?_ <;> refine KP.q QK.as ?_ <;> refine KP.list_nil ?_)
    | ((with_reducible apply KP.fin1); (· rfl); (· rfl)))
    refine CW.add (B := row 3 1 eN (.slice none 0 0) (wantsU (shs.map Sh.p) 0)) row.none ?_
    refine CA.loop (X := Nat × Value) (fun z => [(0, qp m), (3, z.2), (4, iv (z.1 : Nat))]) (fun z => [row 3 1 eN z.2 (wantsU (shs.map Sh.p) z.1)]) (fun z => z.1 ≤ shs.length ∧ z.2.oneCell' = true) (fun z => shs.length - z.1) (0, .slice none 0 0) ⟨by simp, rfl⟩ ?_
    rintro ⟨i, v⟩ ⟨hi, hv⟩
    try dsimp only at hi hv ⊢
    rcases Nat.lt_or_ge i shs.length with hlt | hge
    · obtain ⟨s, hs⟩ := at_lt hlt
      have hst := wantsU_step (map_at (f := Sh.p) hs)
      have hwl := wantsU_len (shs.map Sh.p) i
      
      
      cases he : s.p.ended
      · have hev : Value.bool s.p.ended = .bool false := by rw [he]
        
        by_cases hw : (s.p.waits.length : Int) = 0
        · have hwd : s.p.wanted = true := by unfold PSh.wanted; rw [he, decide_eq_true hw]; rfl
          rw [hwd, if_pos rfl] at hst
          repeat' (first
    | (with_reducible refine CW.seq ?_)
    | (with_reducible refine KP.then_code ?_)
    | (with_reducible refine CW.skip ?_)
    | (with_reducible refine CW.ret ?_)
    | (with_reducible refine KP.then_ret ?_)
    | (with_reducible refine KP.block_ret ?_)
    | (with_reducible refine CW.block ?_)
    | (with_reducible refine KP.block_normal ?_)
    | (with_reducible refine CW.exit ?_)
    | (with_reducible refine KP.then_exit ?_)
    | (with_reducible refine KP.block_hit ?_)
    | refine KP.bm ?_
    | refine CW.ct ?_
    | refine CW.cf ?_
    | (refine CW.cP ?_ ?_ <;> intro _ <;> try contradiction)
    | (refine CW.cs ?_ ?_ <;> intro _ <;> try contradiction)
    | (refine CW.region (i := 3) ?_ <;> refine KP.q QK.mv ?_ <;> refine KP.q QK.mv ?_ <;> refine KP.q QK.nc ?_ <;> refine KP.q QK.fa ?_ <;> refine KP.q (by first | exact QY.same (QY.load_s rfl (Rd.ro m1) (Reads.row1 RowL.rrow hs rfl)) hev | exact QY.load_s rfl (Rd.ro m1) (Reads.row1 RowL.rrow hs rfl) | exact QY.load_s rfl (Rd.ro m0) (Reads.pt1 (by rfl)) | exact QK.lds) ?_ <;> refine KP.q (by first | exact QY.len_row rfl (Rd.ro m3) (RowL.big hs w_row) | exact QY.len_row rfl (Rd.ro m1) RowL.rrow | exact QK.len) ?_ <;> refine KP.q QK.lss ?_ <;> refine KP.q QK.mv ?_ <;> (first | refine KP.gn ?_ | refine KP.gu ?_ | refine KP.qy QK.mv ?_ | ((first | refine KP.gsP (t := 12) ?_ ?_ | refine KP.gs (t := 12) ?_ ?_) <;> intro _ <;> first | contradiction | refine KP.gn ?_ | refine KP.qy QK.mv ?_)) <;> (first | refine KP.gn ?_ | refine KP.gu ?_ | (refine KP.gy ?_; refine KP.e ?_; ((refine EK.call (ref_doneE hf hd) ?_); repeat' first | refine CP.r ?_ | refine CP.r0 ?_ | refine CP.exP fun e14 => ?_ | refine CP.puP fun h14 => ?_))) <;> (first | refine KP.gn ?_ | refine KP.gu ?_ | refine KP.qy QK.not ?_) <;> refine KP.q QK.pk ?_ <;> refine KP.list_nil ?_)
    | (refine CW.region (i := 5) ?_ <;> refine KP.q QK.mv ?_ <;> refine KP.q QK.nc ?_ <;> refine KP.q QK.fa ?_ <;> refine KP.q (by first | exact QY.same (QY.load_s rfl (Rd.ro m1) (Reads.row1 RowL.rrow hs rfl)) hev | exact QY.load_s rfl (Rd.ro m1) (Reads.row1 RowL.rrow hs rfl) | exact QY.load_s rfl (Rd.ro m0) (Reads.pt1 (by rfl)) | exact QK.lds) ?_ <;> refine KP.q QK.mv ?_ <;> refine KP.q QK.ia ?_ <;> refine KP.q QK.fa ?_ <;> refine KP.q (by first | exact QY.same (QY.load_s rfl (Rd.ro m1) (Reads.row1 RowL.rrow hs rfl)) hev | exact QY.load_s rfl (Rd.ro m1) (Reads.row1 RowL.rrow hs rfl) | exact QY.load_s rfl (Rd.ro m0) (Reads.pt1 (by rfl)) | exact QK.lds) ?_ <;> refine KP.q QK.not ?_ <;> refine KP.q QK.mv ?_ <;> (first | refine KP.gn ?_ | refine KP.gu ?_ | refine KP.qy QK.mv ?_ | ((first | refine KP.gsP (t := 28) ?_ ?_ | refine KP.gs (t := 28) ?_ ?_) <;> intro _ <;> first | contradiction | refine KP.gn ?_ | refine KP.qy QK.mv ?_)) <;> (first | refine KP.gn ?_ | refine KP.gu ?_ | refine KP.qy QK.nc ?_) <;> (first | refine KP.gn ?_ | refine KP.gu ?_ | refine KP.qy QK.fa ?_) <;> (first | refine KP.gn ?_ | refine KP.gu ?_ | refine KP.qy (by first | exact QY.same (QY.load_s rfl (Rd.ro m1) (Reads.row1 RowL.rrow hs rfl)) hev | exact QY.load_s rfl (Rd.ro m1) (Reads.row1 RowL.rrow hs rfl) | exact QY.load_s rfl (Rd.ro m0) (Reads.pt1 (by rfl)) | exact QK.lds) ?_) <;> (first | refine KP.gn ?_ | refine KP.gu ?_ | refine KP.qy QK.mv ?_) <;> (first | refine KP.gn ?_ | refine KP.gu ?_ | refine KP.qy QK.ia ?_) <;> (first | refine KP.gn ?_ | refine KP.gu ?_ | refine KP.qy QK.fa ?_) <;> (first | refine KP.gn ?_ | refine KP.gu ?_ | refine KP.qy (by first | exact QY.same (QY.load_s rfl (Rd.ro m1) (Reads.row1 RowL.rrow hs rfl)) hev | exact QY.load_s rfl (Rd.ro m1) (Reads.row1 RowL.rrow hs rfl) | exact QY.load_s rfl (Rd.ro m0) (Reads.pt1 (by rfl)) | exact QK.lds) ?_) <;> (first | refine KP.gn ?_ | refine KP.gu ?_ | refine KP.qy (by first | exact QY.len_row rfl (Rd.ro m3) (RowL.big hs w_row) | exact QY.len_row rfl (Rd.ro m1) RowL.rrow | exact QK.len) ?_) <;> (first | refine KP.gn ?_ | refine KP.gu ?_ | refine KP.qy QK.eqi ?_) <;> refine KP.q QK.pk ?_ <;> refine KP.list_nil ?_)
    | (refine CW.region (i := 6) ?_ <;> refine KP.q QK.mv ?_ <;> refine KP.q QK.mv ?_ <;> (refine KP.e ?_; ((first | refine EW.buildSlice1_s (by decide) rfl (by first | rfl | assumption) rfl ?_ | refine EW.buildSlice1_a (by decide) rfl (by rfl) (by rfl) (by decide) (by decide) ?_); intro b42)) <;> (refine KP.e ?_; (first | (refine EK.app1 (enc := eN) (i : Int) ?_; intro w43 o43) | (refine EK.app1 _ ?_; intro w43 o43))) <;> refine KP.q QK.as ?_ <;> refine KP.list_nil ?_)
    | (refine CW.region (i := 4) ?_ <;> refine KP.q QK.mv ?_ <;> refine KP.q QK.add ?_ <;> refine KP.q QK.as ?_ <;> refine KP.list_nil ?_)
    | ((with_reducible apply KP.fin1); (· rfl); (· rfl)))
          rw [← hst]
          exact KA.round (i + 1, w43) ⟨by simp only; omega, by assumption⟩
        · have hwd : s.p.wanted = false := by unfold PSh.wanted; rw [he, decide_eq_false hw]; rfl
          rw [hwd, if_neg Bool.false_ne_true, List.append_nil] at hst
          repeat' (first
    | (with_reducible refine CW.seq ?_)
    | (with_reducible refine KP.then_code ?_)
    | (with_reducible refine CW.skip ?_)
    | (with_reducible refine CW.ret ?_)
    | (with_reducible refine KP.then_ret ?_)
    | (with_reducible refine KP.block_ret ?_)
    | (with_reducible refine CW.block ?_)
    | (with_reducible refine KP.block_normal ?_)
    | (with_reducible refine CW.exit ?_)
    | (with_reducible refine KP.then_exit ?_)
    | (with_reducible refine KP.block_hit ?_)
    | refine KP.bm ?_
    | refine CW.ct ?_
    | refine CW.cf ?_
    | (refine CW.cP ?_ ?_ <;> intro _ <;> try contradiction)
    | (refine CW.cs ?_ ?_ <;> intro _ <;> try contradiction)
    | (refine CW.region (i := 3) ?_ <;> refine KP.q QK.mv ?_ <;> refine KP.q QK.mv ?_ <;> refine KP.q QK.nc ?_ <;> refine KP.q QK.fa ?_ <;> refine KP.q (by first | exact QY.same (QY.load_s rfl (Rd.ro m1) (Reads.row1 RowL.rrow hs rfl)) hev | exact QY.load_s rfl (Rd.ro m1) (Reads.row1 RowL.rrow hs rfl) | exact QY.load_s rfl (Rd.ro m0) (Reads.pt1 (by rfl)) | exact QK.lds) ?_ <;> refine KP.q (by first | exact QY.len_row rfl (Rd.ro m3) (RowL.big hs w_row) | exact QY.len_row rfl (Rd.ro m1) RowL.rrow | exact QK.len) ?_ <;> refine KP.q QK.lss ?_ <;> refine KP.q QK.mv ?_ <;> (first | refine KP.gn ?_ | refine KP.gu ?_ | refine KP.qy QK.mv ?_ | ((first | refine KP.gsP (t := 12) ?_ ?_ | refine KP.gs (t := 12) ?_ ?_) <;> intro _ <;> first | contradiction | refine KP.gn ?_ | refine KP.qy QK.mv ?_)) <;> (first | refine KP.gn ?_ | refine KP.gu ?_ | (refine KP.gy ?_; refine KP.e ?_; ((refine EK.call (ref_doneE hf hd) ?_); repeat' first | refine CP.r ?_ | refine CP.r0 ?_ | refine CP.exP fun e14 => ?_ | refine CP.puP fun h14 => ?_))) <;> (first | refine KP.gn ?_ | refine KP.gu ?_ | refine KP.qy QK.not ?_) <;> refine KP.q QK.pk ?_ <;> refine KP.list_nil ?_)
    | (refine CW.region (i := 5) ?_ <;> refine KP.q QK.mv ?_ <;> refine KP.q QK.nc ?_ <;> refine KP.q QK.fa ?_ <;> refine KP.q (by first | exact QY.same (QY.load_s rfl (Rd.ro m1) (Reads.row1 RowL.rrow hs rfl)) hev | exact QY.load_s rfl (Rd.ro m1) (Reads.row1 RowL.rrow hs rfl) | exact QY.load_s rfl (Rd.ro m0) (Reads.pt1 (by rfl)) | exact QK.lds) ?_ <;> refine KP.q QK.mv ?_ <;> refine KP.q QK.ia ?_ <;> refine KP.q QK.fa ?_ <;> refine KP.q (by first | exact QY.same (QY.load_s rfl (Rd.ro m1) (Reads.row1 RowL.rrow hs rfl)) hev | exact QY.load_s rfl (Rd.ro m1) (Reads.row1 RowL.rrow hs rfl) | exact QY.load_s rfl (Rd.ro m0) (Reads.pt1 (by rfl)) | exact QK.lds) ?_ <;> refine KP.q QK.not ?_ <;> refine KP.q QK.mv ?_ <;> (first | refine KP.gn ?_ | refine KP.gu ?_ | refine KP.qy QK.mv ?_ | ((first | refine KP.gsP (t := 28) ?_ ?_ | refine KP.gs (t := 28) ?_ ?_) <;> intro _ <;> first | contradiction | refine KP.gn ?_ | refine KP.qy QK.mv ?_)) <;> (first | refine KP.gn ?_ | refine KP.gu ?_ | refine KP.qy QK.nc ?_) <;> (first | refine KP.gn ?_ | refine KP.gu ?_ | refine KP.qy QK.fa ?_) <;> (first | refine KP.gn ?_ | refine KP.gu ?_ | refine KP.qy (by first | exact QY.same (QY.load_s rfl (Rd.ro m1) (Reads.row1 RowL.rrow hs rfl)) hev | exact QY.load_s rfl (Rd.ro m1) (Reads.row1 RowL.rrow hs rfl) | exact QY.load_s rfl (Rd.ro m0) (Reads.pt1 (by rfl)) | exact QK.lds) ?_) <;> (first | refine KP.gn ?_ | refine KP.gu ?_ | refine KP.qy QK.mv ?_) <;> (first | refine KP.gn ?_ | refine KP.gu ?_ | refine KP.qy QK.ia ?_) <;> (first | refine KP.gn ?_ | refine KP.gu ?_ | refine KP.qy QK.fa ?_) <;> (first | refine KP.gn ?_ | refine KP.gu ?_ | refine KP.qy (by first | exact QY.same (QY.load_s rfl (Rd.ro m1) (Reads.row1 RowL.rrow hs rfl)) hev | exact QY.load_s rfl (Rd.ro m1) (Reads.row1 RowL.rrow hs rfl) | exact QY.load_s rfl (Rd.ro m0) (Reads.pt1 (by rfl)) | exact QK.lds) ?_) <;> (first | refine KP.gn ?_ | refine KP.gu ?_ | refine KP.qy (by first | exact QY.len_row rfl (Rd.ro m3) (RowL.big hs w_row) | exact QY.len_row rfl (Rd.ro m1) RowL.rrow | exact QK.len) ?_) <;> (first | refine KP.gn ?_ | refine KP.gu ?_ | refine KP.qy QK.eqi ?_) <;> refine KP.q QK.pk ?_ <;> refine KP.list_nil ?_)
    | (refine CW.region (i := 4) ?_ <;> refine KP.q QK.mv ?_ <;> refine KP.q QK.add ?_ <;> refine KP.q QK.as ?_ <;> refine KP.list_nil ?_)
    | ((with_reducible apply KP.fin1); (· rfl); (· rfl)))
          rw [← hst]
          exact KA.round (i + 1, v) ⟨by simp only; omega, hv⟩
      · have hev : Value.bool s.p.ended = .bool true := by rw [he]
        
        
        
        have hwd : s.p.wanted = false := by unfold PSh.wanted; rw [he]; rfl
        rw [hwd, if_neg Bool.false_ne_true, List.append_nil] at hst
        repeat' (first
    | (with_reducible refine CW.seq ?_)
    | (with_reducible refine KP.then_code ?_)
    | (with_reducible refine CW.skip ?_)
    | (with_reducible refine CW.ret ?_)
    | (with_reducible refine KP.then_ret ?_)
    | (with_reducible refine KP.block_ret ?_)
    | (with_reducible refine CW.block ?_)
    | (with_reducible refine KP.block_normal ?_)
    | (with_reducible refine CW.exit ?_)
    | (with_reducible refine KP.then_exit ?_)
    | (with_reducible refine KP.block_hit ?_)
    | refine KP.bm ?_
    | refine CW.ct ?_
    | refine CW.cf ?_
    | (refine CW.cP ?_ ?_ <;> intro _ <;> try contradiction)
    | (refine CW.cs ?_ ?_ <;> intro _ <;> try contradiction)
    | (refine CW.region (i := 3) ?_ <;> refine KP.q QK.mv ?_ <;> refine KP.q QK.mv ?_ <;> refine KP.q QK.nc ?_ <;> refine KP.q QK.fa ?_ <;> refine KP.q (by first | exact QY.same (QY.load_s rfl (Rd.ro m1) (Reads.row1 RowL.rrow hs rfl)) hev | exact QY.load_s rfl (Rd.ro m1) (Reads.row1 RowL.rrow hs rfl) | exact QY.load_s rfl (Rd.ro m0) (Reads.pt1 (by rfl)) | exact QK.lds) ?_ <;> refine KP.q (by first | exact QY.len_row rfl (Rd.ro m3) (RowL.big hs w_row) | exact QY.len_row rfl (Rd.ro m1) RowL.rrow | exact QK.len) ?_ <;> refine KP.q QK.lss ?_ <;> refine KP.q QK.mv ?_ <;> (first | refine KP.gn ?_ | refine KP.gu ?_ | refine KP.qy QK.mv ?_ | ((first | refine KP.gsP (t := 12) ?_ ?_ | refine KP.gs (t := 12) ?_ ?_) <;> intro _ <;> first | contradiction | refine KP.gn ?_ | refine KP.qy QK.mv ?_)) <;> (first | refine KP.gn ?_ | refine KP.gu ?_ | (refine KP.gy ?_; refine KP.e ?_; ((refine EK.call (ref_doneE hf hd) ?_); repeat' first | refine CP.r ?_ | refine CP.r0 ?_ | refine CP.exP fun e14 => ?_ | refine CP.puP fun h14 => ?_))) <;> (first | refine KP.gn ?_ | refine KP.gu ?_ | refine KP.qy QK.not ?_) <;> refine KP.q QK.pk ?_ <;> refine KP.list_nil ?_)
    | (refine CW.region (i := 5) ?_ <;> refine KP.q QK.mv ?_ <;> refine KP.q QK.nc ?_ <;> refine KP.q QK.fa ?_ <;> refine KP.q (by first | exact QY.same (QY.load_s rfl (Rd.ro m1) (Reads.row1 RowL.rrow hs rfl)) hev | exact QY.load_s rfl (Rd.ro m1) (Reads.row1 RowL.rrow hs rfl) | exact QY.load_s rfl (Rd.ro m0) (Reads.pt1 (by rfl)) | exact QK.lds) ?_ <;> refine KP.q QK.mv ?_ <;> refine KP.q QK.ia ?_ <;> refine KP.q QK.fa ?_ <;> refine KP.q (by first | exact QY.same (QY.load_s rfl (Rd.ro m1) (Reads.row1 RowL.rrow hs rfl)) hev | exact QY.load_s rfl (Rd.ro m1) (Reads.row1 RowL.rrow hs rfl) | exact QY.load_s rfl (Rd.ro m0) (Reads.pt1 (by rfl)) | exact QK.lds) ?_ <;> refine KP.q QK.not ?_ <;> refine KP.q QK.mv ?_ <;> (first | refine KP.gn ?_ | refine KP.gu ?_ | refine KP.qy QK.mv ?_ | ((first | refine KP.gsP (t := 28) ?_ ?_ | refine KP.gs (t := 28) ?_ ?_) <;> intro _ <;> first | contradiction | refine KP.gn ?_ | refine KP.qy QK.mv ?_)) <;> (first | refine KP.gn ?_ | refine KP.gu ?_ | refine KP.qy QK.nc ?_) <;> (first | refine KP.gn ?_ | refine KP.gu ?_ | refine KP.qy QK.fa ?_) <;> (first | refine KP.gn ?_ | refine KP.gu ?_ | refine KP.qy (by first | exact QY.same (QY.load_s rfl (Rd.ro m1) (Reads.row1 RowL.rrow hs rfl)) hev | exact QY.load_s rfl (Rd.ro m1) (Reads.row1 RowL.rrow hs rfl) | exact QY.load_s rfl (Rd.ro m0) (Reads.pt1 (by rfl)) | exact QK.lds) ?_) <;> (first | refine KP.gn ?_ | refine KP.gu ?_ | refine KP.qy QK.mv ?_) <;> (first | refine KP.gn ?_ | refine KP.gu ?_ | refine KP.qy QK.ia ?_) <;> (first | refine KP.gn ?_ | refine KP.gu ?_ | refine KP.qy QK.fa ?_) <;> (first | refine KP.gn ?_ | refine KP.gu ?_ | refine KP.qy (by first | exact QY.same (QY.load_s rfl (Rd.ro m1) (Reads.row1 RowL.rrow hs rfl)) hev | exact QY.load_s rfl (Rd.ro m1) (Reads.row1 RowL.rrow hs rfl) | exact QY.load_s rfl (Rd.ro m0) (Reads.pt1 (by rfl)) | exact QK.lds) ?_) <;> (first | refine KP.gn ?_ | refine KP.gu ?_ | refine KP.qy (by first | exact QY.len_row rfl (Rd.ro m3) (RowL.big hs w_row) | exact QY.len_row rfl (Rd.ro m1) RowL.rrow | exact QK.len) ?_) <;> (first | refine KP.gn ?_ | refine KP.gu ?_ | refine KP.qy QK.eqi ?_) <;> refine KP.q QK.pk ?_ <;> refine KP.list_nil ?_)
    | (refine CW.region (i := 4) ?_ <;> refine KP.q QK.mv ?_ <;> refine KP.q QK.add ?_ <;> refine KP.q QK.as ?_ <;> refine KP.list_nil ?_)
    | ((with_reducible apply KP.fin1); (· rfl); (· rfl)))
        rw [← hst]
        exact KA.round (i + 1, v) ⟨by simp only; omega, hv⟩
    · obtain rfl : i = shs.length := by omega
      
      
      
      repeat' (first
    | (with_reducible refine CW.seq ?_)
    | (with_reducible refine KP.then_code ?_)
    | (with_reducible refine CW.skip ?_)
    | (with_reducible refine CW.ret ?_)
    | (with_reducible refine KP.then_ret ?_)
    | (with_reducible refine KP.block_ret ?_)
    | (with_reducible refine CW.block ?_)
    | (with_reducible refine KP.block_normal ?_)
    | (with_reducible refine CW.exit ?_)
    | (with_reducible refine KP.then_exit ?_)
    | (with_reducible refine KP.block_hit ?_)
    | refine KP.bm ?_
    | refine CW.ct ?_
    | refine CW.cf ?_
    | (refine CW.cP ?_ ?_ <;> intro _ <;> try contradiction)
    | (refine CW.cs ?_ ?_ <;> intro _ <;> try contradiction)
    | (refine CW.region (i := 3) ?_ <;> refine KP.q QK.mv ?_ <;> refine KP.q QK.mv ?_ <;> refine KP.q QK.nc ?_ <;> refine KP.q QK.fa ?_ <;> refine KP.q (by first | exact QY.load_s rfl (Rd.ro m0) (Reads.pt1 (by rfl)) | exact QK.lds) ?_ <;> refine KP.q (by first | exact QY.len_row rfl (Rd.ro m1) RowL.rrow | exact QK.len) ?_ <;> refine KP.q QK.lss ?_ <;> refine KP.q QK.mv ?_ <;> (first | refine KP.gn ?_ | refine KP.gu ?_ | refine KP.qy QK.mv ?_ | ((first | refine KP.gsP (t := 12) ?_ ?_ | refine KP.gs (t := 12) ?_ ?_) <;> intro _ <;> first | contradiction | refine KP.gn ?_ | refine KP.qy QK.mv ?_)) <;> (first | refine KP.gn ?_ | refine KP.gu ?_ | (refine KP.gy ?_; refine KP.e ?_; ((refine EK.call (ref_doneE hf hd) ?_); repeat' first | refine CP.r ?_ | refine CP.r0 ?_ | refine CP.exP fun e14 => ?_ | refine CP.puP fun h14 => ?_))) <;> (first | refine KP.gn ?_ | refine KP.gu ?_ | refine KP.qy QK.not ?_) <;> refine KP.q QK.pk ?_ <;> refine KP.list_nil ?_)
    | (refine CW.region (i := 7) ?_ <;> refine KP.q QK.mv ?_ <;> refine KP.q QK.as ?_ <;> refine KP.list_nil ?_)
    | ((with_reducible apply KP.fin1); (· rfl); (· rfl)))
      exact Fina.exP _ (Fina.puP hv FA.ret)
  · rw [if_pos rfl]
    
    
    
    repeat' (first
    | (with_reducible refine CW.seq ?_)
    | (with_reducible refine KP.then_code ?_)
    | (with_reducible refine CW.skip ?_)
    | (with_reducible refine CW.ret ?_)
    | (with_reducible refine KP.then_ret ?_)
    | (with_reducible refine KP.block_ret ?_)
    | (with_reducible refine CW.block ?_)
    | (with_reducible refine KP.block_normal ?_)
    | (with_reducible refine CW.exit ?_)
    | (with_reducible refine KP.then_exit ?_)
    | (with_reducible refine KP.block_hit ?_)
    | refine KP.bm ?_
    | refine CW.ct ?_
    | refine CW.cf ?_
    | (refine CW.cP ?_ ?_ <;> intro _ <;> try contradiction)
    | (refine CW.cs ?_ ?_ <;> intro _ <;> try contradiction)
    | (refine CW.region (i := 0) ?_ <;> refine KP.q QK.as ?_ <;> refine KP.list_nil ?_)
    | (refine CW.region (i := 1) ?_ <;> refine KP.q QK.as ?_ <;> refine KP.list_nil ?_)
    | (refine CW.region (i := 2) ?_ <;> refine KP.q QK.as ?_ <;> refine KP.list_nil ?_)
    | ((with_reducible apply KP.fin1); (· rfl); (· rfl)))
    refine CA.loop (X := Unit) (fun _ => [(0, qp m), (3, .slice none 0 0), (4, iv 0)]) (fun _ => []) (fun _ => True) (fun _ => 0) () trivial ?_
    rintro - -
    by_cases hl0 : 0 < (shs.length : Int)
    · repeat' (first
    | (with_reducible refine CW.seq ?_)
    | (with_reducible refine KP.then_code ?_)
    | (with_reducible refine CW.skip ?_)
    | (with_reducible refine CW.ret ?_)
    | (with_reducible refine KP.then_ret ?_)
    | (with_reducible refine KP.block_ret ?_)
    | (with_reducible refine CW.block ?_)
    | (with_reducible refine KP.block_normal ?_)
    | (with_reducible refine CW.exit ?_)
    | (with_reducible refine KP.then_exit ?_)
    | (with_reducible refine KP.block_hit ?_)
    | refine KP.bm ?_
    | refine CW.ct ?_
    | refine CW.cf ?_
    | (refine CW.cP ?_ ?_ <;> intro _ <;> try contradiction)
    | (refine CW.cs ?_ ?_ <;> intro _ <;> try contradiction)
    | (refine CW.region (i := 3) ?_ <;> refine KP.q QK.mv ?_ <;> refine KP.q QK.mv ?_ <;> refine KP.q QK.nc ?_ <;> refine KP.q QK.fa ?_ <;> refine KP.q (by first | exact QY.load_s rfl (Rd.ro m0) (Reads.pt1 (by rfl)) | exact QK.lds) ?_ <;> refine KP.q (by first | exact QY.len_row rfl (Rd.ro m1) RowL.rrow | exact QY.len_row rfl (Rd.ro m1) RowL.rrow | exact QK.len) ?_ <;> refine KP.q QK.lss ?_ <;> refine KP.q QK.mv ?_ <;> (first | refine KP.gn ?_ | refine KP.gu ?_ | refine KP.qy QK.mv ?_ | ((first | refine KP.gsP (t := 12) ?_ ?_ | refine KP.gs (t := 12) ?_ ?_) <;> intro _ <;> first | contradiction | refine KP.gn ?_ | refine KP.qy QK.mv ?_)) <;> (first | refine KP.gn ?_ | refine KP.gu ?_ | (refine KP.gy ?_; refine KP.e ?_; ((refine EK.call (ref_doneE hf hd) ?_); repeat' first | refine CP.r ?_ | refine CP.r0 ?_ | refine CP.exP fun e14 => ?_ | refine CP.puP fun h14 => ?_))) <;> (first | refine KP.gn ?_ | refine KP.gu ?_ | refine KP.qy QK.not ?_) <;> refine KP.q QK.pk ?_ <;> refine KP.list_nil ?_)
    | (refine CW.region (i := 7) ?_ <;> refine KP.q QK.mv ?_ <;> refine KP.q QK.as ?_ <;> refine KP.list_nil ?_)
    | ((with_reducible apply KP.fin1); (· rfl); (· rfl)))
      exact Fina.exP _ (Fina.puP rfl (Fina.add (B := row 3 1 eN (.slice none 0 0) []) row.none FA.ret))
    · repeat' (first
    | (with_reducible refine CW.seq ?_)
    | (with_reducible refine KP.then_code ?_)
    | (with_reducible refine CW.skip ?_)
    | (with_reducible refine CW.ret ?_)
    | (with_reducible refine KP.then_ret ?_)
    | (with_reducible refine KP.block_ret ?_)
    | (with_reducible refine CW.block ?_)
    | (with_reducible refine KP.block_normal ?_)
    | (with_reducible refine CW.exit ?_)
    | (with_reducible refine KP.then_exit ?_)
    | (with_reducible refine KP.block_hit ?_)
    | refine KP.bm ?_
    | refine CW.ct ?_
    | refine CW.cf ?_
    | (refine CW.cP ?_ ?_ <;> intro _ <;> try contradiction)
    | (refine CW.cs ?_ ?_ <;> intro _ <;> try contradiction)
    | (refine CW.region (i := 3) ?_ <;> refine KP.q QK.mv ?_ <;> refine KP.q QK.mv ?_ <;> refine KP.q QK.nc ?_ <;> refine KP.q QK.fa ?_ <;> refine KP.q (by first | exact QY.load_s rfl (Rd.ro m0) (Reads.pt1 (by rfl)) | exact QK.lds) ?_ <;> refine KP.q (by first | exact QY.len_row rfl (Rd.ro m1) RowL.rrow | exact QY.len_row rfl (Rd.ro m1) RowL.rrow | exact QK.len) ?_ <;> refine KP.q QK.lss ?_ <;> refine KP.q QK.mv ?_ <;> (first | refine KP.gn ?_ | refine KP.gu ?_ | refine KP.qy QK.mv ?_ | ((first | refine KP.gsP (t := 12) ?_ ?_ | refine KP.gs (t := 12) ?_ ?_) <;> intro _ <;> first | contradiction | refine KP.gn ?_ | refine KP.qy QK.mv ?_)) <;> (first | refine KP.gn ?_ | refine KP.gu ?_ | (refine KP.gy ?_; refine KP.e ?_; ((refine EK.call (ref_doneE hf hd) ?_); repeat' first | refine CP.r ?_ | refine CP.r0 ?_ | refine CP.exP fun e14 => ?_ | refine CP.puP fun h14 => ?_))) <;> (first | refine KP.gn ?_ | refine KP.gu ?_ | refine KP.qy QK.not ?_) <;> refine KP.q QK.pk ?_ <;> refine KP.list_nil ?_)
    | (refine CW.region (i := 7) ?_ <;> refine KP.q QK.mv ?_ <;> refine KP.q QK.as ?_ <;> refine KP.list_nil ?_)
    | ((with_reducible apply KP.fin1); (· rfl); (· rfl)))
      exact Fina.exP _ (Fina.puP rfl (Fina.add (B := row 3 1 eN (.slice none 0 0) []) row.none FA.ret))

theorem refLessE {a b : Item} {r : Bool} (ha : a.word.size ≤ 1000000) (hb : b.word.size ≤ 1000000) (h : lessF a b = r) : Spc Try.prog 39 #[Iv a, Iv b] [] [] (ret (.bool r) []) := h ▸ refLess_spec ha hb
theorem sh_one (s : Sh) : (eSh s).all Value.oneCell' = true := by
  show (true && (true && (true && (true && (true && (true && (s.wv.oneCell' && true))))))) = true
  rw [s.ow]; rfl
theorem ref_sure_spec {m : Nat} {n : Int} {sv tv : Value} {shs : List Sh} {told : List Item} {x : Item} (hx : x.word.size ≤ 1000000) (hw : ∀ s ∈ shs, s.p.last.word.size ≤ 1000000) (hl : shs.length ≤ 1000) : Spc Try.prog 97 #[qp m, Iv x] (rros m n sv tv shs told) [] (ret (.bool (!(shs.any fun s => s.p.might x))) []) := by
  refine Spc.enter' (args := [qp m, Iv x]) (T0 := [(0, qp m), (1, Iv x)]) Try.func97 rfl Try.ntmps97 (Nat.le_of_ble_eq_true rfl) rfl ?_
  intro w0 own
  
  repeat' (first
    | (with_reducible refine CW.seq ?_)
    | (with_reducible refine KP.then_code ?_)
    | (with_reducible refine CW.skip ?_)
    | (with_reducible refine CW.ret ?_)
    | (with_reducible refine KP.then_ret ?_)
    | (with_reducible refine KP.block_ret ?_)
    | (with_reducible refine CW.block ?_)
    | (with_reducible refine KP.block_normal ?_)
    | (with_reducible refine CW.exit ?_)
    | (with_reducible refine KP.then_exit ?_)
    | (with_reducible refine KP.block_hit ?_)
    | refine KP.bm ?_
    | refine CW.ct ?_
    | refine CW.cf ?_
    | (refine CW.cP ?_ ?_ <;> intro _ <;> try contradiction)
    | (refine CW.cs ?_ ?_ <;> intro _ <;> try contradiction)
    | (refine CW.region (i := 0) ?_ <;> (refine KP.e ?_; (refine EK.box_a ?_; intro b3)) <;> refine KP.q QK.as ?_ <;> refine KP.list_nil ?_)
    | (refine CW.region (i := 1) ?_ <;> refine KP.q QK.as ?_ <;> refine KP.list_nil ?_)
    | ((with_reducible apply KP.fin1); (· rfl); (· rfl)))
  refine CA.loop (X := Nat) (fun i => [(0, qp m), (3, qp b3), (5, iv (i : Nat))]) (fun _ => [pt b3 39 (eI x)]) (fun i => i ≤ shs.length ∧ ∀ (j : Nat) (s : Sh), j < i → shs[j]? = some s → s.p.might x = false) (fun i => shs.length - i) 0 ⟨by simp, fun j s h => by omega⟩ ?_
  rintro i ⟨hi, hb⟩
  try dsimp only at hi hb ⊢
  rcases Nat.lt_or_ge i shs.length with hlt | hge
  · obtain ⟨s, hs⟩ := at_lt hlt
    have hsw := hw s (List.mem_of_getElem? hs)
    have hone := sh_one s
    have hany : s.p.might x = true → (shs.any fun s => s.p.might x) = true := fun h => List.any_eq_true.2 ⟨s, List.mem_of_getElem? hs, h⟩
    have hnext : s.p.might x = false → ∀ (j : Nat) (q : Sh), j < i + 1 → shs[j]? = some q → q.p.might x = false := fun h j q hj hq => by
      by_cases e : j = i
      · subst e; rw [hs] at hq; cases hq; exact h
      · exact hb j q (by omega) hq
    obtain ⟨lv, hlv⟩ : ∃ lv, lessF s.p.last x = lv := ⟨_, rfl⟩
    
    
    
    
    repeat' (first
    | (with_reducible refine CW.seq ?_)
    | (with_reducible refine KP.then_code ?_)
    | (with_reducible refine CW.skip ?_)
    | (with_reducible refine CW.ret ?_)
    | (with_reducible refine KP.then_ret ?_)
    | (with_reducible refine KP.block_ret ?_)
    | (with_reducible refine CW.block ?_)
    | (with_reducible refine KP.block_normal ?_)
    | (with_reducible refine CW.exit ?_)
    | (with_reducible refine KP.then_exit ?_)
    | (with_reducible refine KP.block_hit ?_)
    | refine KP.bm ?_
    | refine CW.ct ?_
    | refine CW.cf ?_
    | (refine CW.cP ?_ ?_ <;> intro _ <;> try contradiction)
    | (refine CW.cs ?_ ?_ <;> intro _ <;> try contradiction)
    | (refine CW.region (i := 2) ?_ <;> refine KP.q QK.mv ?_ <;> refine KP.q QK.mv ?_ <;> refine KP.q QK.nc ?_ <;> refine KP.q QK.fa ?_ <;> refine KP.q (by first | exact QY.load_s rfl (Rd.ro m0) (Reads.pt1 (by rfl)) | exact QK.lds) ?_ <;> refine KP.q (by first | exact QY.len_row rfl (Rd.ro m3) (RowL.big hs w_row) | exact QY.len_row rfl (Rd.ro m1) RowL.rrow | exact QK.len) ?_ <;> refine KP.q QK.lss ?_ <;> refine KP.list_nil ?_)
    | (refine CW.region (i := 4) ?_ <;> refine KP.q QK.mv ?_ <;> refine KP.q QK.nc ?_ <;> refine KP.q QK.fa ?_ <;> refine KP.q (by first | exact QY.load_s rfl (Rd.ro m0) (Reads.pt1 (by rfl)) | exact QK.lds) ?_ <;> refine KP.q QK.mv ?_ <;> refine KP.q QK.ia ?_ <;> refine KP.q (by first | exact QY.load_a rfl (Rd.ro m1) (Reads.row RowL.rrow hs) rfl | exact QY.load_a rfl (Rd.own (by with_reducible first | exact k0 | exact k1 | exact k2 | exact k3 | exact k4 | exact k5 | exact k6 | exact k7 | exact k8 | exact k9 | fail)) (Reads.pt_part (off := 4) (n := 2)) (by rfl) | exact QK.lda) ?_ <;> (refine KP.e ?_; (refine EK.alloc ?_; intro b6)) <;> (refine KP.e ?_; (first | refine EK.st_a ?_ (h1 := hone) | refine EK.st_a ?_ | refine EK.st_ra ?_ | refine EK.st_p ?_)) <;> refine KP.list_nil ?_)
    | ((with_reducible apply KP.fin1); (· rfl); (· rfl)))
    by_cases hwt : 0 < (s.p.waits.length : Int)
    · have hm0 : s.p.might x = false := by unfold PSh.might PSh.wanted; rw [decide_eq_false (by omega)]; simp
      cases he : s.p.ended
      · have hev : Value.bool s.p.ended = .bool false := by rw [he]
        
        repeat' (first
    | (with_reducible refine CW.seq ?_)
    | (with_reducible refine KP.then_code ?_)
    | (with_reducible refine CW.skip ?_)
    | (with_reducible refine CW.ret ?_)
    | (with_reducible refine KP.then_ret ?_)
    | (with_reducible refine KP.block_ret ?_)
    | (with_reducible refine CW.block ?_)
    | (with_reducible refine KP.block_normal ?_)
    | (with_reducible refine CW.exit ?_)
    | (with_reducible refine KP.then_exit ?_)
    | (with_reducible refine KP.block_hit ?_)
    | refine KP.bm ?_
    | refine CW.ct ?_
    | refine CW.cf ?_
    | (refine CW.cP ?_ ?_ <;> intro _ <;> try contradiction)
    | (refine CW.cs ?_ ?_ <;> intro _ <;> try contradiction)
    | (refine CW.region (i := 5) ?_ <;> refine KP.q QK.fa ?_ <;> refine KP.q (by first | exact QY.same (QY.load_s rfl (Rd.own (by with_reducible first | exact k0 | exact k1 | exact k2 | exact k3 | exact k4 | exact k5 | exact k6 | exact k7 | exact k8 | exact k9 | fail)) (Reads.pt1 (by rfl))) hev | exact QY.load_s rfl (Rd.ro m0) (Reads.pt1 (by rfl)) | exact QK.lds) ?_ <;> refine KP.q QK.mv ?_ <;> (first | refine KP.gn ?_ | refine KP.gu ?_ | refine KP.qy QK.fa ?_ | ((first | refine KP.gsP (t := 25) ?_ ?_ | refine KP.gs (t := 25) ?_ ?_) <;> intro _ <;> first | contradiction | refine KP.gn ?_ | refine KP.qy QK.fa ?_)) <;> (first | refine KP.gn ?_ | refine KP.gu ?_ | refine KP.qy (by first | exact QY.same (QY.load_s rfl (Rd.own (by with_reducible first | exact k0 | exact k1 | exact k2 | exact k3 | exact k4 | exact k5 | exact k6 | exact k7 | exact k8 | exact k9 | fail)) (Reads.pt1 (by rfl))) hev | exact QY.load_s rfl (Rd.ro m0) (Reads.pt1 (by rfl)) | exact QK.lds) ?_) <;> (first | refine KP.gn ?_ | refine KP.gu ?_ | refine KP.qy (by first | exact QY.len_row rfl (Rd.ro m3) (RowL.big hs w_row) | exact QY.len_row rfl (Rd.ro m1) RowL.rrow | exact QK.len) ?_) <;> (first | refine KP.gn ?_ | refine KP.gu ?_ | refine KP.qy QK.gtr ?_) <;> refine KP.q QK.pk ?_ <;> refine KP.list_nil ?_)
    | (refine CW.region (i := 3) ?_ <;> refine KP.q QK.mv ?_ <;> refine KP.q QK.add ?_ <;> refine KP.q QK.as ?_ <;> refine KP.list_nil ?_)
    | ((with_reducible apply KP.fin1); (· rfl); (· rfl)))
        exact KA.round (i + 1) ⟨by omega, hnext hm0⟩
      · have hev : Value.bool s.p.ended = .bool true := by rw [he]
        repeat' (first
    | (with_reducible refine CW.seq ?_)
    | (with_reducible refine KP.then_code ?_)
    | (with_reducible refine CW.skip ?_)
    | (with_reducible refine CW.ret ?_)
    | (with_reducible refine KP.then_ret ?_)
    | (with_reducible refine KP.block_ret ?_)
    | (with_reducible refine CW.block ?_)
    | (with_reducible refine KP.block_normal ?_)
    | (with_reducible refine CW.exit ?_)
    | (with_reducible refine KP.then_exit ?_)
    | (with_reducible refine KP.block_hit ?_)
    | refine KP.bm ?_
    | refine CW.ct ?_
    | refine CW.cf ?_
    | (refine CW.cP ?_ ?_ <;> intro _ <;> try contradiction)
    | (refine CW.cs ?_ ?_ <;> intro _ <;> try contradiction)
    | (refine CW.region (i := 5) ?_ <;> refine KP.q QK.fa ?_ <;> refine KP.q (by first | exact QY.same (QY.load_s rfl (Rd.own (by with_reducible first | exact k0 | exact k1 | exact k2 | exact k3 | exact k4 | exact k5 | exact k6 | exact k7 | exact k8 | exact k9 | fail)) (Reads.pt1 (by rfl))) hev | exact QY.load_s rfl (Rd.ro m0) (Reads.pt1 (by rfl)) | exact QK.lds) ?_ <;> refine KP.q QK.mv ?_ <;> (first | refine KP.gn ?_ | refine KP.gu ?_ | refine KP.qy QK.fa ?_ | ((first | refine KP.gsP (t := 25) ?_ ?_ | refine KP.gs (t := 25) ?_ ?_) <;> intro _ <;> first | contradiction | refine KP.gn ?_ | refine KP.qy QK.fa ?_)) <;> (first | refine KP.gn ?_ | refine KP.gu ?_ | refine KP.qy (by first | exact QY.same (QY.load_s rfl (Rd.own (by with_reducible first | exact k0 | exact k1 | exact k2 | exact k3 | exact k4 | exact k5 | exact k6 | exact k7 | exact k8 | exact k9 | fail)) (Reads.pt1 (by rfl))) hev | exact QY.load_s rfl (Rd.ro m0) (Reads.pt1 (by rfl)) | exact QK.lds) ?_) <;> (first | refine KP.gn ?_ | refine KP.gu ?_ | refine KP.qy (by first | exact QY.len_row rfl (Rd.ro m3) (RowL.big hs w_row) | exact QY.len_row rfl (Rd.ro m1) RowL.rrow | exact QK.len) ?_) <;> (first | refine KP.gn ?_ | refine KP.gu ?_ | refine KP.qy QK.gtr ?_) <;> refine KP.q QK.pk ?_ <;> refine KP.list_nil ?_)
    | (refine CW.region (i := 3) ?_ <;> refine KP.q QK.mv ?_ <;> refine KP.q QK.add ?_ <;> refine KP.q QK.as ?_ <;> refine KP.list_nil ?_)
    | ((with_reducible apply KP.fin1); (· rfl); (· rfl)))
        exact KA.round (i + 1) ⟨by omega, hnext hm0⟩
    cases he : s.p.ended
    rotate_left
    · have hev : Value.bool s.p.ended = .bool true := by rw [he]
      have hm0 : s.p.might x = false := by unfold PSh.might PSh.wanted; rw [he]; rfl
      repeat' (first
    | (with_reducible refine CW.seq ?_)
    | (with_reducible refine KP.then_code ?_)
    | (with_reducible refine CW.skip ?_)
    | (with_reducible refine CW.ret ?_)
    | (with_reducible refine KP.then_ret ?_)
    | (with_reducible refine KP.block_ret ?_)
    | (with_reducible refine CW.block ?_)
    | (with_reducible refine KP.block_normal ?_)
    | (with_reducible refine CW.exit ?_)
    | (with_reducible refine KP.then_exit ?_)
    | (with_reducible refine KP.block_hit ?_)
    | refine KP.bm ?_
    | refine CW.ct ?_
    | refine CW.cf ?_
    | (refine CW.cP ?_ ?_ <;> intro _ <;> try contradiction)
    | (refine CW.cs ?_ ?_ <;> intro _ <;> try contradiction)
    | (refine CW.region (i := 5) ?_ <;> refine KP.q QK.fa ?_ <;> refine KP.q (by first | exact QY.same (QY.load_s rfl (Rd.own (by with_reducible first | exact k0 | exact k1 | exact k2 | exact k3 | exact k4 | exact k5 | exact k6 | exact k7 | exact k8 | exact k9 | fail)) (Reads.pt1 (by rfl))) hev | exact QY.load_s rfl (Rd.ro m0) (Reads.pt1 (by rfl)) | exact QK.lds) ?_ <;> refine KP.q QK.mv ?_ <;> (first | refine KP.gn ?_ | refine KP.gu ?_ | refine KP.qy QK.fa ?_ | ((first | refine KP.gsP (t := 25) ?_ ?_ | refine KP.gs (t := 25) ?_ ?_) <;> intro _ <;> first | contradiction | refine KP.gn ?_ | refine KP.qy QK.fa ?_)) <;> (first | refine KP.gn ?_ | refine KP.gu ?_ | refine KP.qy (by first | exact QY.same (QY.load_s rfl (Rd.own (by with_reducible first | exact k0 | exact k1 | exact k2 | exact k3 | exact k4 | exact k5 | exact k6 | exact k7 | exact k8 | exact k9 | fail)) (Reads.pt1 (by rfl))) hev | exact QY.load_s rfl (Rd.ro m0) (Reads.pt1 (by rfl)) | exact QK.lds) ?_) <;> (first | refine KP.gn ?_ | refine KP.gu ?_ | refine KP.qy (by first | exact QY.len_row rfl (Rd.ro m3) (RowL.big hs w_row) | exact QY.len_row rfl (Rd.ro m1) RowL.rrow | exact QK.len) ?_) <;> (first | refine KP.gn ?_ | refine KP.gu ?_ | refine KP.qy QK.gtr ?_) <;> refine KP.q QK.pk ?_ <;> refine KP.list_nil ?_)
    | (refine CW.region (i := 3) ?_ <;> refine KP.q QK.mv ?_ <;> refine KP.q QK.add ?_ <;> refine KP.q QK.as ?_ <;> refine KP.list_nil ?_)
    | ((with_reducible apply KP.fin1); (· rfl); (· rfl)))
      exact KA.round (i + 1) ⟨by omega, hnext hm0⟩
    have hev : Value.bool s.p.ended = .bool false := by rw [he]
    have hwd : s.p.wanted = true := by unfold PSh.wanted; rw [he, decide_eq_true (by omega)]; rfl
    cases hh : s.p.heard
    · have hhv : Value.bool s.p.heard = .bool false := by rw [hh]
      
      by_cases hdl : s.p.least ≤ x.dist
      · have hm1 : s.p.might x = true := by unfold PSh.might; rw [hwd, hh, if_neg Bool.false_ne_true, decide_eq_true hdl]; rfl
        rw [hany hm1]
        repeat' (first
    | (with_reducible refine CW.seq ?_)
    | (with_reducible refine KP.then_code ?_)
    | (with_reducible refine CW.skip ?_)
    | (with_reducible refine CW.ret ?_)
    | (with_reducible refine KP.then_ret ?_)
    | (with_reducible refine KP.block_ret ?_)
    | (with_reducible refine CW.block ?_)
    | (with_reducible refine KP.block_normal ?_)
    | (with_reducible refine CW.exit ?_)
    | (with_reducible refine KP.then_exit ?_)
    | (with_reducible refine KP.block_hit ?_)
    | refine KP.bm ?_
    | refine CW.ct ?_
    | refine CW.cf ?_
    | (refine CW.cP ?_ ?_ <;> intro _ <;> try contradiction)
    | (refine CW.cs ?_ ?_ <;> intro _ <;> try contradiction)
    | (refine CW.region (i := 5) ?_ <;> refine KP.q QK.fa ?_ <;> refine KP.q (by first | exact QY.same (QY.load_s rfl (Rd.own (by with_reducible first | exact k0 | exact k1 | exact k2 | exact k3 | exact k4 | exact k5 | exact k6 | exact k7 | exact k8 | exact k9 | fail)) (Reads.pt1 (by rfl))) hhv | exact QY.same (QY.load_s rfl (Rd.own (by with_reducible first | exact k0 | exact k1 | exact k2 | exact k3 | exact k4 | exact k5 | exact k6 | exact k7 | exact k8 | exact k9 | fail)) (Reads.pt1 (by rfl))) hev | exact QY.load_s rfl (Rd.ro m0) (Reads.pt1 (by rfl)) | exact QK.lds) ?_ <;> refine KP.q QK.mv ?_ <;> (first | refine KP.gn ?_ | refine KP.gu ?_ | refine KP.qy QK.fa ?_ | ((first | refine KP.gsP (t := 25) ?_ ?_ | refine KP.gs (t := 25) ?_ ?_) <;> intro _ <;> first | contradiction | refine KP.gn ?_ | refine KP.qy QK.fa ?_)) <;> (first | refine KP.gn ?_ | refine KP.gu ?_ | refine KP.qy (by first | exact QY.same (QY.load_s rfl (Rd.own (by with_reducible first | exact k0 | exact k1 | exact k2 | exact k3 | exact k4 | exact k5 | exact k6 | exact k7 | exact k8 | exact k9 | fail)) (Reads.pt1 (by rfl))) hhv | exact QY.same (QY.load_s rfl (Rd.own (by with_reducible first | exact k0 | exact k1 | exact k2 | exact k3 | exact k4 | exact k5 | exact k6 | exact k7 | exact k8 | exact k9 | fail)) (Reads.pt1 (by rfl))) hev | exact QY.load_s rfl (Rd.ro m0) (Reads.pt1 (by rfl)) | exact QK.lds) ?_) <;> (first | refine KP.gn ?_ | refine KP.gu ?_ | refine KP.qy (by first | exact QY.len_row rfl (Rd.ro m3) (RowL.big hs w_row) | exact QY.len_row rfl (Rd.ro m1) RowL.rrow | exact QK.len) ?_) <;> (first | refine KP.gn ?_ | refine KP.gu ?_ | refine KP.qy QK.gtr ?_) <;> refine KP.q QK.pk ?_ <;> refine KP.list_nil ?_)
    | (refine CW.region (i := 6) ?_ <;> refine KP.q QK.fa ?_ <;> refine KP.q (by first | exact QY.same (QY.load_s rfl (Rd.own (by with_reducible first | exact k0 | exact k1 | exact k2 | exact k3 | exact k4 | exact k5 | exact k6 | exact k7 | exact k8 | exact k9 | fail)) (Reads.pt1 (by rfl))) hhv | exact QY.same (QY.load_s rfl (Rd.own (by with_reducible first | exact k0 | exact k1 | exact k2 | exact k3 | exact k4 | exact k5 | exact k6 | exact k7 | exact k8 | exact k9 | fail)) (Reads.pt1 (by rfl))) hev | exact QY.load_s rfl (Rd.ro m0) (Reads.pt1 (by rfl)) | exact QK.lds) ?_ <;> refine KP.q QK.mv ?_ <;> (first | refine KP.gn ?_ | refine KP.gu ?_ | refine KP.qy QK.fa ?_ | ((first | refine KP.gsP (t := 33) ?_ ?_ | refine KP.gs (t := 33) ?_ ?_) <;> intro _ <;> first | contradiction | refine KP.gn ?_ | refine KP.qy QK.fa ?_)) <;> (first | refine KP.gn ?_ | refine KP.gu ?_ | refine KP.qy (by first | exact QY.load_a rfl (Rd.ro m1) (Reads.row RowL.rrow hs) rfl | exact QY.load_a rfl (Rd.own (by with_reducible first | exact k0 | exact k1 | exact k2 | exact k3 | exact k4 | exact k5 | exact k6 | exact k7 | exact k8 | exact k9 | fail)) (Reads.pt_part (off := 4) (n := 2)) (by rfl) | exact QK.lda) ?_) <;> (first | refine KP.gn ?_ | refine KP.gu ?_ | refine KP.qy (by first | exact QY.load_a rfl (Rd.ro m1) (Reads.row RowL.rrow hs) rfl | exact QY.load_a rfl (Rd.own (by with_reducible first | exact k0 | exact k1 | exact k2 | exact k3 | exact k4 | exact k5 | exact k6 | exact k7 | exact k8 | exact k9 | fail)) (Reads.pt_part (off := 4) (n := 2)) (by rfl) | exact QK.lda) ?_) <;> (first | refine KP.gn ?_ | refine KP.gu ?_ | (refine KP.gy ?_; refine KP.e ?_; ((refine EK.call (refLessE (a := s.p.last) (b := x) hsw hx hlv) ?_); repeat' first | refine CP.r ?_ | refine CP.r0 ?_ | refine CP.exP fun e37 => ?_ | refine CP.puP fun h37 => ?_))) <;> refine KP.q QK.pk ?_ <;> refine KP.q QK.mv ?_ <;> (first | refine KP.gn ?_ | refine KP.gu ?_ | refine KP.qy QK.fa ?_ | ((first | refine KP.gsP (t := 39) ?_ ?_ | refine KP.gs (t := 39) ?_ ?_) <;> intro _ <;> first | contradiction | refine KP.gn ?_ | refine KP.qy QK.fa ?_)) <;> (first | refine KP.gn ?_ | refine KP.gu ?_ | refine KP.qy (by first | exact QY.same (QY.load_s rfl (Rd.own (by with_reducible first | exact k0 | exact k1 | exact k2 | exact k3 | exact k4 | exact k5 | exact k6 | exact k7 | exact k8 | exact k9 | fail)) (Reads.pt1 (by rfl))) hhv | exact QY.same (QY.load_s rfl (Rd.own (by with_reducible first | exact k0 | exact k1 | exact k2 | exact k3 | exact k4 | exact k5 | exact k6 | exact k7 | exact k8 | exact k9 | fail)) (Reads.pt1 (by rfl))) hev | exact QY.load_s rfl (Rd.ro m0) (Reads.pt1 (by rfl)) | exact QK.lds) ?_) <;> (first | refine KP.gn ?_ | refine KP.gu ?_ | refine KP.qy QK.not ?_) <;> (first | refine KP.gn ?_ | refine KP.gu ?_ | refine KP.qy QK.mv ?_) <;> (first | refine KP.gn ?_ | refine KP.gu ?_ | refine KP.qy QK.fa ?_ | ((first | refine KP.gsP (t := 43) ?_ ?_ | refine KP.gs (t := 43) ?_ ?_) <;> intro _ <;> first | contradiction | refine KP.gn ?_ | refine KP.qy QK.fa ?_)) <;> (first | refine KP.gn ?_ | refine KP.gu ?_ | refine KP.qy (by first | exact QY.same (QY.load_s rfl (Rd.own (by with_reducible first | exact k0 | exact k1 | exact k2 | exact k3 | exact k4 | exact k5 | exact k6 | exact k7 | exact k8 | exact k9 | fail)) (Reads.pt1 (by rfl))) hhv | exact QY.same (QY.load_s rfl (Rd.own (by with_reducible first | exact k0 | exact k1 | exact k2 | exact k3 | exact k4 | exact k5 | exact k6 | exact k7 | exact k8 | exact k9 | fail)) (Reads.pt1 (by rfl))) hev | exact QY.load_s rfl (Rd.ro m0) (Reads.pt1 (by rfl)) | exact QK.lds) ?_) <;> (first | refine KP.gn ?_ | refine KP.gu ?_ | refine KP.qy QK.fa ?_) <;> (first | refine KP.gn ?_ | refine KP.gu ?_ | refine KP.qy (by first | exact QY.same (QY.load_s rfl (Rd.own (by with_reducible first | exact k0 | exact k1 | exact k2 | exact k3 | exact k4 | exact k5 | exact k6 | exact k7 | exact k8 | exact k9 | fail)) (Reads.pt1 (by rfl))) hhv | exact QY.same (QY.load_s rfl (Rd.own (by with_reducible first | exact k0 | exact k1 | exact k2 | exact k3 | exact k4 | exact k5 | exact k6 | exact k7 | exact k8 | exact k9 | fail)) (Reads.pt1 (by rfl))) hev | exact QY.load_s rfl (Rd.ro m0) (Reads.pt1 (by rfl)) | exact QK.lds) ?_) <;> (first | refine KP.gn ?_ | refine KP.gu ?_ | refine KP.qy QK.geq ?_) <;> (first | refine KP.gn ?_ | refine KP.gu ?_ | refine KP.qy QK.pk ?_) <;> refine KP.q QK.pk ?_ <;> refine KP.list_nil ?_)
    | (refine CW.region (i := 7) ?_ <;> refine KP.q QK.as ?_ <;> refine KP.list_nil ?_)
    | ((with_reducible apply KP.fin1); (· rfl); (· rfl)))
        exact FA.ret
      · have hm0 : s.p.might x = false := by unfold PSh.might; rw [hwd, hh, if_neg Bool.false_ne_true, decide_eq_false hdl]; rfl
        repeat' (first
    | (with_reducible refine CW.seq ?_)
    | (with_reducible refine KP.then_code ?_)
    | (with_reducible refine CW.skip ?_)
    | (with_reducible refine CW.ret ?_)
    | (with_reducible refine KP.then_ret ?_)
    | (with_reducible refine KP.block_ret ?_)
    | (with_reducible refine CW.block ?_)
    | (with_reducible refine KP.block_normal ?_)
    | (with_reducible refine CW.exit ?_)
    | (with_reducible refine KP.then_exit ?_)
    | (with_reducible refine KP.block_hit ?_)
    | refine KP.bm ?_
    | refine CW.ct ?_
    | refine CW.cf ?_
    | (refine CW.cP ?_ ?_ <;> intro _ <;> try contradiction)
    | (refine CW.cs ?_ ?_ <;> intro _ <;> try contradiction)
    | (refine CW.region (i := 5) ?_ <;> refine KP.q QK.fa ?_ <;> refine KP.q (by first | exact QY.same (QY.load_s rfl (Rd.own (by with_reducible first | exact k0 | exact k1 | exact k2 | exact k3 | exact k4 | exact k5 | exact k6 | exact k7 | exact k8 | exact k9 | fail)) (Reads.pt1 (by rfl))) hhv | exact QY.same (QY.load_s rfl (Rd.own (by with_reducible first | exact k0 | exact k1 | exact k2 | exact k3 | exact k4 | exact k5 | exact k6 | exact k7 | exact k8 | exact k9 | fail)) (Reads.pt1 (by rfl))) hev | exact QY.load_s rfl (Rd.ro m0) (Reads.pt1 (by rfl)) | exact QK.lds) ?_ <;> refine KP.q QK.mv ?_ <;> (first | refine KP.gn ?_ | refine KP.gu ?_ | refine KP.qy QK.fa ?_ | ((first | refine KP.gsP (t := 25) ?_ ?_ | refine KP.gs (t := 25) ?_ ?_) <;> intro _ <;> first | contradiction | refine KP.gn ?_ | refine KP.qy QK.fa ?_)) <;> (first | refine KP.gn ?_ | refine KP.gu ?_ | refine KP.qy (by first | exact QY.same (QY.load_s rfl (Rd.own (by with_reducible first | exact k0 | exact k1 | exact k2 | exact k3 | exact k4 | exact k5 | exact k6 | exact k7 | exact k8 | exact k9 | fail)) (Reads.pt1 (by rfl))) hhv | exact QY.same (QY.load_s rfl (Rd.own (by with_reducible first | exact k0 | exact k1 | exact k2 | exact k3 | exact k4 | exact k5 | exact k6 | exact k7 | exact k8 | exact k9 | fail)) (Reads.pt1 (by rfl))) hev | exact QY.load_s rfl (Rd.ro m0) (Reads.pt1 (by rfl)) | exact QK.lds) ?_) <;> (first | refine KP.gn ?_ | refine KP.gu ?_ | refine KP.qy (by first | exact QY.len_row rfl (Rd.ro m3) (RowL.big hs w_row) | exact QY.len_row rfl (Rd.ro m1) RowL.rrow | exact QK.len) ?_) <;> (first | refine KP.gn ?_ | refine KP.gu ?_ | refine KP.qy QK.gtr ?_) <;> refine KP.q QK.pk ?_ <;> refine KP.list_nil ?_)
    | (refine CW.region (i := 6) ?_ <;> refine KP.q QK.fa ?_ <;> refine KP.q (by first | exact QY.same (QY.load_s rfl (Rd.own (by with_reducible first | exact k0 | exact k1 | exact k2 | exact k3 | exact k4 | exact k5 | exact k6 | exact k7 | exact k8 | exact k9 | fail)) (Reads.pt1 (by rfl))) hhv | exact QY.same (QY.load_s rfl (Rd.own (by with_reducible first | exact k0 | exact k1 | exact k2 | exact k3 | exact k4 | exact k5 | exact k6 | exact k7 | exact k8 | exact k9 | fail)) (Reads.pt1 (by rfl))) hev | exact QY.load_s rfl (Rd.ro m0) (Reads.pt1 (by rfl)) | exact QK.lds) ?_ <;> refine KP.q QK.mv ?_ <;> (first | refine KP.gn ?_ | refine KP.gu ?_ | refine KP.qy QK.fa ?_ | ((first | refine KP.gsP (t := 33) ?_ ?_ | refine KP.gs (t := 33) ?_ ?_) <;> intro _ <;> first | contradiction | refine KP.gn ?_ | refine KP.qy QK.fa ?_)) <;> (first | refine KP.gn ?_ | refine KP.gu ?_ | refine KP.qy (by first | exact QY.load_a rfl (Rd.ro m1) (Reads.row RowL.rrow hs) rfl | exact QY.load_a rfl (Rd.own (by with_reducible first | exact k0 | exact k1 | exact k2 | exact k3 | exact k4 | exact k5 | exact k6 | exact k7 | exact k8 | exact k9 | fail)) (Reads.pt_part (off := 4) (n := 2)) (by rfl) | exact QK.lda) ?_) <;> (first | refine KP.gn ?_ | refine KP.gu ?_ | refine KP.qy (by first | exact QY.load_a rfl (Rd.ro m1) (Reads.row RowL.rrow hs) rfl | exact QY.load_a rfl (Rd.own (by with_reducible first | exact k0 | exact k1 | exact k2 | exact k3 | exact k4 | exact k5 | exact k6 | exact k7 | exact k8 | exact k9 | fail)) (Reads.pt_part (off := 4) (n := 2)) (by rfl) | exact QK.lda) ?_) <;> (first | refine KP.gn ?_ | refine KP.gu ?_ | (refine KP.gy ?_; refine KP.e ?_; ((refine EK.call (refLessE (a := s.p.last) (b := x) hsw hx hlv) ?_); repeat' first | refine CP.r ?_ | refine CP.r0 ?_ | refine CP.exP fun e37 => ?_ | refine CP.puP fun h37 => ?_))) <;> refine KP.q QK.pk ?_ <;> refine KP.q QK.mv ?_ <;> (first | refine KP.gn ?_ | refine KP.gu ?_ | refine KP.qy QK.fa ?_ | ((first | refine KP.gsP (t := 39) ?_ ?_ | refine KP.gs (t := 39) ?_ ?_) <;> intro _ <;> first | contradiction | refine KP.gn ?_ | refine KP.qy QK.fa ?_)) <;> (first | refine KP.gn ?_ | refine KP.gu ?_ | refine KP.qy (by first | exact QY.same (QY.load_s rfl (Rd.own (by with_reducible first | exact k0 | exact k1 | exact k2 | exact k3 | exact k4 | exact k5 | exact k6 | exact k7 | exact k8 | exact k9 | fail)) (Reads.pt1 (by rfl))) hhv | exact QY.same (QY.load_s rfl (Rd.own (by with_reducible first | exact k0 | exact k1 | exact k2 | exact k3 | exact k4 | exact k5 | exact k6 | exact k7 | exact k8 | exact k9 | fail)) (Reads.pt1 (by rfl))) hev | exact QY.load_s rfl (Rd.ro m0) (Reads.pt1 (by rfl)) | exact QK.lds) ?_) <;> (first | refine KP.gn ?_ | refine KP.gu ?_ | refine KP.qy QK.not ?_) <;> (first | refine KP.gn ?_ | refine KP.gu ?_ | refine KP.qy QK.mv ?_) <;> (first | refine KP.gn ?_ | refine KP.gu ?_ | refine KP.qy QK.fa ?_ | ((first | refine KP.gsP (t := 43) ?_ ?_ | refine KP.gs (t := 43) ?_ ?_) <;> intro _ <;> first | contradiction | refine KP.gn ?_ | refine KP.qy QK.fa ?_)) <;> (first | refine KP.gn ?_ | refine KP.gu ?_ | refine KP.qy (by first | exact QY.same (QY.load_s rfl (Rd.own (by with_reducible first | exact k0 | exact k1 | exact k2 | exact k3 | exact k4 | exact k5 | exact k6 | exact k7 | exact k8 | exact k9 | fail)) (Reads.pt1 (by rfl))) hhv | exact QY.same (QY.load_s rfl (Rd.own (by with_reducible first | exact k0 | exact k1 | exact k2 | exact k3 | exact k4 | exact k5 | exact k6 | exact k7 | exact k8 | exact k9 | fail)) (Reads.pt1 (by rfl))) hev | exact QY.load_s rfl (Rd.ro m0) (Reads.pt1 (by rfl)) | exact QK.lds) ?_) <;> (first | refine KP.gn ?_ | refine KP.gu ?_ | refine KP.qy QK.fa ?_) <;> (first | refine KP.gn ?_ | refine KP.gu ?_ | refine KP.qy (by first | exact QY.same (QY.load_s rfl (Rd.own (by with_reducible first | exact k0 | exact k1 | exact k2 | exact k3 | exact k4 | exact k5 | exact k6 | exact k7 | exact k8 | exact k9 | fail)) (Reads.pt1 (by rfl))) hhv | exact QY.same (QY.load_s rfl (Rd.own (by with_reducible first | exact k0 | exact k1 | exact k2 | exact k3 | exact k4 | exact k5 | exact k6 | exact k7 | exact k8 | exact k9 | fail)) (Reads.pt1 (by rfl))) hev | exact QY.load_s rfl (Rd.ro m0) (Reads.pt1 (by rfl)) | exact QK.lds) ?_) <;> (first | refine KP.gn ?_ | refine KP.gu ?_ | refine KP.qy QK.geq ?_) <;> (first | refine KP.gn ?_ | refine KP.gu ?_ | refine KP.qy QK.pk ?_) <;> refine KP.q QK.pk ?_ <;> refine KP.list_nil ?_)
    | (refine CW.region (i := 3) ?_ <;> refine KP.q QK.mv ?_ <;> refine KP.q QK.add ?_ <;> refine KP.q QK.as ?_ <;> refine KP.list_nil ?_)
    | ((with_reducible apply KP.fin1); (· rfl); (· rfl)))
        exact KA.round (i + 1) ⟨by omega, hnext hm0⟩
    · have hhv : Value.bool s.p.heard = .bool true := by rw [hh]
      cases lv
      · have hm0 : s.p.might x = false := by unfold PSh.might; rw [hwd, hh, if_pos rfl, hlv]; rfl
        repeat' (first
    | (with_reducible refine CW.seq ?_)
    | (with_reducible refine KP.then_code ?_)
    | (with_reducible refine CW.skip ?_)
    | (with_reducible refine CW.ret ?_)
    | (with_reducible refine KP.then_ret ?_)
    | (with_reducible refine KP.block_ret ?_)
    | (with_reducible refine CW.block ?_)
    | (with_reducible refine KP.block_normal ?_)
    | (with_reducible refine CW.exit ?_)
    | (with_reducible refine KP.then_exit ?_)
    | (with_reducible refine KP.block_hit ?_)
    | refine KP.bm ?_
    | refine CW.ct ?_
    | refine CW.cf ?_
    | (refine CW.cP ?_ ?_ <;> intro _ <;> try contradiction)
    | (refine CW.cs ?_ ?_ <;> intro _ <;> try contradiction)
    | (refine CW.region (i := 5) ?_ <;> refine KP.q QK.fa ?_ <;> refine KP.q (by first | exact QY.same (QY.load_s rfl (Rd.own (by with_reducible first | exact k0 | exact k1 | exact k2 | exact k3 | exact k4 | exact k5 | exact k6 | exact k7 | exact k8 | exact k9 | fail)) (Reads.pt1 (by rfl))) hhv | exact QY.same (QY.load_s rfl (Rd.own (by with_reducible first | exact k0 | exact k1 | exact k2 | exact k3 | exact k4 | exact k5 | exact k6 | exact k7 | exact k8 | exact k9 | fail)) (Reads.pt1 (by rfl))) hev | exact QY.load_s rfl (Rd.ro m0) (Reads.pt1 (by rfl)) | exact QK.lds) ?_ <;> refine KP.q QK.mv ?_ <;> (first | refine KP.gn ?_ | refine KP.gu ?_ | refine KP.qy QK.fa ?_ | ((first | refine KP.gsP (t := 25) ?_ ?_ | refine KP.gs (t := 25) ?_ ?_) <;> intro _ <;> first | contradiction | refine KP.gn ?_ | refine KP.qy QK.fa ?_)) <;> (first | refine KP.gn ?_ | refine KP.gu ?_ | refine KP.qy (by first | exact QY.same (QY.load_s rfl (Rd.own (by with_reducible first | exact k0 | exact k1 | exact k2 | exact k3 | exact k4 | exact k5 | exact k6 | exact k7 | exact k8 | exact k9 | fail)) (Reads.pt1 (by rfl))) hhv | exact QY.same (QY.load_s rfl (Rd.own (by with_reducible first | exact k0 | exact k1 | exact k2 | exact k3 | exact k4 | exact k5 | exact k6 | exact k7 | exact k8 | exact k9 | fail)) (Reads.pt1 (by rfl))) hev | exact QY.load_s rfl (Rd.ro m0) (Reads.pt1 (by rfl)) | exact QK.lds) ?_) <;> (first | refine KP.gn ?_ | refine KP.gu ?_ | refine KP.qy (by first | exact QY.len_row rfl (Rd.ro m3) (RowL.big hs w_row) | exact QY.len_row rfl (Rd.ro m1) RowL.rrow | exact QK.len) ?_) <;> (first | refine KP.gn ?_ | refine KP.gu ?_ | refine KP.qy QK.gtr ?_) <;> refine KP.q QK.pk ?_ <;> refine KP.list_nil ?_)
    | (refine CW.region (i := 6) ?_ <;> refine KP.q QK.fa ?_ <;> refine KP.q (by first | exact QY.same (QY.load_s rfl (Rd.own (by with_reducible first | exact k0 | exact k1 | exact k2 | exact k3 | exact k4 | exact k5 | exact k6 | exact k7 | exact k8 | exact k9 | fail)) (Reads.pt1 (by rfl))) hhv | exact QY.same (QY.load_s rfl (Rd.own (by with_reducible first | exact k0 | exact k1 | exact k2 | exact k3 | exact k4 | exact k5 | exact k6 | exact k7 | exact k8 | exact k9 | fail)) (Reads.pt1 (by rfl))) hev | exact QY.load_s rfl (Rd.ro m0) (Reads.pt1 (by rfl)) | exact QK.lds) ?_ <;> refine KP.q QK.mv ?_ <;> (first | refine KP.gn ?_ | refine KP.gu ?_ | refine KP.qy QK.fa ?_ | ((first | refine KP.gsP (t := 33) ?_ ?_ | refine KP.gs (t := 33) ?_ ?_) <;> intro _ <;> first | contradiction | refine KP.gn ?_ | refine KP.qy QK.fa ?_)) <;> (first | refine KP.gn ?_ | refine KP.gu ?_ | refine KP.qy (by first | exact QY.load_a rfl (Rd.ro m1) (Reads.row RowL.rrow hs) rfl | exact QY.load_a rfl (Rd.own (by with_reducible first | exact k0 | exact k1 | exact k2 | exact k3 | exact k4 | exact k5 | exact k6 | exact k7 | exact k8 | exact k9 | fail)) (Reads.pt_part (off := 4) (n := 2)) (by rfl) | exact QK.lda) ?_) <;> (first | refine KP.gn ?_ | refine KP.gu ?_ | refine KP.qy (by first | exact QY.load_a rfl (Rd.ro m1) (Reads.row RowL.rrow hs) rfl | exact QY.load_a rfl (Rd.own (by with_reducible first | exact k0 | exact k1 | exact k2 | exact k3 | exact k4 | exact k5 | exact k6 | exact k7 | exact k8 | exact k9 | fail)) (Reads.pt_part (off := 4) (n := 2)) (by rfl) | exact QK.lda) ?_) <;> (first | refine KP.gn ?_ | refine KP.gu ?_ | (refine KP.gy ?_; refine KP.e ?_; ((refine EK.call (refLessE (a := s.p.last) (b := x) hsw hx hlv) ?_); repeat' first | refine CP.r ?_ | refine CP.r0 ?_ | refine CP.exP fun e37 => ?_ | refine CP.puP fun h37 => ?_))) <;> refine KP.q QK.pk ?_ <;> refine KP.q QK.mv ?_ <;> (first | refine KP.gn ?_ | refine KP.gu ?_ | refine KP.qy QK.fa ?_ | ((first | refine KP.gsP (t := 39) ?_ ?_ | refine KP.gs (t := 39) ?_ ?_) <;> intro _ <;> first | contradiction | refine KP.gn ?_ | refine KP.qy QK.fa ?_)) <;> (first | refine KP.gn ?_ | refine KP.gu ?_ | refine KP.qy (by first | exact QY.same (QY.load_s rfl (Rd.own (by with_reducible first | exact k0 | exact k1 | exact k2 | exact k3 | exact k4 | exact k5 | exact k6 | exact k7 | exact k8 | exact k9 | fail)) (Reads.pt1 (by rfl))) hhv | exact QY.same (QY.load_s rfl (Rd.own (by with_reducible first | exact k0 | exact k1 | exact k2 | exact k3 | exact k4 | exact k5 | exact k6 | exact k7 | exact k8 | exact k9 | fail)) (Reads.pt1 (by rfl))) hev | exact QY.load_s rfl (Rd.ro m0) (Reads.pt1 (by rfl)) | exact QK.lds) ?_) <;> (first | refine KP.gn ?_ | refine KP.gu ?_ | refine KP.qy QK.not ?_) <;> (first | refine KP.gn ?_ | refine KP.gu ?_ | refine KP.qy QK.mv ?_) <;> (first | refine KP.gn ?_ | refine KP.gu ?_ | refine KP.qy QK.fa ?_ | ((first | refine KP.gsP (t := 43) ?_ ?_ | refine KP.gs (t := 43) ?_ ?_) <;> intro _ <;> first | contradiction | refine KP.gn ?_ | refine KP.qy QK.fa ?_)) <;> (first | refine KP.gn ?_ | refine KP.gu ?_ | refine KP.qy (by first | exact QY.same (QY.load_s rfl (Rd.own (by with_reducible first | exact k0 | exact k1 | exact k2 | exact k3 | exact k4 | exact k5 | exact k6 | exact k7 | exact k8 | exact k9 | fail)) (Reads.pt1 (by rfl))) hhv | exact QY.same (QY.load_s rfl (Rd.own (by with_reducible first | exact k0 | exact k1 | exact k2 | exact k3 | exact k4 | exact k5 | exact k6 | exact k7 | exact k8 | exact k9 | fail)) (Reads.pt1 (by rfl))) hev | exact QY.load_s rfl (Rd.ro m0) (Reads.pt1 (by rfl)) | exact QK.lds) ?_) <;> (first | refine KP.gn ?_ | refine KP.gu ?_ | refine KP.qy QK.fa ?_) <;> (first | refine KP.gn ?_ | refine KP.gu ?_ | refine KP.qy (by first | exact QY.same (QY.load_s rfl (Rd.own (by with_reducible first | exact k0 | exact k1 | exact k2 | exact k3 | exact k4 | exact k5 | exact k6 | exact k7 | exact k8 | exact k9 | fail)) (Reads.pt1 (by rfl))) hhv | exact QY.same (QY.load_s rfl (Rd.own (by with_reducible first | exact k0 | exact k1 | exact k2 | exact k3 | exact k4 | exact k5 | exact k6 | exact k7 | exact k8 | exact k9 | fail)) (Reads.pt1 (by rfl))) hev | exact QY.load_s rfl (Rd.ro m0) (Reads.pt1 (by rfl)) | exact QK.lds) ?_) <;> (first | refine KP.gn ?_ | refine KP.gu ?_ | refine KP.qy QK.geq ?_) <;> (first | refine KP.gn ?_ | refine KP.gu ?_ | refine KP.qy QK.pk ?_) <;> refine KP.q QK.pk ?_ <;> refine KP.list_nil ?_)
    | (refine CW.region (i := 3) ?_ <;> refine KP.q QK.mv ?_ <;> refine KP.q QK.add ?_ <;> refine KP.q QK.as ?_ <;> refine KP.list_nil ?_)
    | ((with_reducible apply KP.fin1); (· rfl); (· rfl)))
        exact KA.round (i + 1) ⟨by omega, hnext hm0⟩
      · have hm1 : s.p.might x = true := by unfold PSh.might; rw [hwd, hh, if_pos rfl, hlv]; rfl
        rw [hany hm1]
        repeat' (first
    | (with_reducible refine CW.seq ?_)
    | (with_reducible refine KP.then_code ?_)
    | (with_reducible refine CW.skip ?_)
    | (with_reducible refine CW.ret ?_)
    | (with_reducible refine KP.then_ret ?_)
    | (with_reducible refine KP.block_ret ?_)
    | (with_reducible refine CW.block ?_)
    | (with_reducible refine KP.block_normal ?_)
    | (with_reducible refine CW.exit ?_)
    | (with_reducible refine KP.then_exit ?_)
    | (with_reducible refine KP.block_hit ?_)
    | refine KP.bm ?_
    | refine CW.ct ?_
    | refine CW.cf ?_
    | (refine CW.cP ?_ ?_ <;> intro _ <;> try contradiction)
    | (refine CW.cs ?_ ?_ <;> intro _ <;> try contradiction)
    | (refine CW.region (i := 5) ?_ <;> refine KP.q QK.fa ?_ <;> refine KP.q (by first | exact QY.same (QY.load_s rfl (Rd.own (by with_reducible first | exact k0 | exact k1 | exact k2 | exact k3 | exact k4 | exact k5 | exact k6 | exact k7 | exact k8 | exact k9 | fail)) (Reads.pt1 (by rfl))) hhv | exact QY.same (QY.load_s rfl (Rd.own (by with_reducible first | exact k0 | exact k1 | exact k2 | exact k3 | exact k4 | exact k5 | exact k6 | exact k7 | exact k8 | exact k9 | fail)) (Reads.pt1 (by rfl))) hev | exact QY.load_s rfl (Rd.ro m0) (Reads.pt1 (by rfl)) | exact QK.lds) ?_ <;> refine KP.q QK.mv ?_ <;> (first | refine KP.gn ?_ | refine KP.gu ?_ | refine KP.qy QK.fa ?_ | ((first | refine KP.gsP (t := 25) ?_ ?_ | refine KP.gs (t := 25) ?_ ?_) <;> intro _ <;> first | contradiction | refine KP.gn ?_ | refine KP.qy QK.fa ?_)) <;> (first | refine KP.gn ?_ | refine KP.gu ?_ | refine KP.qy (by first | exact QY.same (QY.load_s rfl (Rd.own (by with_reducible first | exact k0 | exact k1 | exact k2 | exact k3 | exact k4 | exact k5 | exact k6 | exact k7 | exact k8 | exact k9 | fail)) (Reads.pt1 (by rfl))) hhv | exact QY.same (QY.load_s rfl (Rd.own (by with_reducible first | exact k0 | exact k1 | exact k2 | exact k3 | exact k4 | exact k5 | exact k6 | exact k7 | exact k8 | exact k9 | fail)) (Reads.pt1 (by rfl))) hev | exact QY.load_s rfl (Rd.ro m0) (Reads.pt1 (by rfl)) | exact QK.lds) ?_) <;> (first | refine KP.gn ?_ | refine KP.gu ?_ | refine KP.qy (by first | exact QY.len_row rfl (Rd.ro m3) (RowL.big hs w_row) | exact QY.len_row rfl (Rd.ro m1) RowL.rrow | exact QK.len) ?_) <;> (first | refine KP.gn ?_ | refine KP.gu ?_ | refine KP.qy QK.gtr ?_) <;> refine KP.q QK.pk ?_ <;> refine KP.list_nil ?_)
    | (refine CW.region (i := 6) ?_ <;> refine KP.q QK.fa ?_ <;> refine KP.q (by first | exact QY.same (QY.load_s rfl (Rd.own (by with_reducible first | exact k0 | exact k1 | exact k2 | exact k3 | exact k4 | exact k5 | exact k6 | exact k7 | exact k8 | exact k9 | fail)) (Reads.pt1 (by rfl))) hhv | exact QY.same (QY.load_s rfl (Rd.own (by with_reducible first | exact k0 | exact k1 | exact k2 | exact k3 | exact k4 | exact k5 | exact k6 | exact k7 | exact k8 | exact k9 | fail)) (Reads.pt1 (by rfl))) hev | exact QY.load_s rfl (Rd.ro m0) (Reads.pt1 (by rfl)) | exact QK.lds) ?_ <;> refine KP.q QK.mv ?_ <;> (first | refine KP.gn ?_ | refine KP.gu ?_ | refine KP.qy QK.fa ?_ | ((first | refine KP.gsP (t := 33) ?_ ?_ | refine KP.gs (t := 33) ?_ ?_) <;> intro _ <;> first | contradiction | refine KP.gn ?_ | refine KP.qy QK.fa ?_)) <;> (first | refine KP.gn ?_ | refine KP.gu ?_ | refine KP.qy (by first | exact QY.load_a rfl (Rd.ro m1) (Reads.row RowL.rrow hs) rfl | exact QY.load_a rfl (Rd.own (by with_reducible first | exact k0 | exact k1 | exact k2 | exact k3 | exact k4 | exact k5 | exact k6 | exact k7 | exact k8 | exact k9 | fail)) (Reads.pt_part (off := 4) (n := 2)) (by rfl) | exact QK.lda) ?_) <;> (first | refine KP.gn ?_ | refine KP.gu ?_ | refine KP.qy (by first | exact QY.load_a rfl (Rd.ro m1) (Reads.row RowL.rrow hs) rfl | exact QY.load_a rfl (Rd.own (by with_reducible first | exact k0 | exact k1 | exact k2 | exact k3 | exact k4 | exact k5 | exact k6 | exact k7 | exact k8 | exact k9 | fail)) (Reads.pt_part (off := 4) (n := 2)) (by rfl) | exact QK.lda) ?_) <;> (first | refine KP.gn ?_ | refine KP.gu ?_ | (refine KP.gy ?_; refine KP.e ?_; ((refine EK.call (refLessE (a := s.p.last) (b := x) hsw hx hlv) ?_); repeat' first | refine CP.r ?_ | refine CP.r0 ?_ | refine CP.exP fun e37 => ?_ | refine CP.puP fun h37 => ?_))) <;> refine KP.q QK.pk ?_ <;> refine KP.q QK.mv ?_ <;> (first | refine KP.gn ?_ | refine KP.gu ?_ | refine KP.qy QK.fa ?_ | ((first | refine KP.gsP (t := 39) ?_ ?_ | refine KP.gs (t := 39) ?_ ?_) <;> intro _ <;> first | contradiction | refine KP.gn ?_ | refine KP.qy QK.fa ?_)) <;> (first | refine KP.gn ?_ | refine KP.gu ?_ | refine KP.qy (by first | exact QY.same (QY.load_s rfl (Rd.own (by with_reducible first | exact k0 | exact k1 | exact k2 | exact k3 | exact k4 | exact k5 | exact k6 | exact k7 | exact k8 | exact k9 | fail)) (Reads.pt1 (by rfl))) hhv | exact QY.same (QY.load_s rfl (Rd.own (by with_reducible first | exact k0 | exact k1 | exact k2 | exact k3 | exact k4 | exact k5 | exact k6 | exact k7 | exact k8 | exact k9 | fail)) (Reads.pt1 (by rfl))) hev | exact QY.load_s rfl (Rd.ro m0) (Reads.pt1 (by rfl)) | exact QK.lds) ?_) <;> (first | refine KP.gn ?_ | refine KP.gu ?_ | refine KP.qy QK.not ?_) <;> (first | refine KP.gn ?_ | refine KP.gu ?_ | refine KP.qy QK.mv ?_) <;> (first | refine KP.gn ?_ | refine KP.gu ?_ | refine KP.qy QK.fa ?_ | ((first | refine KP.gsP (t := 43) ?_ ?_ | refine KP.gs (t := 43) ?_ ?_) <;> intro _ <;> first | contradiction | refine KP.gn ?_ | refine KP.qy QK.fa ?_)) <;> (first | refine KP.gn ?_ | refine KP.gu ?_ | refine KP.qy (by first | exact QY.same (QY.load_s rfl (Rd.own (by with_reducible first | exact k0 | exact k1 | exact k2 | exact k3 | exact k4 | exact k5 | exact k6 | exact k7 | exact k8 | exact k9 | fail)) (Reads.pt1 (by rfl))) hhv | exact QY.same (QY.load_s rfl (Rd.own (by with_reducible first | exact k0 | exact k1 | exact k2 | exact k3 | exact k4 | exact k5 | exact k6 | exact k7 | exact k8 | exact k9 | fail)) (Reads.pt1 (by rfl))) hev | exact QY.load_s rfl (Rd.ro m0) (Reads.pt1 (by rfl)) | exact QK.lds) ?_) <;> (first | refine KP.gn ?_ | refine KP.gu ?_ | refine KP.qy QK.fa ?_) <;> (first | refine KP.gn ?_ | refine KP.gu ?_ | refine KP.qy (by first | exact QY.same (QY.load_s rfl (Rd.own (by with_reducible first | exact k0 | exact k1 | exact k2 | exact k3 | exact k4 | exact k5 | exact k6 | exact k7 | exact k8 | exact k9 | fail)) (Reads.pt1 (by rfl))) hhv | exact QY.same (QY.load_s rfl (Rd.own (by with_reducible first | exact k0 | exact k1 | exact k2 | exact k3 | exact k4 | exact k5 | exact k6 | exact k7 | exact k8 | exact k9 | fail)) (Reads.pt1 (by rfl))) hev | exact QY.load_s rfl (Rd.ro m0) (Reads.pt1 (by rfl)) | exact QK.lds) ?_) <;> (first | refine KP.gn ?_ | refine KP.gu ?_ | refine KP.qy QK.geq ?_) <;> (first | refine KP.gn ?_ | refine KP.gu ?_ | refine KP.qy QK.pk ?_) <;> refine KP.q QK.pk ?_ <;> refine KP.list_nil ?_)
    | (refine CW.region (i := 7) ?_ <;> refine KP.q QK.as ?_ <;> refine KP.list_nil ?_)
    | ((with_reducible apply KP.fin1); (· rfl); (· rfl)))
        exact FA.ret
  · obtain rfl : i = shs.length := by omega
    have hany : (shs.any fun s => s.p.might x) = false := by
      rw [List.any_eq_false]
      intro s hs
      obtain ⟨j, hj⟩ := List.getElem?_of_mem hs
      simp [hb j s (List.getElem?_eq_some_iff.1 hj).1 hj]
    rw [hany]
    
    repeat' (first
    | (with_reducible refine CW.seq ?_)
    | (with_reducible refine KP.then_code ?_)
    | (with_reducible refine CW.skip ?_)
    | (with_reducible refine CW.ret ?_)
    | (with_reducible refine KP.then_ret ?_)
    | (with_reducible refine KP.block_ret ?_)
    | (with_reducible refine CW.block ?_)
    | (with_reducible refine KP.block_normal ?_)
    | (with_reducible refine CW.exit ?_)
    | (with_reducible refine KP.then_exit ?_)
    | (with_reducible refine KP.block_hit ?_)
    | refine KP.bm ?_
    | refine CW.ct ?_
    | refine CW.cf ?_
    | (refine CW.cP ?_ ?_ <;> intro _ <;> try contradiction)
    | (refine CW.cs ?_ ?_ <;> intro _ <;> try contradiction)
    | (refine CW.region (i := 2) ?_ <;> refine KP.q QK.mv ?_ <;> refine KP.q QK.mv ?_ <;> refine KP.q QK.nc ?_ <;> refine KP.q QK.fa ?_ <;> refine KP.q (by first | exact QY.same (QY.load_s rfl (Rd.own (by with_reducible first | exact k0 | exact k1 | exact k2 | exact k3 | exact k4 | exact k5 | exact k6 | exact k7 | exact k8 | exact k9 | fail)) (Reads.pt1 (by rfl))) hhv | exact QY.same (QY.load_s rfl (Rd.own (by with_reducible first | exact k0 | exact k1 | exact k2 | exact k3 | exact k4 | exact k5 | exact k6 | exact k7 | exact k8 | exact k9 | fail)) (Reads.pt1 (by rfl))) hev | exact QY.load_s rfl (Rd.ro m0) (Reads.pt1 (by rfl)) | exact QK.lds) ?_ <;> refine KP.q (by first | exact QY.len_row rfl (Rd.ro m1) RowL.rrow | exact QY.len_row rfl (Rd.ro m3) (RowL.big hs w_row) | exact QY.len_row rfl (Rd.ro m1) RowL.rrow | exact QK.len) ?_ <;> refine KP.q QK.lss ?_ <;> refine KP.list_nil ?_)
    | (refine CW.region (i := 8) ?_ <;> refine KP.q QK.as ?_ <;> refine KP.list_nil ?_)
    | ((with_reducible apply KP.fin1); (· rfl); (· rfl)))
    exact FA.ret

end Go.Proofs.Ytpmhelfdmhjnbaa
