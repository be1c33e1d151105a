import Derived.Test.YtpmhelfdmhjnbaaM3
/- The merge: After, Wants, New; each with the merge as one thing. -/
namespace Go.Proofs.Ytpmhelfdmhjnbaa
open Go Go.Ink
set_option linter.unusedVariables false
set_option linter.unusedSimpArgs false
attribute [local irreducible] KP QY EW CW DW QG CP Spc DK Fina wpList lessF

abbrev rAf (x : Item) (b : Bool) : Value := .tuple #[Iv x, .bool b]
theorem after_nil {i : Int} : Spc Try.prog 69 #[.pointer none, iv i] [] [] (ret (rAf Item.zero false) []) := by
  refine Spc.enter' (args := [.pointer none, iv i]) (T0 := [(0, .pointer none), (1, iv i)]) Try.func69 rfl Try.ntmps69 (Nat.le_of_ble_eq_true rfl) rfl ?_
  intro w0 own
  
  repeat' (first
    | (with_reducible refine CW.seq ?_)
    | (with_reducible refine KP.then_code ?_)
    | (with_reducible refine CW.skip ?_)
    | (with_reducible refine CW.ret ?_)
    | (with_reducible refine KP.then_ret ?_)
    | (with_reducible refine KP.block_ret ?_)
    | (with_reducible refine CW.block ?_)
    | (with_reducible refine KP.block_normal ?_)
    | (with_reducible refine CW.exit ?_)
    | (with_reducible refine KP.then_exit ?_)
    | (with_reducible refine KP.block_hit ?_)
    | refine KP.bm ?_
    | refine CW.ct ?_
    | refine CW.cf ?_
    | (refine CW.cP ?_ ?_ <;> intro _ <;> try contradiction)
    | (refine CW.cs ?_ ?_ <;> intro _ <;> try contradiction)
    | (refine CW.region (i := 0) ?_ <;> (refine KP.e ?_; (refine EK.alloc ?_; intro b4)) <;> refine KP.q QK.as ?_ <;> refine KP.list_nil ?_)
    | (refine CW.region (i := 1) ?_ <;> refine KP.q QK.mv ?_ <;> refine KP.q QK.mv ?_ <;> (refine KP.e ?_; ((refine EK.call (get_nil) ?_); repeat' first | refine CP.r ?_ | refine CP.r0 ?_ | refine CP.exP fun e9 => ?_ | refine CP.puP fun h9 => ?_)) <;> refine KP.q QK.as ?_ <;> refine KP.list_nil ?_)
    | (refine CW.region (i := 2) ?_ <;> refine KP.q QK.mv ?_ <;> refine KP.q QK.nep ?_ <;> refine KP.list_nil ?_)
    | (refine CW.region (i := 4) ?_ <;> refine KP.q QK.bd ?_ <;> (refine KP.e ?_; (first | refine EK.st_a ?_ | refine EK.st_ra ?_ | refine EK.st_p ?_)) <;> refine KP.q QK.as ?_ <;> refine KP.list_nil ?_)
    | ((with_reducible apply KP.fin_ct (p := 4) (u := 5) (ty := 39)); (· rfl); (· rfl); (· rfl); (· exact (Rd.own (by with_reducible first | exact k0 | exact k1 | exact k2 | exact k3 | exact k4 | exact k5 | exact k6 | exact k7 | exact k8 | exact k9 | fail))); (· rfl)))
  exact FA.ret

theorem after_none {m : Nat} {n i : Int} {sv tv : Value} {shs : List Sh} {told : List Item} (h : i < 0 ∨ (shs.length : Int) ≤ i) : Spc Try.prog 69 #[qp m, iv i] (mros m n sv tv shs told) [] (ret (rAf Item.zero false) []) := by
  refine Spc.enter' (args := [qp m, iv i]) (T0 := [(0, qp m), (1, iv i)]) Try.func69 rfl Try.ntmps69 (Nat.le_of_ble_eq_true rfl) rfl ?_
  intro w0 own
  
  repeat' (first
    | (with_reducible refine CW.seq ?_)
    | (with_reducible refine KP.then_code ?_)
    | (with_reducible refine CW.skip ?_)
    | (with_reducible refine CW.ret ?_)
    | (with_reducible refine KP.then_ret ?_)
    | (with_reducible refine KP.block_ret ?_)
    | (with_reducible refine CW.block ?_)
    | (with_reducible refine KP.block_normal ?_)
    | (with_reducible refine CW.exit ?_)
    | (with_reducible refine KP.then_exit ?_)
    | (with_reducible refine KP.block_hit ?_)
    | refine KP.bm ?_
    | refine CW.ct ?_
    | refine CW.cf ?_
    | (refine CW.cP ?_ ?_ <;> intro _ <;> try contradiction)
    | (refine CW.cs ?_ ?_ <;> intro _ <;> try contradiction)
    | (refine CW.region (i := 0) ?_ <;> (refine KP.e ?_; (refine EK.alloc ?_; intro b4)) <;> refine KP.q QK.as ?_ <;> refine KP.list_nil ?_)
    | (refine CW.region (i := 1) ?_ <;> refine KP.q QK.mv ?_ <;> refine KP.q QK.mv ?_ <;> (refine KP.e ?_; ((refine EK.call (get_none (tv := tv) (n := n) h) ?_); repeat' first | refine CP.r ?_ | refine CP.r0 ?_ | refine CP.exP fun e9 => ?_ | refine CP.puP fun h9 => ?_)) <;> refine KP.q QK.as ?_ <;> refine KP.list_nil ?_)
    | (refine CW.region (i := 2) ?_ <;> refine KP.q QK.mv ?_ <;> refine KP.q QK.nep ?_ <;> refine KP.list_nil ?_)
    | (refine CW.region (i := 4) ?_ <;> refine KP.q QK.bd ?_ <;> (refine KP.e ?_; (first | refine EK.st_a ?_ | refine EK.st_ra ?_ | refine EK.st_p ?_)) <;> refine KP.q QK.as ?_ <;> refine KP.list_nil ?_)
    | ((with_reducible apply KP.fin_ct (p := 4) (u := 5) (ty := 39)); (· rfl); (· rfl); (· rfl); (· exact (Rd.own (by with_reducible first | exact k0 | exact k1 | exact k2 | exact k3 | exact k4 | exact k5 | exact k6 | exact k7 | exact k8 | exact k9 | fail))); (· rfl)))
  exact FA.ret

theorem after_some {m i : Nat} {n : Int} {sv tv : Value} {shs : List Sh} {told : List Item} {s : Sh} (h : shs[i]? = some s) : Spc Try.prog 69 #[qp m, iv i] (mros m n sv tv shs told) [] (ret (rAf s.p.last s.p.heard) []) := by
  refine Spc.enter' (args := [qp m, iv i]) (T0 := [(0, qp m), (1, iv i)]) Try.func69 rfl Try.ntmps69 (Nat.le_of_ble_eq_true rfl) rfl ?_
  intro w0 own
  have hlt : i < shs.length := (List.getElem?_eq_some_iff.1 h).1
  
  
  
  repeat' (first
    | (with_reducible refine CW.seq ?_)
    | (with_reducible refine KP.then_code ?_)
    | (with_reducible refine CW.skip ?_)
    | (with_reducible refine CW.ret ?_)
    | (with_reducible refine KP.then_ret ?_)
    | (with_reducible refine KP.block_ret ?_)
    | (with_reducible refine CW.block ?_)
    | (with_reducible refine KP.block_normal ?_)
    | (with_reducible refine CW.exit ?_)
    | (with_reducible refine KP.then_exit ?_)
    | (with_reducible refine KP.block_hit ?_)
    | refine KP.bm ?_
    | refine CW.ct ?_
    | refine CW.cf ?_
    | (refine CW.cP ?_ ?_ <;> intro _ <;> try contradiction)
    | (refine CW.cs ?_ ?_ <;> intro _ <;> try contradiction)
    | (refine CW.region (i := 0) ?_ <;> (refine KP.e ?_; (refine EK.alloc ?_; intro b4)) <;> refine KP.q QK.as ?_ <;> refine KP.list_nil ?_)
    | (refine CW.region (i := 1) ?_ <;> refine KP.q QK.mv ?_ <;> refine KP.q QK.mv ?_ <;> (refine KP.e ?_; ((refine EK.call (get_some (tv := tv) (n := n) hlt) ?_); repeat' first | refine CP.r ?_ | refine CP.r0 ?_ | refine CP.exP fun e9 => ?_ | refine CP.puP fun h9 => ?_)) <;> refine KP.q QK.as ?_ <;> refine KP.list_nil ?_)
    | (refine CW.region (i := 2) ?_ <;> refine KP.q QK.mv ?_ <;> refine KP.q QK.nep ?_ <;> refine KP.list_nil ?_)
    | (((with_reducible refine CW.draw (i := 3) ?_ [[], [0], [0, 1], [0, 1, 2], [], [4], [4, 5], [4, 5, 6], [0, 1, 2, 3], [0, 1, 2, 3, 4, 5, 6, 7, 8]] ?_ ?_ ?_ ?_); (· rfl); (· kernel_rfl); (· kernel_rfl); (· repeat (first | exact NoHang.post | refine NoHang.then ?_ | refine NoHang.block ?_))) <;> refine DW.p 0 rfl (fun _ => QK.mv) ?_ <;> refine DW.p 1 rfl (fun _ => QK.nc) ?_ <;> refine DW.p 2 rfl (fun _ => QK.fa) ?_ <;> refine DW.p 4 rfl (fun _ => QK.mv) ?_ <;> refine DW.p 5 rfl (fun _ => QK.nc) ?_ <;> refine DW.p 6 rfl (fun _ => QK.fa) ?_ <;> refine DW.m 3 rfl (by first | exact QY.load_a rfl (Rd.ro m1) (Reads.sub (o := 4) (k := 2) (ds := eI s.p.last) (Reads.row RowL.rrow h) rfl) rfl | exact QK.lda) ?_ <;> refine DW.m 7 rfl (by first | exact QY.load_s rfl (Rd.ro m1) (Reads.row1 RowL.rrow h rfl) | exact QK.lds) ?_ <;> (refine DW.ex 8 rfl ?_; intro hdk; (first | refine EK.st_a ?_ | refine EK.st_ra ?_ | refine EK.st_p ?_); all_goals (refine DK.mk hdk (by refine Ob.ap rfl (by first | exact QY.load_s rfl (Rd.ro m1) (Reads.row1 RowL.rrow h rfl) | exact QK.lds) ?_; exact .nil) ?_; clear hdk)) <;> refine DW.p 9 rfl (fun _ => QK.as) ?_ <;> refine DW.zz ?_)
    | ((with_reducible apply KP.fin_ct (p := 4) (u := 5) (ty := 39)); (· rfl); (· rfl); (· rfl); (· exact (Rd.own (by with_reducible first | exact k0 | exact k1 | exact k2 | exact k3 | exact k4 | exact k5 | exact k6 | exact k7 | exact k8 | exact k9 | fail))); (· rfl)))
  exact FA.ret

/-- The shards, up to one, whose next batch is wanted. -/
def wantsU (shs : List PSh) (i : Nat) : List Int := ((List.range i).filter fun j => match shs[j]? with | some s => s.wanted | none => false).map fun j : Nat => (j : Int)
theorem wantsU_step {shs : List PSh} {i : Nat} {s : PSh} (h : shs[i]? = some s) : wantsU shs (i + 1) = wantsU shs i ++ (if s.wanted then [(i : Int)] else []) := by
  unfold wantsU
  rw [List.range_succ, List.filter_append, List.map_append]
  congr 1
  simp only [List.filter_cons, List.filter_nil, h]
  split <;> rfl
theorem wantsU_len (shs : List PSh) (i : Nat) : (wantsU shs i).length ≤ i := by
  unfold wantsU
  rw [List.length_map]
  exact Nat.le_trans (List.length_filter_le _ _) (by simp)
theorem wants_nil : Spc Try.prog 58 #[.pointer none] [] [] (ret (.slice none 0 0) []) := by
  refine Spc.enter' (args := [.pointer none]) (T0 := [(0, .pointer none)]) Try.func58 rfl Try.ntmps58 (Nat.le_of_ble_eq_true rfl) rfl ?_
  intro w0 own
  repeat' (first
    | (with_reducible refine CW.seq ?_)
    | (with_reducible refine KP.then_code ?_)
    | (with_reducible refine CW.skip ?_)
    | (with_reducible refine CW.ret ?_)
    | (with_reducible refine KP.then_ret ?_)
    | (with_reducible refine KP.block_ret ?_)
    | (with_reducible refine CW.block ?_)
    | (with_reducible refine KP.block_normal ?_)
    | (with_reducible refine CW.exit ?_)
    | (with_reducible refine KP.then_exit ?_)
    | (with_reducible refine KP.block_hit ?_)
    | refine KP.bm ?_
    | refine CW.ct ?_
    | refine CW.cf ?_
    | (refine CW.cP ?_ ?_ <;> intro _ <;> try contradiction)
    | (refine CW.cs ?_ ?_ <;> intro _ <;> try contradiction)
    | (refine CW.region (i := 0) ?_ <;> refine KP.q QK.as ?_ <;> refine KP.list_nil ?_)
    | (refine CW.region (i := 1) ?_ <;> refine KP.q QK.mv ?_ <;> refine KP.q QK.eqp ?_ <;> refine KP.q QK.mv ?_ <;> (first | refine KP.gn ?_ | refine KP.gu ?_ | refine KP.qy QK.mv ?_ | ((first | refine KP.gsP (t := 7) ?_ ?_ | refine KP.gs (t := 7) ?_ ?_) <;> intro _ <;> first | contradiction | refine KP.gn ?_ | refine KP.qy QK.mv ?_)) <;> (first | refine KP.gn ?_ | refine KP.gu ?_ | (refine KP.gy ?_; refine KP.e ?_; ((fail "no rule f70"); repeat' first | refine CP.r ?_ | refine CP.r0 ?_ | refine CP.exP fun e9 => ?_ | refine CP.puP fun h9 => ?_))) <;> refine KP.q QK.pk ?_ <;> refine KP.list_nil ?_)
    | (refine CW.region (i := 2) ?_ <;> refine KP.q QK.as ?_ <;> refine KP.list_nil ?_)
    | ((with_reducible apply KP.fin1); (· rfl); (· rfl)))
  exact FA.ret
theorem map_at {α β : Type} {f : α → β} {l : List α} {i : Nat} {x : α} (h : l[i]? = some x) : (l.map f)[i]? = some (f x) := by simp [h]
theorem wants_spec {m : Nat} {n : Int} {sv tv : Value} {shs : List Sh} {told : List Item} (hl : shs.length ≤ 1000) : Spc Try.prog 58 #[qp m] (mros m n sv tv shs told) [] (exP fun v' => puP (v'.oneCell' = true) (ret v' [row 3 1 eN v' (if doneF n shs told then [] else wantsU (shs.map Sh.p) shs.length)])) := by
  refine Spc.enter' (args := [qp m]) (T0 := [(0, qp m)]) Try.func58 rfl Try.ntmps58 (Nat.le_of_ble_eq_true rfl) rfl ?_
  intro w0 own
  
  
  repeat' (first
    | (with_reducible refine CW.seq ?_)
    | (with_reducible refine KP.then_code ?_)
    | (with_reducible refine CW.skip ?_)
    | (with_reducible refine CW.ret ?_)
    | (with_reducible refine KP.then_ret ?_)
    | (with_reducible refine KP.block_ret ?_)
    | (with_reducible refine CW.block ?_)
    | (with_reducible refine KP.block_normal ?_)
    | (with_reducible refine CW.exit ?_)
    | (with_reducible refine KP.then_exit ?_)
    | (with_reducible refine KP.block_hit ?_)
    | refine KP.bm ?_
    | refine CW.ct ?_
    | refine CW.cf ?_
    | (refine CW.cP ?_ ?_ <;> intro _ <;> try contradiction)
    | (refine CW.cs ?_ ?_ <;> intro _ <;> try contradiction)
    | (refine CW.region (i := 0) ?_ <;> refine KP.q QK.as ?_ <;> refine KP.list_nil ?_)
    | (refine CW.region (i := 1) ?_ <;> refine KP.q QK.mv ?_ <;> refine KP.q QK.eqp ?_ <;> refine KP.q QK.mv ?_ <;> (first | refine KP.gn ?_ | refine KP.gu ?_ | refine KP.qy QK.mv ?_ | ((first | refine KP.gsP (t := 7) ?_ ?_ | refine KP.gs (t := 7) ?_ ?_) <;> intro _ <;> first | contradiction | refine KP.gn ?_ | refine KP.qy QK.mv ?_)) <;> (first | refine KP.gn ?_ | refine KP.gu ?_ | (refine KP.gy ?_; refine KP.e ?_; ((refine EK.call (done_spec) ?_); repeat' first | refine CP.r ?_ | refine CP.r0 ?_ | refine CP.exP fun e9 => ?_ | refine CP.puP fun h9 => ?_))) <;> refine KP.q QK.pk ?_ <;> refine KP.list_nil ?_)
    | (refine CW.region (i := 2) ?_ <;> refine KP.q QK.as ?_ <;> refine KP.list_nil ?_)
    | (refine CW.region (i := 3) ?_ <;> refine KP.q QK.as ?_ <;> refine KP.list_nil ?_)
    | (refine CW.region (i := 4) ?_ <;> refine KP.q QK.mv ?_ <;> refine KP.q QK.nc ?_ <;> refine KP.q QK.fa ?_ <;> refine KP.q (by first | exact QY.load_s rfl (Rd.ro m0) (Reads.pt1 (by rfl)) | exact QK.lds) ?_ <;> refine KP.q QK.len ?_ <;> refine KP.q QK.mv ?_ <;> refine KP.list_nil ?_)
    | ((with_reducible apply KP.fin1); (· rfl); (· rfl)))
  · rename_i h
    rw [if_pos h]
    exact Fina.exP _ (Fina.puP rfl (Fina.add (B := row 3 1 eN (.slice none 0 0) []) row.none FA.ret))
  rename_i h
  rw [h, if_neg (by simp)]
  refine CW.add (B := row 3 1 eN (.slice none 0 0) (wantsU (shs.map Sh.p) 0)) row.none ?_
  refine CA.loop (X := Nat × Value) (fun z => [(0, qp m), (15, iv shs.length), (16, iv z.1), (3, z.2)]) (fun z => [row 3 1 eN z.2 (wantsU (shs.map Sh.p) z.1)]) (fun z => z.1 ≤ shs.length ∧ z.2.oneCell' = true) (fun z => shs.length - z.1) (0, .slice none 0 0) ⟨by simp, rfl⟩ ?_
  rintro ⟨i, v⟩ ⟨hi, hv⟩
  try dsimp only at hi hv ⊢
  rcases Nat.lt_or_ge i shs.length with hlt | hge
  · obtain ⟨s, hs⟩ := at_lt hlt
    have hst := wantsU_step (map_at (f := Sh.p) hs)
    have hwl := wantsU_len (shs.map Sh.p) i
    
    
    repeat' (first
    | (with_reducible refine CW.seq ?_)
    | (with_reducible refine KP.then_code ?_)
    | (with_reducible refine CW.skip ?_)
    | (with_reducible refine CW.ret ?_)
    | (with_reducible refine KP.then_ret ?_)
    | (with_reducible refine KP.block_ret ?_)
    | (with_reducible refine CW.block ?_)
    | (with_reducible refine KP.block_normal ?_)
    | (with_reducible refine CW.exit ?_)
    | (with_reducible refine KP.then_exit ?_)
    | (with_reducible refine KP.block_hit ?_)
    | refine KP.bm ?_
    | refine CW.ct ?_
    | refine CW.cf ?_
    | (refine CW.cP ?_ ?_ <;> intro _ <;> try contradiction)
    | (refine CW.cs ?_ ?_ <;> intro _ <;> try contradiction)
    | (refine CW.region (i := 5) ?_ <;> refine KP.q QK.lss ?_ <;> refine KP.list_nil ?_)
    | (refine CW.region (i := 6) ?_ <;> refine KP.q QK.mv ?_ <;> refine KP.q QK.as ?_ <;> refine KP.list_nil ?_)
    | (refine CW.region (i := 7) ?_ <;> refine KP.q QK.mv ?_ <;> refine KP.q QK.nc ?_ <;> refine KP.q QK.fa ?_ <;> refine KP.q (by first | exact QY.load_s rfl (Rd.ro m0) (Reads.pt1 (by rfl)) | exact QK.lds) ?_ <;> refine KP.q QK.mv ?_ <;> refine KP.q QK.ia ?_ <;> (refine KP.e ?_; ((refine EK.call (wanted_spec (Reads.row RowL.rrow hs) hs) ?_); repeat' first | refine CP.r ?_ | refine CP.r0 ?_ | refine CP.exP fun e25 => ?_ | refine CP.puP fun h25 => ?_)) <;> refine KP.list_nil ?_)
    | (refine CW.region (i := 8) ?_ <;> refine KP.q QK.mv ?_ <;> refine KP.q QK.mv ?_ <;> (refine KP.e ?_; ((first | refine EW.buildSlice1_s (by decide) rfl (by first | rfl | assumption) rfl ?_ | refine EW.buildSlice1_a (by decide) rfl (by rfl) (by rfl) (by decide) (by decide) ?_); intro b28)) <;> (refine KP.e ?_; (first | (refine EK.app1 (enc := eN) (i : Int) ?_; intro w29 o29) | (refine EK.app1 _ ?_; intro w29 o29))) <;> refine KP.q QK.as ?_ <;> refine KP.list_nil ?_)
    | (refine CW.region (i := 9) ?_ <;> refine KP.q QK.add ?_ <;> refine KP.q QK.mv ?_ <;> refine KP.list_nil ?_)
    | ((with_reducible apply KP.fin1); (· rfl); (· rfl)))
    · rename_i hw
      rw [hw, if_pos rfl] at hst
      rw [← hst]
      exact KA.round (i + 1, w29) ⟨by simp only; omega, by assumption⟩
    · rename_i hw
      rw [hw, if_neg (by simp), List.append_nil] at hst
      rw [← hst]
      exact KA.round (i + 1, v) ⟨by simp only; omega, hv⟩
  · obtain rfl : i = shs.length := by omega
    repeat' (first
    | (with_reducible refine CW.seq ?_)
    | (with_reducible refine KP.then_code ?_)
    | (with_reducible refine CW.skip ?_)
    | (with_reducible refine CW.ret ?_)
    | (with_reducible refine KP.then_ret ?_)
    | (with_reducible refine KP.block_ret ?_)
    | (with_reducible refine CW.block ?_)
    | (with_reducible refine KP.block_normal ?_)
    | (with_reducible refine CW.exit ?_)
    | (with_reducible refine KP.then_exit ?_)
    | (with_reducible refine KP.block_hit ?_)
    | refine KP.bm ?_
    | refine CW.ct ?_
    | refine CW.cf ?_
    | (refine CW.cP ?_ ?_ <;> intro _ <;> try contradiction)
    | (refine CW.cs ?_ ?_ <;> intro _ <;> try contradiction)
    | (refine CW.region (i := 5) ?_ <;> refine KP.q QK.lss ?_ <;> refine KP.list_nil ?_)
    | (refine CW.region (i := 10) ?_ <;> refine KP.q QK.mv ?_ <;> refine KP.q QK.as ?_ <;> refine KP.list_nil ?_)
    | ((with_reducible apply KP.fin1); (· rfl); (· rfl)))
    exact Fina.exP _ (Fina.puP hv FA.ret)


/-! ### the merge as one thing -/
structure MS where
  n : Int
  shs : List PSh
  told : List Item
  deriving DecidableEq
structure MS.Wf (st : MS) : Prop where
  n1 : 1 ≤ st.n
  n10 : st.n ≤ 10
  told : (st.told.length : Int) ≤ st.n
  shs : st.shs.length ≤ 6
  waits : ∀ s ∈ st.shs, s.waits.length ≤ 5
def MS.done (st : MS) : Bool := decide ((st.told.length : Int) = st.n) || !(st.shs.any PSh.busy)
def MS.wants (st : MS) : List Int := if st.done then [] else wantsU st.shs st.shs.length
def Mg (m : Nat) (st : MS) : Asrt := fun h => ∃ z : Value × Value × List Sh, (st.Wf ∧ z.2.2.map Sh.p = st.shs ∧ z.1.oneCell' = true ∧ z.2.1.oneCell' = true) ∧ SatL [pt m 101 [iv st.n, z.1, z.2.1], row 103 7 eSh z.1 z.2.2, row 39 2 eI z.2.1 st.told, wl z.2.2] h
theorem Mg.intro {m : Nat} {st : MS} {n : Int} {sv tv : Value} {shs : List Sh} {told : List Item} (hn : n = st.n) (hw : st.Wf) (hs : shs.map Sh.p = st.shs) (ht : told = st.told) (o1 : sv.oneCell' = true) (o2 : tv.oneCell' = true) : ∀ h, SatL [pt m 101 [iv n, sv, tv], row 103 7 eSh sv shs, row 39 2 eI tv told, wl shs] h → Mg m st h := fun h s => by
  subst hn; subst ht; exact ⟨(sv, tv, shs), ⟨hw, hs, o1, o2⟩, s⟩
theorem KP.mg {c : Cx} {N : Nat} {T : Tm} {L : List Asrt} {K : Act → World → Prop} {m : Nat} {st : MS} (h : ∀ sv tv shs, st.Wf → shs.map Sh.p = st.shs → sv.oneCell' = true → tv.oneCell' = true → KP c N T (pt m 101 [iv st.n, sv, tv] :: row 103 7 eSh sv shs :: row 39 2 eI tv st.told :: wl shs :: L) K) : KP c N T (Mg m st :: L) K :=
  KP.open1 (fun _ x => x) fun z hz => h z.1 z.2.1 z.2.2 hz.1 hz.2.1 hz.2.2.1 hz.2.2.2
theorem CW.mg {P : Program} {c : Cx} {N : Nat} {T : Tm} {L : List Asrt} {R : Exit → Act → World → Prop} {code : Code} {m : Nat} {st : MS} (h : ∀ sv tv shs, st.Wf → shs.map Sh.p = st.shs → sv.oneCell' = true → tv.oneCell' = true → CW P c N T (pt m 101 [iv st.n, sv, tv] :: row 103 7 eSh sv shs :: row 39 2 eI tv st.told :: wl shs :: L) code R) : CW P c N T (Mg m st :: L) code R :=
  CW.kp (KP.mg fun sv tv shs a b d e => CW.pk (h sv tv shs a b d e))
theorem Mg.wf {m : Nat} {st : MS} : ∀ h, Mg m st h → st.Wf := fun h ⟨_, hz, _⟩ => hz.1
theorem done_eq {st : MS} {shs : List Sh} (h : shs.map Sh.p = st.shs) : doneF st.n shs st.told = st.done := by
  unfold doneF MS.done
  rw [← h, List.any_map]; rfl
theorem mros_ok {m : Nat} {n : Int} {sv tv : Value} {shs : List Sh} {told : List Item} {h : Frag} (s : SatL [pt m 101 [iv n, sv, tv], row 103 7 eSh sv shs, row 39 2 eI tv told, wl shs] h) : ∀ B ∈ mros m n sv tv shs told, ∃ hr, B hr ∧ Leq hr h := by
  have p := s.parts
  intro B hB
  simp only [mros, List.mem_cons, List.not_mem_nil, or_false] at hB
  rcases hB with rfl | rfl | rfl | rfl
  · exact p _ (by simp)
  · obtain ⟨k, hk, le⟩ := p (row 103 7 eSh sv shs) (by simp); exact ⟨k, row.rrow k hk, le⟩
  · obtain ⟨k, hk, le⟩ := p (row 39 2 eI tv told) (by simp); exact ⟨k, row.rrow k hk, le⟩
  · exact p _ (by simp)
theorem doneM {m : Nat} {st : MS} : Spc Try.prog 70 #[qp m] [] [Mg m st] (ret (.bool st.done) [Mg m st]) :=
  Spc.mine0 fun h ⟨z, hz, s⟩ => ⟨_, done_eq hz.2.1 ▸ done_spec (sv := z.1) (tv := z.2.1), mros_ok s⟩
theorem map_at_inv {st : MS} {shs : List Sh} (h : shs.map Sh.p = st.shs) {i : Nat} {p : PSh} (hp : st.shs[i]? = some p) : ∃ s, shs[i]? = some s ∧ s.p = p := by
  rw [← h, List.getElem?_map] at hp
  cases e : shs[i]? with
  | none => simp [e] at hp
  | some s => simp [e] at hp; exact ⟨s, rfl, hp⟩
theorem seqM {m i : Nat} {st : MS} {p : PSh} (hp : st.shs[i]? = some p) : Spc Try.prog 59 #[qp m, iv i] [] [Mg m st] (ret (iv p.seq) [Mg m st]) :=
  Spc.mine0 fun h ⟨z, hz, s⟩ => by
    obtain ⟨sh, h1, rfl⟩ := map_at_inv hz.2.1 hp
    exact ⟨_, seq_some (m := m) (n := st.n) (sv := z.1) (tv := z.2.1) (told := st.told) h1, mros_ok s⟩
theorem seqM_none {m : Nat} {i : Int} {st : MS} (hi : i < 0 ∨ (st.shs.length : Int) ≤ i) : Spc Try.prog 59 #[qp m, iv i] [] [Mg m st] (ret (iv 0) [Mg m st]) :=
  Spc.mine0 fun h ⟨z, hz, s⟩ => by
    rw [← hz.2.1, List.length_map] at hi
    exact ⟨_, seq_none (m := m) (n := st.n) (sv := z.1) (tv := z.2.1) (told := st.told) hi, mros_ok s⟩
theorem afterM {m i : Nat} {st : MS} {p : PSh} (hp : st.shs[i]? = some p) : Spc Try.prog 69 #[qp m, iv i] [] [Mg m st] (ret (rAf p.last p.heard) [Mg m st]) :=
  Spc.mine0 fun h ⟨z, hz, s⟩ => by
    obtain ⟨sh, h1, rfl⟩ := map_at_inv hz.2.1 hp
    exact ⟨_, after_some (m := m) (n := st.n) (sv := z.1) (tv := z.2.1) (told := st.told) h1, mros_ok s⟩
theorem afterM_none {m : Nat} {i : Int} {st : MS} (hi : i < 0 ∨ (st.shs.length : Int) ≤ i) : Spc Try.prog 69 #[qp m, iv i] [] [Mg m st] (ret (rAf Item.zero false) [Mg m st]) :=
  Spc.mine0 fun h ⟨z, hz, s⟩ => by
    rw [← hz.2.1, List.length_map] at hi
    exact ⟨_, after_none (m := m) (n := st.n) (sv := z.1) (tv := z.2.1) (told := st.told) hi, mros_ok s⟩
theorem wantsM {m : Nat} {st : MS} : Spc Try.prog 58 #[qp m] [] [Mg m st] (exP fun v' => puP (v'.oneCell' = true) (ret v' [Mg m st, row 3 1 eN v' st.wants])) :=
  Spc.mine1 fun h ⟨z, hz, s⟩ => by
    have hl : z.2.2.length ≤ 1000 := by
      have := hz.1.shs
      rw [← hz.2.1, List.length_map] at this; omega
    refine ⟨_, ?_, mros_ok s⟩
    have := wants_spec (m := m) (n := st.n) (sv := z.1) (tv := z.2.1) (told := st.told) hl
    rw [done_eq hz.2.1, hz.2.1, show z.2.2.length = st.shs.length by rw [← hz.2.1, List.length_map]] at this
    exact this
theorem toldM {m : Nat} {st : MS} : Spc Try.prog 61 #[qp m] [] [Mg m st] (exP fun v' => puP (v'.oneCell' = true) (ret v' [Mg m st, row 39 2 eI v' st.told])) :=
  Spc.mine1 fun h ⟨z, hz, s⟩ => ⟨_, told_spec (m := m) (n := st.n) (sv := z.1) (tv := z.2.1) (shs := z.2.2) (by have := hz.1.told; have := hz.1.n10; omega), mros_ok s⟩
end Go.Proofs.Ytpmhelfdmhjnbaa
