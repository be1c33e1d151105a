import Derived.Test.YtpmhelfdmhjnbaaM2
/- The merge: Done, Seq, After, Told. -/
namespace Go.Proofs.Ytpmhelfdmhjnbaa
open Go Go.Ink
set_option linter.unusedVariables false
set_option linter.unusedSimpArgs false
attribute [local irreducible] KP QY EW CW DW QG CP Spc DK Fina wpList lessF

abbrev fnv (g : Nat) (caps : List Value) : Value := .func (.func g) #[] caps.toArray
theorem any_take {α : Type} {p : α → Bool} {xs : List α} {i : Nat} {x : α} (hb : ∀ c ∈ xs.take i, p c = false) (hx : xs[i]? = some x) (hp : p x = false) : ∀ c ∈ xs.take (i + 1), p c = false := fun d hd => by
  rw [List.take_add_one, hx] at hd
  rcases List.mem_append.1 hd with hd | hd
  · exact hb d hd
  · simp at hd; subst hd; exact hp
theorem index_spec {g : Nat} [FunI Try.prog g] {caps : List Value} {ros : List Asrt} {p : Sh → Bool} {sv : Value} {shs : List Sh}
    (hclo : ∀ (i : Nat) (s : Sh), shs[i]? = some s → Spc Try.prog g ([Value.agg (eSh s).toArray] ++ caps).toArray ros [] (ret (.bool (p s)) [])) : Spc Try.prog 110 #[sv, fnv g caps] (rrow 7 eSh sv shs :: ros) [] (exP fun r => puP (decide (0 ≤ r) = shs.any p) (ret (iv r) [])) := by
  refine Spc.enter' (args := [sv, fnv g caps]) (T0 := [(0, sv), (1, fnv g caps)]) Try.func110 rfl Try.ntmps110 (Nat.le_of_ble_eq_true rfl) rfl ?_
  intro w0 own
  refine CW.roFact (List.Mem.head _) (fun _ h => rrow.le h) fun hxs => ?_
  repeat' (first
    | (with_reducible refine CW.seq ?_)
    | (with_reducible refine KP.then_code ?_)
    | (with_reducible refine CW.skip ?_)
    | (with_reducible refine CW.ret ?_)
    | (with_reducible refine KP.then_ret ?_)
    | (with_reducible refine KP.block_ret ?_)
    | (with_reducible refine CW.block ?_)
    | (with_reducible refine KP.block_normal ?_)
    | (with_reducible refine CW.exit ?_)
    | (with_reducible refine KP.then_exit ?_)
    | (with_reducible refine KP.block_hit ?_)
    | refine KP.bm ?_
    | refine CW.ct ?_
    | refine CW.cf ?_
    | (refine CW.cP ?_ ?_ <;> intro _ <;> try contradiction)
    | (refine CW.cs ?_ ?_ <;> intro _ <;> try contradiction)
    | (refine CW.region (i := 0) ?_ <;> refine KP.q QK.as ?_ <;> refine KP.list_nil ?_)
    | (refine CW.region (i := 1) ?_ <;> refine KP.q QK.mv ?_ <;> refine KP.q QK.len ?_ <;> refine KP.q QK.mv ?_ <;> refine KP.list_nil ?_)
    | ((with_reducible apply KP.fin1); (· rfl); (· rfl)))
  refine CA.loop (X := Nat) (fun i => [(0, sv), (1, fnv g caps), (7, iv shs.length), (8, iv i)]) (fun _ => []) (fun i => i ≤ shs.length ∧ ∀ c ∈ shs.take i, p c = false) (fun i => shs.length - i) 0 ⟨by simp, by simp⟩ ?_
  rintro i ⟨hi, hb⟩
  try dsimp only at hi hb ⊢
  
  rcases Nat.lt_or_ge i shs.length with hlt | hge
  · obtain ⟨s, hs⟩ := at_lt hlt
    repeat' (first
    | (with_reducible refine CW.seq ?_)
    | (with_reducible refine KP.then_code ?_)
    | (with_reducible refine CW.skip ?_)
    | (with_reducible refine CW.ret ?_)
    | (with_reducible refine KP.then_ret ?_)
    | (with_reducible refine KP.block_ret ?_)
    | (with_reducible refine CW.block ?_)
    | (with_reducible refine KP.block_normal ?_)
    | (with_reducible refine CW.exit ?_)
    | (with_reducible refine KP.then_exit ?_)
    | (with_reducible refine KP.block_hit ?_)
    | refine KP.bm ?_
    | refine CW.ct ?_
    | refine CW.cf ?_
    | (refine CW.cP ?_ ?_ <;> intro _ <;> try contradiction)
    | (refine CW.cs ?_ ?_ <;> intro _ <;> try contradiction)
    | (refine CW.region (i := 2) ?_ <;> refine KP.q QK.lss ?_ <;> refine KP.list_nil ?_)
    | (refine CW.region (i := 3) ?_ <;> refine KP.q QK.mv ?_ <;> refine KP.q QK.as ?_ <;> refine KP.list_nil ?_)
    | (refine CW.region (i := 4) ?_ <;> refine KP.q QK.mv ?_ <;> refine KP.q QK.mv ?_ <;> refine KP.q QK.mv ?_ <;> refine KP.q QK.ia ?_ <;> refine KP.q QK.lda ?_ <;> (refine KP.e ?_; ((refine EW.callv (vs := [.agg (eSh s).toArray]) (caps := caps) rfl (hclo i s hs) rfl .nil (RosOf.all fun A h => List.mem_cons_of_mem _ h) ?_); repeat' first | refine CP.r ?_ | refine CP.r0 ?_ | refine CP.exP fun e16 => ?_ | refine CP.puP fun h16 => ?_)) <;> refine KP.list_nil ?_)
    | (refine CW.region (i := 5) ?_ <;> refine KP.q QK.mv ?_ <;> refine KP.q QK.as ?_ <;> refine KP.list_nil ?_)
    | (refine CW.region (i := 6) ?_ <;> refine KP.q QK.add ?_ <;> refine KP.q QK.mv ?_ <;> refine KP.list_nil ?_)
    | ((with_reducible apply KP.fin1); (· rfl); (· rfl)))
    · refine Fina.exP _ (Fina.puP ?_ FA.ret)
      have : shs.any p = true := List.any_eq_true.2 ⟨s, List.mem_of_getElem? hs, by assumption⟩
      rw [this]; simp
    · exact KA.round (i + 1) ⟨by omega, any_take hb hs (by assumption)⟩
  · repeat' (first
    | (with_reducible refine CW.seq ?_)
    | (with_reducible refine KP.then_code ?_)
    | (with_reducible refine CW.skip ?_)
    | (with_reducible refine CW.ret ?_)
    | (with_reducible refine KP.then_ret ?_)
    | (with_reducible refine KP.block_ret ?_)
    | (with_reducible refine CW.block ?_)
    | (with_reducible refine KP.block_normal ?_)
    | (with_reducible refine CW.exit ?_)
    | (with_reducible refine KP.then_exit ?_)
    | (with_reducible refine KP.block_hit ?_)
    | refine KP.bm ?_
    | refine CW.ct ?_
    | refine CW.cf ?_
    | (refine CW.cP ?_ ?_ <;> intro _ <;> try contradiction)
    | (refine CW.cs ?_ ?_ <;> intro _ <;> try contradiction)
    | (refine CW.region (i := 2) ?_ <;> refine KP.q QK.lss ?_ <;> refine KP.list_nil ?_)
    | (refine CW.region (i := 7) ?_ <;> refine KP.q QK.as ?_ <;> refine KP.list_nil ?_)
    | ((with_reducible apply KP.fin1); (· rfl); (· rfl)))
    refine Fina.exP _ (Fina.puP ?_ FA.ret)
    rw [List.take_of_length_le hge] at hb
    have : shs.any p = false := by rw [List.any_eq_false]; intro c hc; simp [hb c hc]
    rw [this]; simp

theorem contains_spec {g : Nat} [FunI Try.prog g] {caps : List Value} {ros : List Asrt} {p : Sh → Bool} {sv : Value} {shs : List Sh}
    (hclo : ∀ (i : Nat) (s : Sh), shs[i]? = some s → Spc Try.prog g ([Value.agg (eSh s).toArray] ++ caps).toArray ros [] (ret (.bool (p s)) [])) : Spc Try.prog 93 #[sv, fnv g caps] (rrow 7 eSh sv shs :: ros) [] (ret (.bool (shs.any p)) []) := by
  refine Spc.enter' (args := [sv, fnv g caps]) (T0 := [(0, sv), (1, fnv g caps)]) Try.func93 rfl Try.ntmps93 (Nat.le_of_ble_eq_true rfl) rfl ?_
  intro w0 own
  
  repeat' (first
    | (with_reducible refine CW.seq ?_)
    | (with_reducible refine KP.then_code ?_)
    | (with_reducible refine CW.skip ?_)
    | (with_reducible refine CW.ret ?_)
    | (with_reducible refine KP.then_ret ?_)
    | (with_reducible refine KP.block_ret ?_)
    | (with_reducible refine CW.block ?_)
    | (with_reducible refine KP.block_normal ?_)
    | (with_reducible refine CW.exit ?_)
    | (with_reducible refine KP.then_exit ?_)
    | (with_reducible refine KP.block_hit ?_)
    | refine KP.bm ?_
    | refine CW.ct ?_
    | refine CW.cf ?_
    | (refine CW.cP ?_ ?_ <;> intro _ <;> try contradiction)
    | (refine CW.cs ?_ ?_ <;> intro _ <;> try contradiction)
    | (refine CW.region (i := 0) ?_ <;> refine KP.q QK.as ?_ <;> refine KP.list_nil ?_)
    | (refine CW.region (i := 1) ?_ <;> refine KP.q QK.mv ?_ <;> refine KP.q QK.mv ?_ <;> (refine KP.e ?_; ((refine EW.call (vs := [sv, fnv g caps]) (index_spec hclo) rfl .nil (RosOf.all fun A h => h) ?_); repeat' first | refine CP.r ?_ | refine CP.r0 ?_ | refine CP.exP fun e7 => ?_ | refine CP.puP fun h7 => ?_)) <;> refine KP.q QK.geq ?_ <;> refine KP.q QK.as ?_ <;> refine KP.list_nil ?_)
    | ((with_reducible apply KP.fin1); (· rfl); (· rfl)))
  all_goals exact FA.ret' (by simp_all)

def doneF (n : Int) (shs : List Sh) (told : List Item) : Bool := decide ((told.length : Int) = n) || !(shs.any fun s => s.p.busy)
abbrev mros (m : Nat) (n : Int) (sv tv : Value) (shs : List Sh) (told : List Item) : List Asrt := [pt m 101 [iv n, sv, tv], rrow 7 eSh sv shs, rrow 2 eI tv told, wl shs]
theorem done_spec {m : Nat} {n : Int} {sv tv : Value} {shs : List Sh} {told : List Item} : Spc Try.prog 70 #[qp m] (mros m n sv tv shs told) [] (ret (.bool (doneF n shs told)) []) := by
  refine Spc.enter' (args := [qp m]) (T0 := [(0, qp m)]) Try.func70 rfl Try.ntmps70 (Nat.le_of_ble_eq_true rfl) rfl ?_
  intro w0 own
  
  
  
  repeat' (first
    | (with_reducible refine CW.seq ?_)
    | (with_reducible refine KP.then_code ?_)
    | (with_reducible refine CW.skip ?_)
    | (with_reducible refine CW.ret ?_)
    | (with_reducible refine KP.then_ret ?_)
    | (with_reducible refine KP.block_ret ?_)
    | (with_reducible refine CW.block ?_)
    | (with_reducible refine KP.block_normal ?_)
    | (with_reducible refine CW.exit ?_)
    | (with_reducible refine KP.then_exit ?_)
    | (with_reducible refine KP.block_hit ?_)
    | refine KP.bm ?_
    | refine CW.ct ?_
    | refine CW.cf ?_
    | (refine CW.cP ?_ ?_ <;> intro _ <;> try contradiction)
    | (refine CW.cs ?_ ?_ <;> intro _ <;> try contradiction)
    | (refine CW.region (i := 0) ?_ <;> refine KP.q QK.as ?_ <;> refine KP.list_nil ?_)
    | (refine CW.region (i := 1) ?_ <;> refine KP.q QK.mv ?_ <;> refine KP.q QK.eqp ?_ <;> refine KP.list_nil ?_)
    | (refine CW.region (i := 2) ?_ <;> refine KP.q QK.as ?_ <;> refine KP.list_nil ?_)
    | (refine CW.region (i := 3) ?_ <;> refine KP.q QK.mv ?_ <;> refine KP.q QK.nc ?_ <;> refine KP.q QK.fa ?_ <;> refine KP.q (by first | exact QY.load_s rfl (Rd.ro m0) (Reads.pt1 (by rfl)) | exact QK.lds) ?_ <;> (refine KP.e ?_; ((refine EK.call (contains_spec (g := 99) (caps := []) (p := fun s => s.p.busy) (fun i s hs => busy_spec hs)) ?_); repeat' first | refine CP.r ?_ | refine CP.r0 ?_ | refine CP.exP fun e10 => ?_ | refine CP.puP fun h10 => ?_)) <;> refine KP.q QK.not ?_ <;> refine KP.q QK.as ?_ <;> refine KP.list_nil ?_)
    | (((with_reducible refine CW.draw (i := 4) ?_ [[], [0], [0, 1], [0, 1, 2], [0, 1, 2, 3], [], [5], [5, 6], [5, 6, 7], [0, 1, 2, 3, 4, 5, 6, 7, 8], [0, 1, 2, 3, 4, 5, 6, 7, 8, 9], [0, 1, 2, 3, 4, 5, 6, 7, 8, 9, 10], [0, 1, 2, 3, 4, 5, 6, 7, 8, 9, 10, 11], [0, 1, 2, 3, 4, 5, 6, 7, 8, 9, 10, 11, 12]] ?_ ?_ ?_ ?_); (· rfl); (· kernel_rfl); (· kernel_rfl); (· repeat (first | exact NoHang.post | refine NoHang.then ?_ | refine NoHang.block ?_))) <;> refine DW.p 0 rfl (fun _ => QK.mv) ?_ <;> refine DW.p 1 rfl (fun _ => QK.nc) ?_ <;> refine DW.p 2 rfl (fun _ => QK.fa) ?_ <;> refine DW.p 5 rfl (fun _ => QK.mv) ?_ <;> refine DW.p 6 rfl (fun _ => QK.nc) ?_ <;> refine DW.p 7 rfl (fun _ => QK.fa) ?_ <;> refine DW.m 3 rfl (by first | exact QY.load_s rfl (Rd.ro m0) (Reads.pt1 (by rfl)) | exact QK.lds) ?_ <;> refine DW.m 4 rfl (by first | exact QY.len_row rfl (Rd.ro (by with_reducible first | exact m0 | exact m1 | exact m2 | exact m3 | exact m4 | exact m5 | fail)) RowL.rrow | exact QK.len) ?_ <;> refine DW.m 8 rfl (by first | exact QY.load_s rfl (Rd.ro m0) (Reads.pt1 (by rfl)) | exact QK.lds) ?_ <;> refine DW.p 9 rfl (fun _ => QK.eqi) ?_ <;> refine DW.p 10 rfl (fun _ => QK.mv) ?_ <;> (first | refine DW.pn 11 rfl rfl rfl ?_ | refine DW.pu 11 rfl rfl rfl ?_ | refine DW.py 11 rfl rfl rfl (fun _ => QK.mv) ?_ | ((first | refine DW.sP (t := 22) ?_ ?_ | refine DW.s (t := 22) ?_ ?_) <;> intro _ <;> first | contradiction | refine DW.pn 11 rfl rfl rfl ?_ | refine DW.pu 11 rfl rfl rfl ?_ | refine DW.py 11 rfl rfl rfl (fun _ => QK.mv) ?_)) <;> refine DW.p 12 rfl (fun _ => QK.pk) ?_ <;> refine DW.p 13 rfl (fun _ => QK.as) ?_ <;> refine DW.zz ?_)
    | ((with_reducible apply KP.fin1); (· rfl); (· rfl)))
  all_goals exact FA.ret' (by simp_all [doneF])

theorem done_nil : Spc Try.prog 70 #[.pointer none] [] [] (ret (.bool false) []) := by
  refine Spc.enter' (args := [.pointer none]) (T0 := [(0, .pointer none)]) Try.func70 rfl Try.ntmps70 (Nat.le_of_ble_eq_true rfl) rfl ?_
  intro w0 own
  repeat' (first
    | (with_reducible refine CW.seq ?_)
    | (with_reducible refine KP.then_code ?_)
    | (with_reducible refine CW.skip ?_)
    | (with_reducible refine CW.ret ?_)
    | (with_reducible refine KP.then_ret ?_)
    | (with_reducible refine KP.block_ret ?_)
    | (with_reducible refine CW.block ?_)
    | (with_reducible refine KP.block_normal ?_)
    | (with_reducible refine CW.exit ?_)
    | (with_reducible refine KP.then_exit ?_)
    | (with_reducible refine KP.block_hit ?_)
    | refine KP.bm ?_
    | refine CW.ct ?_
    | refine CW.cf ?_
    | (refine CW.cP ?_ ?_ <;> intro _ <;> try contradiction)
    | (refine CW.cs ?_ ?_ <;> intro _ <;> try contradiction)
    | (refine CW.region (i := 0) ?_ <;> refine KP.q QK.as ?_ <;> refine KP.list_nil ?_)
    | (refine CW.region (i := 1) ?_ <;> refine KP.q QK.mv ?_ <;> refine KP.q QK.eqp ?_ <;> refine KP.list_nil ?_)
    | (refine CW.region (i := 2) ?_ <;> refine KP.q QK.as ?_ <;> refine KP.list_nil ?_)
    | ((with_reducible apply KP.fin1); (· rfl); (· rfl)))
  exact FA.ret
theorem seq_nil {i : Int} : Spc Try.prog 59 #[.pointer none, iv i] [] [] (ret (iv 0) []) := by
  refine Spc.enter' (args := [.pointer none, iv i]) (T0 := [(0, .pointer none), (1, iv i)]) Try.func59 rfl Try.ntmps59 (Nat.le_of_ble_eq_true rfl) rfl ?_
  intro w0 own
  
  repeat' (first
    | (with_reducible refine CW.seq ?_)
    | (with_reducible refine KP.then_code ?_)
    | (with_reducible refine CW.skip ?_)
    | (with_reducible refine CW.ret ?_)
    | (with_reducible refine KP.then_ret ?_)
    | (with_reducible refine KP.block_ret ?_)
    | (with_reducible refine CW.block ?_)
    | (with_reducible refine KP.block_normal ?_)
    | (with_reducible refine CW.exit ?_)
    | (with_reducible refine KP.then_exit ?_)
    | (with_reducible refine KP.block_hit ?_)
    | refine KP.bm ?_
    | refine CW.ct ?_
    | refine CW.cf ?_
    | (refine CW.cP ?_ ?_ <;> intro _ <;> try contradiction)
    | (refine CW.cs ?_ ?_ <;> intro _ <;> try contradiction)
    | (refine CW.region (i := 0) ?_ <;> refine KP.q QK.as ?_ <;> refine KP.list_nil ?_)
    | (refine CW.region (i := 1) ?_ <;> refine KP.q QK.mv ?_ <;> refine KP.q QK.mv ?_ <;> (refine KP.e ?_; ((refine EK.call (get_nil) ?_); repeat' first | refine CP.r ?_ | refine CP.r0 ?_ | refine CP.exP fun e8 => ?_ | refine CP.puP fun h8 => ?_)) <;> refine KP.q QK.as ?_ <;> refine KP.list_nil ?_)
    | (refine CW.region (i := 2) ?_ <;> refine KP.q QK.mv ?_ <;> refine KP.q QK.nep ?_ <;> refine KP.list_nil ?_)
    | (refine CW.region (i := 4) ?_ <;> refine KP.q QK.as ?_ <;> refine KP.list_nil ?_)
    | ((with_reducible apply KP.fin1); (· rfl); (· rfl)))
  exact FA.ret

theorem seq_some {m i : Nat} {n : Int} {sv tv : Value} {shs : List Sh} {told : List Item} {s : Sh} (h : shs[i]? = some s) : Spc Try.prog 59 #[qp m, iv i] (mros m n sv tv shs told) [] (ret (iv s.p.seq) []) := by
  refine Spc.enter' (args := [qp m, iv i]) (T0 := [(0, qp m), (1, iv i)]) Try.func59 rfl Try.ntmps59 (Nat.le_of_ble_eq_true rfl) rfl ?_
  intro w0 own
  have hlt : i < shs.length := (List.getElem?_eq_some_iff.1 h).1
  
  
  repeat' (first
    | (with_reducible refine CW.seq ?_)
    | (with_reducible refine KP.then_code ?_)
    | (with_reducible refine CW.skip ?_)
    | (with_reducible refine CW.ret ?_)
    | (with_reducible refine KP.then_ret ?_)
    | (with_reducible refine KP.block_ret ?_)
    | (with_reducible refine CW.block ?_)
    | (with_reducible refine KP.block_normal ?_)
    | (with_reducible refine CW.exit ?_)
    | (with_reducible refine KP.then_exit ?_)
    | (with_reducible refine KP.block_hit ?_)
    | refine KP.bm ?_
    | refine CW.ct ?_
    | refine CW.cf ?_
    | (refine CW.cP ?_ ?_ <;> intro _ <;> try contradiction)
    | (refine CW.cs ?_ ?_ <;> intro _ <;> try contradiction)
    | (refine CW.region (i := 0) ?_ <;> refine KP.q QK.as ?_ <;> refine KP.list_nil ?_)
    | (refine CW.region (i := 1) ?_ <;> refine KP.q QK.mv ?_ <;> refine KP.q QK.mv ?_ <;> (refine KP.e ?_; ((refine EK.call (get_some (tv := tv) (n := n) hlt) ?_); repeat' first | refine CP.r ?_ | refine CP.r0 ?_ | refine CP.exP fun e8 => ?_ | refine CP.puP fun h8 => ?_)) <;> refine KP.q QK.as ?_ <;> refine KP.list_nil ?_)
    | (refine CW.region (i := 2) ?_ <;> refine KP.q QK.mv ?_ <;> refine KP.q QK.nep ?_ <;> refine KP.list_nil ?_)
    | (refine CW.region (i := 3) ?_ <;> refine KP.q QK.mv ?_ <;> refine KP.q QK.nc ?_ <;> refine KP.q QK.fa ?_ <;> refine KP.q (by first | exact QY.load_s rfl (Rd.ro m1) (Reads.row1 RowL.rrow h rfl) | exact QK.lds) ?_ <;> refine KP.q QK.as ?_ <;> refine KP.list_nil ?_)
    | ((with_reducible apply KP.fin1); (· rfl); (· rfl)))
  exact FA.ret

theorem seq_none {m : Nat} {n i : Int} {sv tv : Value} {shs : List Sh} {told : List Item} (h : i < 0 ∨ (shs.length : Int) ≤ i) : Spc Try.prog 59 #[qp m, iv i] (mros m n sv tv shs told) [] (ret (iv 0) []) := by
  refine Spc.enter' (args := [qp m, iv i]) (T0 := [(0, qp m), (1, iv i)]) Try.func59 rfl Try.ntmps59 (Nat.le_of_ble_eq_true rfl) rfl ?_
  intro w0 own
  
  repeat' (first
    | (with_reducible refine CW.seq ?_)
    | (with_reducible refine KP.then_code ?_)
    | (with_reducible refine CW.skip ?_)
    | (with_reducible refine CW.ret ?_)
    | (with_reducible refine KP.then_ret ?_)
    | (with_reducible refine KP.block_ret ?_)
    | (with_reducible refine CW.block ?_)
    | (with_reducible refine KP.block_normal ?_)
    | (with_reducible refine CW.exit ?_)
    | (with_reducible refine KP.then_exit ?_)
    | (with_reducible refine KP.block_hit ?_)
    | refine KP.bm ?_
    | refine CW.ct ?_
    | refine CW.cf ?_
    | (refine CW.cP ?_ ?_ <;> intro _ <;> try contradiction)
    | (refine CW.cs ?_ ?_ <;> intro _ <;> try contradiction)
    | (refine CW.region (i := 0) ?_ <;> refine KP.q QK.as ?_ <;> refine KP.list_nil ?_)
    | (refine CW.region (i := 1) ?_ <;> refine KP.q QK.mv ?_ <;> refine KP.q QK.mv ?_ <;> (refine KP.e ?_; ((refine EK.call (get_none (tv := tv) (n := n) h) ?_); repeat' first | refine CP.r ?_ | refine CP.r0 ?_ | refine CP.exP fun e8 => ?_ | refine CP.puP fun h8 => ?_)) <;> refine KP.q QK.as ?_ <;> refine KP.list_nil ?_)
    | (refine CW.region (i := 2) ?_ <;> refine KP.q QK.mv ?_ <;> refine KP.q QK.nep ?_ <;> refine KP.list_nil ?_)
    | (refine CW.region (i := 4) ?_ <;> refine KP.q QK.as ?_ <;> refine KP.list_nil ?_)
    | ((with_reducible apply KP.fin1); (· rfl); (· rfl)))
  exact FA.ret

theorem told_nil : Spc Try.prog 61 #[.pointer none] [] [] (ret (.slice none 0 0) []) := by
  refine Spc.enter' (args := [.pointer none]) (T0 := [(0, .pointer none)]) Try.func61 rfl Try.ntmps61 (Nat.le_of_ble_eq_true rfl) rfl ?_
  intro w0 own
  repeat' (first
    | (with_reducible refine CW.seq ?_)
    | (with_reducible refine KP.then_code ?_)
    | (with_reducible refine CW.skip ?_)
    | (with_reducible refine CW.ret ?_)
    | (with_reducible refine KP.then_ret ?_)
    | (with_reducible refine KP.block_ret ?_)
    | (with_reducible refine CW.block ?_)
    | (with_reducible refine KP.block_normal ?_)
    | (with_reducible refine CW.exit ?_)
    | (with_reducible refine KP.then_exit ?_)
    | (with_reducible refine KP.block_hit ?_)
    | refine KP.bm ?_
    | refine CW.ct ?_
    | refine CW.cf ?_
    | (refine CW.cP ?_ ?_ <;> intro _ <;> try contradiction)
    | (refine CW.cs ?_ ?_ <;> intro _ <;> try contradiction)
    | (refine CW.region (i := 0) ?_ <;> refine KP.q QK.as ?_ <;> refine KP.list_nil ?_)
    | (refine CW.region (i := 1) ?_ <;> refine KP.q QK.mv ?_ <;> refine KP.q QK.eqp ?_ <;> refine KP.list_nil ?_)
    | (refine CW.region (i := 2) ?_ <;> refine KP.q QK.as ?_ <;> refine KP.list_nil ?_)
    | ((with_reducible apply KP.fin1); (· rfl); (· rfl)))
  exact FA.ret
theorem told_spec {m : Nat} {n : Int} {sv tv : Value} {shs : List Sh} {told : List Item} (hl : told.length ≤ 100000) : Spc Try.prog 61 #[qp m] (mros m n sv tv shs told) [] (exP fun v' => puP (v'.oneCell' = true) (ret v' [row 39 2 eI v' told])) := by
  refine Spc.enter' (args := [qp m]) (T0 := [(0, qp m)]) Try.func61 rfl Try.ntmps61 (Nat.le_of_ble_eq_true rfl) rfl ?_
  intro w0 own
  
  
  repeat' (first
    | (with_reducible refine CW.seq ?_)
    | (with_reducible refine KP.then_code ?_)
    | (with_reducible refine CW.skip ?_)
    | (with_reducible refine CW.ret ?_)
    | (with_reducible refine KP.then_ret ?_)
    | (with_reducible refine KP.block_ret ?_)
    | (with_reducible refine CW.block ?_)
    | (with_reducible refine KP.block_normal ?_)
    | (with_reducible refine CW.exit ?_)
    | (with_reducible refine KP.then_exit ?_)
    | (with_reducible refine KP.block_hit ?_)
    | refine KP.bm ?_
    | refine CW.ct ?_
    | refine CW.cf ?_
    | (refine CW.cP ?_ ?_ <;> intro _ <;> try contradiction)
    | (refine CW.cs ?_ ?_ <;> intro _ <;> try contradiction)
    | (refine CW.region (i := 0) ?_ <;> refine KP.q QK.as ?_ <;> refine KP.list_nil ?_)
    | (refine CW.region (i := 1) ?_ <;> refine KP.q QK.mv ?_ <;> refine KP.q QK.eqp ?_ <;> refine KP.list_nil ?_)
    | (refine CW.region (i := 2) ?_ <;> refine KP.q QK.as ?_ <;> refine KP.list_nil ?_)
    | (refine CW.region (i := 3) ?_ <;> refine KP.q QK.mv ?_ <;> refine KP.q QK.nc ?_ <;> refine KP.q QK.fa ?_ <;> refine KP.q (by first | exact QY.load_s rfl (Rd.ro m0) (Reads.pt1 (by rfl)) | exact QK.lds) ?_ <;> (refine KP.e ?_; ((refine EK.call (clone_spec hl) ?_); repeat' first | refine CP.r ?_ | refine CP.r0 ?_ | refine CP.exP fun e9 => ?_ | refine CP.puP fun h9 => ?_)) <;> refine KP.q QK.as ?_ <;> refine KP.list_nil ?_)
    | ((with_reducible apply KP.fin1); (· rfl); (· rfl)))
  exact Fina.exP _ (Fina.puP (by assumption) FA.ret)

end Go.Proofs.Ytpmhelfdmhjnbaa
