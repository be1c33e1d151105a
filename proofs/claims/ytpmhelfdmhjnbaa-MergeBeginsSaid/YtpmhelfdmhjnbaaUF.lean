import Derived.Test.YtpmhelfdmhjnbaaUE
/- MergeBegins: cut; an array's cells. -/
namespace Go.Proofs.Ytpmhelfdmhjnbaa
open Go Go.Ink Go.Plain
set_option linter.unusedVariables false
set_option linter.unusedSimpArgs false
section
variable {P : Program} {c : Cx} {N : Nat} {T : Tm} {L : List Asrt} {dst : Option Tmp} {gd : Option (Nat × Bool)} {ty xt yt : TypeId} {pos : String} {aft : Array Edge} {x y : Operand} {b : Nat} {k : IntKind}
theorem arr_under : Try.prog.underlying 86 = some (.array 6 3) := by kernel_rfl
theorem QY.arr {i : Nat} (hx : ev T x = some (.pointer (some ⟨b, 0, none⟩))) (hy : ev T y = some (.int k (i : Int))) (hi : i < 6) : QY Try.prog c N T L ⟨dst, .indexAddr 86 x y, ty, pos, aft, gd⟩ (.pointer (some ⟨b, i, none⟩)) := fun a w g _ => by
  have h1 : (0 : Int) ≤ (i : Int) ∧ (i : Int) < 6 := by omega
  have h2 := run_sizeOf_ty (P := Try.prog) 3 w
  simp [execOp, g.ev hx, g.ev hy, Instr.indexAt, asIntOf, run_underlying arr_under, Instr.sureAddr, h2, Addr.add_lit, h1]
  intro h; omega
theorem QY.toI8 [h1 : IntT P yt .i64] [h2 : IntT P xt .u8] {m : Nat} (hx : ev T x = some (.int .u8 (m : Int))) (hb : m ≤ 255) : QY P c N T L ⟨dst, .convert xt yt x, ty, pos, aft, gd⟩ (.int .i64 (m : Int)) := by
  have := QY.conv_int (P := P) (c := c) (N := N) (T := T) (L := L) (dst := dst) (ty := ty) (pos := pos) (aft := aft) (gd := gd) (dt := yt) (st' := xt) hx
  rw [IntWalk.i64_in _ (by omega)] at this; exact this
theorem QY.remN {m n : Nat} (hx : ev T x = some (.int k (m : Int))) (hy : ev T y = some (.int k (n : Int))) (hn : 0 < n) : QY P c N T L ⟨dst, .binOp .rem xt x y yt, ty, pos, aft, gd⟩ (.int k ((m % n : Nat) : Int)) := by
  have := QY.rem_nn (P := P) (c := c) (N := N) (T := T) (L := L) (dst := dst) (ty := ty) (pos := pos) (aft := aft) (gd := gd) (xt := xt) (yt := yt) hx hy (by omega) (by omega)
  rw [← Int.natCast_emod] at this; exact this
end
attribute [local irreducible] KP QY EW CW DW QG CP Spc DK Fina wpList lessF
structure Pt where
  v : Value
  ow : v.oneCell' = true
  items : List Item
def eP (r : Pt) : List Value := [r.v]
instance : Enc eP 1 := ⟨fun _ => rfl, by decide, fun a u hu => by
  simp only [eP, List.mem_cons, List.not_mem_nil, or_false] at hu
  rcases hu with rfl; exact a.ow⟩
abbrev ptA (r : Pt) : Asrt := row 39 2 eI r.v r.items
def pt0 : Pt := ⟨.slice none 0 0, rfl, []⟩
/-- A byte. -/
structure By where
  n : Nat
  le : n ≤ 255
def eB (b : By) : List Value := [.int .u8 (b.n : Nat)]
instance : Enc eB 1 := ⟨fun _ => rfl, by decide, fun a u hu => by
  simp only [eB, List.mem_cons, List.not_mem_nil, or_false] at hu
  rcases hu with rfl; rfl⟩
theorem flat_rep2 {α : Type _} {enc : α → List Value} {z : α} : ∀ k : Nat, (List.replicate k (enc z)).flatten = (List.replicate k z).flatMap enc
  | 0 => rfl
  | k + 1 => by rw [List.replicate_succ, List.replicate_succ, List.flatten_cons, List.flatMap_cons, flat_rep2 k]
theorem pts_new : ∀ n : Nat, BigA ptA (List.replicate n pt0) (fun _ => none)
  | 0 => trivial
  | n + 1 => ⟨fun _ => none, fun _ => none, fun _ => .inl rfl, Leq.refl _, Leq.refl _, row.none, pts_new n⟩
theorem parts_new {g n : Nat} (hn : n ≤ 1000) : ∀ hh, pt g 28 (List.replicate n [Value.slice none 0 0]).flatten hh → row 28 1 eP (.slice (some ⟨g, 0, none⟩) n n) (List.replicate n pt0) hh := fun hh a => by
  have := pt_row (b := g) (e := 28) (enc := eP) (n := 1) (xs := List.replicate n pt0) (flat_rep2 (enc := eP) (z := pt0) n) (by rw [List.length_replicate]; simp only [maxLen]; omega) hh a
  rwa [List.length_replicate] at this
abbrev flatP (rs : List Pt) : List Item := (rs.map Pt.items).flatten
theorem flatP_set {rs : List Pt} {j : Nat} {r q : Pt} {x : Item} (h : rs[j]? = some r) (hq : q.items = r.items ++ [x]) : (flatP (rs.set j q)).Perm (flatP rs ++ [x]) := by
  induction rs generalizing j with
  | nil => simp at h
  | cons a rs ih =>
    cases j with
    | zero =>
      obtain rfl : a = r := by simpa using h
      simp only [flatP, List.set_cons_zero, List.map_cons, List.flatten_cons, hq, List.append_assoc]
      exact List.Perm.append_left _ List.perm_append_comm
    | succ j =>
      have h' : rs[j]? = some r := by simpa using h
      have := ih h'
      simp only [flatP, List.set_cons_succ, List.map_cons, List.flatten_cons, List.append_assoc] at this ⊢
      exact List.Perm.append_left _ this
set_option maxHeartbeats 4000000 in
theorem cut_spec {va vw : Value} {A : List Item} {ws : List By} {n : Nat} (h1 : 1 ≤ n) (h6 : n ≤ 6) (hA : A.length ≤ 1000) : Spc Try.prog 71 #[va, vw, iv (n : Nat)] [rrow 2 eI va A, rrow 1 eB vw ws] [] (exP fun z : Value × List Pt => puP (z.2.length = n ∧ (∀ r ∈ z.2, r.items.Sublist A) ∧ A.Perm (flatP z.2)) (ret z.1 [row 28 1 eP z.1 z.2, BigA ptA z.2])) := by
  refine Spc.enter' (args := [va, vw, iv (n : Nat)]) (T0 := [(0, va), (1, vw), (2, iv (n : Nat))]) Try.func71 rfl Try.ntmps71 (Nat.le_of_ble_eq_true rfl) rfl ?_
  intro w0 own
  refine CW.roFact (A := rrow 1 eB vw ws) (by simp) (fun _ h => rrow.le h) fun hws => ?_
  
  repeat' (first
    | (with_reducible refine CW.seq ?_)
    | (with_reducible refine KP.then_code ?_)
    | (with_reducible refine CW.skip ?_)
    | (with_reducible refine CW.ret ?_)
    | (with_reducible refine KP.then_ret ?_)
    | (with_reducible refine KP.block_ret ?_)
    | (with_reducible refine CW.block ?_)
    | (with_reducible refine KP.block_normal ?_)
    | (with_reducible refine CW.exit ?_)
    | (with_reducible refine KP.then_exit ?_)
    | (with_reducible refine KP.block_hit ?_)
    | refine KP.bm ?_
    | refine CW.ct ?_
    | refine CW.cf ?_
    | (refine CW.cP ?_ ?_ <;> intro _ <;> try contradiction)
    | (refine CW.cs ?_ ?_ <;> intro _ <;> try contradiction)
    | (refine CW.region (i := 0) ?_ <;> refine KP.q QK.as ?_ <;> refine KP.list_nil ?_)
    | (refine CW.region (i := 1) ?_ <;> refine KP.q QK.mv ?_ <;> (refine KP.e ?_; (first | (refine EW.makeSlice (l := n) (cp := n) (by decide) rfl rfl rfl (by omega) (by omega) (by decide) (fun b11 => ?_)))) <;> refine KP.q QK.as ?_ <;> refine KP.list_nil ?_)
    | (refine CW.region (i := 2) ?_ <;> refine KP.q QK.as ?_ <;> refine KP.list_nil ?_)
    | ((with_reducible apply KP.fin1); (· rfl); (· rfl)))
  refine CW.kp (KP.imp (B := row 28 1 eP (.slice (some ⟨b11, 0, none⟩) n n) (List.replicate n pt0)) (parts_new (by omega)) (CW.pk ?_))
  refine CW.add (B := BigA ptA (List.replicate n pt0)) (pts_new n) ?_
  refine CA.loop (X := Nat × List Pt) (fun z => [(0, va), (1, vw), (2, iv (n : Nat)), (7, .slice (some ⟨b11, 0, none⟩) n n), (8, iv (z.1 : Nat))]) (fun z => [BigA ptA z.2, row 28 1 eP (.slice (some ⟨b11, 0, none⟩) n n) z.2]) (fun z => z.1 ≤ A.length ∧ z.2.length = n ∧ (∀ r ∈ z.2, r.items.Sublist (A.take z.1)) ∧ (A.take z.1).Perm (flatP z.2)) (fun z => A.length - z.1) (0, List.replicate n pt0) ⟨by simp, by simp, fun r hr => by rw [List.eq_of_mem_replicate hr]; exact List.nil_sublist _, by simp [flatP, pt0]⟩ ?_
  rintro ⟨i, rs⟩ ⟨hi, hrl, hsub, hpm⟩
  try dsimp only at hi hrl hsub hpm ⊢
  rcases Nat.lt_or_ge i A.length with hlt | hge
  rotate_left
  · obtain rfl : i = A.length := by omega
    rw [List.take_length] at hsub hpm
    repeat' (first
    | (with_reducible refine CW.seq ?_)
    | (with_reducible refine KP.then_code ?_)
    | (with_reducible refine CW.skip ?_)
    | (with_reducible refine CW.ret ?_)
    | (with_reducible refine KP.then_ret ?_)
    | (with_reducible refine KP.block_ret ?_)
    | (with_reducible refine CW.block ?_)
    | (with_reducible refine KP.block_normal ?_)
    | (with_reducible refine CW.exit ?_)
    | (with_reducible refine KP.then_exit ?_)
    | (with_reducible refine KP.block_hit ?_)
    | refine KP.bm ?_
    | refine CW.ct ?_
    | refine CW.cf ?_
    | (refine CW.cP ?_ ?_ <;> intro _ <;> try contradiction)
    | (refine CW.cs ?_ ?_ <;> intro _ <;> try contradiction)
    | (refine CW.region (i := 3) ?_ <;> refine KP.q QK.mv ?_ <;> refine KP.q QK.mv ?_ <;> refine KP.q QK.len ?_ <;> refine KP.q QK.lss ?_ <;> refine KP.list_nil ?_)
    | (refine CW.region (i := 9) ?_ <;> refine KP.q QK.mv ?_ <;> refine KP.q QK.as ?_ <;> refine KP.list_nil ?_)
    | ((with_reducible apply KP.fin1); (· rfl); (· rfl)))
    refine Fina.exP (.slice (some ⟨b11, 0, none⟩) n n, rs) (Fina.puP ⟨hrl, hsub, hpm⟩ ?_)
    exact FA.ret
  obtain ⟨x, hx⟩ := at_lt hlt
  repeat' (first
    | (with_reducible refine CW.seq ?_)
    | (with_reducible refine KP.then_code ?_)
    | (with_reducible refine CW.skip ?_)
    | (with_reducible refine CW.ret ?_)
    | (with_reducible refine KP.then_ret ?_)
    | (with_reducible refine KP.block_ret ?_)
    | (with_reducible refine CW.block ?_)
    | (with_reducible refine KP.block_normal ?_)
    | (with_reducible refine CW.exit ?_)
    | (with_reducible refine KP.then_exit ?_)
    | (with_reducible refine KP.block_hit ?_)
    | refine KP.bm ?_
    | refine CW.ct ?_
    | refine CW.cf ?_
    | (refine CW.cP ?_ ?_ <;> intro _ <;> try contradiction)
    | (refine CW.cs ?_ ?_ <;> intro _ <;> try contradiction)
    | (refine CW.region (i := 3) ?_ <;> refine KP.q QK.mv ?_ <;> refine KP.q QK.mv ?_ <;> refine KP.q QK.len ?_ <;> refine KP.q QK.lss ?_ <;> refine KP.list_nil ?_)
    | ((with_reducible apply KP.fin1); (· rfl); (· rfl)))
  repeat' (first
    | (with_reducible refine CW.seq ?_)
    | (with_reducible refine KP.then_code ?_)
    | (with_reducible refine CW.skip ?_)
    | (with_reducible refine CW.ret ?_)
    | (with_reducible refine KP.then_ret ?_)
    | (with_reducible refine KP.block_ret ?_)
    | (with_reducible refine CW.block ?_)
    | (with_reducible refine KP.block_normal ?_)
    | (with_reducible refine CW.exit ?_)
    | (with_reducible refine KP.then_exit ?_)
    | (with_reducible refine KP.block_hit ?_)
    | refine KP.bm ?_
    | (refine CW.region (i := 5) ?_ <;> refine KP.q QK.as ?_ <;> refine KP.list_nil ?_)
    | (refine CW.region (i := 6) ?_ <;> refine KP.q QK.mv ?_ <;> refine KP.q QK.mv ?_ <;> refine KP.q QK.len ?_ <;> refine KP.q QK.lss ?_ <;> refine KP.list_nil ?_)
    | ((with_reducible apply KP.fin1); (· rfl); (· rfl)))
  refine CW.mid (X := Nat) (fun z => [(0, va), (1, vw), (2, iv (n : Nat)), (7, .slice (some ⟨b11, 0, none⟩) n n), (8, iv (i : Nat)), (9, iv (z : Nat))]) (fun _ => [BigA ptA rs, row 28 1 eP (.slice (some ⟨b11, 0, none⟩) n n) rs]) (fun z => z < n) ?_ ?_
  · by_cases hw : i < ws.length
    · obtain ⟨w, hwi⟩ := at_lt hw
      have hwb := w.le
      
      
      
      repeat' (first
    | (with_reducible refine CW.seq ?_)
    | (with_reducible refine KP.then_code ?_)
    | (with_reducible refine CW.skip ?_)
    | (with_reducible refine CW.ret ?_)
    | (with_reducible refine KP.then_ret ?_)
    | (with_reducible refine KP.block_ret ?_)
    | (with_reducible refine CW.block ?_)
    | (with_reducible refine KP.block_normal ?_)
    | (with_reducible refine CW.exit ?_)
    | (with_reducible refine KP.then_exit ?_)
    | (with_reducible refine KP.block_hit ?_)
    | refine KP.bm ?_
    | refine CW.ct ?_
    | refine CW.cf ?_
    | (refine CW.cP ?_ ?_ <;> intro _ <;> try contradiction)
    | (refine CW.cs ?_ ?_ <;> intro _ <;> try contradiction)
    | (refine CW.region (i := 7) ?_ <;> refine KP.q QK.mv ?_ <;> refine KP.q QK.mv ?_ <;> refine KP.q QK.ia ?_ <;> refine KP.q (by first | exact QY.load_s rfl (Rd.ro (by with_reducible first | exact m0 | exact m1 | exact m2 | exact m3 | exact m4 | exact m5 | fail)) (Reads.row0 RowL.rrow hwi rfl) | exact QK.lds) ?_ <;> refine KP.q (by first | exact QY.toI8 rfl hwb | exact QK.cv) ?_ <;> refine KP.q QK.mv ?_ <;> refine KP.q (by first | exact QY.remN rfl rfl (by omega) | exact QK.rem) ?_ <;> refine KP.q QK.as ?_ <;> refine KP.list_nil ?_)
    | ((with_reducible apply KP.fin1); (· rfl); (· rfl)))
      all_goals first | (exfalso; omega) | exact KA.joint (w.n % n) (Nat.mod_lt _ (by omega))
    · repeat' (first
    | (with_reducible refine CW.seq ?_)
    | (with_reducible refine KP.then_code ?_)
    | (with_reducible refine CW.skip ?_)
    | (with_reducible refine CW.ret ?_)
    | (with_reducible refine KP.then_ret ?_)
    | (with_reducible refine KP.block_ret ?_)
    | (with_reducible refine CW.block ?_)
    | (with_reducible refine KP.block_normal ?_)
    | (with_reducible refine CW.exit ?_)
    | (with_reducible refine KP.then_exit ?_)
    | (with_reducible refine KP.block_hit ?_)
    | refine KP.bm ?_
    | refine CW.ct ?_
    | refine CW.cf ?_
    | (refine CW.cP ?_ ?_ <;> intro _ <;> try contradiction)
    | (refine CW.cs ?_ ?_ <;> intro _ <;> try contradiction)
    | (refine CW.region (i := 0) ?_ <;> refine KP.q QK.as ?_ <;> refine KP.list_nil ?_)
    | (refine CW.region (i := 1) ?_ <;> refine KP.q QK.mv ?_ <;> (refine KP.e ?_; (first | (refine EW.makeSlice (l := n) (cp := n) (by decide) rfl rfl rfl (by omega) (by omega) (by decide) (fun b11 => ?_)))) <;> refine KP.q QK.as ?_ <;> refine KP.list_nil ?_)
    | (refine CW.region (i := 2) ?_ <;> refine KP.q QK.as ?_ <;> refine KP.list_nil ?_)
    | (refine CW.region (i := 3) ?_ <;> refine KP.q QK.mv ?_ <;> refine KP.q QK.mv ?_ <;> refine KP.q QK.len ?_ <;> refine KP.q QK.lss ?_ <;> refine KP.list_nil ?_)
    | (refine CW.region (i := 5) ?_ <;> refine KP.q QK.as ?_ <;> refine KP.list_nil ?_)
    | (refine CW.region (i := 6) ?_ <;> refine KP.q QK.mv ?_ <;> refine KP.q QK.mv ?_ <;> refine KP.q QK.len ?_ <;> refine KP.q QK.lss ?_ <;> refine KP.list_nil ?_)
    | (refine CW.region (i := 7) ?_ <;> refine KP.q QK.mv ?_ <;> refine KP.q QK.mv ?_ <;> refine KP.q QK.ia ?_ <;> refine KP.q (by first | exact QY.load_s rfl (Rd.ro (by with_reducible first | exact m0 | exact m1 | exact m2 | exact m3 | exact m4 | exact m5 | fail)) (Reads.row0 RowL.rrow hwi rfl) | exact QK.lds) ?_ <;> refine KP.q (by first | exact QY.toI8 rfl hwb | exact QK.cv) ?_ <;> refine KP.q QK.mv ?_ <;> refine KP.q (by first | exact QY.remN rfl rfl (by omega) | exact QK.rem) ?_ <;> refine KP.q QK.as ?_ <;> refine KP.list_nil ?_)
    | (((with_reducible refine CW.draw (i := 8) ?_ [[], [], [], [], [2, 3], [2, 3, 4], [], [], [6, 7], [6, 7, 8], [6, 7, 8, 9], [2, 3, 4, 5, 6, 7, 8, 9, 10], [0, 1, 2, 3, 4, 5, 6, 7, 8, 9, 10, 11], [0, 1, 2, 3, 4, 5, 6, 7, 8, 9, 10, 11, 12]] ?_ ?_ ?_ ?_); (· rfl); (· kernel_rfl); (· kernel_rfl); (· repeat (first | exact NoHang.post | refine NoHang.then ?_ | refine NoHang.block ?_))) <;> refine DW.p 0 rfl (fun _ => QK.mv) ?_ <;> refine DW.p 1 rfl (fun _ => QK.mv) ?_ <;> refine DW.p 2 rfl (fun _ => QK.mv) ?_ <;> refine DW.p 3 rfl (fun _ => QK.mv) ?_ <;> refine DW.p 6 rfl (fun _ => QK.mv) ?_ <;> refine DW.p 7 rfl (fun _ => QK.mv) ?_ <;> refine DW.m 4 rfl QK.ia ?_ <;> refine DW.m 5 rfl (by first | exact QY.load_s rfl (Rd.ro (by with_reducible first | exact m0 | exact m1 | exact m2 | exact m3 | exact m4 | exact m5 | fail)) (Reads.row0 RowL.rrow hwi rfl) | exact QK.lds) ?_ <;> refine DW.m 8 rfl QK.ia ?_ <;> refine DW.m 9 rfl QK.lda ?_ <;> (refine DW.ex 10 rfl ?_; intro hdk; ((first | refine EW.buildSlice1_s (by decide) rfl (by first | rfl | assumption) rfl ?_ | refine EW.buildSlice1_a (by decide) rfl (by rfl) (by rfl) (by decide) (by decide) ?_); intro b39); all_goals (refine DK.mk hdk (by refine Ob.ap rfl (by first | exact QY.load_s rfl (Rd.ro (by with_reducible first | exact m0 | exact m1 | exact m2 | exact m3 | exact m4 | exact m5 | fail)) (Reads.row0 RowL.rrow hwi rfl) | exact QK.lds) ?_; refine Ob.ap rfl QK.ia ?_; exact .nil) ?_; clear hdk)) <;> (refine DW.ex 11 rfl ?_; intro hdk; (refine EK.app1 _ ?_; intro w40 o40); all_goals (refine DK.mk hdk .nil ?_; clear hdk)) <;> refine DW.m 12 rfl QK.ia ?_ <;> (refine DW.ex 13 rfl ?_; intro hdk; (first | refine EK.st_s ?_ | refine EK.st_rf ?_ | refine EK.st_rf0 ?_); all_goals (refine DK.mk hdk .nil ?_; clear hdk)) <;> refine DW.zz ?_)
    | (refine CW.region (i := 4) ?_ <;> refine KP.q QK.mv ?_ <;> refine KP.q QK.add ?_ <;> refine KP.q QK.as ?_ <;> refine KP.list_nil ?_)
    | (refine CW.region (i := 9) ?_ <;> refine KP.q QK.mv ?_ <;> refine KP.q QK.as ?_ <;> refine KP.list_nil ?_)
    | ((with_reducible apply KP.fin1); (· rfl); (· rfl)))
      all_goals first | (exfalso; omega) | exact KA.joint 0 (by omega)
  rintro j hj
  try dsimp only at hj ⊢
  obtain ⟨r, hr⟩ := at_lt (xs := rs) (i := j) (by omega)
  have htk : A.take (i + 1) = A.take i ++ [x] := by rw [List.take_add_one, hx]; rfl
  have hrs := hsub r (List.mem_of_getElem? hr)
  have hril : r.items.length ≤ 1000 := by
    have := hrs.length_le
    rw [List.length_take] at this
    omega
  refine CW.bigAt hr ?_
  
  
  
  
  
  repeat' (first
    | (with_reducible refine CW.seq ?_)
    | (with_reducible refine KP.then_code ?_)
    | (with_reducible refine CW.skip ?_)
    | (with_reducible refine CW.ret ?_)
    | (with_reducible refine KP.then_ret ?_)
    | (with_reducible refine KP.block_ret ?_)
    | (with_reducible refine CW.block ?_)
    | (with_reducible refine KP.block_normal ?_)
    | (with_reducible refine CW.exit ?_)
    | (with_reducible refine KP.then_exit ?_)
    | (with_reducible refine KP.block_hit ?_)
    | refine KP.bm ?_
    | refine CW.ct ?_
    | refine CW.cf ?_
    | (refine CW.cP ?_ ?_ <;> intro _ <;> try contradiction)
    | (refine CW.cs ?_ ?_ <;> intro _ <;> try contradiction)
    | (((with_reducible refine CW.draw (i := 8) ?_ [[], [], [], [], [2, 3], [2, 3, 4], [], [], [6, 7], [6, 7, 8], [6, 7, 8, 9], [2, 3, 4, 5, 6, 7, 8, 9, 10], [0, 1, 2, 3, 4, 5, 6, 7, 8, 9, 10, 11], [0, 1, 2, 3, 4, 5, 6, 7, 8, 9, 10, 11, 12]] ?_ ?_ ?_ ?_); (· rfl); (· kernel_rfl); (· kernel_rfl); (· repeat (first | exact NoHang.post | refine NoHang.then ?_ | refine NoHang.block ?_))) <;> refine DW.p 0 rfl (fun _ => QK.mv) ?_ <;> refine DW.p 1 rfl (fun _ => QK.mv) ?_ <;> refine DW.p 2 rfl (fun _ => QK.mv) ?_ <;> refine DW.p 3 rfl (fun _ => QK.mv) ?_ <;> refine DW.p 6 rfl (fun _ => QK.mv) ?_ <;> refine DW.p 7 rfl (fun _ => QK.mv) ?_ <;> refine DW.m 4 rfl QK.ia ?_ <;> refine DW.m 5 rfl (by first | exact QY.load_s rfl (Rd.own (by with_reducible first | exact k0 | exact k1 | exact k2 | exact k3 | exact k4 | exact k5 | exact k6 | exact k7 | exact k8 | exact k9 | fail)) (Reads.row0 RowL.row hr rfl) | exact QK.lds) ?_ <;> refine DW.m 8 rfl QK.ia ?_ <;> refine DW.m 9 rfl (by first | exact QY.load_a rfl (Rd.ro (by with_reducible first | exact m0 | exact m1 | exact m2 | exact m3 | exact m4 | exact m5 | fail)) (Reads.row RowL.rrow hx) rfl | exact QK.lda) ?_ <;> (refine DW.ex 10 rfl ?_; intro hdk; ((first | refine EW.buildSlice1_s (by decide) rfl (by first | rfl | assumption) rfl ?_ | refine EW.buildSlice1_a (by decide) rfl (by rfl) (by rfl) (by decide) (by decide) ?_); intro b39); all_goals (refine DK.mk hdk (by refine Ob.ap rfl (by first | exact QY.load_s rfl (Rd.own (by with_reducible first | exact k0 | exact k1 | exact k2 | exact k3 | exact k4 | exact k5 | exact k6 | exact k7 | exact k8 | exact k9 | fail)) (Reads.row0 RowL.row hr rfl) | exact QK.lds) ?_; refine Ob.ap rfl QK.ia ?_; exact .nil) ?_; clear hdk)) <;> (refine DW.ex 11 rfl ?_; intro hdk; (first | (refine EK.app1 (enc := eI) x ?_; intro w40 o40) | (refine EK.app1 _ ?_; intro w40 o40)); all_goals (refine DK.mk hdk .nil ?_; clear hdk)) <;> refine DW.m 12 rfl QK.ia ?_ <;> (refine DW.ex 13 rfl ?_; intro hdk; (first | refine EK.st_rf0 (enc := eP) (x' := r) (y' := ⟨w40, o40, r.items ++ [x]⟩) ?_ | refine EK.st_s ?_ | refine EK.st_rf ?_ | refine EK.st_rf0 ?_); all_goals (refine DK.mk hdk .nil ?_; clear hdk)) <;> refine DW.zz ?_)
    | (refine CW.region (i := 4) ?_ <;> refine KP.q QK.mv ?_ <;> refine KP.q QK.add ?_ <;> refine KP.q QK.as ?_ <;> refine KP.list_nil ?_)
    | ((with_reducible apply KP.fin1); (· rfl); (· rfl)))
  refine KA.gather (M := [row 39 2 eI w40 (r.items ++ [x]), BigA ptA (rs.eraseIdx j)]) (A' := BigA ptA (rs.set j ⟨w40, o40, r.items ++ [x]⟩)) (fun _ s => BigA.put (f := ptA) (q := ⟨w40, o40, r.items ++ [x]⟩) hr s) ?_
  refine KA.round (i + 1, rs.set j ⟨w40, o40, r.items ++ [x]⟩) ⟨by simp only; omega, by simp [hrl], fun q hq => ?_, ?_⟩
  · rw [htk]
    rcases List.mem_or_eq_of_mem_set hq with hq | rfl
    · exact (hsub q hq).trans (List.sublist_append_left _ _)
    · exact hrs.append (List.Sublist.refl _)
  · simp only
    rw [htk]
    exact (List.Perm.append_right _ hpm).trans (flatP_set (q := ⟨w40, o40, r.items ++ [x]⟩) hr rfl).symm

end Go.Proofs.Ytpmhelfdmhjnbaa
