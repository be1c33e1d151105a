import Derived.Test.YtnnobondpimnpaaQ5
/- slices.IndexFunc, slices.DeleteFunc for Stop's closure; Stop. -/
namespace Go.Proofs.Ytnnobondpimnpaa
open Go Go.Ink
set_option linter.unusedVariables false
set_option linter.unusedSimpArgs false
attribute [local irreducible] KP QY EW CW DW QG CP Spc DK Fina





theorem index_none {q c1 c2 c3 bm : Nat} {v v0 : Value} {l : List Ask} {m : List (Place × Ask)} {slot query : Int} (hf : QF l m) (hn : ∀ a ∈ l, offF slot query a = false) :
    Spc Try.prog 24 #[v, fv c1 c2 c3] [pt c1 3 [iv slot], pt c2 24 [qp q], pt c3 3 [iv query], pt q 53 [v0, .map (some bm)], row 56 2 eP v (l.map Ask.place)] [mapA pv av bm m] (ret (iv (-1)) [mapA pv av bm m]) := by
  refine Spc.enter' (args := [v, fv c1 c2 c3]) (T0 := [(0, v), (1, fv c1 c2 c3)]) Try.func24 rfl Try.ntmps24 (Nat.le_of_ble_eq_true rfl) rfl ?_
  intro w0 own
  have h24 := hf.len
  have hml : (l.map Ask.place).length = l.length := by simp
  repeat' (first
    | (with_reducible refine CW.seq ?_)
    | (with_reducible refine CW.region ?_)
    | (with_reducible refine KP.list_nil ?_)
    | (with_reducible refine KP.then_code ?_)
    | (with_reducible refine CW.skip ?_)
    | (with_reducible refine CW.ret ?_)
    | (with_reducible refine KP.then_ret ?_)
    | (with_reducible refine KP.block_ret ?_)
    | (with_reducible refine CW.block ?_)
    | (with_reducible refine KP.block_normal ?_)
    | (with_reducible refine CW.exit ?_)
    | (with_reducible refine KP.then_exit ?_)
    | (with_reducible refine KP.block_hit ?_)
    | ((with_reducible refine KP.block_miss ?_ ?_); (· rfl))
    | ((with_reducible refine CW.cond_t ?_ ?_); (· rfl))
    | ((with_reducible refine CW.cond_f ?_ ?_); (· rfl))
    | ((with_reducible apply CW.condP); (· rfl))
    | ((with_reducible apply CW.cond); (· rfl))
    | (with_reducible refine CP.exP fun _ => ?_)
    | (with_reducible refine CP.puP fun _ => ?_)
    | ((with_reducible refine CP.ret_0 ?_ ?_); (· decide))
    | ((with_reducible refine CP.ret_1 ?_ ?_); (· decide))
    | ((with_reducible refine CP.ret_2 ?_ ?_); (· decide))
    | ((with_reducible refine CP.ret_3 ?_ ?_); (· decide))
    | ((with_reducible refine CP.ret_4 ?_ ?_); (· decide))
    | (with_reducible refine CP.ret0_0 ?_)
    | (with_reducible refine CP.ret0_1 ?_)
    | (with_reducible refine CP.ret0_2 ?_)
    | (with_reducible refine CP.ret0_3 ?_)
    | (with_reducible refine CP.ret0_4 ?_)
    | ((with_reducible apply KP.guard_yes); (· rfl); (· rfl))
    | ((with_reducible apply KP.guard_no); (· rfl); (· rfl); (· decide))
    | ((with_reducible apply KP.guard_un); (· rfl); (· rfl); (· decide))
    | ((with_reducible apply KP.guard_no0); (· rfl); (· rfl))
    | ((with_reducible apply KP.guard_un0); (· rfl); (· rfl))
    | ((with_reducible apply KP.quiet); (· first | exact QY.assign rfl | exact QY.move rfl | exact QY.len_row rfl (Rd.ro (by with_reducible first | exact m0 | exact m1 | exact m2 | exact m3 | exact m4 | exact m5 | fail)) RowL.row | exact QY.len rfl | exact QY.len_str rfl | exact QY.same (QY.lss rfl rfl) (dec_t (by omega)) | exact QY.same (QY.lss rfl rfl) (dec_f (by omega)) | exact QY.lss rfl rfl | exact QY.index (i := i) rfl rfl (Rd.ro (by with_reducible first | exact m0 | exact m1 | exact m2 | exact m3 | exact m4 | exact m5 | fail)) (RowL.row (n := 2)) (by omega) | exact QY.load_a (cs := eP a.place) rfl (Rd.ro (by with_reducible first | exact m0 | exact m1 | exact m2 | exact m3 | exact m4 | exact m5 | fail)) (Reads.row (i := i) (x := a.place) (enc := eP) RowL.row hp) (by rfl) | exact QY.load_s rfl (Rd.own (by with_reducible first | exact k0 | exact k1 | exact k2 | exact k3 | exact k4 | exact k5 | exact k6 | exact k7 | exact k8 | exact k9 | fail)) (Reads.pt1 (by rfl)) | exact QY.load_a rfl (Rd.own (by with_reducible first | exact k0 | exact k1 | exact k2 | exact k3 | exact k4 | exact k5 | exact k6 | exact k7 | exact k8 | exact k9 | fail)) Reads.pt_all (by rfl) | exact QY.inc64 rfl rfl (by omega) | exact QY.add64 rfl rfl (by omega) | exact QY.add rfl rfl); (· decide))
    | ((with_reducible refine KP.eff ?_); (first | refine EW.callv (vs := [pv a.place]) (caps := [qp c1, qp c2, qp c3]) rfl (clo_no (q := q) (v0 := v0) (slot := slot) (query := query) hk ho) rfl (Split.cons (by with_reducible first | exact k0 | exact k1 | exact k2 | exact k3 | exact k4 | exact k5 | exact k6 | exact k7 | exact k8 | exact k9 | fail) Split.nil) (RosOf.cons (RoOf.pass (by with_reducible first | exact m0 | exact m1 | exact m2 | exact m3 | exact m4 | exact m5 | fail)) (RosOf.cons (RoOf.pass (by with_reducible first | exact m0 | exact m1 | exact m2 | exact m3 | exact m4 | exact m5 | fail)) (RosOf.cons (RoOf.pass (by with_reducible first | exact m0 | exact m1 | exact m2 | exact m3 | exact m4 | exact m5 | fail)) (RosOf.cons (RoOf.pass (by with_reducible first | exact m0 | exact m1 | exact m2 | exact m3 | exact m4 | exact m5 | fail)) RosOf.nil)))) ?_ | refine EW.callv (vs := [pv a.place]) (caps := [qp c1, qp c2, qp c3]) rfl (clo_yes (q := q) (v0 := v0) (slot := slot) (query := query) hk ho) rfl (Split.cons (by with_reducible first | exact k0 | exact k1 | exact k2 | exact k3 | exact k4 | exact k5 | exact k6 | exact k7 | exact k8 | exact k9 | fail) Split.nil) (RosOf.cons (RoOf.pass (by with_reducible first | exact m0 | exact m1 | exact m2 | exact m3 | exact m4 | exact m5 | fail)) (RosOf.cons (RoOf.pass (by with_reducible first | exact m0 | exact m1 | exact m2 | exact m3 | exact m4 | exact m5 | fail)) (RosOf.cons (RoOf.pass (by with_reducible first | exact m0 | exact m1 | exact m2 | exact m3 | exact m4 | exact m5 | fail)) (RosOf.cons (RoOf.pass (by with_reducible first | exact m0 | exact m1 | exact m2 | exact m3 | exact m4 | exact m5 | fail)) RosOf.nil)))) ?_))
    | ((with_reducible apply KP.fin1); (· rfl); (· rfl))
    | ((with_reducible apply KP.fin2); (· rfl); (· rfl); (· rfl))
    | ((with_reducible refine KP.fin0 ?_ ?_); (· rfl))
    | ((with_reducible refine KP.fin0r ?_ ?_); (· rfl))
    | (intro _))
  refine CW.loop (X := Nat) (ks := [0, 1, 7, 8]) (fun i => [(0, v), (1, fv c1 c2 c3), (7, iv (l.map Ask.place).length), (8, iv i)]) (fun _ => [mapA pv av bm m]) (fun i => i ≤ l.length) (fun i => l.length - i) 0 (by simp) (by repeat first | exact Keeps.nil | (apply Keeps.cons; (· rfl))) (Ent.cons (by with_reducible first | exact k0 | exact k1 | exact k2 | exact k3 | exact k4 | exact k5 | exact k6 | exact k7 | exact k8 | exact k9 | fail) Ent.nil) ?_
  rintro i hi
  try dsimp only at hi ⊢
  rcases Nat.lt_or_ge i l.length with hlt | hge
  · obtain ⟨a, ha⟩ : ∃ a, l[i]? = some a := ⟨l[i], by simp [hlt]⟩
    have hk := hf.find ha
    have hp : (l.map Ask.place)[i]? = some a.place := by simp [ha]
    have ho := hn a (List.mem_of_getElem? ha)
    repeat' (first
    | (with_reducible refine CW.seq ?_)
    | (with_reducible refine CW.region ?_)
    | (with_reducible refine KP.list_nil ?_)
    | (with_reducible refine KP.then_code ?_)
    | (with_reducible refine CW.skip ?_)
    | (with_reducible refine CW.ret ?_)
    | (with_reducible refine KP.then_ret ?_)
    | (with_reducible refine KP.block_ret ?_)
    | (with_reducible refine CW.block ?_)
    | (with_reducible refine KP.block_normal ?_)
    | (with_reducible refine CW.exit ?_)
    | (with_reducible refine KP.then_exit ?_)
    | (with_reducible refine KP.block_hit ?_)
    | ((with_reducible refine KP.block_miss ?_ ?_); (· rfl))
    | ((with_reducible refine CW.cond_t ?_ ?_); (· rfl))
    | ((with_reducible refine CW.cond_f ?_ ?_); (· rfl))
    | ((with_reducible apply CW.condP); (· rfl))
    | ((with_reducible apply CW.cond); (· rfl))
    | (with_reducible refine CP.exP fun _ => ?_)
    | (with_reducible refine CP.puP fun _ => ?_)
    | ((with_reducible refine CP.ret_0 ?_ ?_); (· decide))
    | ((with_reducible refine CP.ret_1 ?_ ?_); (· decide))
    | ((with_reducible refine CP.ret_2 ?_ ?_); (· decide))
    | ((with_reducible refine CP.ret_3 ?_ ?_); (· decide))
    | ((with_reducible refine CP.ret_4 ?_ ?_); (· decide))
    | (with_reducible refine CP.ret0_0 ?_)
    | (with_reducible refine CP.ret0_1 ?_)
    | (with_reducible refine CP.ret0_2 ?_)
    | (with_reducible refine CP.ret0_3 ?_)
    | (with_reducible refine CP.ret0_4 ?_)
    | ((with_reducible apply KP.guard_yes); (· rfl); (· rfl))
    | ((with_reducible apply KP.guard_no); (· rfl); (· rfl); (· decide))
    | ((with_reducible apply KP.guard_un); (· rfl); (· rfl); (· decide))
    | ((with_reducible apply KP.guard_no0); (· rfl); (· rfl))
    | ((with_reducible apply KP.guard_un0); (· rfl); (· rfl))
    | ((with_reducible apply KP.quiet); (· first | exact QY.assign rfl | exact QY.move rfl | exact QY.len_row rfl (Rd.ro (by with_reducible first | exact m0 | exact m1 | exact m2 | exact m3 | exact m4 | exact m5 | fail)) RowL.row | exact QY.len rfl | exact QY.len_str rfl | exact QY.same (QY.lss rfl rfl) (dec_t (by omega)) | exact QY.same (QY.lss rfl rfl) (dec_f (by omega)) | exact QY.lss rfl rfl | exact QY.index (i := i) rfl rfl (Rd.ro (by with_reducible first | exact m0 | exact m1 | exact m2 | exact m3 | exact m4 | exact m5 | fail)) (RowL.row (n := 2)) (by omega) | exact QY.load_a (cs := eP a.place) rfl (Rd.ro (by with_reducible first | exact m0 | exact m1 | exact m2 | exact m3 | exact m4 | exact m5 | fail)) (Reads.row (i := i) (x := a.place) (enc := eP) RowL.row hp) (by rfl) | exact QY.load_s rfl (Rd.own (by with_reducible first | exact k0 | exact k1 | exact k2 | exact k3 | exact k4 | exact k5 | exact k6 | exact k7 | exact k8 | exact k9 | fail)) (Reads.pt1 (by rfl)) | exact QY.load_a rfl (Rd.own (by with_reducible first | exact k0 | exact k1 | exact k2 | exact k3 | exact k4 | exact k5 | exact k6 | exact k7 | exact k8 | exact k9 | fail)) Reads.pt_all (by rfl) | exact QY.inc64 rfl rfl (by omega) | exact QY.add64 rfl rfl (by omega) | exact QY.add rfl rfl); (· decide))
    | ((with_reducible refine KP.eff ?_); (first | refine EW.callv (vs := [pv a.place]) (caps := [qp c1, qp c2, qp c3]) rfl (clo_no (q := q) (v0 := v0) (slot := slot) (query := query) hk ho) rfl (Split.cons (by with_reducible first | exact k0 | exact k1 | exact k2 | exact k3 | exact k4 | exact k5 | exact k6 | exact k7 | exact k8 | exact k9 | fail) Split.nil) (RosOf.cons (RoOf.pass (by with_reducible first | exact m0 | exact m1 | exact m2 | exact m3 | exact m4 | exact m5 | fail)) (RosOf.cons (RoOf.pass (by with_reducible first | exact m0 | exact m1 | exact m2 | exact m3 | exact m4 | exact m5 | fail)) (RosOf.cons (RoOf.pass (by with_reducible first | exact m0 | exact m1 | exact m2 | exact m3 | exact m4 | exact m5 | fail)) (RosOf.cons (RoOf.pass (by with_reducible first | exact m0 | exact m1 | exact m2 | exact m3 | exact m4 | exact m5 | fail)) RosOf.nil)))) ?_ | refine EW.callv (vs := [pv a.place]) (caps := [qp c1, qp c2, qp c3]) rfl (clo_yes (q := q) (v0 := v0) (slot := slot) (query := query) hk ho) rfl (Split.cons (by with_reducible first | exact k0 | exact k1 | exact k2 | exact k3 | exact k4 | exact k5 | exact k6 | exact k7 | exact k8 | exact k9 | fail) Split.nil) (RosOf.cons (RoOf.pass (by with_reducible first | exact m0 | exact m1 | exact m2 | exact m3 | exact m4 | exact m5 | fail)) (RosOf.cons (RoOf.pass (by with_reducible first | exact m0 | exact m1 | exact m2 | exact m3 | exact m4 | exact m5 | fail)) (RosOf.cons (RoOf.pass (by with_reducible first | exact m0 | exact m1 | exact m2 | exact m3 | exact m4 | exact m5 | fail)) (RosOf.cons (RoOf.pass (by with_reducible first | exact m0 | exact m1 | exact m2 | exact m3 | exact m4 | exact m5 | fail)) RosOf.nil)))) ?_))
    | ((with_reducible apply KP.fin1); (· rfl); (· rfl))
    | ((with_reducible apply KP.fin2); (· rfl); (· rfl); (· rfl))
    | ((with_reducible refine KP.fin0 ?_ ?_); (· rfl))
    | ((with_reducible refine KP.fin0r ?_ ?_); (· rfl))
    | (intro _))
    exact KP.round (ks := [0, 1, 7, 8]) (i + 1) (by omega) (by first | omega | (simp only; omega)) (by repeat first | exact Keeps.nil | (apply Keeps.cons; (· rfl))) (Ent.cons (by with_reducible first | exact k0 | exact k1 | exact k2 | exact k3 | exact k4 | exact k5 | exact k6 | exact k7 | exact k8 | exact k9 | fail) Ent.nil)
  · repeat' (first
    | (with_reducible refine CW.seq ?_)
    | (with_reducible refine CW.region ?_)
    | (with_reducible refine KP.list_nil ?_)
    | (with_reducible refine KP.then_code ?_)
    | (with_reducible refine CW.skip ?_)
    | (with_reducible refine CW.ret ?_)
    | (with_reducible refine KP.then_ret ?_)
    | (with_reducible refine KP.block_ret ?_)
    | (with_reducible refine CW.block ?_)
    | (with_reducible refine KP.block_normal ?_)
    | (with_reducible refine CW.exit ?_)
    | (with_reducible refine KP.then_exit ?_)
    | (with_reducible refine KP.block_hit ?_)
    | ((with_reducible refine KP.block_miss ?_ ?_); (· rfl))
    | ((with_reducible refine CW.cond_t ?_ ?_); (· rfl))
    | ((with_reducible refine CW.cond_f ?_ ?_); (· rfl))
    | ((with_reducible apply CW.condP); (· rfl))
    | ((with_reducible apply CW.cond); (· rfl))
    | (with_reducible refine CP.exP fun _ => ?_)
    | (with_reducible refine CP.puP fun _ => ?_)
    | ((with_reducible refine CP.ret_0 ?_ ?_); (· decide))
    | ((with_reducible refine CP.ret_1 ?_ ?_); (· decide))
    | ((with_reducible refine CP.ret_2 ?_ ?_); (· decide))
    | ((with_reducible refine CP.ret_3 ?_ ?_); (· decide))
    | ((with_reducible refine CP.ret_4 ?_ ?_); (· decide))
    | (with_reducible refine CP.ret0_0 ?_)
    | (with_reducible refine CP.ret0_1 ?_)
    | (with_reducible refine CP.ret0_2 ?_)
    | (with_reducible refine CP.ret0_3 ?_)
    | (with_reducible refine CP.ret0_4 ?_)
    | ((with_reducible apply KP.guard_yes); (· rfl); (· rfl))
    | ((with_reducible apply KP.guard_no); (· rfl); (· rfl); (· decide))
    | ((with_reducible apply KP.guard_un); (· rfl); (· rfl); (· decide))
    | ((with_reducible apply KP.guard_no0); (· rfl); (· rfl))
    | ((with_reducible apply KP.guard_un0); (· rfl); (· rfl))
    | ((with_reducible apply KP.quiet); (· first | exact QY.assign rfl | exact QY.move rfl | exact QY.len_row rfl (Rd.ro (by with_reducible first | exact m0 | exact m1 | exact m2 | exact m3 | exact m4 | exact m5 | fail)) RowL.row | exact QY.len rfl | exact QY.len_str rfl | exact QY.same (QY.lss rfl rfl) (dec_t (by omega)) | exact QY.same (QY.lss rfl rfl) (dec_f (by omega)) | exact QY.lss rfl rfl | exact QY.index (i := i) rfl rfl (Rd.ro (by with_reducible first | exact m0 | exact m1 | exact m2 | exact m3 | exact m4 | exact m5 | fail)) (RowL.row (n := 2)) (by omega) | exact QY.load_a (cs := eP a.place) rfl (Rd.ro (by with_reducible first | exact m0 | exact m1 | exact m2 | exact m3 | exact m4 | exact m5 | fail)) (Reads.row (i := i) (x := a.place) (enc := eP) RowL.row hp) (by rfl) | exact QY.load_s rfl (Rd.own (by with_reducible first | exact k0 | exact k1 | exact k2 | exact k3 | exact k4 | exact k5 | exact k6 | exact k7 | exact k8 | exact k9 | fail)) (Reads.pt1 (by rfl)) | exact QY.load_a rfl (Rd.own (by with_reducible first | exact k0 | exact k1 | exact k2 | exact k3 | exact k4 | exact k5 | exact k6 | exact k7 | exact k8 | exact k9 | fail)) Reads.pt_all (by rfl) | exact QY.inc64 rfl rfl (by omega) | exact QY.add64 rfl rfl (by omega) | exact QY.add rfl rfl); (· decide))
    | ((with_reducible refine KP.eff ?_); (first | refine EW.callv (vs := [pv a.place]) (caps := [qp c1, qp c2, qp c3]) rfl (clo_no (q := q) (v0 := v0) (slot := slot) (query := query) hk ho) rfl (Split.cons (by with_reducible first | exact k0 | exact k1 | exact k2 | exact k3 | exact k4 | exact k5 | exact k6 | exact k7 | exact k8 | exact k9 | fail) Split.nil) (RosOf.cons (RoOf.pass (by with_reducible first | exact m0 | exact m1 | exact m2 | exact m3 | exact m4 | exact m5 | fail)) (RosOf.cons (RoOf.pass (by with_reducible first | exact m0 | exact m1 | exact m2 | exact m3 | exact m4 | exact m5 | fail)) (RosOf.cons (RoOf.pass (by with_reducible first | exact m0 | exact m1 | exact m2 | exact m3 | exact m4 | exact m5 | fail)) (RosOf.cons (RoOf.pass (by with_reducible first | exact m0 | exact m1 | exact m2 | exact m3 | exact m4 | exact m5 | fail)) RosOf.nil)))) ?_ | refine EW.callv (vs := [pv a.place]) (caps := [qp c1, qp c2, qp c3]) rfl (clo_yes (q := q) (v0 := v0) (slot := slot) (query := query) hk ho) rfl (Split.cons (by with_reducible first | exact k0 | exact k1 | exact k2 | exact k3 | exact k4 | exact k5 | exact k6 | exact k7 | exact k8 | exact k9 | fail) Split.nil) (RosOf.cons (RoOf.pass (by with_reducible first | exact m0 | exact m1 | exact m2 | exact m3 | exact m4 | exact m5 | fail)) (RosOf.cons (RoOf.pass (by with_reducible first | exact m0 | exact m1 | exact m2 | exact m3 | exact m4 | exact m5 | fail)) (RosOf.cons (RoOf.pass (by with_reducible first | exact m0 | exact m1 | exact m2 | exact m3 | exact m4 | exact m5 | fail)) (RosOf.cons (RoOf.pass (by with_reducible first | exact m0 | exact m1 | exact m2 | exact m3 | exact m4 | exact m5 | fail)) RosOf.nil)))) ?_))
    | ((with_reducible apply KP.fin1); (· rfl); (· rfl))
    | ((with_reducible apply KP.fin2); (· rfl); (· rfl); (· rfl))
    | ((with_reducible refine KP.fin0 ?_ ?_); (· rfl))
    | ((with_reducible refine KP.fin0r ?_ ?_); (· rfl))
    | (intro _))
    exact Fina.ret (Ent.cons (by with_reducible first | exact k0 | exact k1 | exact k2 | exact k3 | exact k4 | exact k5 | exact k6 | exact k7 | exact k8 | exact k9 | fail) Ent.nil)
theorem index_some {q c1 c2 c3 bm : Nat} {v v0 : Value} {l : List Ask} {m : List (Place × Ask)} {slot query : Int} (hf : QF l m) {i0 : Nat} {a0 : Ask} (h0 : l[i0]? = some a0) (ho0 : offF slot query a0 = true) (hn : ∀ i a, i < i0 → l[i]? = some a → offF slot query a = false) :
    Spc Try.prog 24 #[v, fv c1 c2 c3] [pt c1 3 [iv slot], pt c2 24 [qp q], pt c3 3 [iv query], pt q 53 [v0, .map (some bm)], row 56 2 eP v (l.map Ask.place)] [mapA pv av bm m] (ret (iv i0) [mapA pv av bm (mdel m a0.place)]) := by
  refine Spc.enter' (args := [v, fv c1 c2 c3]) (T0 := [(0, v), (1, fv c1 c2 c3)]) Try.func24 rfl Try.ntmps24 (Nat.le_of_ble_eq_true rfl) rfl ?_
  intro w0 own
  have h24 := hf.len
  have hml : (l.map Ask.place).length = l.length := by simp
  have hi0 : i0 < l.length := (List.getElem?_eq_some_iff.1 h0).1
  repeat' (first
    | (with_reducible refine CW.seq ?_)
    | (with_reducible refine CW.region ?_)
    | (with_reducible refine KP.list_nil ?_)
    | (with_reducible refine KP.then_code ?_)
    | (with_reducible refine CW.skip ?_)
    | (with_reducible refine CW.ret ?_)
    | (with_reducible refine KP.then_ret ?_)
    | (with_reducible refine KP.block_ret ?_)
    | (with_reducible refine CW.block ?_)
    | (with_reducible refine KP.block_normal ?_)
    | (with_reducible refine CW.exit ?_)
    | (with_reducible refine KP.then_exit ?_)
    | (with_reducible refine KP.block_hit ?_)
    | ((with_reducible refine KP.block_miss ?_ ?_); (· rfl))
    | ((with_reducible refine CW.cond_t ?_ ?_); (· rfl))
    | ((with_reducible refine CW.cond_f ?_ ?_); (· rfl))
    | ((with_reducible apply CW.condP); (· rfl))
    | ((with_reducible apply CW.cond); (· rfl))
    | (with_reducible refine CP.exP fun _ => ?_)
    | (with_reducible refine CP.puP fun _ => ?_)
    | ((with_reducible refine CP.ret_0 ?_ ?_); (· decide))
    | ((with_reducible refine CP.ret_1 ?_ ?_); (· decide))
    | ((with_reducible refine CP.ret_2 ?_ ?_); (· decide))
    | ((with_reducible refine CP.ret_3 ?_ ?_); (· decide))
    | ((with_reducible refine CP.ret_4 ?_ ?_); (· decide))
    | (with_reducible refine CP.ret0_0 ?_)
    | (with_reducible refine CP.ret0_1 ?_)
    | (with_reducible refine CP.ret0_2 ?_)
    | (with_reducible refine CP.ret0_3 ?_)
    | (with_reducible refine CP.ret0_4 ?_)
    | ((with_reducible apply KP.guard_yes); (· rfl); (· rfl))
    | ((with_reducible apply KP.guard_no); (· rfl); (· rfl); (· decide))
    | ((with_reducible apply KP.guard_un); (· rfl); (· rfl); (· decide))
    | ((with_reducible apply KP.guard_no0); (· rfl); (· rfl))
    | ((with_reducible apply KP.guard_un0); (· rfl); (· rfl))
    | ((with_reducible apply KP.quiet); (· first | exact QY.assign rfl | exact QY.move rfl | exact QY.len_row rfl (Rd.ro (by with_reducible first | exact m0 | exact m1 | exact m2 | exact m3 | exact m4 | exact m5 | fail)) RowL.row | exact QY.len rfl | exact QY.len_str rfl | exact QY.same (QY.lss rfl rfl) (dec_t (by omega)) | exact QY.same (QY.lss rfl rfl) (dec_f (by omega)) | exact QY.lss rfl rfl | exact QY.index (i := i) rfl rfl (Rd.ro (by with_reducible first | exact m0 | exact m1 | exact m2 | exact m3 | exact m4 | exact m5 | fail)) (RowL.row (n := 2)) (by omega) | exact QY.load_a (cs := eP a.place) rfl (Rd.ro (by with_reducible first | exact m0 | exact m1 | exact m2 | exact m3 | exact m4 | exact m5 | fail)) (Reads.row (i := i) (x := a.place) (enc := eP) RowL.row hp) (by rfl) | exact QY.load_s rfl (Rd.own (by with_reducible first | exact k0 | exact k1 | exact k2 | exact k3 | exact k4 | exact k5 | exact k6 | exact k7 | exact k8 | exact k9 | fail)) (Reads.pt1 (by rfl)) | exact QY.load_a rfl (Rd.own (by with_reducible first | exact k0 | exact k1 | exact k2 | exact k3 | exact k4 | exact k5 | exact k6 | exact k7 | exact k8 | exact k9 | fail)) Reads.pt_all (by rfl) | exact QY.inc64 rfl rfl (by omega) | exact QY.add64 rfl rfl (by omega) | exact QY.add rfl rfl); (· decide))
    | ((with_reducible refine KP.eff ?_); (first | refine EW.callv (vs := [pv a.place]) (caps := [qp c1, qp c2, qp c3]) rfl (clo_no (q := q) (v0 := v0) (slot := slot) (query := query) hk ho) rfl (Split.cons (by with_reducible first | exact k0 | exact k1 | exact k2 | exact k3 | exact k4 | exact k5 | exact k6 | exact k7 | exact k8 | exact k9 | fail) Split.nil) (RosOf.cons (RoOf.pass (by with_reducible first | exact m0 | exact m1 | exact m2 | exact m3 | exact m4 | exact m5 | fail)) (RosOf.cons (RoOf.pass (by with_reducible first | exact m0 | exact m1 | exact m2 | exact m3 | exact m4 | exact m5 | fail)) (RosOf.cons (RoOf.pass (by with_reducible first | exact m0 | exact m1 | exact m2 | exact m3 | exact m4 | exact m5 | fail)) (RosOf.cons (RoOf.pass (by with_reducible first | exact m0 | exact m1 | exact m2 | exact m3 | exact m4 | exact m5 | fail)) RosOf.nil)))) ?_ | refine EW.callv (vs := [pv a.place]) (caps := [qp c1, qp c2, qp c3]) rfl (clo_yes (q := q) (v0 := v0) (slot := slot) (query := query) hk ho) rfl (Split.cons (by with_reducible first | exact k0 | exact k1 | exact k2 | exact k3 | exact k4 | exact k5 | exact k6 | exact k7 | exact k8 | exact k9 | fail) Split.nil) (RosOf.cons (RoOf.pass (by with_reducible first | exact m0 | exact m1 | exact m2 | exact m3 | exact m4 | exact m5 | fail)) (RosOf.cons (RoOf.pass (by with_reducible first | exact m0 | exact m1 | exact m2 | exact m3 | exact m4 | exact m5 | fail)) (RosOf.cons (RoOf.pass (by with_reducible first | exact m0 | exact m1 | exact m2 | exact m3 | exact m4 | exact m5 | fail)) (RosOf.cons (RoOf.pass (by with_reducible first | exact m0 | exact m1 | exact m2 | exact m3 | exact m4 | exact m5 | fail)) RosOf.nil)))) ?_))
    | ((with_reducible apply KP.fin1); (· rfl); (· rfl))
    | ((with_reducible apply KP.fin2); (· rfl); (· rfl); (· rfl))
    | ((with_reducible refine KP.fin0 ?_ ?_); (· rfl))
    | ((with_reducible refine KP.fin0r ?_ ?_); (· rfl))
    | (intro _))
  refine CW.loop (X := Nat) (ks := [0, 1, 7, 8]) (fun i => [(0, v), (1, fv c1 c2 c3), (7, iv (l.map Ask.place).length), (8, iv i)]) (fun _ => [mapA pv av bm m]) (fun i => i ≤ i0) (fun i => l.length - i) 0 (by simp) (by repeat first | exact Keeps.nil | (apply Keeps.cons; (· rfl))) (Ent.cons (by with_reducible first | exact k0 | exact k1 | exact k2 | exact k3 | exact k4 | exact k5 | exact k6 | exact k7 | exact k8 | exact k9 | fail) Ent.nil) ?_
  rintro i hi
  try dsimp only at hi ⊢
  rcases Nat.lt_or_ge i i0 with hlt | hge
  · obtain ⟨a, ha⟩ : ∃ a, l[i]? = some a := ⟨l[i], by simp [show i < l.length by omega]⟩
    have hk := hf.find ha
    have hp : (l.map Ask.place)[i]? = some a.place := by simp [ha]
    have ho := hn i a hlt ha
    repeat' (first
    | (with_reducible refine CW.seq ?_)
    | (with_reducible refine CW.region ?_)
    | (with_reducible refine KP.list_nil ?_)
    | (with_reducible refine KP.then_code ?_)
    | (with_reducible refine CW.skip ?_)
    | (with_reducible refine CW.ret ?_)
    | (with_reducible refine KP.then_ret ?_)
    | (with_reducible refine KP.block_ret ?_)
    | (with_reducible refine CW.block ?_)
    | (with_reducible refine KP.block_normal ?_)
    | (with_reducible refine CW.exit ?_)
    | (with_reducible refine KP.then_exit ?_)
    | (with_reducible refine KP.block_hit ?_)
    | ((with_reducible refine KP.block_miss ?_ ?_); (· rfl))
    | ((with_reducible refine CW.cond_t ?_ ?_); (· rfl))
    | ((with_reducible refine CW.cond_f ?_ ?_); (· rfl))
    | ((with_reducible apply CW.condP); (· rfl))
    | ((with_reducible apply CW.cond); (· rfl))
    | (with_reducible refine CP.exP fun _ => ?_)
    | (with_reducible refine CP.puP fun _ => ?_)
    | ((with_reducible refine CP.ret_0 ?_ ?_); (· decide))
    | ((with_reducible refine CP.ret_1 ?_ ?_); (· decide))
    | ((with_reducible refine CP.ret_2 ?_ ?_); (· decide))
    | ((with_reducible refine CP.ret_3 ?_ ?_); (· decide))
    | ((with_reducible refine CP.ret_4 ?_ ?_); (· decide))
    | (with_reducible refine CP.ret0_0 ?_)
    | (with_reducible refine CP.ret0_1 ?_)
    | (with_reducible refine CP.ret0_2 ?_)
    | (with_reducible refine CP.ret0_3 ?_)
    | (with_reducible refine CP.ret0_4 ?_)
    | ((with_reducible apply KP.guard_yes); (· rfl); (· rfl))
    | ((with_reducible apply KP.guard_no); (· rfl); (· rfl); (· decide))
    | ((with_reducible apply KP.guard_un); (· rfl); (· rfl); (· decide))
    | ((with_reducible apply KP.guard_no0); (· rfl); (· rfl))
    | ((with_reducible apply KP.guard_un0); (· rfl); (· rfl))
    | ((with_reducible apply KP.quiet); (· first | exact QY.assign rfl | exact QY.move rfl | exact QY.len_row rfl (Rd.ro (by with_reducible first | exact m0 | exact m1 | exact m2 | exact m3 | exact m4 | exact m5 | fail)) RowL.row | exact QY.len rfl | exact QY.len_str rfl | exact QY.same (QY.lss rfl rfl) (dec_t (by omega)) | exact QY.same (QY.lss rfl rfl) (dec_f (by omega)) | exact QY.lss rfl rfl | exact QY.index (i := i) rfl rfl (Rd.ro (by with_reducible first | exact m0 | exact m1 | exact m2 | exact m3 | exact m4 | exact m5 | fail)) (RowL.row (n := 2)) (by omega) | exact QY.load_a (cs := eP a.place) rfl (Rd.ro (by with_reducible first | exact m0 | exact m1 | exact m2 | exact m3 | exact m4 | exact m5 | fail)) (Reads.row (i := i) (x := a.place) (enc := eP) RowL.row hp) (by rfl) | exact QY.load_s rfl (Rd.own (by with_reducible first | exact k0 | exact k1 | exact k2 | exact k3 | exact k4 | exact k5 | exact k6 | exact k7 | exact k8 | exact k9 | fail)) (Reads.pt1 (by rfl)) | exact QY.load_a rfl (Rd.own (by with_reducible first | exact k0 | exact k1 | exact k2 | exact k3 | exact k4 | exact k5 | exact k6 | exact k7 | exact k8 | exact k9 | fail)) Reads.pt_all (by rfl) | exact QY.inc64 rfl rfl (by omega) | exact QY.add64 rfl rfl (by omega) | exact QY.add rfl rfl); (· decide))
    | ((with_reducible refine KP.eff ?_); (first | refine EW.callv (vs := [pv a.place]) (caps := [qp c1, qp c2, qp c3]) rfl (clo_no (q := q) (v0 := v0) (slot := slot) (query := query) hk ho) rfl (Split.cons (by with_reducible first | exact k0 | exact k1 | exact k2 | exact k3 | exact k4 | exact k5 | exact k6 | exact k7 | exact k8 | exact k9 | fail) Split.nil) (RosOf.cons (RoOf.pass (by with_reducible first | exact m0 | exact m1 | exact m2 | exact m3 | exact m4 | exact m5 | fail)) (RosOf.cons (RoOf.pass (by with_reducible first | exact m0 | exact m1 | exact m2 | exact m3 | exact m4 | exact m5 | fail)) (RosOf.cons (RoOf.pass (by with_reducible first | exact m0 | exact m1 | exact m2 | exact m3 | exact m4 | exact m5 | fail)) (RosOf.cons (RoOf.pass (by with_reducible first | exact m0 | exact m1 | exact m2 | exact m3 | exact m4 | exact m5 | fail)) RosOf.nil)))) ?_ | refine EW.callv (vs := [pv a.place]) (caps := [qp c1, qp c2, qp c3]) rfl (clo_yes (q := q) (v0 := v0) (slot := slot) (query := query) hk ho) rfl (Split.cons (by with_reducible first | exact k0 | exact k1 | exact k2 | exact k3 | exact k4 | exact k5 | exact k6 | exact k7 | exact k8 | exact k9 | fail) Split.nil) (RosOf.cons (RoOf.pass (by with_reducible first | exact m0 | exact m1 | exact m2 | exact m3 | exact m4 | exact m5 | fail)) (RosOf.cons (RoOf.pass (by with_reducible first | exact m0 | exact m1 | exact m2 | exact m3 | exact m4 | exact m5 | fail)) (RosOf.cons (RoOf.pass (by with_reducible first | exact m0 | exact m1 | exact m2 | exact m3 | exact m4 | exact m5 | fail)) (RosOf.cons (RoOf.pass (by with_reducible first | exact m0 | exact m1 | exact m2 | exact m3 | exact m4 | exact m5 | fail)) RosOf.nil)))) ?_))
    | ((with_reducible apply KP.fin1); (· rfl); (· rfl))
    | ((with_reducible apply KP.fin2); (· rfl); (· rfl); (· rfl))
    | ((with_reducible refine KP.fin0 ?_ ?_); (· rfl))
    | ((with_reducible refine KP.fin0r ?_ ?_); (· rfl))
    | (intro _))
    exact KP.round (ks := [0, 1, 7, 8]) (i + 1) (by omega) (by first | omega | (simp only; omega)) (by repeat first | exact Keeps.nil | (apply Keeps.cons; (· rfl))) (Ent.cons (by with_reducible first | exact k0 | exact k1 | exact k2 | exact k3 | exact k4 | exact k5 | exact k6 | exact k7 | exact k8 | exact k9 | fail) Ent.nil)
  · obtain rfl : i = i0 := by omega
    obtain ⟨a, ha, ho⟩ : ∃ a, l[i]? = some a ∧ offF slot query a = true := ⟨a0, h0, ho0⟩
    obtain rfl : a = a0 := by rw [h0] at ha; cases ha; rfl
    have hk := hf.find ha
    have hp : (l.map Ask.place)[i]? = some a.place := by simp [ha]
    repeat' (first
    | (with_reducible refine CW.seq ?_)
    | (with_reducible refine CW.region ?_)
    | (with_reducible refine KP.list_nil ?_)
    | (with_reducible refine KP.then_code ?_)
    | (with_reducible refine CW.skip ?_)
    | (with_reducible refine CW.ret ?_)
    | (with_reducible refine KP.then_ret ?_)
    | (with_reducible refine KP.block_ret ?_)
    | (with_reducible refine CW.block ?_)
    | (with_reducible refine KP.block_normal ?_)
    | (with_reducible refine CW.exit ?_)
    | (with_reducible refine KP.then_exit ?_)
    | (with_reducible refine KP.block_hit ?_)
    | ((with_reducible refine KP.block_miss ?_ ?_); (· rfl))
    | ((with_reducible refine CW.cond_t ?_ ?_); (· rfl))
    | ((with_reducible refine CW.cond_f ?_ ?_); (· rfl))
    | ((with_reducible apply CW.condP); (· rfl))
    | ((with_reducible apply CW.cond); (· rfl))
    | (with_reducible refine CP.exP fun _ => ?_)
    | (with_reducible refine CP.puP fun _ => ?_)
    | ((with_reducible refine CP.ret_0 ?_ ?_); (· decide))
    | ((with_reducible refine CP.ret_1 ?_ ?_); (· decide))
    | ((with_reducible refine CP.ret_2 ?_ ?_); (· decide))
    | ((with_reducible refine CP.ret_3 ?_ ?_); (· decide))
    | ((with_reducible refine CP.ret_4 ?_ ?_); (· decide))
    | (with_reducible refine CP.ret0_0 ?_)
    | (with_reducible refine CP.ret0_1 ?_)
    | (with_reducible refine CP.ret0_2 ?_)
    | (with_reducible refine CP.ret0_3 ?_)
    | (with_reducible refine CP.ret0_4 ?_)
    | ((with_reducible apply KP.guard_yes); (· rfl); (· rfl))
    | ((with_reducible apply KP.guard_no); (· rfl); (· rfl); (· decide))
    | ((with_reducible apply KP.guard_un); (· rfl); (· rfl); (· decide))
    | ((with_reducible apply KP.guard_no0); (· rfl); (· rfl))
    | ((with_reducible apply KP.guard_un0); (· rfl); (· rfl))
    | ((with_reducible apply KP.quiet); (· first | exact QY.assign rfl | exact QY.move rfl | exact QY.len_row rfl (Rd.ro (by with_reducible first | exact m0 | exact m1 | exact m2 | exact m3 | exact m4 | exact m5 | fail)) RowL.row | exact QY.len rfl | exact QY.len_str rfl | exact QY.same (QY.lss rfl rfl) (dec_t (by omega)) | exact QY.same (QY.lss rfl rfl) (dec_f (by omega)) | exact QY.lss rfl rfl | exact QY.index (i := i) rfl rfl (Rd.ro (by with_reducible first | exact m0 | exact m1 | exact m2 | exact m3 | exact m4 | exact m5 | fail)) (RowL.row (n := 2)) (by omega) | exact QY.load_a (cs := eP a.place) rfl (Rd.ro (by with_reducible first | exact m0 | exact m1 | exact m2 | exact m3 | exact m4 | exact m5 | fail)) (Reads.row (i := i) (x := a.place) (enc := eP) RowL.row hp) (by rfl) | exact QY.load_s rfl (Rd.own (by with_reducible first | exact k0 | exact k1 | exact k2 | exact k3 | exact k4 | exact k5 | exact k6 | exact k7 | exact k8 | exact k9 | fail)) (Reads.pt1 (by rfl)) | exact QY.load_a rfl (Rd.own (by with_reducible first | exact k0 | exact k1 | exact k2 | exact k3 | exact k4 | exact k5 | exact k6 | exact k7 | exact k8 | exact k9 | fail)) Reads.pt_all (by rfl) | exact QY.inc64 rfl rfl (by omega) | exact QY.add64 rfl rfl (by omega) | exact QY.add rfl rfl); (· decide))
    | ((with_reducible refine KP.eff ?_); (first | refine EW.callv (vs := [pv a.place]) (caps := [qp c1, qp c2, qp c3]) rfl (clo_no (q := q) (v0 := v0) (slot := slot) (query := query) hk ho) rfl (Split.cons (by with_reducible first | exact k0 | exact k1 | exact k2 | exact k3 | exact k4 | exact k5 | exact k6 | exact k7 | exact k8 | exact k9 | fail) Split.nil) (RosOf.cons (RoOf.pass (by with_reducible first | exact m0 | exact m1 | exact m2 | exact m3 | exact m4 | exact m5 | fail)) (RosOf.cons (RoOf.pass (by with_reducible first | exact m0 | exact m1 | exact m2 | exact m3 | exact m4 | exact m5 | fail)) (RosOf.cons (RoOf.pass (by with_reducible first | exact m0 | exact m1 | exact m2 | exact m3 | exact m4 | exact m5 | fail)) (RosOf.cons (RoOf.pass (by with_reducible first | exact m0 | exact m1 | exact m2 | exact m3 | exact m4 | exact m5 | fail)) RosOf.nil)))) ?_ | refine EW.callv (vs := [pv a.place]) (caps := [qp c1, qp c2, qp c3]) rfl (clo_yes (q := q) (v0 := v0) (slot := slot) (query := query) hk ho) rfl (Split.cons (by with_reducible first | exact k0 | exact k1 | exact k2 | exact k3 | exact k4 | exact k5 | exact k6 | exact k7 | exact k8 | exact k9 | fail) Split.nil) (RosOf.cons (RoOf.pass (by with_reducible first | exact m0 | exact m1 | exact m2 | exact m3 | exact m4 | exact m5 | fail)) (RosOf.cons (RoOf.pass (by with_reducible first | exact m0 | exact m1 | exact m2 | exact m3 | exact m4 | exact m5 | fail)) (RosOf.cons (RoOf.pass (by with_reducible first | exact m0 | exact m1 | exact m2 | exact m3 | exact m4 | exact m5 | fail)) (RosOf.cons (RoOf.pass (by with_reducible first | exact m0 | exact m1 | exact m2 | exact m3 | exact m4 | exact m5 | fail)) RosOf.nil)))) ?_))
    | ((with_reducible apply KP.fin1); (· rfl); (· rfl))
    | ((with_reducible apply KP.fin2); (· rfl); (· rfl); (· rfl))
    | ((with_reducible refine KP.fin0 ?_ ?_); (· rfl))
    | ((with_reducible refine KP.fin0r ?_ ?_); (· rfl))
    | (intro _))
    exact Fina.ret (Ent.cons (by with_reducible first | exact k0 | exact k1 | exact k2 | exact k3 | exact k4 | exact k5 | exact k6 | exact k7 | exact k8 | exact k9 | fail) Ent.nil)

theorem mem_erase_find {A B : List Ask} {a : Ask} {p : Place} (hn : ((A ++ a :: B).map Ask.place).Nodup) : (A ++ B).find? (fun x => decide (x.place = p)) = if p = a.place then none else (A ++ a :: B).find? (fun x => decide (x.place = p)) := by
  simp only [List.map_append, List.map_cons, List.nodup_append, List.nodup_cons] at hn
  obtain ⟨_, ⟨h2, _⟩, h3⟩ := hn
  by_cases e : p = a.place
  · subst e
    rw [if_pos rfl, List.find?_eq_none]
    intro x hx
    simp only [decide_eq_true_eq]
    intro e
    rcases List.mem_append.1 hx with h | h
    · exact h3 _ (List.mem_map_of_mem h) a.place (by simp) e
    · exact h2 (e ▸ List.mem_map_of_mem h)
  · have : ¬ a.place = p := fun h => e h.symm
    rw [if_neg e, List.find?_append, List.find?_append, List.find?_cons]
    simp [this]
theorem QF.del {A B : List Ask} {a : Ask} {m : List (Place × Ask)} (f : QF (A ++ a :: B) m) : QF (A ++ B) (mdel m a.place) := by
  have hn := f.nd
  refine ⟨?_, fun p => ?_, fun b hb => f.ok b ?_⟩
  · simp only [List.map_append, List.map_cons, List.nodup_append, List.nodup_cons] at hn ⊢
    exact ⟨hn.1, hn.2.1.2, fun x hx y hy => hn.2.2 x hx y (by simp [hy])⟩
  · rw [mget_mdel, f.get, mem_erase_find hn]
  · rcases List.mem_append.1 hb with h | h
    · exact List.mem_append_left _ h
    · exact List.mem_append_right _ (List.mem_cons_of_mem _ h)
def keepF (slot query : Int) (l : List Ask) : List Ask := l.filter fun a => !offF slot query a
theorem keep_none {slot query : Int} {l : List Ask} (hn : ∀ a ∈ l, offF slot query a = false) : keepF slot query l = l :=
  List.filter_eq_self.2 fun a ha => by simp [hn a ha]
theorem keep_step {slot query : Int} {l : List Ask} {j : Nat} {b : Ask} (hb : l[j]? = some b) : keepF slot query (l.take (j + 1)) = keepF slot query (l.take j) ++ (if offF slot query b then [] else [b]) := by
  unfold keepF
  rw [List.take_add_one, hb, List.filter_append]
  congr 1
  simp only [Option.toList_some, List.filter_cons, List.filter_nil]
  cases offF slot query b <;> rfl
theorem drop_at {α : Type} {l : List α} {j : Nat} {b : α} (hb : l[j]? = some b) : l.drop j = b :: l.drop (j + 1) := by
  have h := List.getElem?_eq_some_iff.1 hb
  rw [List.drop_eq_getElem_cons h.1, h.2]
theorem found {l : List Ask} {slot query : Int} : (∀ a ∈ l, offF slot query a = false) ∨ ∃ (i : Nat) (a : Ask), l[i]? = some a ∧ offF slot query a = true ∧ ∀ (j : Nat) (b : Ask), j < i → l[j]? = some b → offF slot query b = false := by
  induction l with
  | nil => left; simp
  | cons x l ih =>
    by_cases hx : offF slot query x = true
    · exact .inr ⟨0, x, rfl, hx, fun j b hj _ => absurd hj (by omega)⟩
    · have hx' : offF slot query x = false := by simpa using hx
      rcases ih with h | ⟨i, a, h1, h2, h3⟩
      · left; intro a ha; rcases List.mem_cons.1 ha with rfl | ha
        · exact hx'
        · exact h a ha
      · refine .inr ⟨i + 1, a, by simpa using h1, h2, fun j b hj hb => ?_⟩
        cases j with
        | zero => simp at hb; subst hb; exact hx'
        | succ j => exact h3 j b (by omega) (by simpa using hb)
structure DInv (slot query : Int) (l : List Ask) (z : Nat × Nat × List Place × List (Place × Ask)) : Prop where
  lt : z.2.1 < z.1
  le : z.1 ≤ l.length
  len : z.2.2.1.length = l.length
  i_eq : z.2.1 = (keepF slot query (l.take z.1)).length
  fst : z.2.2.1.take z.2.1 = (keepF slot query (l.take z.1)).map Ask.place
  snd : z.2.2.1.drop z.1 = (l.map Ask.place).drop z.1
  qf : QF (keepF slot query (l.take z.1) ++ l.drop z.1) z.2.2.2
theorem DInv.init {slot query : Int} {l : List Ask} {m : List (Place × Ask)} (f : QF l m) {i : Nat} {a : Ask} (h : l[i]? = some a) (ho : offF slot query a = true) (hn : ∀ j b, j < i → l[j]? = some b → offF slot query b = false) : DInv slot query l (i + 1, i, l.map Ask.place, mdel m a.place) := by
  have hi := (List.getElem?_eq_some_iff.1 h).1
  have hk : keepF slot query (l.take i) = l.take i := keep_none fun b hb => by
    obtain ⟨j, hj⟩ := List.mem_iff_getElem?.1 hb
    rw [List.getElem?_take] at hj
    split at hj
    · rename_i hlt; exact hn j b hlt hj
    · cases hj
  have hk1 : keepF slot query (l.take (i + 1)) = l.take i := by rw [keep_step h, hk, ho]; simp
  refine ⟨Nat.lt_succ_self i, hi, by simp, ?_, ?_, rfl, ?_⟩
  · simp only [hk1]; simp; omega
  · simp only [hk1, List.map_take]
  · simp only [hk1]
    refine QF.del ?_
    rw [← drop_at h, List.take_append_drop]; exact f
theorem DInv.at_ {slot query : Int} {l : List Ask} {j i : Nat} {ys : List Place} {m : List (Place × Ask)} (d : DInv slot query l (j, i, ys, m)) {b : Ask} (hb : l[j]? = some b) : ys[j]? = some b.place ∧ mget m b.place = some b := by
  constructor
  · have h1 := congrArg (·[0]?) d.snd
    simpa [hb] using h1
  · refine d.qf.find (i := (keepF slot query (l.take j)).length) ?_
    simp only
    rw [List.getElem?_append_right (Nat.le_refl _), Nat.sub_self, drop_at hb]; rfl
theorem DInv.off {slot query : Int} {l : List Ask} {j i : Nat} {ys : List Place} {m : List (Place × Ask)} (d : DInv slot query l (j, i, ys, m)) {b : Ask} (hb : l[j]? = some b) (ho : offF slot query b = true) : DInv slot query l (j + 1, i, ys, mdel m b.place) := by
  have hj := (List.getElem?_eq_some_iff.1 hb).1
  have hk : keepF slot query (l.take (j + 1)) = keepF slot query (l.take j) := by rw [keep_step hb, ho]; simp
  obtain ⟨h1, h2, h3, h4, h5, h6, h7⟩ := d
  refine ⟨Nat.lt_succ_of_lt h1, hj, h3, ?_, ?_, ?_, ?_⟩
  · simp only [hk]; exact h4
  · simp only [hk]; exact h5
  · simp only at h6 ⊢
    have := congrArg (List.drop 1) h6
    simpa [List.drop_drop] using this
  · simp only [hk] at h7 ⊢
    rw [drop_at hb] at h7
    exact h7.del
theorem DInv.on {slot query : Int} {l : List Ask} {j i : Nat} {ys : List Place} {m : List (Place × Ask)} (d : DInv slot query l (j, i, ys, m)) {b : Ask} (hb : l[j]? = some b) (ho : offF slot query b = false) : DInv slot query l (j + 1, i + 1, ys.set i b.place, m) := by
  have hj := (List.getElem?_eq_some_iff.1 hb).1
  have hk : keepF slot query (l.take (j + 1)) = keepF slot query (l.take j) ++ [b] := by rw [keep_step hb, ho]; simp
  obtain ⟨h1, h2, h3, h4, h5, h6, h7⟩ := d
  simp only at h1 h2 h3 h4 h5 h6 h7
  refine ⟨Nat.succ_lt_succ h1, hj, by simpa using h3, ?_, ?_, ?_, ?_⟩
  · simp only [hk]; simp; omega
  · simp only [hk, List.map_append, List.map_cons, List.map_nil]
    rw [← h5, List.take_add_one]
    congr 1
    · rw [List.take_set_of_le (Nat.le_refl _)]
    · simp [show i < ys.length by omega]
  · simp only
    rw [List.drop_set_of_lt (by omega)]
    have := congrArg (List.drop 1) h6
    simpa [List.drop_drop] using this
  · simp only [hk, List.append_assoc, List.singleton_append]
    rw [← drop_at hb]; exact h7
theorem rowCut {v : Value} {xs ps : List Place} {i : Nat} {zs : List Place} (hi : i ≤ xs.length) (h : xs.take i = ps) (hp : ps.length = i) {hh : Frag} (r : row 56 2 eP v (xs.take i ++ zs) hh) : row 56 2 eP (slv 2 v 0 i) ps hh := by
  have := r.cut (lo := 0) (hi := i) (Nat.zero_le _) (by simp; omega)
  have e : ((xs.take i ++ zs).drop 0).take (i - 0) = ps := by
    rw [h]; simp [← hp]
  rw [e] at this; exact this







set_option maxHeartbeats 4000000 in
theorem delete_spec {q c1 c2 c3 bm : Nat} {v v0 : Value} {l : List Ask} {m : List (Place × Ask)} {slot query : Int} (hf : QF l m) (hv : v.oneCell' = true) :
    Spc Try.prog 22 #[v, fv c1 c2 c3] [pt c1 3 [iv slot], pt c2 24 [qp q], pt c3 3 [iv query], pt q 53 [v0, .map (some bm)]] [row 56 2 eP v (l.map Ask.place), mapA pv av bm m]
      (exP fun v' => exP fun m' => puP (QF (keepF slot query l) m') (puP (v'.oneCell' = true) (ret v' [row 56 2 eP v' ((keepF slot query l).map Ask.place), mapA pv av bm m']))) := by
  refine Spc.enter' (args := [v, fv c1 c2 c3]) (T0 := [(0, v), (1, fv c1 c2 c3)]) Try.func22 rfl Try.ntmps22 (Nat.le_of_ble_eq_true rfl) rfl ?_
  intro w0 own
  have h24 := hf.len
  have hml : (l.map Ask.place).length = l.length := by simp
  rcases found (l := l) (slot := slot) (query := query) with hno | ⟨i0, a, ha, ho, hno⟩
  · repeat' (first
    | (with_reducible refine CW.seq ?_)
    | (with_reducible refine CW.region ?_)
    | (with_reducible refine KP.list_nil ?_)
    | (with_reducible refine KP.then_code ?_)
    | (with_reducible refine CW.skip ?_)
    | (with_reducible refine CW.ret ?_)
    | (with_reducible refine KP.then_ret ?_)
    | (with_reducible refine KP.block_ret ?_)
    | (with_reducible refine CW.block ?_)
    | (with_reducible refine KP.block_normal ?_)
    | (with_reducible refine CW.exit ?_)
    | (with_reducible refine KP.then_exit ?_)
    | (with_reducible refine KP.block_hit ?_)
    | ((with_reducible refine KP.block_miss ?_ ?_); (· rfl))
    | ((with_reducible refine CW.cond_t ?_ ?_); (· rfl))
    | ((with_reducible refine CW.cond_f ?_ ?_); (· rfl))
    | ((with_reducible apply CW.condP); (· rfl))
    | ((with_reducible apply CW.cond); (· rfl))
    | (with_reducible refine CP.exP fun _ => ?_)
    | (with_reducible refine CP.puP fun _ => ?_)
    | ((with_reducible refine CP.ret_0 ?_ ?_); (· decide))
    | ((with_reducible refine CP.ret_1 ?_ ?_); (· decide))
    | ((with_reducible refine CP.ret_2 ?_ ?_); (· decide))
    | ((with_reducible refine CP.ret_3 ?_ ?_); (· decide))
    | ((with_reducible refine CP.ret_4 ?_ ?_); (· decide))
    | (with_reducible refine CP.ret0_0 ?_)
    | (with_reducible refine CP.ret0_1 ?_)
    | (with_reducible refine CP.ret0_2 ?_)
    | (with_reducible refine CP.ret0_3 ?_)
    | (with_reducible refine CP.ret0_4 ?_)
    | ((with_reducible apply KP.guard_yes); (· rfl); (· rfl))
    | ((with_reducible apply KP.guard_no); (· rfl); (· rfl); (· decide))
    | ((with_reducible apply KP.guard_un); (· rfl); (· rfl); (· decide))
    | ((with_reducible apply KP.guard_no0); (· rfl); (· rfl))
    | ((with_reducible apply KP.guard_un0); (· rfl); (· rfl))
    | ((with_reducible apply KP.quiet); (· first | exact QY.assign rfl | exact QY.move rfl | exact QY.eqnil_s rfl rfl | exact QY.eqnil_n rfl rfl | exact QY.same (QY.eql rfl rfl) (dec_t (by omega)) | exact QY.same (QY.eql rfl rfl) (dec_f (by omega)) | exact QY.eql rfl rfl | exact QY.eq_agg rfl rfl | exact QY.eq_str rfl rfl | exact QY.eq_bool rfl rfl | exact QY.inc64 rfl rfl (by omega) | exact QY.add64 rfl rfl (by omega) | exact QY.add rfl rfl | exact QY.len_row rfl (Rd.own (by with_reducible first | exact k0 | exact k1 | exact k2 | exact k3 | exact k4 | exact k5 | exact k6 | exact k7 | exact k8 | exact k9 | fail)) RowL.row | exact QY.len rfl | exact QY.len_str rfl | exact QY.same (QY.lss rfl rfl) (dec_t (by omega)) | exact QY.same (QY.lss rfl rfl) (dec_f (by omega)) | exact QY.lss rfl rfl | exact QY.index (i := j) rfl rfl (Rd.own (by with_reducible first | exact k0 | exact k1 | exact k2 | exact k3 | exact k4 | exact k5 | exact k6 | exact k7 | exact k8 | exact k9 | fail)) (RowL.row (n := 2)) (by omega) | exact QY.index (i := i) rfl rfl (Rd.own (by with_reducible first | exact k0 | exact k1 | exact k2 | exact k3 | exact k4 | exact k5 | exact k6 | exact k7 | exact k8 | exact k9 | fail)) (RowL.row (n := 2)) (by omega) | exact QY.load_a (cs := eP b.place) rfl (Rd.own (by with_reducible first | exact k0 | exact k1 | exact k2 | exact k3 | exact k4 | exact k5 | exact k6 | exact k7 | exact k8 | exact k9 | fail)) (Reads.row (i := j) (x := b.place) (enc := eP) RowL.row hp) (by rfl) | exact QY.load_s rfl (Rd.own (by with_reducible first | exact k0 | exact k1 | exact k2 | exact k3 | exact k4 | exact k5 | exact k6 | exact k7 | exact k8 | exact k9 | fail)) (Reads.pt1 (by rfl)) | exact QY.load_a rfl (Rd.own (by with_reducible first | exact k0 | exact k1 | exact k2 | exact k3 | exact k4 | exact k5 | exact k6 | exact k7 | exact k8 | exact k9 | fail)) Reads.pt_all (by rfl) | exact QY.not_t rfl | exact QY.not_f rfl | exact QY.notP rfl | exact QY.not rfl | exact QY.cut_lo (lo := i) (n := 2) rfl rfl (Rd.own (by with_reducible first | exact k0 | exact k1 | exact k2 | exact k3 | exact k4 | exact k5 | exact k6 | exact k7 | exact k8 | exact k9 | fail)) RowL.row (by omega) | exact QY.cut_hi (hi := i) (n := 2) rfl rfl (Rd.own (by with_reducible first | exact k0 | exact k1 | exact k2 | exact k3 | exact k4 | exact k5 | exact k6 | exact k7 | exact k8 | exact k9 | fail)) RowL.row (by simp; omega)); (· decide))
    | ((with_reducible refine KP.eff ?_); (first | refine EW.call (vs := [v, fv c1 c2 c3]) (index_none (q := q) (v0 := v0) (slot := slot) (query := query) hf hno) rfl (Split.cons (by with_reducible first | exact k0 | exact k1 | exact k2 | exact k3 | exact k4 | exact k5 | exact k6 | exact k7 | exact k8 | exact k9 | fail) Split.nil) (RosOf.cons (RoOf.pass (by with_reducible first | exact m0 | exact m1 | exact m2 | exact m3 | exact m4 | exact m5 | fail)) (RosOf.cons (RoOf.pass (by with_reducible first | exact m0 | exact m1 | exact m2 | exact m3 | exact m4 | exact m5 | fail)) (RosOf.cons (RoOf.pass (by with_reducible first | exact m0 | exact m1 | exact m2 | exact m3 | exact m4 | exact m5 | fail)) (RosOf.cons (RoOf.pass (by with_reducible first | exact m0 | exact m1 | exact m2 | exact m3 | exact m4 | exact m5 | fail)) (RosOf.cons (RoOf.same (by with_reducible first | exact k0 | exact k1 | exact k2 | exact k3 | exact k4 | exact k5 | exact k6 | exact k7 | exact k8 | exact k9 | fail)) RosOf.nil))))) ?_ | refine EW.call (vs := [v, fv c1 c2 c3]) (index_some (q := q) (v0 := v0) (slot := slot) (query := query) hf ha ho hno) rfl (Split.cons (by with_reducible first | exact k0 | exact k1 | exact k2 | exact k3 | exact k4 | exact k5 | exact k6 | exact k7 | exact k8 | exact k9 | fail) Split.nil) (RosOf.cons (RoOf.pass (by with_reducible first | exact m0 | exact m1 | exact m2 | exact m3 | exact m4 | exact m5 | fail)) (RosOf.cons (RoOf.pass (by with_reducible first | exact m0 | exact m1 | exact m2 | exact m3 | exact m4 | exact m5 | fail)) (RosOf.cons (RoOf.pass (by with_reducible first | exact m0 | exact m1 | exact m2 | exact m3 | exact m4 | exact m5 | fail)) (RosOf.cons (RoOf.pass (by with_reducible first | exact m0 | exact m1 | exact m2 | exact m3 | exact m4 | exact m5 | fail)) (RosOf.cons (RoOf.same (by with_reducible first | exact k0 | exact k1 | exact k2 | exact k3 | exact k4 | exact k5 | exact k6 | exact k7 | exact k8 | exact k9 | fail)) RosOf.nil))))) ?_ | refine EW.callv (vs := [pv b.place]) (caps := [qp c1, qp c2, qp c3]) rfl (clo_no (q := q) (v0 := v0) (slot := slot) (query := query) hk hob) rfl (Split.cons (by with_reducible first | exact k0 | exact k1 | exact k2 | exact k3 | exact k4 | exact k5 | exact k6 | exact k7 | exact k8 | exact k9 | fail) Split.nil) (RosOf.cons (RoOf.pass (by with_reducible first | exact m0 | exact m1 | exact m2 | exact m3 | exact m4 | exact m5 | fail)) (RosOf.cons (RoOf.pass (by with_reducible first | exact m0 | exact m1 | exact m2 | exact m3 | exact m4 | exact m5 | fail)) (RosOf.cons (RoOf.pass (by with_reducible first | exact m0 | exact m1 | exact m2 | exact m3 | exact m4 | exact m5 | fail)) (RosOf.cons (RoOf.pass (by with_reducible first | exact m0 | exact m1 | exact m2 | exact m3 | exact m4 | exact m5 | fail)) RosOf.nil)))) ?_ | refine EW.callv (vs := [pv b.place]) (caps := [qp c1, qp c2, qp c3]) rfl (clo_yes (q := q) (v0 := v0) (slot := slot) (query := query) hk hob) rfl (Split.cons (by with_reducible first | exact k0 | exact k1 | exact k2 | exact k3 | exact k4 | exact k5 | exact k6 | exact k7 | exact k8 | exact k9 | fail) Split.nil) (RosOf.cons (RoOf.pass (by with_reducible first | exact m0 | exact m1 | exact m2 | exact m3 | exact m4 | exact m5 | fail)) (RosOf.cons (RoOf.pass (by with_reducible first | exact m0 | exact m1 | exact m2 | exact m3 | exact m4 | exact m5 | fail)) (RosOf.cons (RoOf.pass (by with_reducible first | exact m0 | exact m1 | exact m2 | exact m3 | exact m4 | exact m5 | fail)) (RosOf.cons (RoOf.pass (by with_reducible first | exact m0 | exact m1 | exact m2 | exact m3 | exact m4 | exact m5 | fail)) RosOf.nil)))) ?_ | refine EW.alloc (by decide) ?_ | refine EW.store_row_a (i := i) (y' := b.place) (enc := eP) rfl rfl (by with_reducible first | exact k0 | exact k1 | exact k2 | exact k3 | exact k4 | exact k5 | exact k6 | exact k7 | exact k8 | exact k9 | fail) (by omega) ?_ | refine EW.store_s' rfl rfl (by with_reducible first | exact k0 | exact k1 | exact k2 | exact k3 | exact k4 | exact k5 | exact k6 | exact k7 | exact k8 | exact k9 | fail) (by (repeat (first | exact SetAt.head | apply SetAt.tail))) (by first | rfl | assumption) ?_ | refine EW.store_all rfl rfl (by with_reducible first | exact k0 | exact k1 | exact k2 | exact k3 | exact k4 | exact k5 | exact k6 | exact k7 | exact k8 | exact k9 | fail) (by rfl) (by rfl) (by first | rfl | decide) ?_ | refine EW.store_a' rfl rfl (by with_reducible first | exact k0 | exact k1 | exact k2 | exact k3 | exact k4 | exact k5 | exact k6 | exact k7 | exact k8 | exact k9 | fail) (by rfl) (by (repeat (first | exact SplAt.done | apply SplAt.put | apply SplAt.skip))) (by first | rfl | decide) ?_ | refine EW.clear_cut (lo := i) (z0 := (⟨0, 0⟩ : Place)) (n := 2) (enc := eP) (by rfl) rfl (by with_reducible first | exact k0 | exact k1 | exact k2 | exact k3 | exact k4 | exact k5 | exact k6 | exact k7 | exact k8 | exact k9 | fail) (by omega) ?_))
    | ((with_reducible apply KP.fin1); (· rfl); (· rfl))
    | ((with_reducible apply KP.fin2); (· rfl); (· rfl); (· rfl))
    | ((with_reducible refine KP.fin0 ?_ ?_); (· rfl))
    | ((with_reducible refine KP.fin0r ?_ ?_); (· rfl))
    | (intro _))
    rw [keep_none hno]
    exact Fina.exP _ (Fina.exP _ (Fina.puP hf (Fina.puP hv (Fina.ret (Ent.cons (by with_reducible first | exact k0 | exact k1 | exact k2 | exact k3 | exact k4 | exact k5 | exact k6 | exact k7 | exact k8 | exact k9 | fail) (Ent.cons (by with_reducible first | exact k0 | exact k1 | exact k2 | exact k3 | exact k4 | exact k5 | exact k6 | exact k7 | exact k8 | exact k9 | fail) Ent.nil))))))
  · have hi0 : i0 < l.length := (List.getElem?_eq_some_iff.1 ha).1
    repeat' (first
    | (with_reducible refine CW.seq ?_)
    | (with_reducible refine CW.region ?_)
    | (with_reducible refine KP.list_nil ?_)
    | (with_reducible refine KP.then_code ?_)
    | (with_reducible refine CW.skip ?_)
    | (with_reducible refine CW.ret ?_)
    | (with_reducible refine KP.then_ret ?_)
    | (with_reducible refine KP.block_ret ?_)
    | (with_reducible refine CW.block ?_)
    | (with_reducible refine KP.block_normal ?_)
    | (with_reducible refine CW.exit ?_)
    | (with_reducible refine KP.then_exit ?_)
    | (with_reducible refine KP.block_hit ?_)
    | ((with_reducible refine KP.block_miss ?_ ?_); (· rfl))
    | ((with_reducible refine CW.cond_t ?_ ?_); (· rfl))
    | ((with_reducible refine CW.cond_f ?_ ?_); (· rfl))
    | ((with_reducible apply CW.condP); (· rfl))
    | ((with_reducible apply CW.cond); (· rfl))
    | (with_reducible refine CP.exP fun _ => ?_)
    | (with_reducible refine CP.puP fun _ => ?_)
    | ((with_reducible refine CP.ret_0 ?_ ?_); (· decide))
    | ((with_reducible refine CP.ret_1 ?_ ?_); (· decide))
    | ((with_reducible refine CP.ret_2 ?_ ?_); (· decide))
    | ((with_reducible refine CP.ret_3 ?_ ?_); (· decide))
    | ((with_reducible refine CP.ret_4 ?_ ?_); (· decide))
    | (with_reducible refine CP.ret0_0 ?_)
    | (with_reducible refine CP.ret0_1 ?_)
    | (with_reducible refine CP.ret0_2 ?_)
    | (with_reducible refine CP.ret0_3 ?_)
    | (with_reducible refine CP.ret0_4 ?_)
    | ((with_reducible apply KP.guard_yes); (· rfl); (· rfl))
    | ((with_reducible apply KP.guard_no); (· rfl); (· rfl); (· decide))
    | ((with_reducible apply KP.guard_un); (· rfl); (· rfl); (· decide))
    | ((with_reducible apply KP.guard_no0); (· rfl); (· rfl))
    | ((with_reducible apply KP.guard_un0); (· rfl); (· rfl))
    | ((with_reducible apply KP.quiet); (· first | exact QY.assign rfl | exact QY.move rfl | exact QY.eqnil_s rfl rfl | exact QY.eqnil_n rfl rfl | exact QY.same (QY.eql rfl rfl) (dec_t (by omega)) | exact QY.same (QY.eql rfl rfl) (dec_f (by omega)) | exact QY.eql rfl rfl | exact QY.eq_agg rfl rfl | exact QY.eq_str rfl rfl | exact QY.eq_bool rfl rfl | exact QY.inc64 rfl rfl (by omega) | exact QY.add64 rfl rfl (by omega) | exact QY.add rfl rfl | exact QY.len_row rfl (Rd.own (by with_reducible first | exact k0 | exact k1 | exact k2 | exact k3 | exact k4 | exact k5 | exact k6 | exact k7 | exact k8 | exact k9 | fail)) RowL.row | exact QY.len rfl | exact QY.len_str rfl | exact QY.same (QY.lss rfl rfl) (dec_t (by omega)) | exact QY.same (QY.lss rfl rfl) (dec_f (by omega)) | exact QY.lss rfl rfl | exact QY.index (i := j) rfl rfl (Rd.own (by with_reducible first | exact k0 | exact k1 | exact k2 | exact k3 | exact k4 | exact k5 | exact k6 | exact k7 | exact k8 | exact k9 | fail)) (RowL.row (n := 2)) (by omega) | exact QY.index (i := i) rfl rfl (Rd.own (by with_reducible first | exact k0 | exact k1 | exact k2 | exact k3 | exact k4 | exact k5 | exact k6 | exact k7 | exact k8 | exact k9 | fail)) (RowL.row (n := 2)) (by omega) | exact QY.load_a (cs := eP b.place) rfl (Rd.own (by with_reducible first | exact k0 | exact k1 | exact k2 | exact k3 | exact k4 | exact k5 | exact k6 | exact k7 | exact k8 | exact k9 | fail)) (Reads.row (i := j) (x := b.place) (enc := eP) RowL.row hp) (by rfl) | exact QY.load_s rfl (Rd.own (by with_reducible first | exact k0 | exact k1 | exact k2 | exact k3 | exact k4 | exact k5 | exact k6 | exact k7 | exact k8 | exact k9 | fail)) (Reads.pt1 (by rfl)) | exact QY.load_a rfl (Rd.own (by with_reducible first | exact k0 | exact k1 | exact k2 | exact k3 | exact k4 | exact k5 | exact k6 | exact k7 | exact k8 | exact k9 | fail)) Reads.pt_all (by rfl) | exact QY.not_t rfl | exact QY.not_f rfl | exact QY.notP rfl | exact QY.not rfl | exact QY.cut_lo (lo := i) (n := 2) rfl rfl (Rd.own (by with_reducible first | exact k0 | exact k1 | exact k2 | exact k3 | exact k4 | exact k5 | exact k6 | exact k7 | exact k8 | exact k9 | fail)) RowL.row (by omega) | exact QY.cut_hi (hi := i) (n := 2) rfl rfl (Rd.own (by with_reducible first | exact k0 | exact k1 | exact k2 | exact k3 | exact k4 | exact k5 | exact k6 | exact k7 | exact k8 | exact k9 | fail)) RowL.row (by simp; omega)); (· decide))
    | ((with_reducible refine KP.eff ?_); (first | refine EW.call (vs := [v, fv c1 c2 c3]) (index_none (q := q) (v0 := v0) (slot := slot) (query := query) hf hno) rfl (Split.cons (by with_reducible first | exact k0 | exact k1 | exact k2 | exact k3 | exact k4 | exact k5 | exact k6 | exact k7 | exact k8 | exact k9 | fail) Split.nil) (RosOf.cons (RoOf.pass (by with_reducible first | exact m0 | exact m1 | exact m2 | exact m3 | exact m4 | exact m5 | fail)) (RosOf.cons (RoOf.pass (by with_reducible first | exact m0 | exact m1 | exact m2 | exact m3 | exact m4 | exact m5 | fail)) (RosOf.cons (RoOf.pass (by with_reducible first | exact m0 | exact m1 | exact m2 | exact m3 | exact m4 | exact m5 | fail)) (RosOf.cons (RoOf.pass (by with_reducible first | exact m0 | exact m1 | exact m2 | exact m3 | exact m4 | exact m5 | fail)) (RosOf.cons (RoOf.same (by with_reducible first | exact k0 | exact k1 | exact k2 | exact k3 | exact k4 | exact k5 | exact k6 | exact k7 | exact k8 | exact k9 | fail)) RosOf.nil))))) ?_ | refine EW.call (vs := [v, fv c1 c2 c3]) (index_some (q := q) (v0 := v0) (slot := slot) (query := query) hf ha ho hno) rfl (Split.cons (by with_reducible first | exact k0 | exact k1 | exact k2 | exact k3 | exact k4 | exact k5 | exact k6 | exact k7 | exact k8 | exact k9 | fail) Split.nil) (RosOf.cons (RoOf.pass (by with_reducible first | exact m0 | exact m1 | exact m2 | exact m3 | exact m4 | exact m5 | fail)) (RosOf.cons (RoOf.pass (by with_reducible first | exact m0 | exact m1 | exact m2 | exact m3 | exact m4 | exact m5 | fail)) (RosOf.cons (RoOf.pass (by with_reducible first | exact m0 | exact m1 | exact m2 | exact m3 | exact m4 | exact m5 | fail)) (RosOf.cons (RoOf.pass (by with_reducible first | exact m0 | exact m1 | exact m2 | exact m3 | exact m4 | exact m5 | fail)) (RosOf.cons (RoOf.same (by with_reducible first | exact k0 | exact k1 | exact k2 | exact k3 | exact k4 | exact k5 | exact k6 | exact k7 | exact k8 | exact k9 | fail)) RosOf.nil))))) ?_ | refine EW.callv (vs := [pv b.place]) (caps := [qp c1, qp c2, qp c3]) rfl (clo_no (q := q) (v0 := v0) (slot := slot) (query := query) hk hob) rfl (Split.cons (by with_reducible first | exact k0 | exact k1 | exact k2 | exact k3 | exact k4 | exact k5 | exact k6 | exact k7 | exact k8 | exact k9 | fail) Split.nil) (RosOf.cons (RoOf.pass (by with_reducible first | exact m0 | exact m1 | exact m2 | exact m3 | exact m4 | exact m5 | fail)) (RosOf.cons (RoOf.pass (by with_reducible first | exact m0 | exact m1 | exact m2 | exact m3 | exact m4 | exact m5 | fail)) (RosOf.cons (RoOf.pass (by with_reducible first | exact m0 | exact m1 | exact m2 | exact m3 | exact m4 | exact m5 | fail)) (RosOf.cons (RoOf.pass (by with_reducible first | exact m0 | exact m1 | exact m2 | exact m3 | exact m4 | exact m5 | fail)) RosOf.nil)))) ?_ | refine EW.callv (vs := [pv b.place]) (caps := [qp c1, qp c2, qp c3]) rfl (clo_yes (q := q) (v0 := v0) (slot := slot) (query := query) hk hob) rfl (Split.cons (by with_reducible first | exact k0 | exact k1 | exact k2 | exact k3 | exact k4 | exact k5 | exact k6 | exact k7 | exact k8 | exact k9 | fail) Split.nil) (RosOf.cons (RoOf.pass (by with_reducible first | exact m0 | exact m1 | exact m2 | exact m3 | exact m4 | exact m5 | fail)) (RosOf.cons (RoOf.pass (by with_reducible first | exact m0 | exact m1 | exact m2 | exact m3 | exact m4 | exact m5 | fail)) (RosOf.cons (RoOf.pass (by with_reducible first | exact m0 | exact m1 | exact m2 | exact m3 | exact m4 | exact m5 | fail)) (RosOf.cons (RoOf.pass (by with_reducible first | exact m0 | exact m1 | exact m2 | exact m3 | exact m4 | exact m5 | fail)) RosOf.nil)))) ?_ | refine EW.alloc (by decide) ?_ | refine EW.store_row_a (i := i) (y' := b.place) (enc := eP) rfl rfl (by with_reducible first | exact k0 | exact k1 | exact k2 | exact k3 | exact k4 | exact k5 | exact k6 | exact k7 | exact k8 | exact k9 | fail) (by omega) ?_ | refine EW.store_s' rfl rfl (by with_reducible first | exact k0 | exact k1 | exact k2 | exact k3 | exact k4 | exact k5 | exact k6 | exact k7 | exact k8 | exact k9 | fail) (by (repeat (first | exact SetAt.head | apply SetAt.tail))) (by first | rfl | assumption) ?_ | refine EW.store_all rfl rfl (by with_reducible first | exact k0 | exact k1 | exact k2 | exact k3 | exact k4 | exact k5 | exact k6 | exact k7 | exact k8 | exact k9 | fail) (by rfl) (by rfl) (by first | rfl | decide) ?_ | refine EW.store_a' rfl rfl (by with_reducible first | exact k0 | exact k1 | exact k2 | exact k3 | exact k4 | exact k5 | exact k6 | exact k7 | exact k8 | exact k9 | fail) (by rfl) (by (repeat (first | exact SplAt.done | apply SplAt.put | apply SplAt.skip))) (by first | rfl | decide) ?_ | refine EW.clear_cut (lo := i) (z0 := (⟨0, 0⟩ : Place)) (n := 2) (enc := eP) (by rfl) rfl (by with_reducible first | exact k0 | exact k1 | exact k2 | exact k3 | exact k4 | exact k5 | exact k6 | exact k7 | exact k8 | exact k9 | fail) (by omega) ?_))
    | ((with_reducible apply KP.fin1); (· rfl); (· rfl))
    | ((with_reducible apply KP.fin2); (· rfl); (· rfl); (· rfl))
    | ((with_reducible refine KP.fin0 ?_ ?_); (· rfl))
    | ((with_reducible refine KP.fin0r ?_ ?_); (· rfl))
    | (intro _))
    refine CW.loop (X := Nat × Nat × List Place × List (Place × Ask)) (ks := [0, 1, 5, 6]) (fun z => [(0, v), (1, fv c1 c2 c3), (5, iv z.2.1), (6, iv z.1)]) (fun z => [row 56 2 eP v z.2.2.1, mapA pv av bm z.2.2.2]) (DInv slot query l) (fun z => l.length - z.1)
      (i0 + 1, i0, l.map Ask.place, mdel m a.place) (DInv.init hf ha ho hno) (by repeat first | exact Keeps.nil | (apply Keeps.cons; (· rfl))) (Ent.cons (by with_reducible first | exact k0 | exact k1 | exact k2 | exact k3 | exact k4 | exact k5 | exact k6 | exact k7 | exact k8 | exact k9 | fail) (Ent.cons (by with_reducible first | exact k0 | exact k1 | exact k2 | exact k3 | exact k4 | exact k5 | exact k6 | exact k7 | exact k8 | exact k9 | fail) Ent.nil)) ?_
    rintro ⟨j, i, ys, m'⟩ d
    have hlt' := d.lt
    have hle := d.le
    have hlen := d.len
    try dsimp only at hlt' hle hlen ⊢
    rcases Nat.lt_or_ge j l.length with hlt | hge
    · obtain ⟨b, hb⟩ : ∃ b, l[j]? = some b := ⟨l[j], by simp [hlt]⟩
      obtain ⟨hp, hk⟩ := d.at_ hb
      cases hob : offF slot query b
      · repeat' (first
    | (with_reducible refine CW.seq ?_)
    | (with_reducible refine CW.region ?_)
    | (with_reducible refine KP.list_nil ?_)
    | (with_reducible refine KP.then_code ?_)
    | (with_reducible refine CW.skip ?_)
    | (with_reducible refine CW.ret ?_)
    | (with_reducible refine KP.then_ret ?_)
    | (with_reducible refine KP.block_ret ?_)
    | (with_reducible refine CW.block ?_)
    | (with_reducible refine KP.block_normal ?_)
    | (with_reducible refine CW.exit ?_)
    | (with_reducible refine KP.then_exit ?_)
    | (with_reducible refine KP.block_hit ?_)
    | ((with_reducible refine KP.block_miss ?_ ?_); (· rfl))
    | ((with_reducible refine CW.cond_t ?_ ?_); (· rfl))
    | ((with_reducible refine CW.cond_f ?_ ?_); (· rfl))
    | ((with_reducible apply CW.condP); (· rfl))
    | ((with_reducible apply CW.cond); (· rfl))
    | (with_reducible refine CP.exP fun _ => ?_)
    | (with_reducible refine CP.puP fun _ => ?_)
    | ((with_reducible refine CP.ret_0 ?_ ?_); (· decide))
    | ((with_reducible refine CP.ret_1 ?_ ?_); (· decide))
    | ((with_reducible refine CP.ret_2 ?_ ?_); (· decide))
    | ((with_reducible refine CP.ret_3 ?_ ?_); (· decide))
    | ((with_reducible refine CP.ret_4 ?_ ?_); (· decide))
    | (with_reducible refine CP.ret0_0 ?_)
    | (with_reducible refine CP.ret0_1 ?_)
    | (with_reducible refine CP.ret0_2 ?_)
    | (with_reducible refine CP.ret0_3 ?_)
    | (with_reducible refine CP.ret0_4 ?_)
    | ((with_reducible apply KP.guard_yes); (· rfl); (· rfl))
    | ((with_reducible apply KP.guard_no); (· rfl); (· rfl); (· decide))
    | ((with_reducible apply KP.guard_un); (· rfl); (· rfl); (· decide))
    | ((with_reducible apply KP.guard_no0); (· rfl); (· rfl))
    | ((with_reducible apply KP.guard_un0); (· rfl); (· rfl))
    | ((with_reducible apply KP.quiet); (· first | exact QY.assign rfl | exact QY.move rfl | exact QY.eqnil_s rfl rfl | exact QY.eqnil_n rfl rfl | exact QY.same (QY.eql rfl rfl) (dec_t (by omega)) | exact QY.same (QY.eql rfl rfl) (dec_f (by omega)) | exact QY.eql rfl rfl | exact QY.eq_agg rfl rfl | exact QY.eq_str rfl rfl | exact QY.eq_bool rfl rfl | exact QY.inc64 rfl rfl (by omega) | exact QY.add64 rfl rfl (by omega) | exact QY.add rfl rfl | exact QY.len_row rfl (Rd.own (by with_reducible first | exact k0 | exact k1 | exact k2 | exact k3 | exact k4 | exact k5 | exact k6 | exact k7 | exact k8 | exact k9 | fail)) RowL.row | exact QY.len rfl | exact QY.len_str rfl | exact QY.same (QY.lss rfl rfl) (dec_t (by omega)) | exact QY.same (QY.lss rfl rfl) (dec_f (by omega)) | exact QY.lss rfl rfl | exact QY.index (i := j) rfl rfl (Rd.own (by with_reducible first | exact k0 | exact k1 | exact k2 | exact k3 | exact k4 | exact k5 | exact k6 | exact k7 | exact k8 | exact k9 | fail)) (RowL.row (n := 2)) (by omega) | exact QY.index (i := i) rfl rfl (Rd.own (by with_reducible first | exact k0 | exact k1 | exact k2 | exact k3 | exact k4 | exact k5 | exact k6 | exact k7 | exact k8 | exact k9 | fail)) (RowL.row (n := 2)) (by omega) | exact QY.load_a (cs := eP b.place) rfl (Rd.own (by with_reducible first | exact k0 | exact k1 | exact k2 | exact k3 | exact k4 | exact k5 | exact k6 | exact k7 | exact k8 | exact k9 | fail)) (Reads.row (i := j) (x := b.place) (enc := eP) RowL.row hp) (by rfl) | exact QY.load_s rfl (Rd.own (by with_reducible first | exact k0 | exact k1 | exact k2 | exact k3 | exact k4 | exact k5 | exact k6 | exact k7 | exact k8 | exact k9 | fail)) (Reads.pt1 (by rfl)) | exact QY.load_a rfl (Rd.own (by with_reducible first | exact k0 | exact k1 | exact k2 | exact k3 | exact k4 | exact k5 | exact k6 | exact k7 | exact k8 | exact k9 | fail)) Reads.pt_all (by rfl) | exact QY.not_t rfl | exact QY.not_f rfl | exact QY.notP rfl | exact QY.not rfl | exact QY.cut_lo (lo := i) (n := 2) rfl rfl (Rd.own (by with_reducible first | exact k0 | exact k1 | exact k2 | exact k3 | exact k4 | exact k5 | exact k6 | exact k7 | exact k8 | exact k9 | fail)) RowL.row (by omega) | exact QY.cut_hi (hi := i) (n := 2) rfl rfl (Rd.own (by with_reducible first | exact k0 | exact k1 | exact k2 | exact k3 | exact k4 | exact k5 | exact k6 | exact k7 | exact k8 | exact k9 | fail)) RowL.row (by simp; omega)); (· decide))
    | ((with_reducible refine KP.eff ?_); (first | refine EW.call (vs := [v, fv c1 c2 c3]) (index_none (q := q) (v0 := v0) (slot := slot) (query := query) hf hno) rfl (Split.cons (by with_reducible first | exact k0 | exact k1 | exact k2 | exact k3 | exact k4 | exact k5 | exact k6 | exact k7 | exact k8 | exact k9 | fail) Split.nil) (RosOf.cons (RoOf.pass (by with_reducible first | exact m0 | exact m1 | exact m2 | exact m3 | exact m4 | exact m5 | fail)) (RosOf.cons (RoOf.pass (by with_reducible first | exact m0 | exact m1 | exact m2 | exact m3 | exact m4 | exact m5 | fail)) (RosOf.cons (RoOf.pass (by with_reducible first | exact m0 | exact m1 | exact m2 | exact m3 | exact m4 | exact m5 | fail)) (RosOf.cons (RoOf.pass (by with_reducible first | exact m0 | exact m1 | exact m2 | exact m3 | exact m4 | exact m5 | fail)) (RosOf.cons (RoOf.same (by with_reducible first | exact k0 | exact k1 | exact k2 | exact k3 | exact k4 | exact k5 | exact k6 | exact k7 | exact k8 | exact k9 | fail)) RosOf.nil))))) ?_ | refine EW.call (vs := [v, fv c1 c2 c3]) (index_some (q := q) (v0 := v0) (slot := slot) (query := query) hf ha ho hno) rfl (Split.cons (by with_reducible first | exact k0 | exact k1 | exact k2 | exact k3 | exact k4 | exact k5 | exact k6 | exact k7 | exact k8 | exact k9 | fail) Split.nil) (RosOf.cons (RoOf.pass (by with_reducible first | exact m0 | exact m1 | exact m2 | exact m3 | exact m4 | exact m5 | fail)) (RosOf.cons (RoOf.pass (by with_reducible first | exact m0 | exact m1 | exact m2 | exact m3 | exact m4 | exact m5 | fail)) (RosOf.cons (RoOf.pass (by with_reducible first | exact m0 | exact m1 | exact m2 | exact m3 | exact m4 | exact m5 | fail)) (RosOf.cons (RoOf.pass (by with_reducible first | exact m0 | exact m1 | exact m2 | exact m3 | exact m4 | exact m5 | fail)) (RosOf.cons (RoOf.same (by with_reducible first | exact k0 | exact k1 | exact k2 | exact k3 | exact k4 | exact k5 | exact k6 | exact k7 | exact k8 | exact k9 | fail)) RosOf.nil))))) ?_ | refine EW.callv (vs := [pv b.place]) (caps := [qp c1, qp c2, qp c3]) rfl (clo_no (q := q) (v0 := v0) (slot := slot) (query := query) hk hob) rfl (Split.cons (by with_reducible first | exact k0 | exact k1 | exact k2 | exact k3 | exact k4 | exact k5 | exact k6 | exact k7 | exact k8 | exact k9 | fail) Split.nil) (RosOf.cons (RoOf.pass (by with_reducible first | exact m0 | exact m1 | exact m2 | exact m3 | exact m4 | exact m5 | fail)) (RosOf.cons (RoOf.pass (by with_reducible first | exact m0 | exact m1 | exact m2 | exact m3 | exact m4 | exact m5 | fail)) (RosOf.cons (RoOf.pass (by with_reducible first | exact m0 | exact m1 | exact m2 | exact m3 | exact m4 | exact m5 | fail)) (RosOf.cons (RoOf.pass (by with_reducible first | exact m0 | exact m1 | exact m2 | exact m3 | exact m4 | exact m5 | fail)) RosOf.nil)))) ?_ | refine EW.callv (vs := [pv b.place]) (caps := [qp c1, qp c2, qp c3]) rfl (clo_yes (q := q) (v0 := v0) (slot := slot) (query := query) hk hob) rfl (Split.cons (by with_reducible first | exact k0 | exact k1 | exact k2 | exact k3 | exact k4 | exact k5 | exact k6 | exact k7 | exact k8 | exact k9 | fail) Split.nil) (RosOf.cons (RoOf.pass (by with_reducible first | exact m0 | exact m1 | exact m2 | exact m3 | exact m4 | exact m5 | fail)) (RosOf.cons (RoOf.pass (by with_reducible first | exact m0 | exact m1 | exact m2 | exact m3 | exact m4 | exact m5 | fail)) (RosOf.cons (RoOf.pass (by with_reducible first | exact m0 | exact m1 | exact m2 | exact m3 | exact m4 | exact m5 | fail)) (RosOf.cons (RoOf.pass (by with_reducible first | exact m0 | exact m1 | exact m2 | exact m3 | exact m4 | exact m5 | fail)) RosOf.nil)))) ?_ | refine EW.alloc (by decide) ?_ | refine EW.store_row_a (i := i) (y' := b.place) (enc := eP) rfl rfl (by with_reducible first | exact k0 | exact k1 | exact k2 | exact k3 | exact k4 | exact k5 | exact k6 | exact k7 | exact k8 | exact k9 | fail) (by omega) ?_ | refine EW.store_s' rfl rfl (by with_reducible first | exact k0 | exact k1 | exact k2 | exact k3 | exact k4 | exact k5 | exact k6 | exact k7 | exact k8 | exact k9 | fail) (by (repeat (first | exact SetAt.head | apply SetAt.tail))) (by first | rfl | assumption) ?_ | refine EW.store_all rfl rfl (by with_reducible first | exact k0 | exact k1 | exact k2 | exact k3 | exact k4 | exact k5 | exact k6 | exact k7 | exact k8 | exact k9 | fail) (by rfl) (by rfl) (by first | rfl | decide) ?_ | refine EW.store_a' rfl rfl (by with_reducible first | exact k0 | exact k1 | exact k2 | exact k3 | exact k4 | exact k5 | exact k6 | exact k7 | exact k8 | exact k9 | fail) (by rfl) (by (repeat (first | exact SplAt.done | apply SplAt.put | apply SplAt.skip))) (by first | rfl | decide) ?_ | refine EW.clear_cut (lo := i) (z0 := (⟨0, 0⟩ : Place)) (n := 2) (enc := eP) (by rfl) rfl (by with_reducible first | exact k0 | exact k1 | exact k2 | exact k3 | exact k4 | exact k5 | exact k6 | exact k7 | exact k8 | exact k9 | fail) (by omega) ?_))
    | ((with_reducible apply KP.fin1); (· rfl); (· rfl))
    | ((with_reducible apply KP.fin2); (· rfl); (· rfl); (· rfl))
    | ((with_reducible refine KP.fin0 ?_ ?_); (· rfl))
    | ((with_reducible refine KP.fin0r ?_ ?_); (· rfl))
    | (intro _))
        exact KP.round (ks := [0, 1, 5, 6]) (j + 1, i + 1, ys.set i b.place, m') (d.on hb hob) (by first | omega | (simp only; omega)) (by repeat first | exact Keeps.nil | (apply Keeps.cons; (· rfl))) (Ent.cons (by with_reducible first | exact k0 | exact k1 | exact k2 | exact k3 | exact k4 | exact k5 | exact k6 | exact k7 | exact k8 | exact k9 | fail) (Ent.cons (by with_reducible first | exact k0 | exact k1 | exact k2 | exact k3 | exact k4 | exact k5 | exact k6 | exact k7 | exact k8 | exact k9 | fail) Ent.nil))
      · repeat' (first
    | (with_reducible refine CW.seq ?_)
    | (with_reducible refine CW.region ?_)
    | (with_reducible refine KP.list_nil ?_)
    | (with_reducible refine KP.then_code ?_)
    | (with_reducible refine CW.skip ?_)
    | (with_reducible refine CW.ret ?_)
    | (with_reducible refine KP.then_ret ?_)
    | (with_reducible refine KP.block_ret ?_)
    | (with_reducible refine CW.block ?_)
    | (with_reducible refine KP.block_normal ?_)
    | (with_reducible refine CW.exit ?_)
    | (with_reducible refine KP.then_exit ?_)
    | (with_reducible refine KP.block_hit ?_)
    | ((with_reducible refine KP.block_miss ?_ ?_); (· rfl))
    | ((with_reducible refine CW.cond_t ?_ ?_); (· rfl))
    | ((with_reducible refine CW.cond_f ?_ ?_); (· rfl))
    | ((with_reducible apply CW.condP); (· rfl))
    | ((with_reducible apply CW.cond); (· rfl))
    | (with_reducible refine CP.exP fun _ => ?_)
    | (with_reducible refine CP.puP fun _ => ?_)
    | ((with_reducible refine CP.ret_0 ?_ ?_); (· decide))
    | ((with_reducible refine CP.ret_1 ?_ ?_); (· decide))
    | ((with_reducible refine CP.ret_2 ?_ ?_); (· decide))
    | ((with_reducible refine CP.ret_3 ?_ ?_); (· decide))
    | ((with_reducible refine CP.ret_4 ?_ ?_); (· decide))
    | (with_reducible refine CP.ret0_0 ?_)
    | (with_reducible refine CP.ret0_1 ?_)
    | (with_reducible refine CP.ret0_2 ?_)
    | (with_reducible refine CP.ret0_3 ?_)
    | (with_reducible refine CP.ret0_4 ?_)
    | ((with_reducible apply KP.guard_yes); (· rfl); (· rfl))
    | ((with_reducible apply KP.guard_no); (· rfl); (· rfl); (· decide))
    | ((with_reducible apply KP.guard_un); (· rfl); (· rfl); (· decide))
    | ((with_reducible apply KP.guard_no0); (· rfl); (· rfl))
    | ((with_reducible apply KP.guard_un0); (· rfl); (· rfl))
    | ((with_reducible apply KP.quiet); (· first | exact QY.assign rfl | exact QY.move rfl | exact QY.eqnil_s rfl rfl | exact QY.eqnil_n rfl rfl | exact QY.same (QY.eql rfl rfl) (dec_t (by omega)) | exact QY.same (QY.eql rfl rfl) (dec_f (by omega)) | exact QY.eql rfl rfl | exact QY.eq_agg rfl rfl | exact QY.eq_str rfl rfl | exact QY.eq_bool rfl rfl | exact QY.inc64 rfl rfl (by omega) | exact QY.add64 rfl rfl (by omega) | exact QY.add rfl rfl | exact QY.len_row rfl (Rd.own (by with_reducible first | exact k0 | exact k1 | exact k2 | exact k3 | exact k4 | exact k5 | exact k6 | exact k7 | exact k8 | exact k9 | fail)) RowL.row | exact QY.len rfl | exact QY.len_str rfl | exact QY.same (QY.lss rfl rfl) (dec_t (by omega)) | exact QY.same (QY.lss rfl rfl) (dec_f (by omega)) | exact QY.lss rfl rfl | exact QY.index (i := j) rfl rfl (Rd.own (by with_reducible first | exact k0 | exact k1 | exact k2 | exact k3 | exact k4 | exact k5 | exact k6 | exact k7 | exact k8 | exact k9 | fail)) (RowL.row (n := 2)) (by omega) | exact QY.index (i := i) rfl rfl (Rd.own (by with_reducible first | exact k0 | exact k1 | exact k2 | exact k3 | exact k4 | exact k5 | exact k6 | exact k7 | exact k8 | exact k9 | fail)) (RowL.row (n := 2)) (by omega) | exact QY.load_a (cs := eP b.place) rfl (Rd.own (by with_reducible first | exact k0 | exact k1 | exact k2 | exact k3 | exact k4 | exact k5 | exact k6 | exact k7 | exact k8 | exact k9 | fail)) (Reads.row (i := j) (x := b.place) (enc := eP) RowL.row hp) (by rfl) | exact QY.load_s rfl (Rd.own (by with_reducible first | exact k0 | exact k1 | exact k2 | exact k3 | exact k4 | exact k5 | exact k6 | exact k7 | exact k8 | exact k9 | fail)) (Reads.pt1 (by rfl)) | exact QY.load_a rfl (Rd.own (by with_reducible first | exact k0 | exact k1 | exact k2 | exact k3 | exact k4 | exact k5 | exact k6 | exact k7 | exact k8 | exact k9 | fail)) Reads.pt_all (by rfl) | exact QY.not_t rfl | exact QY.not_f rfl | exact QY.notP rfl | exact QY.not rfl | exact QY.cut_lo (lo := i) (n := 2) rfl rfl (Rd.own (by with_reducible first | exact k0 | exact k1 | exact k2 | exact k3 | exact k4 | exact k5 | exact k6 | exact k7 | exact k8 | exact k9 | fail)) RowL.row (by omega) | exact QY.cut_hi (hi := i) (n := 2) rfl rfl (Rd.own (by with_reducible first | exact k0 | exact k1 | exact k2 | exact k3 | exact k4 | exact k5 | exact k6 | exact k7 | exact k8 | exact k9 | fail)) RowL.row (by simp; omega)); (· decide))
    | ((with_reducible refine KP.eff ?_); (first | refine EW.call (vs := [v, fv c1 c2 c3]) (index_none (q := q) (v0 := v0) (slot := slot) (query := query) hf hno) rfl (Split.cons (by with_reducible first | exact k0 | exact k1 | exact k2 | exact k3 | exact k4 | exact k5 | exact k6 | exact k7 | exact k8 | exact k9 | fail) Split.nil) (RosOf.cons (RoOf.pass (by with_reducible first | exact m0 | exact m1 | exact m2 | exact m3 | exact m4 | exact m5 | fail)) (RosOf.cons (RoOf.pass (by with_reducible first | exact m0 | exact m1 | exact m2 | exact m3 | exact m4 | exact m5 | fail)) (RosOf.cons (RoOf.pass (by with_reducible first | exact m0 | exact m1 | exact m2 | exact m3 | exact m4 | exact m5 | fail)) (RosOf.cons (RoOf.pass (by with_reducible first | exact m0 | exact m1 | exact m2 | exact m3 | exact m4 | exact m5 | fail)) (RosOf.cons (RoOf.same (by with_reducible first | exact k0 | exact k1 | exact k2 | exact k3 | exact k4 | exact k5 | exact k6 | exact k7 | exact k8 | exact k9 | fail)) RosOf.nil))))) ?_ | refine EW.call (vs := [v, fv c1 c2 c3]) (index_some (q := q) (v0 := v0) (slot := slot) (query := query) hf ha ho hno) rfl (Split.cons (by with_reducible first | exact k0 | exact k1 | exact k2 | exact k3 | exact k4 | exact k5 | exact k6 | exact k7 | exact k8 | exact k9 | fail) Split.nil) (RosOf.cons (RoOf.pass (by with_reducible first | exact m0 | exact m1 | exact m2 | exact m3 | exact m4 | exact m5 | fail)) (RosOf.cons (RoOf.pass (by with_reducible first | exact m0 | exact m1 | exact m2 | exact m3 | exact m4 | exact m5 | fail)) (RosOf.cons (RoOf.pass (by with_reducible first | exact m0 | exact m1 | exact m2 | exact m3 | exact m4 | exact m5 | fail)) (RosOf.cons (RoOf.pass (by with_reducible first | exact m0 | exact m1 | exact m2 | exact m3 | exact m4 | exact m5 | fail)) (RosOf.cons (RoOf.same (by with_reducible first | exact k0 | exact k1 | exact k2 | exact k3 | exact k4 | exact k5 | exact k6 | exact k7 | exact k8 | exact k9 | fail)) RosOf.nil))))) ?_ | refine EW.callv (vs := [pv b.place]) (caps := [qp c1, qp c2, qp c3]) rfl (clo_no (q := q) (v0 := v0) (slot := slot) (query := query) hk hob) rfl (Split.cons (by with_reducible first | exact k0 | exact k1 | exact k2 | exact k3 | exact k4 | exact k5 | exact k6 | exact k7 | exact k8 | exact k9 | fail) Split.nil) (RosOf.cons (RoOf.pass (by with_reducible first | exact m0 | exact m1 | exact m2 | exact m3 | exact m4 | exact m5 | fail)) (RosOf.cons (RoOf.pass (by with_reducible first | exact m0 | exact m1 | exact m2 | exact m3 | exact m4 | exact m5 | fail)) (RosOf.cons (RoOf.pass (by with_reducible first | exact m0 | exact m1 | exact m2 | exact m3 | exact m4 | exact m5 | fail)) (RosOf.cons (RoOf.pass (by with_reducible first | exact m0 | exact m1 | exact m2 | exact m3 | exact m4 | exact m5 | fail)) RosOf.nil)))) ?_ | refine EW.callv (vs := [pv b.place]) (caps := [qp c1, qp c2, qp c3]) rfl (clo_yes (q := q) (v0 := v0) (slot := slot) (query := query) hk hob) rfl (Split.cons (by with_reducible first | exact k0 | exact k1 | exact k2 | exact k3 | exact k4 | exact k5 | exact k6 | exact k7 | exact k8 | exact k9 | fail) Split.nil) (RosOf.cons (RoOf.pass (by with_reducible first | exact m0 | exact m1 | exact m2 | exact m3 | exact m4 | exact m5 | fail)) (RosOf.cons (RoOf.pass (by with_reducible first | exact m0 | exact m1 | exact m2 | exact m3 | exact m4 | exact m5 | fail)) (RosOf.cons (RoOf.pass (by with_reducible first | exact m0 | exact m1 | exact m2 | exact m3 | exact m4 | exact m5 | fail)) (RosOf.cons (RoOf.pass (by with_reducible first | exact m0 | exact m1 | exact m2 | exact m3 | exact m4 | exact m5 | fail)) RosOf.nil)))) ?_ | refine EW.alloc (by decide) ?_ | refine EW.store_row_a (i := i) (y' := b.place) (enc := eP) rfl rfl (by with_reducible first | exact k0 | exact k1 | exact k2 | exact k3 | exact k4 | exact k5 | exact k6 | exact k7 | exact k8 | exact k9 | fail) (by omega) ?_ | refine EW.store_s' rfl rfl (by with_reducible first | exact k0 | exact k1 | exact k2 | exact k3 | exact k4 | exact k5 | exact k6 | exact k7 | exact k8 | exact k9 | fail) (by (repeat (first | exact SetAt.head | apply SetAt.tail))) (by first | rfl | assumption) ?_ | refine EW.store_all rfl rfl (by with_reducible first | exact k0 | exact k1 | exact k2 | exact k3 | exact k4 | exact k5 | exact k6 | exact k7 | exact k8 | exact k9 | fail) (by rfl) (by rfl) (by first | rfl | decide) ?_ | refine EW.store_a' rfl rfl (by with_reducible first | exact k0 | exact k1 | exact k2 | exact k3 | exact k4 | exact k5 | exact k6 | exact k7 | exact k8 | exact k9 | fail) (by rfl) (by (repeat (first | exact SplAt.done | apply SplAt.put | apply SplAt.skip))) (by first | rfl | decide) ?_ | refine EW.clear_cut (lo := i) (z0 := (⟨0, 0⟩ : Place)) (n := 2) (enc := eP) (by rfl) rfl (by with_reducible first | exact k0 | exact k1 | exact k2 | exact k3 | exact k4 | exact k5 | exact k6 | exact k7 | exact k8 | exact k9 | fail) (by omega) ?_))
    | ((with_reducible apply KP.fin1); (· rfl); (· rfl))
    | ((with_reducible apply KP.fin2); (· rfl); (· rfl); (· rfl))
    | ((with_reducible refine KP.fin0 ?_ ?_); (· rfl))
    | ((with_reducible refine KP.fin0r ?_ ?_); (· rfl))
    | (intro _))
        exact KP.round (ks := [0, 1, 5, 6]) (j + 1, i, ys, mdel m' b.place) (d.off hb hob) (by first | omega | (simp only; omega)) (by repeat first | exact Keeps.nil | (apply Keeps.cons; (· rfl))) (Ent.cons (by with_reducible first | exact k0 | exact k1 | exact k2 | exact k3 | exact k4 | exact k5 | exact k6 | exact k7 | exact k8 | exact k9 | fail) (Ent.cons (by with_reducible first | exact k0 | exact k1 | exact k2 | exact k3 | exact k4 | exact k5 | exact k6 | exact k7 | exact k8 | exact k9 | fail) Ent.nil))
    · have hjl : j = l.length := by omega
      subst hjl
      have h4 := d.i_eq
      have h5 := d.fst
      have h7 := d.qf
      simp only [List.take_length, List.drop_length, List.append_nil] at h4 h5 h7
      repeat' (first
    | (with_reducible refine CW.seq ?_)
    | (with_reducible refine CW.region ?_)
    | (with_reducible refine KP.list_nil ?_)
    | (with_reducible refine KP.then_code ?_)
    | (with_reducible refine CW.skip ?_)
    | (with_reducible refine CW.ret ?_)
    | (with_reducible refine KP.then_ret ?_)
    | (with_reducible refine KP.block_ret ?_)
    | (with_reducible refine CW.block ?_)
    | (with_reducible refine KP.block_normal ?_)
    | (with_reducible refine CW.exit ?_)
    | (with_reducible refine KP.then_exit ?_)
    | (with_reducible refine KP.block_hit ?_)
    | ((with_reducible refine KP.block_miss ?_ ?_); (· rfl))
    | ((with_reducible refine CW.cond_t ?_ ?_); (· rfl))
    | ((with_reducible refine CW.cond_f ?_ ?_); (· rfl))
    | ((with_reducible apply CW.condP); (· rfl))
    | ((with_reducible apply CW.cond); (· rfl))
    | (with_reducible refine CP.exP fun _ => ?_)
    | (with_reducible refine CP.puP fun _ => ?_)
    | ((with_reducible refine CP.ret_0 ?_ ?_); (· decide))
    | ((with_reducible refine CP.ret_1 ?_ ?_); (· decide))
    | ((with_reducible refine CP.ret_2 ?_ ?_); (· decide))
    | ((with_reducible refine CP.ret_3 ?_ ?_); (· decide))
    | ((with_reducible refine CP.ret_4 ?_ ?_); (· decide))
    | (with_reducible refine CP.ret0_0 ?_)
    | (with_reducible refine CP.ret0_1 ?_)
    | (with_reducible refine CP.ret0_2 ?_)
    | (with_reducible refine CP.ret0_3 ?_)
    | (with_reducible refine CP.ret0_4 ?_)
    | ((with_reducible apply KP.guard_yes); (· rfl); (· rfl))
    | ((with_reducible apply KP.guard_no); (· rfl); (· rfl); (· decide))
    | ((with_reducible apply KP.guard_un); (· rfl); (· rfl); (· decide))
    | ((with_reducible apply KP.guard_no0); (· rfl); (· rfl))
    | ((with_reducible apply KP.guard_un0); (· rfl); (· rfl))
    | ((with_reducible apply KP.quiet); (· first | exact QY.assign rfl | exact QY.move rfl | exact QY.eqnil_s rfl rfl | exact QY.eqnil_n rfl rfl | exact QY.same (QY.eql rfl rfl) (dec_t (by omega)) | exact QY.same (QY.eql rfl rfl) (dec_f (by omega)) | exact QY.eql rfl rfl | exact QY.eq_agg rfl rfl | exact QY.eq_str rfl rfl | exact QY.eq_bool rfl rfl | exact QY.inc64 rfl rfl (by omega) | exact QY.add64 rfl rfl (by omega) | exact QY.add rfl rfl | exact QY.len_row rfl (Rd.own (by with_reducible first | exact k0 | exact k1 | exact k2 | exact k3 | exact k4 | exact k5 | exact k6 | exact k7 | exact k8 | exact k9 | fail)) RowL.row | exact QY.len rfl | exact QY.len_str rfl | exact QY.same (QY.lss rfl rfl) (dec_t (by omega)) | exact QY.same (QY.lss rfl rfl) (dec_f (by omega)) | exact QY.lss rfl rfl | exact QY.index (i := j) rfl rfl (Rd.own (by with_reducible first | exact k0 | exact k1 | exact k2 | exact k3 | exact k4 | exact k5 | exact k6 | exact k7 | exact k8 | exact k9 | fail)) (RowL.row (n := 2)) (by omega) | exact QY.index (i := i) rfl rfl (Rd.own (by with_reducible first | exact k0 | exact k1 | exact k2 | exact k3 | exact k4 | exact k5 | exact k6 | exact k7 | exact k8 | exact k9 | fail)) (RowL.row (n := 2)) (by omega) | exact QY.load_a (cs := eP b.place) rfl (Rd.own (by with_reducible first | exact k0 | exact k1 | exact k2 | exact k3 | exact k4 | exact k5 | exact k6 | exact k7 | exact k8 | exact k9 | fail)) (Reads.row (i := j) (x := b.place) (enc := eP) RowL.row hp) (by rfl) | exact QY.load_s rfl (Rd.own (by with_reducible first | exact k0 | exact k1 | exact k2 | exact k3 | exact k4 | exact k5 | exact k6 | exact k7 | exact k8 | exact k9 | fail)) (Reads.pt1 (by rfl)) | exact QY.load_a rfl (Rd.own (by with_reducible first | exact k0 | exact k1 | exact k2 | exact k3 | exact k4 | exact k5 | exact k6 | exact k7 | exact k8 | exact k9 | fail)) Reads.pt_all (by rfl) | exact QY.not_t rfl | exact QY.not_f rfl | exact QY.notP rfl | exact QY.not rfl | exact QY.cut_lo (lo := i) (n := 2) rfl rfl (Rd.own (by with_reducible first | exact k0 | exact k1 | exact k2 | exact k3 | exact k4 | exact k5 | exact k6 | exact k7 | exact k8 | exact k9 | fail)) RowL.row (by omega) | exact QY.cut_hi (hi := i) (n := 2) rfl rfl (Rd.own (by with_reducible first | exact k0 | exact k1 | exact k2 | exact k3 | exact k4 | exact k5 | exact k6 | exact k7 | exact k8 | exact k9 | fail)) RowL.row (by simp; omega)); (· decide))
    | ((with_reducible refine KP.eff ?_); (first | refine EW.call (vs := [v, fv c1 c2 c3]) (index_none (q := q) (v0 := v0) (slot := slot) (query := query) hf hno) rfl (Split.cons (by with_reducible first | exact k0 | exact k1 | exact k2 | exact k3 | exact k4 | exact k5 | exact k6 | exact k7 | exact k8 | exact k9 | fail) Split.nil) (RosOf.cons (RoOf.pass (by with_reducible first | exact m0 | exact m1 | exact m2 | exact m3 | exact m4 | exact m5 | fail)) (RosOf.cons (RoOf.pass (by with_reducible first | exact m0 | exact m1 | exact m2 | exact m3 | exact m4 | exact m5 | fail)) (RosOf.cons (RoOf.pass (by with_reducible first | exact m0 | exact m1 | exact m2 | exact m3 | exact m4 | exact m5 | fail)) (RosOf.cons (RoOf.pass (by with_reducible first | exact m0 | exact m1 | exact m2 | exact m3 | exact m4 | exact m5 | fail)) (RosOf.cons (RoOf.same (by with_reducible first | exact k0 | exact k1 | exact k2 | exact k3 | exact k4 | exact k5 | exact k6 | exact k7 | exact k8 | exact k9 | fail)) RosOf.nil))))) ?_ | refine EW.call (vs := [v, fv c1 c2 c3]) (index_some (q := q) (v0 := v0) (slot := slot) (query := query) hf ha ho hno) rfl (Split.cons (by with_reducible first | exact k0 | exact k1 | exact k2 | exact k3 | exact k4 | exact k5 | exact k6 | exact k7 | exact k8 | exact k9 | fail) Split.nil) (RosOf.cons (RoOf.pass (by with_reducible first | exact m0 | exact m1 | exact m2 | exact m3 | exact m4 | exact m5 | fail)) (RosOf.cons (RoOf.pass (by with_reducible first | exact m0 | exact m1 | exact m2 | exact m3 | exact m4 | exact m5 | fail)) (RosOf.cons (RoOf.pass (by with_reducible first | exact m0 | exact m1 | exact m2 | exact m3 | exact m4 | exact m5 | fail)) (RosOf.cons (RoOf.pass (by with_reducible first | exact m0 | exact m1 | exact m2 | exact m3 | exact m4 | exact m5 | fail)) (RosOf.cons (RoOf.same (by with_reducible first | exact k0 | exact k1 | exact k2 | exact k3 | exact k4 | exact k5 | exact k6 | exact k7 | exact k8 | exact k9 | fail)) RosOf.nil))))) ?_ | refine EW.callv (vs := [pv b.place]) (caps := [qp c1, qp c2, qp c3]) rfl (clo_no (q := q) (v0 := v0) (slot := slot) (query := query) hk hob) rfl (Split.cons (by with_reducible first | exact k0 | exact k1 | exact k2 | exact k3 | exact k4 | exact k5 | exact k6 | exact k7 | exact k8 | exact k9 | fail) Split.nil) (RosOf.cons (RoOf.pass (by with_reducible first | exact m0 | exact m1 | exact m2 | exact m3 | exact m4 | exact m5 | fail)) (RosOf.cons (RoOf.pass (by with_reducible first | exact m0 | exact m1 | exact m2 | exact m3 | exact m4 | exact m5 | fail)) (RosOf.cons (RoOf.pass (by with_reducible first | exact m0 | exact m1 | exact m2 | exact m3 | exact m4 | exact m5 | fail)) (RosOf.cons (RoOf.pass (by with_reducible first | exact m0 | exact m1 | exact m2 | exact m3 | exact m4 | exact m5 | fail)) RosOf.nil)))) ?_ | refine EW.callv (vs := [pv b.place]) (caps := [qp c1, qp c2, qp c3]) rfl (clo_yes (q := q) (v0 := v0) (slot := slot) (query := query) hk hob) rfl (Split.cons (by with_reducible first | exact k0 | exact k1 | exact k2 | exact k3 | exact k4 | exact k5 | exact k6 | exact k7 | exact k8 | exact k9 | fail) Split.nil) (RosOf.cons (RoOf.pass (by with_reducible first | exact m0 | exact m1 | exact m2 | exact m3 | exact m4 | exact m5 | fail)) (RosOf.cons (RoOf.pass (by with_reducible first | exact m0 | exact m1 | exact m2 | exact m3 | exact m4 | exact m5 | fail)) (RosOf.cons (RoOf.pass (by with_reducible first | exact m0 | exact m1 | exact m2 | exact m3 | exact m4 | exact m5 | fail)) (RosOf.cons (RoOf.pass (by with_reducible first | exact m0 | exact m1 | exact m2 | exact m3 | exact m4 | exact m5 | fail)) RosOf.nil)))) ?_ | refine EW.alloc (by decide) ?_ | refine EW.store_row_a (i := i) (y' := b.place) (enc := eP) rfl rfl (by with_reducible first | exact k0 | exact k1 | exact k2 | exact k3 | exact k4 | exact k5 | exact k6 | exact k7 | exact k8 | exact k9 | fail) (by omega) ?_ | refine EW.store_s' rfl rfl (by with_reducible first | exact k0 | exact k1 | exact k2 | exact k3 | exact k4 | exact k5 | exact k6 | exact k7 | exact k8 | exact k9 | fail) (by (repeat (first | exact SetAt.head | apply SetAt.tail))) (by first | rfl | assumption) ?_ | refine EW.store_all rfl rfl (by with_reducible first | exact k0 | exact k1 | exact k2 | exact k3 | exact k4 | exact k5 | exact k6 | exact k7 | exact k8 | exact k9 | fail) (by rfl) (by rfl) (by first | rfl | decide) ?_ | refine EW.store_a' rfl rfl (by with_reducible first | exact k0 | exact k1 | exact k2 | exact k3 | exact k4 | exact k5 | exact k6 | exact k7 | exact k8 | exact k9 | fail) (by rfl) (by (repeat (first | exact SplAt.done | apply SplAt.put | apply SplAt.skip))) (by first | rfl | decide) ?_ | refine EW.clear_cut (lo := i) (z0 := (⟨0, 0⟩ : Place)) (n := 2) (enc := eP) (by rfl) rfl (by with_reducible first | exact k0 | exact k1 | exact k2 | exact k3 | exact k4 | exact k5 | exact k6 | exact k7 | exact k8 | exact k9 | fail) (by omega) ?_))
    | ((with_reducible apply KP.fin1); (· rfl); (· rfl))
    | ((with_reducible apply KP.fin2); (· rfl); (· rfl); (· rfl))
    | ((with_reducible refine KP.fin0 ?_ ?_); (· rfl))
    | ((with_reducible refine KP.fin0r ?_ ?_); (· rfl))
    | (intro _))
      exact Fina.exP _ (Fina.exP m' (Fina.puP h7 (Fina.puP (slv_one _ _ _ hv) (Fina.turn (A' := row 56 2 eP v (ys.take i ++ List.replicate (ys.length - i) ⟨0, 0⟩)) (by with_reducible first | exact k0 | exact k1 | exact k2 | exact k3 | exact k4 | exact k5 | exact k6 | exact k7 | exact k8 | exact k9 | fail) (fun _ r => rowCut (by omega) h5 (by simp [h4]) r) (Fina.ret (Ent.cons (by with_reducible first | exact k0 | exact k1 | exact k2 | exact k3 | exact k4 | exact k5 | exact k6 | exact k7 | exact k8 | exact k9 | fail) (Ent.cons (by with_reducible first | exact k0 | exact k1 | exact k2 | exact k3 | exact k4 | exact k5 | exact k6 | exact k7 | exact k8 | exact k9 | fail) Ent.nil)))))))

end Go.Proofs.Ytnnobondpimnpaa
