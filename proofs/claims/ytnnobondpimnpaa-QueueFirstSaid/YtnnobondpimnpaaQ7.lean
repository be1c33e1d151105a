import Derived.Test.YtnnobondpimnpaaQ6
/- Stop. -/
namespace Go.Proofs.Ytnnobondpimnpaa
open Go Go.Ink
set_option linter.unusedVariables false
set_option linter.unusedSimpArgs false
attribute [local irreducible] KP QY EW CW DW QG CP Spc DK Fina


theorem stop_nil {slot query : Int} : Spc Try.prog 15 #[.pointer none, iv slot, iv query] [] [] (ret (iv 0) []) := by
  refine Spc.enter' (args := [.pointer none, iv slot, iv query]) (T0 := [(0, .pointer none), (1, iv slot), (2, iv query)]) Try.func15 rfl Try.ntmps15 (Nat.le_of_ble_eq_true rfl) rfl ?_
  intro w0 own
  repeat' (first
    | (with_reducible refine CW.seq ?_)
    | (with_reducible refine CW.region ?_)
    | (with_reducible refine KP.list_nil ?_)
    | (with_reducible refine KP.then_code ?_)
    | (with_reducible refine CW.skip ?_)
    | (with_reducible refine CW.ret ?_)
    | (with_reducible refine KP.then_ret ?_)
    | (with_reducible refine KP.block_ret ?_)
    | (with_reducible refine CW.block ?_)
    | (with_reducible refine KP.block_normal ?_)
    | (with_reducible refine CW.exit ?_)
    | (with_reducible refine KP.then_exit ?_)
    | (with_reducible refine KP.block_hit ?_)
    | ((with_reducible refine KP.block_miss ?_ ?_); (· rfl))
    | ((with_reducible refine CW.cond_t ?_ ?_); (· rfl))
    | ((with_reducible refine CW.cond_f ?_ ?_); (· rfl))
    | ((with_reducible apply CW.condP); (· rfl))
    | ((with_reducible apply CW.cond); (· rfl))
    | (with_reducible refine CP.exP fun _ => ?_)
    | (with_reducible refine CP.puP fun _ => ?_)
    | ((with_reducible refine CP.ret_0 ?_ ?_); (· decide))
    | ((with_reducible refine CP.ret_1 ?_ ?_); (· decide))
    | ((with_reducible refine CP.ret_2 ?_ ?_); (· decide))
    | ((with_reducible refine CP.ret_3 ?_ ?_); (· decide))
    | ((with_reducible refine CP.ret_4 ?_ ?_); (· decide))
    | (with_reducible refine CP.ret0_0 ?_)
    | (with_reducible refine CP.ret0_1 ?_)
    | (with_reducible refine CP.ret0_2 ?_)
    | (with_reducible refine CP.ret0_3 ?_)
    | (with_reducible refine CP.ret0_4 ?_)
    | ((with_reducible apply KP.guard_yes); (· rfl); (· rfl))
    | ((with_reducible apply KP.guard_no); (· rfl); (· rfl); (· decide))
    | ((with_reducible apply KP.guard_un); (· rfl); (· rfl); (· decide))
    | ((with_reducible apply KP.guard_no0); (· rfl); (· rfl))
    | ((with_reducible apply KP.guard_un0); (· rfl); (· rfl))
    | ((with_reducible apply KP.quiet); (· first | exact QY.assign rfl | exact QY.load_s rfl (Rd.own (by with_reducible first | exact k0 | exact k1 | exact k2 | exact k3 | exact k4 | exact k5 | exact k6 | exact k7 | exact k8 | exact k9 | fail)) (Reads.pt1 (by rfl)) | exact QY.load_a rfl (Rd.own (by with_reducible first | exact k0 | exact k1 | exact k2 | exact k3 | exact k4 | exact k5 | exact k6 | exact k7 | exact k8 | exact k9 | fail)) Reads.pt_all (by rfl) | exact QY.move rfl | exact QY.eqnil_s rfl rfl | exact QY.eqnil_n rfl rfl | exact QY.same (QY.eql rfl rfl) (dec_t (by omega)) | exact QY.same (QY.eql rfl rfl) (dec_f (by omega)) | exact QY.eql rfl rfl | exact QY.eq_agg rfl rfl | exact QY.eq_str rfl rfl | exact QY.eq_bool rfl rfl | exact QY.sub64 rfl rfl (by omega) | exact QY.sub rfl rfl); (· decide))
    | ((with_reducible refine KP.eff ?_); (first | refine EW.box_s (by decide) rfl (by first | rfl | assumption) ?_ | refine EW.box_a (by decide) rfl ?_ | refine EW.call (vs := [.pointer none]) len_nil rfl .nil .nil ?_))
    | ((with_reducible refine CW.draw (i := 4) ?_ [[], [], [1], [1, 2], [1, 2, 3], [], [1, 2, 3, 4, 5], [0, 1, 2, 3, 4, 5, 6], [0, 1, 2, 3, 4, 5, 6, 7], [0, 1, 2, 3, 4, 5, 6, 7, 8]] ?_ ?_ ?_ ?_); (· rfl); (· kernel_rfl); (· kernel_rfl); (· repeat (first | exact NoHang.post | refine NoHang.then ?_ | refine NoHang.block ?_)); refine DW.pure 5 rfl (by kernel_rfl) rfl (by decide) (fun _ => (by first | exact QG.plain (QY.makeFunc0) | exact QG.plain (QY.makeFunc rfl))) ?_; refine DW.mem 0 rfl (by kernel_rfl) rfl (by decide) rfl (by first | exact QG.plain (QY.load_s rfl (Rd.own (by with_reducible first | exact k0 | exact k1 | exact k2 | exact k3 | exact k4 | exact k5 | exact k6 | exact k7 | exact k8 | exact k9 | fail)) (Reads.pt1 (by rfl))) | exact QG.plain (QY.load_a rfl (Rd.own (by with_reducible first | exact k0 | exact k1 | exact k2 | exact k3 | exact k4 | exact k5 | exact k6 | exact k7 | exact k8 | exact k9 | fail)) Reads.pt_all (by rfl))) ?_; refine DW.mem 1 rfl (by kernel_rfl) rfl (by decide) rfl (by first | exact QG.plain (QY.load_s rfl (Rd.own (by with_reducible first | exact k0 | exact k1 | exact k2 | exact k3 | exact k4 | exact k5 | exact k6 | exact k7 | exact k8 | exact k9 | fail)) (Reads.pt1 (by rfl))) | exact QG.plain (QY.load_a rfl (Rd.own (by with_reducible first | exact k0 | exact k1 | exact k2 | exact k3 | exact k4 | exact k5 | exact k6 | exact k7 | exact k8 | exact k9 | fail)) Reads.pt_all (by rfl))) ?_; refine DW.pure 2 rfl (by kernel_rfl) rfl (by decide) (fun _ => (by first | exact QG.plain (QY.nilCheck_ptr rfl) | exact QG.plain (QY.nilCheck_iface rfl) | exact QG.plain (QY.nilCheck_func rfl))) ?_; refine DW.pure 3 rfl (by kernel_rfl) rfl (by decide) (fun _ => (by first | exact QG.plain (QY.fieldAddr0 rfl) | exact QG.plain (QY.fieldAddr rfl))) ?_; refine DW.mem 4 rfl (by kernel_rfl) rfl (by decide) rfl (by first | exact QG.plain (QY.load_s rfl (Rd.own (by with_reducible first | exact k0 | exact k1 | exact k2 | exact k3 | exact k4 | exact k5 | exact k6 | exact k7 | exact k8 | exact k9 | fail)) (Reads.pt1 (by rfl))) | exact QG.plain (QY.load_a rfl (Rd.own (by with_reducible first | exact k0 | exact k1 | exact k2 | exact k3 | exact k4 | exact k5 | exact k6 | exact k7 | exact k8 | exact k9 | fail)) Reads.pt_all (by rfl))) ?_; refine DW.exec 6 rfl (by kernel_rfl) rfl ?_; intro hdk; (first | (refine EW.call (vs := [.pointer none]) len_nil rfl .nil .nil ?_)); (repeat' (first | (intro gnew) | (refine CP.exP fun _ => ?_) | (refine CP.puP fun _ => ?_) | (refine CP.ret_0 (by decide) ?_) | (refine CP.ret_1 (by decide) ?_) | (refine CP.ret_2 (by decide) ?_) | (refine CP.ret_3 (by decide) ?_) | (refine CP.ret_4 (by decide) ?_) | (refine CP.ret0_0 ?_) | (refine CP.ret0_1 ?_) | (refine CP.ret0_2 ?_) | (refine CP.ret0_3 ?_) | (refine CP.ret0_4 ?_))); refine DK.mk hdk (by refine ObE.cons rfl (by first | exact QG.plain (QY.load_s rfl (Rd.own (by with_reducible first | exact k0 | exact k1 | exact k2 | exact k3 | exact k4 | exact k5 | exact k6 | exact k7 | exact k8 | exact k9 | fail)) (Reads.pt1 (by rfl))) | exact QG.plain (QY.load_a rfl (Rd.own (by with_reducible first | exact k0 | exact k1 | exact k2 | exact k3 | exact k4 | exact k5 | exact k6 | exact k7 | exact k8 | exact k9 | fail)) Reads.pt_all (by rfl))) ?_; exact ObE.nil) ?_; clear hdk; refine DW.pure 7 rfl (by kernel_rfl) rfl (by decide) (fun _ => (by first | exact QG.plain (QY.nilCheck_ptr rfl) | exact QG.plain (QY.nilCheck_iface rfl) | exact QG.plain (QY.nilCheck_func rfl))) ?_; refine DW.pure 8 rfl (by kernel_rfl) rfl (by decide) (fun _ => (by first | exact QG.plain (QY.fieldAddr0 rfl) | exact QG.plain (QY.fieldAddr rfl))) ?_; refine DW.exec 9 rfl (by kernel_rfl) rfl ?_; intro hdk; (first | (refine EW.store_s' rfl rfl (by with_reducible first | exact k0 | exact k1 | exact k2 | exact k3 | exact k4 | exact k5 | exact k6 | exact k7 | exact k8 | exact k9 | fail) (by (repeat (first | exact SetAt.head | apply SetAt.tail))) (by first | rfl | assumption) ?_) | (refine EW.store_all rfl rfl (by with_reducible first | exact k0 | exact k1 | exact k2 | exact k3 | exact k4 | exact k5 | exact k6 | exact k7 | exact k8 | exact k9 | fail) (by rfl) (by rfl) (by first | rfl | decide) ?_) | (refine EW.store_a' rfl rfl (by with_reducible first | exact k0 | exact k1 | exact k2 | exact k3 | exact k4 | exact k5 | exact k6 | exact k7 | exact k8 | exact k9 | fail) (by rfl) (by (repeat (first | exact SplAt.done | apply SplAt.put | apply SplAt.skip))) (by first | rfl | decide) ?_)); (repeat' (first | (intro gnew) | (refine CP.exP fun _ => ?_) | (refine CP.puP fun _ => ?_) | (refine CP.ret_0 (by decide) ?_) | (refine CP.ret_1 (by decide) ?_) | (refine CP.ret_2 (by decide) ?_) | (refine CP.ret_3 (by decide) ?_) | (refine CP.ret_4 (by decide) ?_) | (refine CP.ret0_0 ?_) | (refine CP.ret0_1 ?_) | (refine CP.ret0_2 ?_) | (refine CP.ret0_3 ?_) | (refine CP.ret0_4 ?_))); refine DK.mk hdk (by exact ObE.nil) ?_; clear hdk; refine DW.done (by kernel_rfl) ?_)
    | ((with_reducible apply KP.fin1); (· rfl); (· rfl))
    | ((with_reducible apply KP.fin2); (· rfl); (· rfl); (· rfl))
    | ((with_reducible refine KP.fin0 ?_ ?_); (· rfl))
    | ((with_reducible refine KP.fin0r ?_ ?_); (· rfl))
    | (intro _))
  exact Fina.ret .nil

theorem len_rw {q bm : Nat} {v : Value} {l : List Ask} : Spc Try.prog 20 #[qp q] [pt q 53 [v, .map (some bm)], row 56 2 eP v (l.map Ask.place)] [] (ret (iv l.length) []) := by
  have := len_ro (q := q) (bm := bm) (v := v) (ps := l.map Ask.place)
  rw [List.length_map] at this; exact this
def stopF (slot query : Int) (l : List Ask) : Int × List Ask := ((l.length : Int) - ((keepF slot query l).length : Int), keepF slot query l)
theorem keep_le (slot query : Int) (l : List Ask) : (keepF slot query l).length ≤ l.length := List.length_filter_le _ _

theorem stop_spec {q : Nat} {l : List Ask} {slot query : Int} : Spc Try.prog 15 #[qp q, iv slot, iv query] [] [Qu q l] (ret (iv (stopF slot query l).1) [Qu q (stopF slot query l).2]) := by
  refine Spc.enter' (args := [qp q, iv slot, iv query]) (T0 := [(0, qp q), (1, iv slot), (2, iv query)]) Try.func15 rfl Try.ntmps15 (Nat.le_of_ble_eq_true rfl) rfl ?_
  intro w0 own
  refine CW.qu fun v bm m f o => ?_
  have h24 := f.len
  have hkl := keep_le slot query l
  by_cases h0 : l.length = 0
  · repeat' (first
    | (with_reducible refine CW.seq ?_)
    | (with_reducible refine CW.region ?_)
    | (with_reducible refine KP.list_nil ?_)
    | (with_reducible refine KP.then_code ?_)
    | (with_reducible refine CW.skip ?_)
    | (with_reducible refine CW.ret ?_)
    | (with_reducible refine KP.then_ret ?_)
    | (with_reducible refine KP.block_ret ?_)
    | (with_reducible refine CW.block ?_)
    | (with_reducible refine KP.block_normal ?_)
    | (with_reducible refine CW.exit ?_)
    | (with_reducible refine KP.then_exit ?_)
    | (with_reducible refine KP.block_hit ?_)
    | ((with_reducible refine KP.block_miss ?_ ?_); (· rfl))
    | ((with_reducible refine CW.cond_t ?_ ?_); (· rfl))
    | ((with_reducible refine CW.cond_f ?_ ?_); (· rfl))
    | ((with_reducible apply CW.condP); (· rfl))
    | ((with_reducible apply CW.cond); (· rfl))
    | (with_reducible refine CP.exP fun _ => ?_)
    | (with_reducible refine CP.puP fun _ => ?_)
    | ((with_reducible refine CP.ret_0 ?_ ?_); (· decide))
    | ((with_reducible refine CP.ret_1 ?_ ?_); (· decide))
    | ((with_reducible refine CP.ret_2 ?_ ?_); (· decide))
    | ((with_reducible refine CP.ret_3 ?_ ?_); (· decide))
    | ((with_reducible refine CP.ret_4 ?_ ?_); (· decide))
    | (with_reducible refine CP.ret0_0 ?_)
    | (with_reducible refine CP.ret0_1 ?_)
    | (with_reducible refine CP.ret0_2 ?_)
    | (with_reducible refine CP.ret0_3 ?_)
    | (with_reducible refine CP.ret0_4 ?_)
    | ((with_reducible apply KP.guard_yes); (· rfl); (· rfl))
    | ((with_reducible apply KP.guard_no); (· rfl); (· rfl); (· decide))
    | ((with_reducible apply KP.guard_un); (· rfl); (· rfl); (· decide))
    | ((with_reducible apply KP.guard_no0); (· rfl); (· rfl))
    | ((with_reducible apply KP.guard_un0); (· rfl); (· rfl))
    | ((with_reducible apply KP.quiet); (· first | exact QY.assign rfl | exact QY.load_s rfl (Rd.own (by with_reducible first | exact k0 | exact k1 | exact k2 | exact k3 | exact k4 | exact k5 | exact k6 | exact k7 | exact k8 | exact k9 | fail)) (Reads.pt1 (by rfl)) | exact QY.load_a rfl (Rd.own (by with_reducible first | exact k0 | exact k1 | exact k2 | exact k3 | exact k4 | exact k5 | exact k6 | exact k7 | exact k8 | exact k9 | fail)) Reads.pt_all (by rfl) | exact QY.move rfl | exact QY.eqnil_s rfl rfl | exact QY.eqnil_n rfl rfl | exact QY.same (QY.eql rfl rfl) (dec_t (by omega)) | exact QY.same (QY.eql rfl rfl) (dec_f (by omega)) | exact QY.eql rfl rfl | exact QY.eq_agg rfl rfl | exact QY.eq_str rfl rfl | exact QY.eq_bool rfl rfl | exact QY.sub64 rfl rfl (by omega) | exact QY.sub rfl rfl); (· decide))
    | ((with_reducible refine KP.eff ?_); (first | refine EW.box_s (by decide) rfl (by first | rfl | assumption) ?_ | refine EW.box_a (by decide) rfl ?_ | refine EW.call (vs := [qp q]) (len_rw (q := q) (bm := bm) (v := v) (l := l)) rfl .nil (RosOf.cons (RoOf.same (by with_reducible first | exact k0 | exact k1 | exact k2 | exact k3 | exact k4 | exact k5 | exact k6 | exact k7 | exact k8 | exact k9 | fail)) (RosOf.cons (RoOf.same (by with_reducible first | exact k0 | exact k1 | exact k2 | exact k3 | exact k4 | exact k5 | exact k6 | exact k7 | exact k8 | exact k9 | fail)) RosOf.nil)) ?_ | refine EW.call (vs := [qp q]) (len_rw (q := q) (bm := bm) (l := keepF slot query l)) rfl .nil (RosOf.cons (RoOf.same (by with_reducible first | exact k0 | exact k1 | exact k2 | exact k3 | exact k4 | exact k5 | exact k6 | exact k7 | exact k8 | exact k9 | fail)) (RosOf.cons (RoOf.same (by with_reducible first | exact k0 | exact k1 | exact k2 | exact k3 | exact k4 | exact k5 | exact k6 | exact k7 | exact k8 | exact k9 | fail)) RosOf.nil)) ?_ | refine EW.call (vs := [v, fv _ _ _]) (delete_spec (q := q) (v0 := v) (slot := slot) (query := query) f o) rfl (Split.cons (by with_reducible first | exact k0 | exact k1 | exact k2 | exact k3 | exact k4 | exact k5 | exact k6 | exact k7 | exact k8 | exact k9 | fail) (Split.cons (by with_reducible first | exact k0 | exact k1 | exact k2 | exact k3 | exact k4 | exact k5 | exact k6 | exact k7 | exact k8 | exact k9 | fail) Split.nil)) (RosOf.cons (RoOf.same (by with_reducible first | exact k0 | exact k1 | exact k2 | exact k3 | exact k4 | exact k5 | exact k6 | exact k7 | exact k8 | exact k9 | fail)) (RosOf.cons (RoOf.same (by with_reducible first | exact k0 | exact k1 | exact k2 | exact k3 | exact k4 | exact k5 | exact k6 | exact k7 | exact k8 | exact k9 | fail)) (RosOf.cons (RoOf.same (by with_reducible first | exact k0 | exact k1 | exact k2 | exact k3 | exact k4 | exact k5 | exact k6 | exact k7 | exact k8 | exact k9 | fail)) (RosOf.cons (RoOf.same (by with_reducible first | exact k0 | exact k1 | exact k2 | exact k3 | exact k4 | exact k5 | exact k6 | exact k7 | exact k8 | exact k9 | fail)) RosOf.nil)))) ?_))
    | ((with_reducible refine CW.draw (i := 4) ?_ [[], [], [1], [1, 2], [1, 2, 3], [], [1, 2, 3, 4, 5], [0, 1, 2, 3, 4, 5, 6], [0, 1, 2, 3, 4, 5, 6, 7], [0, 1, 2, 3, 4, 5, 6, 7, 8]] ?_ ?_ ?_ ?_); (· rfl); (· kernel_rfl); (· kernel_rfl); (· repeat (first | exact NoHang.post | refine NoHang.then ?_ | refine NoHang.block ?_)); refine DW.pure 5 rfl (by kernel_rfl) rfl (by decide) (fun _ => (by first | exact QG.plain (QY.makeFunc0) | exact QG.plain (QY.makeFunc rfl))) ?_; refine DW.mem 0 rfl (by kernel_rfl) rfl (by decide) rfl (by first | exact QG.plain (QY.load_s rfl (Rd.own (by with_reducible first | exact k0 | exact k1 | exact k2 | exact k3 | exact k4 | exact k5 | exact k6 | exact k7 | exact k8 | exact k9 | fail)) (Reads.pt1 (by rfl))) | exact QG.plain (QY.load_a rfl (Rd.own (by with_reducible first | exact k0 | exact k1 | exact k2 | exact k3 | exact k4 | exact k5 | exact k6 | exact k7 | exact k8 | exact k9 | fail)) Reads.pt_all (by rfl))) ?_; refine DW.mem 1 rfl (by kernel_rfl) rfl (by decide) rfl (by first | exact QG.plain (QY.load_s rfl (Rd.own (by with_reducible first | exact k0 | exact k1 | exact k2 | exact k3 | exact k4 | exact k5 | exact k6 | exact k7 | exact k8 | exact k9 | fail)) (Reads.pt1 (by rfl))) | exact QG.plain (QY.load_a rfl (Rd.own (by with_reducible first | exact k0 | exact k1 | exact k2 | exact k3 | exact k4 | exact k5 | exact k6 | exact k7 | exact k8 | exact k9 | fail)) Reads.pt_all (by rfl))) ?_; refine DW.pure 2 rfl (by kernel_rfl) rfl (by decide) (fun _ => (by first | exact QG.plain (QY.nilCheck_ptr rfl) | exact QG.plain (QY.nilCheck_iface rfl) | exact QG.plain (QY.nilCheck_func rfl))) ?_; refine DW.pure 3 rfl (by kernel_rfl) rfl (by decide) (fun _ => (by first | exact QG.plain (QY.fieldAddr0 rfl) | exact QG.plain (QY.fieldAddr rfl))) ?_; refine DW.mem 4 rfl (by kernel_rfl) rfl (by decide) rfl (by first | exact QG.plain (QY.load_s rfl (Rd.own (by with_reducible first | exact k0 | exact k1 | exact k2 | exact k3 | exact k4 | exact k5 | exact k6 | exact k7 | exact k8 | exact k9 | fail)) (Reads.pt1 (by rfl))) | exact QG.plain (QY.load_a rfl (Rd.own (by with_reducible first | exact k0 | exact k1 | exact k2 | exact k3 | exact k4 | exact k5 | exact k6 | exact k7 | exact k8 | exact k9 | fail)) Reads.pt_all (by rfl))) ?_; refine DW.exec 6 rfl (by kernel_rfl) rfl ?_; intro hdk; (first | (refine EW.call (vs := [qp q]) (len_rw (q := q) (bm := bm) (v := v) (l := l)) rfl .nil (RosOf.cons (RoOf.same (by with_reducible first | exact k0 | exact k1 | exact k2 | exact k3 | exact k4 | exact k5 | exact k6 | exact k7 | exact k8 | exact k9 | fail)) (RosOf.cons (RoOf.same (by with_reducible first | exact k0 | exact k1 | exact k2 | exact k3 | exact k4 | exact k5 | exact k6 | exact k7 | exact k8 | exact k9 | fail)) RosOf.nil)) ?_) | (refine EW.call (vs := [qp q]) (len_rw (q := q) (bm := bm) (l := keepF slot query l)) rfl .nil (RosOf.cons (RoOf.same (by with_reducible first | exact k0 | exact k1 | exact k2 | exact k3 | exact k4 | exact k5 | exact k6 | exact k7 | exact k8 | exact k9 | fail)) (RosOf.cons (RoOf.same (by with_reducible first | exact k0 | exact k1 | exact k2 | exact k3 | exact k4 | exact k5 | exact k6 | exact k7 | exact k8 | exact k9 | fail)) RosOf.nil)) ?_) | (refine EW.call (vs := [v, fv _ _ _]) (delete_spec (q := q) (v0 := v) (slot := slot) (query := query) f o) rfl (Split.cons (by with_reducible first | exact k0 | exact k1 | exact k2 | exact k3 | exact k4 | exact k5 | exact k6 | exact k7 | exact k8 | exact k9 | fail) (Split.cons (by with_reducible first | exact k0 | exact k1 | exact k2 | exact k3 | exact k4 | exact k5 | exact k6 | exact k7 | exact k8 | exact k9 | fail) Split.nil)) (RosOf.cons (RoOf.same (by with_reducible first | exact k0 | exact k1 | exact k2 | exact k3 | exact k4 | exact k5 | exact k6 | exact k7 | exact k8 | exact k9 | fail)) (RosOf.cons (RoOf.same (by with_reducible first | exact k0 | exact k1 | exact k2 | exact k3 | exact k4 | exact k5 | exact k6 | exact k7 | exact k8 | exact k9 | fail)) (RosOf.cons (RoOf.same (by with_reducible first | exact k0 | exact k1 | exact k2 | exact k3 | exact k4 | exact k5 | exact k6 | exact k7 | exact k8 | exact k9 | fail)) (RosOf.cons (RoOf.same (by with_reducible first | exact k0 | exact k1 | exact k2 | exact k3 | exact k4 | exact k5 | exact k6 | exact k7 | exact k8 | exact k9 | fail)) RosOf.nil)))) ?_)); (repeat' (first | (intro gnew) | (refine CP.exP fun _ => ?_) | (refine CP.puP fun _ => ?_) | (refine CP.ret_0 (by decide) ?_) | (refine CP.ret_1 (by decide) ?_) | (refine CP.ret_2 (by decide) ?_) | (refine CP.ret_3 (by decide) ?_) | (refine CP.ret_4 (by decide) ?_) | (refine CP.ret0_0 ?_) | (refine CP.ret0_1 ?_) | (refine CP.ret0_2 ?_) | (refine CP.ret0_3 ?_) | (refine CP.ret0_4 ?_))); refine DK.mk hdk (by refine ObE.cons rfl (by first | exact QG.plain (QY.load_s rfl (Rd.own (by with_reducible first | exact k0 | exact k1 | exact k2 | exact k3 | exact k4 | exact k5 | exact k6 | exact k7 | exact k8 | exact k9 | fail)) (Reads.pt1 (by rfl))) | exact QG.plain (QY.load_a rfl (Rd.own (by with_reducible first | exact k0 | exact k1 | exact k2 | exact k3 | exact k4 | exact k5 | exact k6 | exact k7 | exact k8 | exact k9 | fail)) Reads.pt_all (by rfl))) ?_; exact ObE.nil) ?_; clear hdk; refine DW.pure 7 rfl (by kernel_rfl) rfl (by decide) (fun _ => (by first | exact QG.plain (QY.nilCheck_ptr rfl) | exact QG.plain (QY.nilCheck_iface rfl) | exact QG.plain (QY.nilCheck_func rfl))) ?_; refine DW.pure 8 rfl (by kernel_rfl) rfl (by decide) (fun _ => (by first | exact QG.plain (QY.fieldAddr0 rfl) | exact QG.plain (QY.fieldAddr rfl))) ?_; refine DW.exec 9 rfl (by kernel_rfl) rfl ?_; intro hdk; (first | (refine EW.store_s' rfl rfl (by with_reducible first | exact k0 | exact k1 | exact k2 | exact k3 | exact k4 | exact k5 | exact k6 | exact k7 | exact k8 | exact k9 | fail) (by (repeat (first | exact SetAt.head | apply SetAt.tail))) (by first | rfl | assumption) ?_) | (refine EW.store_all rfl rfl (by with_reducible first | exact k0 | exact k1 | exact k2 | exact k3 | exact k4 | exact k5 | exact k6 | exact k7 | exact k8 | exact k9 | fail) (by rfl) (by rfl) (by first | rfl | decide) ?_) | (refine EW.store_a' rfl rfl (by with_reducible first | exact k0 | exact k1 | exact k2 | exact k3 | exact k4 | exact k5 | exact k6 | exact k7 | exact k8 | exact k9 | fail) (by rfl) (by (repeat (first | exact SplAt.done | apply SplAt.put | apply SplAt.skip))) (by first | rfl | decide) ?_)); (repeat' (first | (intro gnew) | (refine CP.exP fun _ => ?_) | (refine CP.puP fun _ => ?_) | (refine CP.ret_0 (by decide) ?_) | (refine CP.ret_1 (by decide) ?_) | (refine CP.ret_2 (by decide) ?_) | (refine CP.ret_3 (by decide) ?_) | (refine CP.ret_4 (by decide) ?_) | (refine CP.ret0_0 ?_) | (refine CP.ret0_1 ?_) | (refine CP.ret0_2 ?_) | (refine CP.ret0_3 ?_) | (refine CP.ret0_4 ?_))); refine DK.mk hdk (by exact ObE.nil) ?_; clear hdk; refine DW.done (by kernel_rfl) ?_)
    | ((with_reducible apply KP.fin1); (· rfl); (· rfl))
    | ((with_reducible apply KP.fin2); (· rfl); (· rfl); (· rfl))
    | ((with_reducible refine KP.fin0 ?_ ?_); (· rfl))
    | ((with_reducible refine KP.fin0r ?_ ?_); (· rfl))
    | (intro _))
    obtain rfl : l = [] := List.length_eq_zero_iff.1 h0
    rw [show stopF slot query [] = (0, []) from rfl]
    exact Fina.gather (Split.cons (by with_reducible first | exact k0 | exact k1 | exact k2 | exact k3 | exact k4 | exact k5 | exact k6 | exact k7 | exact k8 | exact k9 | fail) (Split.cons (by with_reducible first | exact k0 | exact k1 | exact k2 | exact k3 | exact k4 | exact k5 | exact k6 | exact k7 | exact k8 | exact k9 | fail) (Split.cons (by with_reducible first | exact k0 | exact k1 | exact k2 | exact k3 | exact k4 | exact k5 | exact k6 | exact k7 | exact k8 | exact k9 | fail) Split.nil))) (Qu.intro f o) (Fina.ret (Ent.cons (by with_reducible first | exact k0 | exact k1 | exact k2 | exact k3 | exact k4 | exact k5 | exact k6 | exact k7 | exact k8 | exact k9 | fail) Ent.nil))
  · repeat' (first
    | (with_reducible refine CW.seq ?_)
    | (with_reducible refine CW.region ?_)
    | (with_reducible refine KP.list_nil ?_)
    | (with_reducible refine KP.then_code ?_)
    | (with_reducible refine CW.skip ?_)
    | (with_reducible refine CW.ret ?_)
    | (with_reducible refine KP.then_ret ?_)
    | (with_reducible refine KP.block_ret ?_)
    | (with_reducible refine CW.block ?_)
    | (with_reducible refine KP.block_normal ?_)
    | (with_reducible refine CW.exit ?_)
    | (with_reducible refine KP.then_exit ?_)
    | (with_reducible refine KP.block_hit ?_)
    | ((with_reducible refine KP.block_miss ?_ ?_); (· rfl))
    | ((with_reducible refine CW.cond_t ?_ ?_); (· rfl))
    | ((with_reducible refine CW.cond_f ?_ ?_); (· rfl))
    | ((with_reducible apply CW.condP); (· rfl))
    | ((with_reducible apply CW.cond); (· rfl))
    | (with_reducible refine CP.exP fun _ => ?_)
    | (with_reducible refine CP.puP fun _ => ?_)
    | ((with_reducible refine CP.ret_0 ?_ ?_); (· decide))
    | ((with_reducible refine CP.ret_1 ?_ ?_); (· decide))
    | ((with_reducible refine CP.ret_2 ?_ ?_); (· decide))
    | ((with_reducible refine CP.ret_3 ?_ ?_); (· decide))
    | ((with_reducible refine CP.ret_4 ?_ ?_); (· decide))
    | (with_reducible refine CP.ret0_0 ?_)
    | (with_reducible refine CP.ret0_1 ?_)
    | (with_reducible refine CP.ret0_2 ?_)
    | (with_reducible refine CP.ret0_3 ?_)
    | (with_reducible refine CP.ret0_4 ?_)
    | ((with_reducible apply KP.guard_yes); (· rfl); (· rfl))
    | ((with_reducible apply KP.guard_no); (· rfl); (· rfl); (· decide))
    | ((with_reducible apply KP.guard_un); (· rfl); (· rfl); (· decide))
    | ((with_reducible apply KP.guard_no0); (· rfl); (· rfl))
    | ((with_reducible apply KP.guard_un0); (· rfl); (· rfl))
    | ((with_reducible apply KP.quiet); (· first | exact QY.assign rfl | exact QY.load_s rfl (Rd.own (by with_reducible first | exact k0 | exact k1 | exact k2 | exact k3 | exact k4 | exact k5 | exact k6 | exact k7 | exact k8 | exact k9 | fail)) (Reads.pt1 (by rfl)) | exact QY.load_a rfl (Rd.own (by with_reducible first | exact k0 | exact k1 | exact k2 | exact k3 | exact k4 | exact k5 | exact k6 | exact k7 | exact k8 | exact k9 | fail)) Reads.pt_all (by rfl) | exact QY.move rfl | exact QY.eqnil_s rfl rfl | exact QY.eqnil_n rfl rfl | exact QY.same (QY.eql rfl rfl) (dec_t (by omega)) | exact QY.same (QY.eql rfl rfl) (dec_f (by omega)) | exact QY.eql rfl rfl | exact QY.eq_agg rfl rfl | exact QY.eq_str rfl rfl | exact QY.eq_bool rfl rfl | exact QY.sub64 rfl rfl (by omega) | exact QY.sub rfl rfl); (· decide))
    | ((with_reducible refine KP.eff ?_); (first | refine EW.box_s (by decide) rfl (by first | rfl | assumption) ?_ | refine EW.box_a (by decide) rfl ?_ | refine EW.call (vs := [qp q]) (len_rw (q := q) (bm := bm) (v := v) (l := l)) rfl .nil (RosOf.cons (RoOf.same (by with_reducible first | exact k0 | exact k1 | exact k2 | exact k3 | exact k4 | exact k5 | exact k6 | exact k7 | exact k8 | exact k9 | fail)) (RosOf.cons (RoOf.same (by with_reducible first | exact k0 | exact k1 | exact k2 | exact k3 | exact k4 | exact k5 | exact k6 | exact k7 | exact k8 | exact k9 | fail)) RosOf.nil)) ?_ | refine EW.call (vs := [qp q]) (len_rw (q := q) (bm := bm) (l := keepF slot query l)) rfl .nil (RosOf.cons (RoOf.same (by with_reducible first | exact k0 | exact k1 | exact k2 | exact k3 | exact k4 | exact k5 | exact k6 | exact k7 | exact k8 | exact k9 | fail)) (RosOf.cons (RoOf.same (by with_reducible first | exact k0 | exact k1 | exact k2 | exact k3 | exact k4 | exact k5 | exact k6 | exact k7 | exact k8 | exact k9 | fail)) RosOf.nil)) ?_ | refine EW.call (vs := [v, fv _ _ _]) (delete_spec (q := q) (v0 := v) (slot := slot) (query := query) f o) rfl (Split.cons (by with_reducible first | exact k0 | exact k1 | exact k2 | exact k3 | exact k4 | exact k5 | exact k6 | exact k7 | exact k8 | exact k9 | fail) (Split.cons (by with_reducible first | exact k0 | exact k1 | exact k2 | exact k3 | exact k4 | exact k5 | exact k6 | exact k7 | exact k8 | exact k9 | fail) Split.nil)) (RosOf.cons (RoOf.same (by with_reducible first | exact k0 | exact k1 | exact k2 | exact k3 | exact k4 | exact k5 | exact k6 | exact k7 | exact k8 | exact k9 | fail)) (RosOf.cons (RoOf.same (by with_reducible first | exact k0 | exact k1 | exact k2 | exact k3 | exact k4 | exact k5 | exact k6 | exact k7 | exact k8 | exact k9 | fail)) (RosOf.cons (RoOf.same (by with_reducible first | exact k0 | exact k1 | exact k2 | exact k3 | exact k4 | exact k5 | exact k6 | exact k7 | exact k8 | exact k9 | fail)) (RosOf.cons (RoOf.same (by with_reducible first | exact k0 | exact k1 | exact k2 | exact k3 | exact k4 | exact k5 | exact k6 | exact k7 | exact k8 | exact k9 | fail)) RosOf.nil)))) ?_))
    | ((with_reducible refine CW.draw (i := 4) ?_ [[], [], [1], [1, 2], [1, 2, 3], [], [1, 2, 3, 4, 5], [0, 1, 2, 3, 4, 5, 6], [0, 1, 2, 3, 4, 5, 6, 7], [0, 1, 2, 3, 4, 5, 6, 7, 8]] ?_ ?_ ?_ ?_); (· rfl); (· kernel_rfl); (· kernel_rfl); (· repeat (first | exact NoHang.post | refine NoHang.then ?_ | refine NoHang.block ?_)); refine DW.pure 5 rfl (by kernel_rfl) rfl (by decide) (fun _ => (by first | exact QG.plain (QY.makeFunc0) | exact QG.plain (QY.makeFunc rfl))) ?_; refine DW.mem 0 rfl (by kernel_rfl) rfl (by decide) rfl (by first | exact QG.plain (QY.load_s rfl (Rd.own (by with_reducible first | exact k0 | exact k1 | exact k2 | exact k3 | exact k4 | exact k5 | exact k6 | exact k7 | exact k8 | exact k9 | fail)) (Reads.pt1 (by rfl))) | exact QG.plain (QY.load_a rfl (Rd.own (by with_reducible first | exact k0 | exact k1 | exact k2 | exact k3 | exact k4 | exact k5 | exact k6 | exact k7 | exact k8 | exact k9 | fail)) Reads.pt_all (by rfl))) ?_; refine DW.mem 1 rfl (by kernel_rfl) rfl (by decide) rfl (by first | exact QG.plain (QY.load_s rfl (Rd.own (by with_reducible first | exact k0 | exact k1 | exact k2 | exact k3 | exact k4 | exact k5 | exact k6 | exact k7 | exact k8 | exact k9 | fail)) (Reads.pt1 (by rfl))) | exact QG.plain (QY.load_a rfl (Rd.own (by with_reducible first | exact k0 | exact k1 | exact k2 | exact k3 | exact k4 | exact k5 | exact k6 | exact k7 | exact k8 | exact k9 | fail)) Reads.pt_all (by rfl))) ?_; refine DW.pure 2 rfl (by kernel_rfl) rfl (by decide) (fun _ => (by first | exact QG.plain (QY.nilCheck_ptr rfl) | exact QG.plain (QY.nilCheck_iface rfl) | exact QG.plain (QY.nilCheck_func rfl))) ?_; refine DW.pure 3 rfl (by kernel_rfl) rfl (by decide) (fun _ => (by first | exact QG.plain (QY.fieldAddr0 rfl) | exact QG.plain (QY.fieldAddr rfl))) ?_; refine DW.mem 4 rfl (by kernel_rfl) rfl (by decide) rfl (by first | exact QG.plain (QY.load_s rfl (Rd.own (by with_reducible first | exact k0 | exact k1 | exact k2 | exact k3 | exact k4 | exact k5 | exact k6 | exact k7 | exact k8 | exact k9 | fail)) (Reads.pt1 (by rfl))) | exact QG.plain (QY.load_a rfl (Rd.own (by with_reducible first | exact k0 | exact k1 | exact k2 | exact k3 | exact k4 | exact k5 | exact k6 | exact k7 | exact k8 | exact k9 | fail)) Reads.pt_all (by rfl))) ?_; refine DW.exec 6 rfl (by kernel_rfl) rfl ?_; intro hdk; (first | (refine EW.call (vs := [qp q]) (len_rw (q := q) (bm := bm) (v := v) (l := l)) rfl .nil (RosOf.cons (RoOf.same (by with_reducible first | exact k0 | exact k1 | exact k2 | exact k3 | exact k4 | exact k5 | exact k6 | exact k7 | exact k8 | exact k9 | fail)) (RosOf.cons (RoOf.same (by with_reducible first | exact k0 | exact k1 | exact k2 | exact k3 | exact k4 | exact k5 | exact k6 | exact k7 | exact k8 | exact k9 | fail)) RosOf.nil)) ?_) | (refine EW.call (vs := [qp q]) (len_rw (q := q) (bm := bm) (l := keepF slot query l)) rfl .nil (RosOf.cons (RoOf.same (by with_reducible first | exact k0 | exact k1 | exact k2 | exact k3 | exact k4 | exact k5 | exact k6 | exact k7 | exact k8 | exact k9 | fail)) (RosOf.cons (RoOf.same (by with_reducible first | exact k0 | exact k1 | exact k2 | exact k3 | exact k4 | exact k5 | exact k6 | exact k7 | exact k8 | exact k9 | fail)) RosOf.nil)) ?_) | (refine EW.call (vs := [v, fv _ _ _]) (delete_spec (q := q) (v0 := v) (slot := slot) (query := query) f o) rfl (Split.cons (by with_reducible first | exact k0 | exact k1 | exact k2 | exact k3 | exact k4 | exact k5 | exact k6 | exact k7 | exact k8 | exact k9 | fail) (Split.cons (by with_reducible first | exact k0 | exact k1 | exact k2 | exact k3 | exact k4 | exact k5 | exact k6 | exact k7 | exact k8 | exact k9 | fail) Split.nil)) (RosOf.cons (RoOf.same (by with_reducible first | exact k0 | exact k1 | exact k2 | exact k3 | exact k4 | exact k5 | exact k6 | exact k7 | exact k8 | exact k9 | fail)) (RosOf.cons (RoOf.same (by with_reducible first | exact k0 | exact k1 | exact k2 | exact k3 | exact k4 | exact k5 | exact k6 | exact k7 | exact k8 | exact k9 | fail)) (RosOf.cons (RoOf.same (by with_reducible first | exact k0 | exact k1 | exact k2 | exact k3 | exact k4 | exact k5 | exact k6 | exact k7 | exact k8 | exact k9 | fail)) (RosOf.cons (RoOf.same (by with_reducible first | exact k0 | exact k1 | exact k2 | exact k3 | exact k4 | exact k5 | exact k6 | exact k7 | exact k8 | exact k9 | fail)) RosOf.nil)))) ?_)); (repeat' (first | (intro gnew) | (refine CP.exP fun _ => ?_) | (refine CP.puP fun _ => ?_) | (refine CP.ret_0 (by decide) ?_) | (refine CP.ret_1 (by decide) ?_) | (refine CP.ret_2 (by decide) ?_) | (refine CP.ret_3 (by decide) ?_) | (refine CP.ret_4 (by decide) ?_) | (refine CP.ret0_0 ?_) | (refine CP.ret0_1 ?_) | (refine CP.ret0_2 ?_) | (refine CP.ret0_3 ?_) | (refine CP.ret0_4 ?_))); refine DK.mk hdk (by refine ObE.cons rfl (by first | exact QG.plain (QY.load_s rfl (Rd.own (by with_reducible first | exact k0 | exact k1 | exact k2 | exact k3 | exact k4 | exact k5 | exact k6 | exact k7 | exact k8 | exact k9 | fail)) (Reads.pt1 (by rfl))) | exact QG.plain (QY.load_a rfl (Rd.own (by with_reducible first | exact k0 | exact k1 | exact k2 | exact k3 | exact k4 | exact k5 | exact k6 | exact k7 | exact k8 | exact k9 | fail)) Reads.pt_all (by rfl))) ?_; exact ObE.nil) ?_; clear hdk; refine DW.pure 7 rfl (by kernel_rfl) rfl (by decide) (fun _ => (by first | exact QG.plain (QY.nilCheck_ptr rfl) | exact QG.plain (QY.nilCheck_iface rfl) | exact QG.plain (QY.nilCheck_func rfl))) ?_; refine DW.pure 8 rfl (by kernel_rfl) rfl (by decide) (fun _ => (by first | exact QG.plain (QY.fieldAddr0 rfl) | exact QG.plain (QY.fieldAddr rfl))) ?_; refine DW.exec 9 rfl (by kernel_rfl) rfl ?_; intro hdk; (first | (refine EW.store_s' rfl rfl (by with_reducible first | exact k0 | exact k1 | exact k2 | exact k3 | exact k4 | exact k5 | exact k6 | exact k7 | exact k8 | exact k9 | fail) (by (repeat (first | exact SetAt.head | apply SetAt.tail))) (by first | rfl | assumption) ?_) | (refine EW.store_all rfl rfl (by with_reducible first | exact k0 | exact k1 | exact k2 | exact k3 | exact k4 | exact k5 | exact k6 | exact k7 | exact k8 | exact k9 | fail) (by rfl) (by rfl) (by first | rfl | decide) ?_) | (refine EW.store_a' rfl rfl (by with_reducible first | exact k0 | exact k1 | exact k2 | exact k3 | exact k4 | exact k5 | exact k6 | exact k7 | exact k8 | exact k9 | fail) (by rfl) (by (repeat (first | exact SplAt.done | apply SplAt.put | apply SplAt.skip))) (by first | rfl | decide) ?_)); (repeat' (first | (intro gnew) | (refine CP.exP fun _ => ?_) | (refine CP.puP fun _ => ?_) | (refine CP.ret_0 (by decide) ?_) | (refine CP.ret_1 (by decide) ?_) | (refine CP.ret_2 (by decide) ?_) | (refine CP.ret_3 (by decide) ?_) | (refine CP.ret_4 (by decide) ?_) | (refine CP.ret0_0 ?_) | (refine CP.ret0_1 ?_) | (refine CP.ret0_2 ?_) | (refine CP.ret0_3 ?_) | (refine CP.ret0_4 ?_))); refine DK.mk hdk (by exact ObE.nil) ?_; clear hdk; refine DW.done (by kernel_rfl) ?_)
    | ((with_reducible apply KP.fin1); (· rfl); (· rfl))
    | ((with_reducible apply KP.fin2); (· rfl); (· rfl); (· rfl))
    | ((with_reducible refine KP.fin0 ?_ ?_); (· rfl))
    | ((with_reducible refine KP.fin0r ?_ ?_); (· rfl))
    | (intro _))
    unfold stopF
    exact Fina.gather (Split.cons (by with_reducible first | exact k0 | exact k1 | exact k2 | exact k3 | exact k4 | exact k5 | exact k6 | exact k7 | exact k8 | exact k9 | fail) (Split.cons (by with_reducible first | exact k0 | exact k1 | exact k2 | exact k3 | exact k4 | exact k5 | exact k6 | exact k7 | exact k8 | exact k9 | fail) (Split.cons (by with_reducible first | exact k0 | exact k1 | exact k2 | exact k3 | exact k4 | exact k5 | exact k6 | exact k7 | exact k8 | exact k9 | fail) Split.nil))) (Qu.intro (by assumption) (by assumption)) (Fina.ret (Ent.cons (by with_reducible first | exact k0 | exact k1 | exact k2 | exact k3 | exact k4 | exact k5 | exact k6 | exact k7 | exact k8 | exact k9 | fail) Ent.nil))

def aw1 : Ask := ⟨0, 3, 0, 1, 0, ⟨#[]⟩, 0, 0, false, 0, ⟨#[]⟩⟩
def aw2 : Ask := ⟨0, 3, 0, 0, 0, ⟨#[]⟩, 0, 0, false, 0, ⟨#[]⟩⟩
def aw3 : Ask := ⟨0, 4, 0, 0, 0, ⟨#[]⟩, 0, 0, false, 0, ⟨#[]⟩⟩
def aw4 : Ask := ⟨1, 0, 0, 0, 0, ⟨#[]⟩, 0, 0, false, 0, ⟨#[]⟩⟩
theorem awp1 {q : Nat} : Spc Try.prog 11 #[qp q, av aw1] [] [Qu q []] (ret (.bool true) [Qu q [aw1]]) := push_spec
theorem awp2 {q : Nat} : Spc Try.prog 11 #[qp q, av aw2] [] [Qu q [aw1]] (ret (.bool false) [Qu q [aw1]]) := push_spec
theorem awp3 {q : Nat} : Spc Try.prog 11 #[qp q, av aw3] [] [Qu q [aw1]] (ret (.bool true) [Qu q [aw3]]) := push_spec
theorem awp4 {q : Nat} : Spc Try.prog 11 #[qp q, av aw4] [] [Qu q [aw3]] (ret (.bool true) [Qu q [aw3, aw4]]) := push_spec
theorem aws {q : Nat} : Spc Try.prog 15 #[qp q, iv 0, iv 4] [] [Qu q [aw3, aw4]] (ret (iv 1) [Qu q [aw4]]) := stop_spec
theorem awl1 {q : Nat} : Spc Try.prog 20 #[qp q] [] [Qu q [aw3]] (ret (iv 1) [Qu q [aw3]]) := len_spec
theorem awl2 {q : Nat} : Spc Try.prog 20 #[qp q] [] [Qu q [aw4]] (ret (iv 1) [Qu q [aw4]]) := len_spec

theorem awake_spec : Spc Try.prog 8 #[] [] [] (ret (.bool true) []) := by
  refine Spc.enter' (args := []) (T0 := []) Try.func8 rfl Try.ntmps8 (Nat.le_of_ble_eq_true rfl) rfl ?_
  intro w0 own
  repeat' (first
    | (with_reducible refine CW.seq ?_)
    | (with_reducible refine CW.region ?_)
    | (with_reducible refine KP.list_nil ?_)
    | (with_reducible refine KP.then_code ?_)
    | (with_reducible refine CW.skip ?_)
    | (with_reducible refine CW.ret ?_)
    | (with_reducible refine KP.then_ret ?_)
    | (with_reducible refine KP.block_ret ?_)
    | (with_reducible refine CW.block ?_)
    | (with_reducible refine KP.block_normal ?_)
    | (with_reducible refine CW.exit ?_)
    | (with_reducible refine KP.then_exit ?_)
    | (with_reducible refine KP.block_hit ?_)
    | ((with_reducible refine KP.block_miss ?_ ?_); (· rfl))
    | ((with_reducible refine CW.cond_t ?_ ?_); (· rfl))
    | ((with_reducible refine CW.cond_f ?_ ?_); (· rfl))
    | ((with_reducible apply CW.condP); (· rfl))
    | ((with_reducible apply CW.cond); (· rfl))
    | (with_reducible refine CP.exP fun _ => ?_)
    | (with_reducible refine CP.puP fun _ => ?_)
    | ((with_reducible refine CP.ret_0 ?_ ?_); (· decide))
    | ((with_reducible refine CP.ret_1 ?_ ?_); (· decide))
    | ((with_reducible refine CP.ret_2 ?_ ?_); (· decide))
    | ((with_reducible refine CP.ret_3 ?_ ?_); (· decide))
    | ((with_reducible refine CP.ret_4 ?_ ?_); (· decide))
    | (with_reducible refine CP.ret0_0 ?_)
    | (with_reducible refine CP.ret0_1 ?_)
    | (with_reducible refine CP.ret0_2 ?_)
    | (with_reducible refine CP.ret0_3 ?_)
    | (with_reducible refine CP.ret0_4 ?_)
    | ((with_reducible apply KP.guard_yes); (· rfl); (· rfl))
    | ((with_reducible apply KP.guard_no); (· rfl); (· rfl); (· decide))
    | ((with_reducible apply KP.guard_un); (· rfl); (· rfl); (· decide))
    | ((with_reducible apply KP.guard_no0); (· rfl); (· rfl))
    | ((with_reducible apply KP.guard_un0); (· rfl); (· rfl))
    | ((with_reducible apply KP.quiet); (· first | exact QY.assign rfl | exact QY.move rfl | exact QY.nenil_s rfl rfl | exact QY.nenil_n rfl rfl | exact QY.same (QY.neq rfl rfl) (dec_t (by omega)) | exact QY.same (QY.neq rfl rfl) (dec_f (by omega)) | exact QY.neq rfl rfl | exact QY.ne_agg rfl rfl | exact QY.ne_str rfl rfl | exact QY.ne_bool rfl rfl | exact QY.build (by (repeat (first | exact Fills.nil | (apply Fills.scal; (· rfl); (· rfl); (· first | rfl | assumption); (· (repeat (first | exact SetAt.head | apply SetAt.tail)))) | (apply Fills.agg; (· rfl); (· rfl); (· rfl); (· (repeat (first | exact SplAt.done | apply SplAt.put | apply SplAt.skip))))))) | exact QY.pick_t rfl rfl | exact QY.pick_f rfl rfl | exact QY.not_t rfl | exact QY.not_f rfl | exact QY.notP rfl | exact QY.not rfl | exact QY.eqnil_s rfl rfl | exact QY.eqnil_n rfl rfl | exact QY.same (QY.eql rfl rfl) (dec_t (by omega)) | exact QY.same (QY.eql rfl rfl) (dec_f (by omega)) | exact QY.eql rfl rfl | exact QY.eq_agg rfl rfl | exact QY.eq_str rfl rfl | exact QY.eq_bool rfl rfl); (· decide))
    | ((with_reducible refine KP.eff ?_); (first | refine EW.call (vs := []) new_spec rfl .nil .nil ?_ | refine EW.call (vs := [qp _, av aw1]) awp1 rfl (Split.cons (by with_reducible first | exact k0 | exact k1 | exact k2 | exact k3 | exact k4 | exact k5 | exact k6 | exact k7 | exact k8 | exact k9 | fail) Split.nil) .nil ?_ | refine EW.call (vs := [qp _, av aw2]) awp2 rfl (Split.cons (by with_reducible first | exact k0 | exact k1 | exact k2 | exact k3 | exact k4 | exact k5 | exact k6 | exact k7 | exact k8 | exact k9 | fail) Split.nil) .nil ?_ | refine EW.call (vs := [qp _, av aw3]) awp3 rfl (Split.cons (by with_reducible first | exact k0 | exact k1 | exact k2 | exact k3 | exact k4 | exact k5 | exact k6 | exact k7 | exact k8 | exact k9 | fail) Split.nil) .nil ?_ | refine EW.call (vs := [qp _, av aw4]) awp4 rfl (Split.cons (by with_reducible first | exact k0 | exact k1 | exact k2 | exact k3 | exact k4 | exact k5 | exact k6 | exact k7 | exact k8 | exact k9 | fail) Split.nil) .nil ?_ | refine EW.call (vs := [qp _, iv 0, iv 4]) aws rfl (Split.cons (by with_reducible first | exact k0 | exact k1 | exact k2 | exact k3 | exact k4 | exact k5 | exact k6 | exact k7 | exact k8 | exact k9 | fail) Split.nil) .nil ?_ | refine EW.call (vs := [qp _]) awl1 rfl (Split.cons (by with_reducible first | exact k0 | exact k1 | exact k2 | exact k3 | exact k4 | exact k5 | exact k6 | exact k7 | exact k8 | exact k9 | fail) Split.nil) .nil ?_ | refine EW.call (vs := [qp _]) awl2 rfl (Split.cons (by with_reducible first | exact k0 | exact k1 | exact k2 | exact k3 | exact k4 | exact k5 | exact k6 | exact k7 | exact k8 | exact k9 | fail) Split.nil) .nil ?_))
    | ((with_reducible apply KP.fin1); (· rfl); (· rfl))
    | ((with_reducible apply KP.fin2); (· rfl); (· rfl); (· rfl))
    | ((with_reducible refine KP.fin0 ?_ ?_); (· rfl))
    | ((with_reducible refine KP.fin0r ?_ ?_); (· rfl))
    | (intro _))
  exact Fina.ret .nil

end Go.Proofs.Ytnnobondpimnpaa
