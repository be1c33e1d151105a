import Derived.Test.YtnnobondpimnpaaQ2
/- The queue's Pop, All. -/
namespace Go.Proofs.Ytnnobondpimnpaa
open Go Go.Ink
set_option linter.unusedVariables false
set_option linter.unusedSimpArgs false
attribute [local irreducible] KP QY EW CW DW QG CP Spc DK Fina

def popF : List Ask → (Ask × Bool) × List Ask
  | [] => ((Ask.zero, false), [])
  | a :: l => ((a, true), l)
def rab (r : Ask × Bool) : Value := .tuple #[av r.1, .bool r.2]

theorem pop_nil : Spc Try.prog 12 #[.pointer none] [] [] (ret (rab (Ask.zero, false)) []) := by
  refine Spc.enter' (args := [.pointer none]) (T0 := [(0, .pointer none)]) Try.func12 rfl Try.ntmps12 (Nat.le_of_ble_eq_true rfl) rfl ?_
  intro w0 own
  repeat' (first
    | (with_reducible refine CW.seq ?_)
    | (with_reducible refine CW.region ?_)
    | (with_reducible refine KP.list_nil ?_)
    | (with_reducible refine KP.then_code ?_)
    | (with_reducible refine CW.skip ?_)
    | (with_reducible refine CW.ret ?_)
    | (with_reducible refine KP.then_ret ?_)
    | (with_reducible refine KP.block_ret ?_)
    | (with_reducible refine CW.block ?_)
    | (with_reducible refine KP.block_normal ?_)
    | (with_reducible refine CW.exit ?_)
    | (with_reducible refine KP.then_exit ?_)
    | (with_reducible refine KP.block_hit ?_)
    | ((with_reducible refine KP.block_miss ?_ ?_); (· rfl))
    | ((with_reducible refine CW.cond_t ?_ ?_); (· rfl))
    | ((with_reducible refine CW.cond_f ?_ ?_); (· rfl))
    | ((with_reducible apply CW.condP); (· rfl))
    | ((with_reducible apply CW.cond); (· rfl))
    | (with_reducible refine CP.exP fun _ => ?_)
    | (with_reducible refine CP.puP fun _ => ?_)
    | ((with_reducible refine CP.ret_0 ?_ ?_); (· decide))
    | ((with_reducible refine CP.ret_1 ?_ ?_); (· decide))
    | ((with_reducible refine CP.ret_2 ?_ ?_); (· decide))
    | ((with_reducible refine CP.ret_3 ?_ ?_); (· decide))
    | ((with_reducible refine CP.ret_4 ?_ ?_); (· decide))
    | (with_reducible refine CP.ret0_0 ?_)
    | (with_reducible refine CP.ret0_1 ?_)
    | (with_reducible refine CP.ret0_2 ?_)
    | (with_reducible refine CP.ret0_3 ?_)
    | (with_reducible refine CP.ret0_4 ?_)
    | ((with_reducible apply KP.guard_yes); (· rfl); (· rfl))
    | ((with_reducible apply KP.guard_no); (· rfl); (· rfl); (· decide))
    | ((with_reducible apply KP.guard_un); (· rfl); (· rfl); (· decide))
    | ((with_reducible apply KP.guard_no0); (· rfl); (· rfl))
    | ((with_reducible apply KP.guard_un0); (· rfl); (· rfl))
    | ((with_reducible apply KP.quiet); (· first | exact QY.assign rfl | exact QY.move rfl | exact QY.eqnil_s rfl rfl | exact QY.eqnil_n rfl rfl | exact QY.same (QY.eql rfl rfl) (dec_t (by omega)) | exact QY.same (QY.eql rfl rfl) (dec_f (by omega)) | exact QY.eql rfl rfl | exact QY.eq_agg rfl rfl | exact QY.eq_str rfl rfl | exact QY.eq_bool rfl rfl | exact QY.build (by (repeat (first | exact Fills.nil | (apply Fills.scal; (· rfl); (· rfl); (· first | rfl | assumption); (· (repeat (first | exact SetAt.head | apply SetAt.tail)))) | (apply Fills.agg; (· rfl); (· rfl); (· rfl); (· (repeat (first | exact SplAt.done | apply SplAt.put | apply SplAt.skip))))))) | exact QY.nilCheck_ptr rfl | exact QY.nilCheck_iface rfl | exact QY.nilCheck_func rfl | exact QY.fieldAddr0 rfl | exact QY.fieldAddr rfl | exact QY.load_s rfl (Rd.own (by with_reducible first | exact k0 | exact k1 | exact k2 | exact k3 | exact k4 | exact k5 | exact k6 | exact k7 | exact k8 | exact k9 | fail)) (Reads.pt1 (by rfl)) | exact QY.load_a rfl (Rd.own (by with_reducible first | exact k0 | exact k1 | exact k2 | exact k3 | exact k4 | exact k5 | exact k6 | exact k7 | exact k8 | exact k9 | fail)) Reads.pt_all (by rfl) | exact no_rule); (· decide))
    | ((with_reducible refine KP.eff ?_); (first | refine EW.alloc (by decide) ?_ | refine EW.call (vs := [.pointer none]) len_nil rfl .nil .nil ?_ | refine EW.store_s' rfl rfl (by with_reducible first | exact k0 | exact k1 | exact k2 | exact k3 | exact k4 | exact k5 | exact k6 | exact k7 | exact k8 | exact k9 | fail) (by (repeat (first | exact SetAt.head | apply SetAt.tail))) (by first | rfl | assumption) ?_ | refine EW.store_all rfl rfl (by with_reducible first | exact k0 | exact k1 | exact k2 | exact k3 | exact k4 | exact k5 | exact k6 | exact k7 | exact k8 | exact k9 | fail) (by rfl) (by rfl) (by first | rfl | decide) ?_ | refine EW.store_a' rfl rfl (by with_reducible first | exact k0 | exact k1 | exact k2 | exact k3 | exact k4 | exact k5 | exact k6 | exact k7 | exact k8 | exact k9 | fail) (by rfl) (by (repeat (first | exact SplAt.done | apply SplAt.put | apply SplAt.skip))) (by first | rfl | decide) ?_))
    | ((with_reducible refine CW.draw (i := 5) ?_ [[], [0], [0, 1], [0, 1, 2], [], [0, 1, 2, 3, 4], [], [0, 1, 2, 3, 4, 5, 6]] ?_ ?_ ?_ ?_); (· rfl); (· kernel_rfl); (· kernel_rfl); (· repeat (first | exact NoHang.post | refine NoHang.then ?_ | refine NoHang.block ?_)); refine DW.pure 0 rfl (by kernel_rfl) rfl (by decide) (fun _ => (by first | exact QG.plain (QY.move rfl))) ?_; refine DW.pure 1 rfl (by kernel_rfl) rfl (by decide) (fun _ => (by first | exact QG.plain (QY.nilCheck_ptr rfl) | exact QG.plain (QY.nilCheck_iface rfl) | exact QG.plain (QY.nilCheck_func rfl))) ?_; refine DW.pure 2 rfl (by kernel_rfl) rfl (by decide) (fun _ => (by first | exact QG.plain (QY.fieldAddr0 rfl) | exact QG.plain (QY.fieldAddr rfl))) ?_; refine DW.mem 3 rfl (by kernel_rfl) rfl (by decide) rfl (by first | exact QG.plain (QY.load_s rfl (Rd.own (by with_reducible first | exact k0 | exact k1 | exact k2 | exact k3 | exact k4 | exact k5 | exact k6 | exact k7 | exact k8 | exact k9 | fail)) (Reads.pt1 (by rfl))) | exact QG.plain (QY.load_a rfl (Rd.own (by with_reducible first | exact k0 | exact k1 | exact k2 | exact k3 | exact k4 | exact k5 | exact k6 | exact k7 | exact k8 | exact k9 | fail)) Reads.pt_all (by rfl))) ?_; refine DW.mem 4 rfl (by kernel_rfl) rfl (by decide) rfl (by first | exact QG.plain (QY.load_s rfl (Rd.own (by with_reducible first | exact k0 | exact k1 | exact k2 | exact k3 | exact k4 | exact k5 | exact k6 | exact k7 | exact k8 | exact k9 | fail)) (Reads.pt1 (by rfl))) | exact QG.plain (QY.load_a rfl (Rd.own (by with_reducible first | exact k0 | exact k1 | exact k2 | exact k3 | exact k4 | exact k5 | exact k6 | exact k7 | exact k8 | exact k9 | fail)) Reads.pt_all (by rfl))) ?_; refine DW.mem 5 rfl (by kernel_rfl) rfl (by decide) rfl (by first | exact QG.plain (no_rule)) ?_; refine DW.exec 6 rfl (by kernel_rfl) rfl ?_; intro hdk; (first | (refine EW.alloc (by decide) ?_)); (repeat' (first | (intro gnew) | (refine CP.exP fun _ => ?_) | (refine CP.puP fun _ => ?_) | (refine CP.ret_0 (by decide) ?_) | (refine CP.ret_1 (by decide) ?_) | (refine CP.ret_2 (by decide) ?_) | (refine CP.ret_3 (by decide) ?_) | (refine CP.ret_4 (by decide) ?_) | (refine CP.ret0_0 ?_) | (refine CP.ret0_1 ?_) | (refine CP.ret0_2 ?_) | (refine CP.ret0_3 ?_) | (refine CP.ret0_4 ?_))); refine DK.mk hdk (by refine ObE.cons rfl (by first | exact QG.plain (no_rule)) ?_; refine ObE.cons rfl (by first | exact QG.plain (QY.load_s rfl (Rd.own (by with_reducible first | exact k0 | exact k1 | exact k2 | exact k3 | exact k4 | exact k5 | exact k6 | exact k7 | exact k8 | exact k9 | fail)) (Reads.pt1 (by rfl))) | exact QG.plain (QY.load_a rfl (Rd.own (by with_reducible first | exact k0 | exact k1 | exact k2 | exact k3 | exact k4 | exact k5 | exact k6 | exact k7 | exact k8 | exact k9 | fail)) Reads.pt_all (by rfl))) ?_; refine ObE.cons rfl (by first | exact QG.plain (QY.load_s rfl (Rd.own (by with_reducible first | exact k0 | exact k1 | exact k2 | exact k3 | exact k4 | exact k5 | exact k6 | exact k7 | exact k8 | exact k9 | fail)) (Reads.pt1 (by rfl))) | exact QG.plain (QY.load_a rfl (Rd.own (by with_reducible first | exact k0 | exact k1 | exact k2 | exact k3 | exact k4 | exact k5 | exact k6 | exact k7 | exact k8 | exact k9 | fail)) Reads.pt_all (by rfl))) ?_; exact ObE.nil) ?_; clear hdk; refine DW.exec 7 rfl (by kernel_rfl) rfl ?_; intro hdk; (first | (refine EW.store_s' rfl rfl (by with_reducible first | exact k0 | exact k1 | exact k2 | exact k3 | exact k4 | exact k5 | exact k6 | exact k7 | exact k8 | exact k9 | fail) (by (repeat (first | exact SetAt.head | apply SetAt.tail))) (by first | rfl | assumption) ?_) | (refine EW.store_all rfl rfl (by with_reducible first | exact k0 | exact k1 | exact k2 | exact k3 | exact k4 | exact k5 | exact k6 | exact k7 | exact k8 | exact k9 | fail) (by rfl) (by rfl) (by first | rfl | decide) ?_) | (refine EW.store_a' rfl rfl (by with_reducible first | exact k0 | exact k1 | exact k2 | exact k3 | exact k4 | exact k5 | exact k6 | exact k7 | exact k8 | exact k9 | fail) (by rfl) (by (repeat (first | exact SplAt.done | apply SplAt.put | apply SplAt.skip))) (by first | rfl | decide) ?_)); (repeat' (first | (intro gnew) | (refine CP.exP fun _ => ?_) | (refine CP.puP fun _ => ?_) | (refine CP.ret_0 (by decide) ?_) | (refine CP.ret_1 (by decide) ?_) | (refine CP.ret_2 (by decide) ?_) | (refine CP.ret_3 (by decide) ?_) | (refine CP.ret_4 (by decide) ?_) | (refine CP.ret0_0 ?_) | (refine CP.ret0_1 ?_) | (refine CP.ret0_2 ?_) | (refine CP.ret0_3 ?_) | (refine CP.ret0_4 ?_))); refine DK.mk hdk (by exact ObE.nil) ?_; clear hdk; refine DW.done (by kernel_rfl) ?_)
    | ((with_reducible refine CW.draw (i := 6) ?_ [[], [0], [0, 1], [0, 1, 2], [], [0, 1, 2, 3, 4]] ?_ ?_ ?_ ?_); (· rfl); (· kernel_rfl); (· kernel_rfl); (· repeat (first | exact NoHang.post | refine NoHang.then ?_ | refine NoHang.block ?_)); refine DW.pure 0 rfl (by kernel_rfl) rfl (by decide) (fun _ => (by first | exact QG.plain (QY.move rfl))) ?_; refine DW.pure 1 rfl (by kernel_rfl) rfl (by decide) (fun _ => (by first | exact QG.plain (QY.nilCheck_ptr rfl) | exact QG.plain (QY.nilCheck_iface rfl) | exact QG.plain (QY.nilCheck_func rfl))) ?_; refine DW.pure 2 rfl (by kernel_rfl) rfl (by decide) (fun _ => (by first | exact QG.plain (QY.fieldAddr0 rfl) | exact QG.plain (QY.fieldAddr rfl))) ?_; refine DW.mem 3 rfl (by kernel_rfl) rfl (by decide) rfl (by first | exact QG.plain (QY.load_s rfl (Rd.own (by with_reducible first | exact k0 | exact k1 | exact k2 | exact k3 | exact k4 | exact k5 | exact k6 | exact k7 | exact k8 | exact k9 | fail)) (Reads.pt1 (by rfl))) | exact QG.plain (QY.load_a rfl (Rd.own (by with_reducible first | exact k0 | exact k1 | exact k2 | exact k3 | exact k4 | exact k5 | exact k6 | exact k7 | exact k8 | exact k9 | fail)) Reads.pt_all (by rfl))) ?_; refine DW.mem 4 rfl (by kernel_rfl) rfl (by decide) rfl (by first | exact QG.plain (QY.load_s rfl (Rd.own (by with_reducible first | exact k0 | exact k1 | exact k2 | exact k3 | exact k4 | exact k5 | exact k6 | exact k7 | exact k8 | exact k9 | fail)) (Reads.pt1 (by rfl))) | exact QG.plain (QY.load_a rfl (Rd.own (by with_reducible first | exact k0 | exact k1 | exact k2 | exact k3 | exact k4 | exact k5 | exact k6 | exact k7 | exact k8 | exact k9 | fail)) Reads.pt_all (by rfl))) ?_; refine DW.exec 5 rfl (by kernel_rfl) rfl ?_; intro hdk; (first | (refine (no_rule_for_call))); (repeat' (first | (intro gnew) | (refine CP.exP fun _ => ?_) | (refine CP.puP fun _ => ?_) | (refine CP.ret_0 (by decide) ?_) | (refine CP.ret_1 (by decide) ?_) | (refine CP.ret_2 (by decide) ?_) | (refine CP.ret_3 (by decide) ?_) | (refine CP.ret_4 (by decide) ?_) | (refine CP.ret0_0 ?_) | (refine CP.ret0_1 ?_) | (refine CP.ret0_2 ?_) | (refine CP.ret0_3 ?_) | (refine CP.ret0_4 ?_))); refine DK.mk hdk (by exact ObE.nil) ?_; clear hdk; refine DW.done (by kernel_rfl) ?_)
    | ((with_reducible apply KP.fin_ct (p := 2) (u := 3) (ty := 32)); (· rfl); (· rfl); (· rfl); (· exact (Rd.own (by with_reducible first | exact k0 | exact k1 | exact k2 | exact k3 | exact k4 | exact k5 | exact k6 | exact k7 | exact k8 | exact k9 | fail))); (· rfl))
    | ((with_reducible apply KP.fin1); (· rfl); (· rfl))
    | ((with_reducible apply KP.fin2); (· rfl); (· rfl); (· rfl))
    | ((with_reducible refine KP.fin0 ?_ ?_); (· rfl))
    | ((with_reducible refine KP.fin0r ?_ ?_); (· rfl))
    | (intro _))
  exact Fina.ret .nil


theorem pop_none {q : Nat} : Spc Try.prog 12 #[qp q] [] [Qu q []] (ret (rab (Ask.zero, false)) [Qu q []]) := by
  refine Spc.enter' (args := [qp q]) (T0 := [(0, qp q)]) Try.func12 rfl Try.ntmps12 (Nat.le_of_ble_eq_true rfl) rfl ?_
  intro w0 own
  repeat' (first
    | (with_reducible refine CW.seq ?_)
    | (with_reducible refine CW.region ?_)
    | (with_reducible refine KP.list_nil ?_)
    | (with_reducible refine KP.then_code ?_)
    | (with_reducible refine CW.skip ?_)
    | (with_reducible refine CW.ret ?_)
    | (with_reducible refine KP.then_ret ?_)
    | (with_reducible refine KP.block_ret ?_)
    | (with_reducible refine CW.block ?_)
    | (with_reducible refine KP.block_normal ?_)
    | (with_reducible refine CW.exit ?_)
    | (with_reducible refine KP.then_exit ?_)
    | (with_reducible refine KP.block_hit ?_)
    | ((with_reducible refine KP.block_miss ?_ ?_); (· rfl))
    | ((with_reducible refine CW.cond_t ?_ ?_); (· rfl))
    | ((with_reducible refine CW.cond_f ?_ ?_); (· rfl))
    | ((with_reducible apply CW.condP); (· rfl))
    | ((with_reducible apply CW.cond); (· rfl))
    | (with_reducible refine CP.exP fun _ => ?_)
    | (with_reducible refine CP.puP fun _ => ?_)
    | ((with_reducible refine CP.ret_0 ?_ ?_); (· decide))
    | ((with_reducible refine CP.ret_1 ?_ ?_); (· decide))
    | ((with_reducible refine CP.ret_2 ?_ ?_); (· decide))
    | ((with_reducible refine CP.ret_3 ?_ ?_); (· decide))
    | ((with_reducible refine CP.ret_4 ?_ ?_); (· decide))
    | (with_reducible refine CP.ret0_0 ?_)
    | (with_reducible refine CP.ret0_1 ?_)
    | (with_reducible refine CP.ret0_2 ?_)
    | (with_reducible refine CP.ret0_3 ?_)
    | (with_reducible refine CP.ret0_4 ?_)
    | ((with_reducible apply KP.guard_yes); (· rfl); (· rfl))
    | ((with_reducible apply KP.guard_no); (· rfl); (· rfl); (· decide))
    | ((with_reducible apply KP.guard_un); (· rfl); (· rfl); (· decide))
    | ((with_reducible apply KP.guard_no0); (· rfl); (· rfl))
    | ((with_reducible apply KP.guard_un0); (· rfl); (· rfl))
    | ((with_reducible apply KP.quiet); (· first | exact QY.assign rfl | exact QY.move rfl | exact QY.eqnil_s rfl rfl | exact QY.eqnil_n rfl rfl | exact QY.same (QY.eql rfl rfl) (dec_t (by omega)) | exact QY.same (QY.eql rfl rfl) (dec_f (by omega)) | exact QY.eql rfl rfl | exact QY.eq_agg rfl rfl | exact QY.eq_str rfl rfl | exact QY.eq_bool rfl rfl | exact QY.build (by (repeat (first | exact Fills.nil | (apply Fills.scal; (· rfl); (· rfl); (· first | rfl | assumption); (· (repeat (first | exact SetAt.head | apply SetAt.tail)))) | (apply Fills.agg; (· rfl); (· rfl); (· rfl); (· (repeat (first | exact SplAt.done | apply SplAt.put | apply SplAt.skip))))))) | exact QY.nilCheck_ptr rfl | exact QY.nilCheck_iface rfl | exact QY.nilCheck_func rfl | exact QY.fieldAddr0 rfl | exact QY.fieldAddr rfl | exact QY.load_s rfl (Rd.own (by with_reducible first | exact k0 | exact k1 | exact k2 | exact k3 | exact k4 | exact k5 | exact k6 | exact k7 | exact k8 | exact k9 | fail)) (Reads.pt1 (by rfl)) | exact QY.load_a rfl (Rd.own (by with_reducible first | exact k0 | exact k1 | exact k2 | exact k3 | exact k4 | exact k5 | exact k6 | exact k7 | exact k8 | exact k9 | fail)) Reads.pt_all (by rfl) | exact no_rule); (· decide))
    | ((with_reducible refine KP.eff ?_); (first | refine EW.alloc (by decide) ?_ | refine EW.call (vs := [qp q]) (len_spec (l := [])) rfl (Split.cons (by with_reducible first | exact k0 | exact k1 | exact k2 | exact k3 | exact k4 | exact k5 | exact k6 | exact k7 | exact k8 | exact k9 | fail) Split.nil) .nil ?_ | refine EW.store_s' rfl rfl (by with_reducible first | exact k0 | exact k1 | exact k2 | exact k3 | exact k4 | exact k5 | exact k6 | exact k7 | exact k8 | exact k9 | fail) (by (repeat (first | exact SetAt.head | apply SetAt.tail))) (by first | rfl | assumption) ?_ | refine EW.store_all rfl rfl (by with_reducible first | exact k0 | exact k1 | exact k2 | exact k3 | exact k4 | exact k5 | exact k6 | exact k7 | exact k8 | exact k9 | fail) (by rfl) (by rfl) (by first | rfl | decide) ?_ | refine EW.store_a' rfl rfl (by with_reducible first | exact k0 | exact k1 | exact k2 | exact k3 | exact k4 | exact k5 | exact k6 | exact k7 | exact k8 | exact k9 | fail) (by rfl) (by (repeat (first | exact SplAt.done | apply SplAt.put | apply SplAt.skip))) (by first | rfl | decide) ?_))
    | ((with_reducible refine CW.draw (i := 5) ?_ [[], [0], [0, 1], [0, 1, 2], [], [0, 1, 2, 3, 4], [], [0, 1, 2, 3, 4, 5, 6]] ?_ ?_ ?_ ?_); (· rfl); (· kernel_rfl); (· kernel_rfl); (· repeat (first | exact NoHang.post | refine NoHang.then ?_ | refine NoHang.block ?_)); refine DW.pure 0 rfl (by kernel_rfl) rfl (by decide) (fun _ => (by first | exact QG.plain (QY.move rfl))) ?_; refine DW.pure 1 rfl (by kernel_rfl) rfl (by decide) (fun _ => (by first | exact QG.plain (QY.nilCheck_ptr rfl) | exact QG.plain (QY.nilCheck_iface rfl) | exact QG.plain (QY.nilCheck_func rfl))) ?_; refine DW.pure 2 rfl (by kernel_rfl) rfl (by decide) (fun _ => (by first | exact QG.plain (QY.fieldAddr0 rfl) | exact QG.plain (QY.fieldAddr rfl))) ?_; refine DW.mem 3 rfl (by kernel_rfl) rfl (by decide) rfl (by first | exact QG.plain (QY.load_s rfl (Rd.own (by with_reducible first | exact k0 | exact k1 | exact k2 | exact k3 | exact k4 | exact k5 | exact k6 | exact k7 | exact k8 | exact k9 | fail)) (Reads.pt1 (by rfl))) | exact QG.plain (QY.load_a rfl (Rd.own (by with_reducible first | exact k0 | exact k1 | exact k2 | exact k3 | exact k4 | exact k5 | exact k6 | exact k7 | exact k8 | exact k9 | fail)) Reads.pt_all (by rfl))) ?_; refine DW.mem 4 rfl (by kernel_rfl) rfl (by decide) rfl (by first | exact QG.plain (QY.load_s rfl (Rd.own (by with_reducible first | exact k0 | exact k1 | exact k2 | exact k3 | exact k4 | exact k5 | exact k6 | exact k7 | exact k8 | exact k9 | fail)) (Reads.pt1 (by rfl))) | exact QG.plain (QY.load_a rfl (Rd.own (by with_reducible first | exact k0 | exact k1 | exact k2 | exact k3 | exact k4 | exact k5 | exact k6 | exact k7 | exact k8 | exact k9 | fail)) Reads.pt_all (by rfl))) ?_; refine DW.mem 5 rfl (by kernel_rfl) rfl (by decide) rfl (by first | exact QG.plain (no_rule)) ?_; refine DW.exec 6 rfl (by kernel_rfl) rfl ?_; intro hdk; (first | (refine EW.alloc (by decide) ?_)); (repeat' (first | (intro gnew) | (refine CP.exP fun _ => ?_) | (refine CP.puP fun _ => ?_) | (refine CP.ret_0 (by decide) ?_) | (refine CP.ret_1 (by decide) ?_) | (refine CP.ret_2 (by decide) ?_) | (refine CP.ret_3 (by decide) ?_) | (refine CP.ret_4 (by decide) ?_) | (refine CP.ret0_0 ?_) | (refine CP.ret0_1 ?_) | (refine CP.ret0_2 ?_) | (refine CP.ret0_3 ?_) | (refine CP.ret0_4 ?_))); refine DK.mk hdk (by refine ObE.cons rfl (by first | exact QG.plain (no_rule)) ?_; refine ObE.cons rfl (by first | exact QG.plain (QY.load_s rfl (Rd.own (by with_reducible first | exact k0 | exact k1 | exact k2 | exact k3 | exact k4 | exact k5 | exact k6 | exact k7 | exact k8 | exact k9 | fail)) (Reads.pt1 (by rfl))) | exact QG.plain (QY.load_a rfl (Rd.own (by with_reducible first | exact k0 | exact k1 | exact k2 | exact k3 | exact k4 | exact k5 | exact k6 | exact k7 | exact k8 | exact k9 | fail)) Reads.pt_all (by rfl))) ?_; refine ObE.cons rfl (by first | exact QG.plain (QY.load_s rfl (Rd.own (by with_reducible first | exact k0 | exact k1 | exact k2 | exact k3 | exact k4 | exact k5 | exact k6 | exact k7 | exact k8 | exact k9 | fail)) (Reads.pt1 (by rfl))) | exact QG.plain (QY.load_a rfl (Rd.own (by with_reducible first | exact k0 | exact k1 | exact k2 | exact k3 | exact k4 | exact k5 | exact k6 | exact k7 | exact k8 | exact k9 | fail)) Reads.pt_all (by rfl))) ?_; exact ObE.nil) ?_; clear hdk; refine DW.exec 7 rfl (by kernel_rfl) rfl ?_; intro hdk; (first | (refine EW.store_s' rfl rfl (by with_reducible first | exact k0 | exact k1 | exact k2 | exact k3 | exact k4 | exact k5 | exact k6 | exact k7 | exact k8 | exact k9 | fail) (by (repeat (first | exact SetAt.head | apply SetAt.tail))) (by first | rfl | assumption) ?_) | (refine EW.store_all rfl rfl (by with_reducible first | exact k0 | exact k1 | exact k2 | exact k3 | exact k4 | exact k5 | exact k6 | exact k7 | exact k8 | exact k9 | fail) (by rfl) (by rfl) (by first | rfl | decide) ?_) | (refine EW.store_a' rfl rfl (by with_reducible first | exact k0 | exact k1 | exact k2 | exact k3 | exact k4 | exact k5 | exact k6 | exact k7 | exact k8 | exact k9 | fail) (by rfl) (by (repeat (first | exact SplAt.done | apply SplAt.put | apply SplAt.skip))) (by first | rfl | decide) ?_)); (repeat' (first | (intro gnew) | (refine CP.exP fun _ => ?_) | (refine CP.puP fun _ => ?_) | (refine CP.ret_0 (by decide) ?_) | (refine CP.ret_1 (by decide) ?_) | (refine CP.ret_2 (by decide) ?_) | (refine CP.ret_3 (by decide) ?_) | (refine CP.ret_4 (by decide) ?_) | (refine CP.ret0_0 ?_) | (refine CP.ret0_1 ?_) | (refine CP.ret0_2 ?_) | (refine CP.ret0_3 ?_) | (refine CP.ret0_4 ?_))); refine DK.mk hdk (by exact ObE.nil) ?_; clear hdk; refine DW.done (by kernel_rfl) ?_)
    | ((with_reducible refine CW.draw (i := 6) ?_ [[], [0], [0, 1], [0, 1, 2], [], [0, 1, 2, 3, 4]] ?_ ?_ ?_ ?_); (· rfl); (· kernel_rfl); (· kernel_rfl); (· repeat (first | exact NoHang.post | refine NoHang.then ?_ | refine NoHang.block ?_)); refine DW.pure 0 rfl (by kernel_rfl) rfl (by decide) (fun _ => (by first | exact QG.plain (QY.move rfl))) ?_; refine DW.pure 1 rfl (by kernel_rfl) rfl (by decide) (fun _ => (by first | exact QG.plain (QY.nilCheck_ptr rfl) | exact QG.plain (QY.nilCheck_iface rfl) | exact QG.plain (QY.nilCheck_func rfl))) ?_; refine DW.pure 2 rfl (by kernel_rfl) rfl (by decide) (fun _ => (by first | exact QG.plain (QY.fieldAddr0 rfl) | exact QG.plain (QY.fieldAddr rfl))) ?_; refine DW.mem 3 rfl (by kernel_rfl) rfl (by decide) rfl (by first | exact QG.plain (QY.load_s rfl (Rd.own (by with_reducible first | exact k0 | exact k1 | exact k2 | exact k3 | exact k4 | exact k5 | exact k6 | exact k7 | exact k8 | exact k9 | fail)) (Reads.pt1 (by rfl))) | exact QG.plain (QY.load_a rfl (Rd.own (by with_reducible first | exact k0 | exact k1 | exact k2 | exact k3 | exact k4 | exact k5 | exact k6 | exact k7 | exact k8 | exact k9 | fail)) Reads.pt_all (by rfl))) ?_; refine DW.mem 4 rfl (by kernel_rfl) rfl (by decide) rfl (by first | exact QG.plain (QY.load_s rfl (Rd.own (by with_reducible first | exact k0 | exact k1 | exact k2 | exact k3 | exact k4 | exact k5 | exact k6 | exact k7 | exact k8 | exact k9 | fail)) (Reads.pt1 (by rfl))) | exact QG.plain (QY.load_a rfl (Rd.own (by with_reducible first | exact k0 | exact k1 | exact k2 | exact k3 | exact k4 | exact k5 | exact k6 | exact k7 | exact k8 | exact k9 | fail)) Reads.pt_all (by rfl))) ?_; refine DW.exec 5 rfl (by kernel_rfl) rfl ?_; intro hdk; (first | (refine (no_rule_for_call))); (repeat' (first | (intro gnew) | (refine CP.exP fun _ => ?_) | (refine CP.puP fun _ => ?_) | (refine CP.ret_0 (by decide) ?_) | (refine CP.ret_1 (by decide) ?_) | (refine CP.ret_2 (by decide) ?_) | (refine CP.ret_3 (by decide) ?_) | (refine CP.ret_4 (by decide) ?_) | (refine CP.ret0_0 ?_) | (refine CP.ret0_1 ?_) | (refine CP.ret0_2 ?_) | (refine CP.ret0_3 ?_) | (refine CP.ret0_4 ?_))); refine DK.mk hdk (by exact ObE.nil) ?_; clear hdk; refine DW.done (by kernel_rfl) ?_)
    | ((with_reducible apply KP.fin_ct (p := 2) (u := 3) (ty := 32)); (· rfl); (· rfl); (· rfl); (· exact (Rd.own (by with_reducible first | exact k0 | exact k1 | exact k2 | exact k3 | exact k4 | exact k5 | exact k6 | exact k7 | exact k8 | exact k9 | fail))); (· rfl))
    | ((with_reducible apply KP.fin1); (· rfl); (· rfl))
    | ((with_reducible apply KP.fin2); (· rfl); (· rfl); (· rfl))
    | ((with_reducible refine KP.fin0 ?_ ?_); (· rfl))
    | ((with_reducible refine KP.fin0r ?_ ?_); (· rfl))
    | (intro _))
  exact Fina.ret (Ent.cons (by with_reducible first | exact k0 | exact k1 | exact k2 | exact k3 | exact k4 | exact k5 | exact k6 | exact k7 | exact k8 | exact k9 | fail) Ent.nil)



theorem len_ro {q bm : Nat} {v : Value} {ps : List Place} : Spc Try.prog 20 #[qp q] [pt q 53 [v, .map (some bm)], row 56 2 eP v ps] [] (ret (iv ps.length) []) := by
  refine Spc.enter' (args := [qp q]) (T0 := [(0, qp q)]) Try.func20 rfl Try.ntmps20 (Nat.le_of_ble_eq_true rfl) rfl ?_
  intro w0 own
  repeat' (first
    | (with_reducible refine CW.seq ?_)
    | (with_reducible refine CW.region ?_)
    | (with_reducible refine KP.list_nil ?_)
    | (with_reducible refine KP.then_code ?_)
    | (with_reducible refine CW.skip ?_)
    | (with_reducible refine CW.ret ?_)
    | (with_reducible refine KP.then_ret ?_)
    | (with_reducible refine KP.block_ret ?_)
    | (with_reducible refine CW.block ?_)
    | (with_reducible refine KP.block_normal ?_)
    | (with_reducible refine CW.exit ?_)
    | (with_reducible refine KP.then_exit ?_)
    | (with_reducible refine KP.block_hit ?_)
    | ((with_reducible refine KP.block_miss ?_ ?_); (· rfl))
    | ((with_reducible refine CW.cond_t ?_ ?_); (· rfl))
    | ((with_reducible refine CW.cond_f ?_ ?_); (· rfl))
    | ((with_reducible apply CW.condP); (· rfl))
    | ((with_reducible apply CW.cond); (· rfl))
    | (with_reducible refine CP.exP fun _ => ?_)
    | (with_reducible refine CP.puP fun _ => ?_)
    | ((with_reducible refine CP.ret_0 ?_ ?_); (· decide))
    | ((with_reducible refine CP.ret_1 ?_ ?_); (· decide))
    | ((with_reducible refine CP.ret_2 ?_ ?_); (· decide))
    | ((with_reducible refine CP.ret_3 ?_ ?_); (· decide))
    | ((with_reducible refine CP.ret_4 ?_ ?_); (· decide))
    | (with_reducible refine CP.ret0_0 ?_)
    | (with_reducible refine CP.ret0_1 ?_)
    | (with_reducible refine CP.ret0_2 ?_)
    | (with_reducible refine CP.ret0_3 ?_)
    | (with_reducible refine CP.ret0_4 ?_)
    | ((with_reducible apply KP.guard_yes); (· rfl); (· rfl))
    | ((with_reducible apply KP.guard_no); (· rfl); (· rfl); (· decide))
    | ((with_reducible apply KP.guard_un); (· rfl); (· rfl); (· decide))
    | ((with_reducible apply KP.guard_no0); (· rfl); (· rfl))
    | ((with_reducible apply KP.guard_un0); (· rfl); (· rfl))
    | ((with_reducible apply KP.quiet); (· first | exact QY.assign rfl | exact QY.move rfl | exact QY.eqnil_s rfl rfl | exact QY.eqnil_n rfl rfl | exact QY.same (QY.eql rfl rfl) (dec_t (by omega)) | exact QY.same (QY.eql rfl rfl) (dec_f (by omega)) | exact QY.eql rfl rfl | exact QY.eq_agg rfl rfl | exact QY.eq_str rfl rfl | exact QY.eq_bool rfl rfl | exact QY.nilCheck_ptr rfl | exact QY.nilCheck_iface rfl | exact QY.nilCheck_func rfl | exact QY.fieldAddr0 rfl | exact QY.fieldAddr rfl | exact QY.load_s rfl (Rd.ro (by with_reducible first | exact m0 | exact m1 | exact m2 | exact m3 | exact m4 | exact m5 | fail)) (Reads.pt1 (by rfl)) | exact QY.load_s rfl (Rd.own (by with_reducible first | exact k0 | exact k1 | exact k2 | exact k3 | exact k4 | exact k5 | exact k6 | exact k7 | exact k8 | exact k9 | fail)) (Reads.pt1 (by rfl)) | exact QY.load_a rfl (Rd.own (by with_reducible first | exact k0 | exact k1 | exact k2 | exact k3 | exact k4 | exact k5 | exact k6 | exact k7 | exact k8 | exact k9 | fail)) Reads.pt_all (by rfl) | exact QY.len_row rfl (Rd.ro (by with_reducible first | exact m0 | exact m1 | exact m2 | exact m3 | exact m4 | exact m5 | fail)) RowL.row | exact QY.len rfl | exact QY.len_str rfl); (· decide))
    | ((with_reducible apply KP.fin1); (· rfl); (· rfl))
    | ((with_reducible apply KP.fin2); (· rfl); (· rfl); (· rfl))
    | ((with_reducible refine KP.fin0 ?_ ?_); (· rfl))
    | ((with_reducible refine KP.fin0r ?_ ?_); (· rfl))
    | (intro _))
  exact Fina.ret .nil







theorem row.tail {v : Value} {p : Place} {ps : List Place} {h : Frag} (r : row 56 2 eP v (p :: ps) h) : row 56 2 eP (slv 2 v 1 (p :: ps).length) ps h := by
  have := r.cut (lo := 1) (hi := (p :: ps).length) (by simp) (Nat.le_refl _)
  have e : ((p :: ps).drop 1).take ((p :: ps).length - 1) = ps := by simp
  rw [e] at this; exact this
theorem Qu.intro_tail {q bm : Nat} {l : List Ask} {v : Value} {m : List (Place × Ask)} {p : Place} (f : QF l m) (o : (slv 2 v 1 (p :: l.map Ask.place).length).oneCell' = true) : ∀ h, SatL [pt q 53 [slv 2 v 1 (p :: l.map Ask.place).length, .map (some bm)], row 56 2 eP v (p :: l.map Ask.place), mapA pv av bm m] h → Qu q l h := fun h s => by
  obtain ⟨h1, h2, d, a, b, x, ⟨k1, k2, d', a', b', y, z⟩⟩ := s
  exact Qu.intro f o h ⟨h1, h2, d, a, b, x, ⟨k1, k2, d', a', b', row.tail y, z⟩⟩
theorem pop_some {q : Nat} {l : List Ask} {a : Ask} : Spc Try.prog 12 #[qp q] [] [Qu q (a :: l)] (ret (rab (a, true)) [Qu q l]) := by
  refine Spc.enter' (args := [qp q]) (T0 := [(0, qp q)]) Try.func12 rfl Try.ntmps12 (Nat.le_of_ble_eq_true rfl) rfl ?_
  intro w0 own
  refine CW.qu fun v bm m f o => ?_
  have hk : mget m a.place = some a := by rw [f.get]; simp [List.find?_cons]
  have f' := f.pop
  simp only [List.map_cons]
  have o' := slv_one 2 1 (Ask.place a :: l.map Ask.place).length o
  repeat' (first
    | (with_reducible refine CW.seq ?_)
    | (with_reducible refine CW.region ?_)
    | (with_reducible refine KP.list_nil ?_)
    | (with_reducible refine KP.then_code ?_)
    | (with_reducible refine CW.skip ?_)
    | (with_reducible refine CW.ret ?_)
    | (with_reducible refine KP.then_ret ?_)
    | (with_reducible refine KP.block_ret ?_)
    | (with_reducible refine CW.block ?_)
    | (with_reducible refine KP.block_normal ?_)
    | (with_reducible refine CW.exit ?_)
    | (with_reducible refine KP.then_exit ?_)
    | (with_reducible refine KP.block_hit ?_)
    | ((with_reducible refine KP.block_miss ?_ ?_); (· rfl))
    | ((with_reducible refine CW.cond_t ?_ ?_); (· rfl))
    | ((with_reducible refine CW.cond_f ?_ ?_); (· rfl))
    | ((with_reducible apply CW.condP); (· rfl))
    | ((with_reducible apply CW.cond); (· rfl))
    | (with_reducible refine CP.exP fun _ => ?_)
    | (with_reducible refine CP.puP fun _ => ?_)
    | ((with_reducible refine CP.ret_0 ?_ ?_); (· decide))
    | ((with_reducible refine CP.ret_1 ?_ ?_); (· decide))
    | ((with_reducible refine CP.ret_2 ?_ ?_); (· decide))
    | ((with_reducible refine CP.ret_3 ?_ ?_); (· decide))
    | ((with_reducible refine CP.ret_4 ?_ ?_); (· decide))
    | (with_reducible refine CP.ret0_0 ?_)
    | (with_reducible refine CP.ret0_1 ?_)
    | (with_reducible refine CP.ret0_2 ?_)
    | (with_reducible refine CP.ret0_3 ?_)
    | (with_reducible refine CP.ret0_4 ?_)
    | ((with_reducible apply KP.guard_yes); (· rfl); (· rfl))
    | ((with_reducible apply KP.guard_no); (· rfl); (· rfl); (· decide))
    | ((with_reducible apply KP.guard_un); (· rfl); (· rfl); (· decide))
    | ((with_reducible apply KP.guard_no0); (· rfl); (· rfl))
    | ((with_reducible apply KP.guard_un0); (· rfl); (· rfl))
    | ((with_reducible apply KP.quiet); (· first | exact QY.assign rfl | exact QY.move rfl | exact QY.eqnil_s rfl rfl | exact QY.eqnil_n rfl rfl | exact QY.same (QY.eql rfl rfl) (dec_t (by omega)) | exact QY.same (QY.eql rfl rfl) (dec_f (by omega)) | exact QY.eql rfl rfl | exact QY.eq_agg rfl rfl | exact QY.eq_str rfl rfl | exact QY.eq_bool rfl rfl | exact QY.build (by (repeat (first | exact Fills.nil | (apply Fills.scal; (· rfl); (· rfl); (· first | rfl | assumption); (· (repeat (first | exact SetAt.head | apply SetAt.tail)))) | (apply Fills.agg; (· rfl); (· rfl); (· rfl); (· (repeat (first | exact SplAt.done | apply SplAt.put | apply SplAt.skip))))))) | exact QY.nilCheck_ptr rfl | exact QY.nilCheck_iface rfl | exact QY.nilCheck_func rfl | exact QY.fieldAddr0 rfl | exact QY.fieldAddr rfl | exact QY.load_a (cs := eP a.place) rfl (Rd.own (by with_reducible first | exact k0 | exact k1 | exact k2 | exact k3 | exact k4 | exact k5 | exact k6 | exact k7 | exact k8 | exact k9 | fail)) (Reads.row (i := 0) (x := a.place) (enc := eP) RowL.row rfl) (by rfl) | exact QY.load_s rfl (Rd.own (by with_reducible first | exact k0 | exact k1 | exact k2 | exact k3 | exact k4 | exact k5 | exact k6 | exact k7 | exact k8 | exact k9 | fail)) (Reads.pt1 (by rfl)) | exact QY.load_a rfl (Rd.own (by with_reducible first | exact k0 | exact k1 | exact k2 | exact k3 | exact k4 | exact k5 | exact k6 | exact k7 | exact k8 | exact k9 | fail)) Reads.pt_all (by rfl) | exact QY.index0 rfl rfl (Rd.own (by with_reducible first | exact k0 | exact k1 | exact k2 | exact k3 | exact k4 | exact k5 | exact k6 | exact k7 | exact k8 | exact k9 | fail)) (RowL.row (n := 2)) (by simp) | exact QY.cut_lo (lo := 1) (n := 2) rfl rfl (Rd.own (by with_reducible first | exact k0 | exact k1 | exact k2 | exact k3 | exact k4 | exact k5 | exact k6 | exact k7 | exact k8 | exact k9 | fail)) RowL.row (by simp)); (· decide))
    | ((with_reducible refine KP.eff ?_); (first | refine EW.alloc (by decide) ?_ | refine EW.call (vs := [qp q]) (len_ro (v := v) (bm := bm) (ps := Ask.place a :: l.map Ask.place)) rfl .nil (RosOf.cons (RoOf.same (by with_reducible first | exact k0 | exact k1 | exact k2 | exact k3 | exact k4 | exact k5 | exact k6 | exact k7 | exact k8 | exact k9 | fail)) (RosOf.cons (RoOf.same (by with_reducible first | exact k0 | exact k1 | exact k2 | exact k3 | exact k4 | exact k5 | exact k6 | exact k7 | exact k8 | exact k9 | fail)) RosOf.nil)) ?_ | refine EW.store_s' rfl rfl (by with_reducible first | exact k0 | exact k1 | exact k2 | exact k3 | exact k4 | exact k5 | exact k6 | exact k7 | exact k8 | exact k9 | fail) (by (repeat (first | exact SetAt.head | apply SetAt.tail))) (by first | rfl | assumption) ?_ | refine EW.store_all rfl rfl (by with_reducible first | exact k0 | exact k1 | exact k2 | exact k3 | exact k4 | exact k5 | exact k6 | exact k7 | exact k8 | exact k9 | fail) (by rfl) (by rfl) (by first | rfl | decide) ?_ | refine EW.store_a' rfl rfl (by with_reducible first | exact k0 | exact k1 | exact k2 | exact k3 | exact k4 | exact k5 | exact k6 | exact k7 | exact k8 | exact k9 | fail) (by rfl) (by (repeat (first | exact SplAt.done | apply SplAt.put | apply SplAt.skip))) (by first | rfl | decide) ?_))
    | ((with_reducible refine CW.draw (i := 5) ?_ [[], [0], [0, 1], [0, 1, 2], [], [0, 1, 2, 3, 4], [], [0, 1, 2, 3, 4, 5, 6]] ?_ ?_ ?_ ?_); (· rfl); (· kernel_rfl); (· kernel_rfl); (· repeat (first | exact NoHang.post | refine NoHang.then ?_ | refine NoHang.block ?_)); refine DW.pure 0 rfl (by kernel_rfl) rfl (by decide) (fun _ => (by first | exact QG.plain (QY.move rfl))) ?_; refine DW.pure 1 rfl (by kernel_rfl) rfl (by decide) (fun _ => (by first | exact QG.plain (QY.nilCheck_ptr rfl) | exact QG.plain (QY.nilCheck_iface rfl) | exact QG.plain (QY.nilCheck_func rfl))) ?_; refine DW.pure 2 rfl (by kernel_rfl) rfl (by decide) (fun _ => (by first | exact QG.plain (QY.fieldAddr0 rfl) | exact QG.plain (QY.fieldAddr rfl))) ?_; refine DW.mem 3 rfl (by kernel_rfl) rfl (by decide) rfl (by first | exact QG.plain (QY.load_a (cs := eP a.place) rfl (Rd.own (by with_reducible first | exact k0 | exact k1 | exact k2 | exact k3 | exact k4 | exact k5 | exact k6 | exact k7 | exact k8 | exact k9 | fail)) (Reads.row (i := 0) (x := a.place) (enc := eP) RowL.row rfl) (by rfl)) | exact QG.plain (QY.load_s rfl (Rd.own (by with_reducible first | exact k0 | exact k1 | exact k2 | exact k3 | exact k4 | exact k5 | exact k6 | exact k7 | exact k8 | exact k9 | fail)) (Reads.pt1 (by rfl))) | exact QG.plain (QY.load_a rfl (Rd.own (by with_reducible first | exact k0 | exact k1 | exact k2 | exact k3 | exact k4 | exact k5 | exact k6 | exact k7 | exact k8 | exact k9 | fail)) Reads.pt_all (by rfl))) ?_; refine DW.mem 4 rfl (by kernel_rfl) rfl (by decide) rfl (by first | exact QG.plain (QY.load_a (cs := eP a.place) rfl (Rd.own (by with_reducible first | exact k0 | exact k1 | exact k2 | exact k3 | exact k4 | exact k5 | exact k6 | exact k7 | exact k8 | exact k9 | fail)) (Reads.row (i := 0) (x := a.place) (enc := eP) RowL.row rfl) (by rfl)) | exact QG.plain (QY.load_s rfl (Rd.own (by with_reducible first | exact k0 | exact k1 | exact k2 | exact k3 | exact k4 | exact k5 | exact k6 | exact k7 | exact k8 | exact k9 | fail)) (Reads.pt1 (by rfl))) | exact QG.plain (QY.load_a rfl (Rd.own (by with_reducible first | exact k0 | exact k1 | exact k2 | exact k3 | exact k4 | exact k5 | exact k6 | exact k7 | exact k8 | exact k9 | fail)) Reads.pt_all (by rfl))) ?_; refine DW.mem 5 rfl (by kernel_rfl) rfl (by decide) rfl (by first | exact QG.plain (QY.lookup_some (k := a.place) (ev' := av) rfl rfl (Rd.own (by with_reducible first | exact k0 | exact k1 | exact k2 | exact k3 | exact k4 | exact k5 | exact k6 | exact k7 | exact k8 | exact k9 | fail)) hk)) ?_; refine DW.exec 6 rfl (by kernel_rfl) rfl ?_; intro hdk; (first | (refine EW.alloc (by decide) ?_)); (repeat' (first | (intro gnew) | (refine CP.exP fun _ => ?_) | (refine CP.puP fun _ => ?_) | (refine CP.ret_0 (by decide) ?_) | (refine CP.ret_1 (by decide) ?_) | (refine CP.ret_2 (by decide) ?_) | (refine CP.ret_3 (by decide) ?_) | (refine CP.ret_4 (by decide) ?_) | (refine CP.ret0_0 ?_) | (refine CP.ret0_1 ?_) | (refine CP.ret0_2 ?_) | (refine CP.ret0_3 ?_) | (refine CP.ret0_4 ?_))); refine DK.mk hdk (by refine ObE.cons rfl (by first | exact QG.plain (QY.lookup_some (k := a.place) (ev' := av) rfl rfl (Rd.own (by with_reducible first | exact k0 | exact k1 | exact k2 | exact k3 | exact k4 | exact k5 | exact k6 | exact k7 | exact k8 | exact k9 | fail)) hk)) ?_; refine ObE.cons rfl (by first | exact QG.plain (QY.load_a (cs := eP a.place) rfl (Rd.own (by with_reducible first | exact k0 | exact k1 | exact k2 | exact k3 | exact k4 | exact k5 | exact k6 | exact k7 | exact k8 | exact k9 | fail)) (Reads.row (i := 0) (x := a.place) (enc := eP) RowL.row rfl) (by rfl)) | exact QG.plain (QY.load_s rfl (Rd.own (by with_reducible first | exact k0 | exact k1 | exact k2 | exact k3 | exact k4 | exact k5 | exact k6 | exact k7 | exact k8 | exact k9 | fail)) (Reads.pt1 (by rfl))) | exact QG.plain (QY.load_a rfl (Rd.own (by with_reducible first | exact k0 | exact k1 | exact k2 | exact k3 | exact k4 | exact k5 | exact k6 | exact k7 | exact k8 | exact k9 | fail)) Reads.pt_all (by rfl))) ?_; refine ObE.cons rfl (by first | exact QG.plain (QY.load_a (cs := eP a.place) rfl (Rd.own (by with_reducible first | exact k0 | exact k1 | exact k2 | exact k3 | exact k4 | exact k5 | exact k6 | exact k7 | exact k8 | exact k9 | fail)) (Reads.row (i := 0) (x := a.place) (enc := eP) RowL.row rfl) (by rfl)) | exact QG.plain (QY.load_s rfl (Rd.own (by with_reducible first | exact k0 | exact k1 | exact k2 | exact k3 | exact k4 | exact k5 | exact k6 | exact k7 | exact k8 | exact k9 | fail)) (Reads.pt1 (by rfl))) | exact QG.plain (QY.load_a rfl (Rd.own (by with_reducible first | exact k0 | exact k1 | exact k2 | exact k3 | exact k4 | exact k5 | exact k6 | exact k7 | exact k8 | exact k9 | fail)) Reads.pt_all (by rfl))) ?_; exact ObE.nil) ?_; clear hdk; refine DW.exec 7 rfl (by kernel_rfl) rfl ?_; intro hdk; (first | (refine EW.store_s' rfl rfl (by with_reducible first | exact k0 | exact k1 | exact k2 | exact k3 | exact k4 | exact k5 | exact k6 | exact k7 | exact k8 | exact k9 | fail) (by (repeat (first | exact SetAt.head | apply SetAt.tail))) (by first | rfl | assumption) ?_) | (refine EW.store_all rfl rfl (by with_reducible first | exact k0 | exact k1 | exact k2 | exact k3 | exact k4 | exact k5 | exact k6 | exact k7 | exact k8 | exact k9 | fail) (by rfl) (by rfl) (by first | rfl | decide) ?_) | (refine EW.store_a' rfl rfl (by with_reducible first | exact k0 | exact k1 | exact k2 | exact k3 | exact k4 | exact k5 | exact k6 | exact k7 | exact k8 | exact k9 | fail) (by rfl) (by (repeat (first | exact SplAt.done | apply SplAt.put | apply SplAt.skip))) (by first | rfl | decide) ?_)); (repeat' (first | (intro gnew) | (refine CP.exP fun _ => ?_) | (refine CP.puP fun _ => ?_) | (refine CP.ret_0 (by decide) ?_) | (refine CP.ret_1 (by decide) ?_) | (refine CP.ret_2 (by decide) ?_) | (refine CP.ret_3 (by decide) ?_) | (refine CP.ret_4 (by decide) ?_) | (refine CP.ret0_0 ?_) | (refine CP.ret0_1 ?_) | (refine CP.ret0_2 ?_) | (refine CP.ret0_3 ?_) | (refine CP.ret0_4 ?_))); refine DK.mk hdk (by exact ObE.nil) ?_; clear hdk; refine DW.done (by kernel_rfl) ?_)
    | ((with_reducible refine CW.draw (i := 6) ?_ [[], [0], [0, 1], [0, 1, 2], [], [0, 1, 2, 3, 4]] ?_ ?_ ?_ ?_); (· rfl); (· kernel_rfl); (· kernel_rfl); (· repeat (first | exact NoHang.post | refine NoHang.then ?_ | refine NoHang.block ?_)); refine DW.pure 0 rfl (by kernel_rfl) rfl (by decide) (fun _ => (by first | exact QG.plain (QY.move rfl))) ?_; refine DW.pure 1 rfl (by kernel_rfl) rfl (by decide) (fun _ => (by first | exact QG.plain (QY.nilCheck_ptr rfl) | exact QG.plain (QY.nilCheck_iface rfl) | exact QG.plain (QY.nilCheck_func rfl))) ?_; refine DW.pure 2 rfl (by kernel_rfl) rfl (by decide) (fun _ => (by first | exact QG.plain (QY.fieldAddr0 rfl) | exact QG.plain (QY.fieldAddr rfl))) ?_; refine DW.mem 3 rfl (by kernel_rfl) rfl (by decide) rfl (by first | exact QG.plain (QY.load_a (cs := eP a.place) rfl (Rd.own (by with_reducible first | exact k0 | exact k1 | exact k2 | exact k3 | exact k4 | exact k5 | exact k6 | exact k7 | exact k8 | exact k9 | fail)) (Reads.row (i := 0) (x := a.place) (enc := eP) RowL.row rfl) (by rfl)) | exact QG.plain (QY.load_s rfl (Rd.own (by with_reducible first | exact k0 | exact k1 | exact k2 | exact k3 | exact k4 | exact k5 | exact k6 | exact k7 | exact k8 | exact k9 | fail)) (Reads.pt1 (by rfl))) | exact QG.plain (QY.load_a rfl (Rd.own (by with_reducible first | exact k0 | exact k1 | exact k2 | exact k3 | exact k4 | exact k5 | exact k6 | exact k7 | exact k8 | exact k9 | fail)) Reads.pt_all (by rfl))) ?_; refine DW.mem 4 rfl (by kernel_rfl) rfl (by decide) rfl (by first | exact QG.plain (QY.load_a (cs := eP a.place) rfl (Rd.own (by with_reducible first | exact k0 | exact k1 | exact k2 | exact k3 | exact k4 | exact k5 | exact k6 | exact k7 | exact k8 | exact k9 | fail)) (Reads.row (i := 0) (x := a.place) (enc := eP) RowL.row rfl) (by rfl)) | exact QG.plain (QY.load_s rfl (Rd.own (by with_reducible first | exact k0 | exact k1 | exact k2 | exact k3 | exact k4 | exact k5 | exact k6 | exact k7 | exact k8 | exact k9 | fail)) (Reads.pt1 (by rfl))) | exact QG.plain (QY.load_a rfl (Rd.own (by with_reducible first | exact k0 | exact k1 | exact k2 | exact k3 | exact k4 | exact k5 | exact k6 | exact k7 | exact k8 | exact k9 | fail)) Reads.pt_all (by rfl))) ?_; refine DW.exec 5 rfl (by kernel_rfl) rfl ?_; intro hdk; (first | (refine EW.delete (k := a.place) (ek := pv) (ev' := av) rfl rfl (by with_reducible first | exact k0 | exact k1 | exact k2 | exact k3 | exact k4 | exact k5 | exact k6 | exact k7 | exact k8 | exact k9 | fail) ?_)); (repeat' (first | (intro gnew) | (refine CP.exP fun _ => ?_) | (refine CP.puP fun _ => ?_) | (refine CP.ret_0 (by decide) ?_) | (refine CP.ret_1 (by decide) ?_) | (refine CP.ret_2 (by decide) ?_) | (refine CP.ret_3 (by decide) ?_) | (refine CP.ret_4 (by decide) ?_) | (refine CP.ret0_0 ?_) | (refine CP.ret0_1 ?_) | (refine CP.ret0_2 ?_) | (refine CP.ret0_3 ?_) | (refine CP.ret0_4 ?_))); refine DK.mk hdk (by exact ObE.nil) ?_; clear hdk; refine DW.done (by kernel_rfl) ?_)
    | ((with_reducible apply KP.fin_ct (p := 2) (u := 3) (ty := 32)); (· rfl); (· rfl); (· rfl); (· exact (Rd.own (by with_reducible first | exact k0 | exact k1 | exact k2 | exact k3 | exact k4 | exact k5 | exact k6 | exact k7 | exact k8 | exact k9 | fail))); (· rfl))
    | ((with_reducible apply KP.fin1); (· rfl); (· rfl))
    | ((with_reducible apply KP.fin2); (· rfl); (· rfl); (· rfl))
    | ((with_reducible refine KP.fin0 ?_ ?_); (· rfl))
    | ((with_reducible refine KP.fin0r ?_ ?_); (· rfl))
    | (intro _))
  exact Fina.gather (Split.cons (by with_reducible first | exact k0 | exact k1 | exact k2 | exact k3 | exact k4 | exact k5 | exact k6 | exact k7 | exact k8 | exact k9 | fail) (Split.cons (by with_reducible first | exact k0 | exact k1 | exact k2 | exact k3 | exact k4 | exact k5 | exact k6 | exact k7 | exact k8 | exact k9 | fail) (Split.cons (by with_reducible first | exact k0 | exact k1 | exact k2 | exact k3 | exact k4 | exact k5 | exact k6 | exact k7 | exact k8 | exact k9 | fail) Split.nil))) (Qu.intro_tail f' o') (Fina.ret (Ent.cons (by with_reducible first | exact k0 | exact k1 | exact k2 | exact k3 | exact k4 | exact k5 | exact k6 | exact k7 | exact k8 | exact k9 | fail) Ent.nil))

theorem pop_spec {q : Nat} {l : List Ask} : Spc Try.prog 12 #[qp q] [] [Qu q l] (ret (rab (popF l).1) [Qu q (popF l).2]) := by
  cases l with
  | nil => exact pop_none
  | cons a l => exact pop_some

theorem all_nil : Spc Try.prog 14 #[.pointer none] [] [] (ret (.slice none 0 0) []) := by
  refine Spc.enter' (args := [.pointer none]) (T0 := [(0, .pointer none)]) Try.func14 rfl Try.ntmps14 (Nat.le_of_ble_eq_true rfl) rfl ?_
  intro w0 own
  repeat' (first
    | (with_reducible refine CW.seq ?_)
    | (with_reducible refine CW.region ?_)
    | (with_reducible refine KP.list_nil ?_)
    | (with_reducible refine KP.then_code ?_)
    | (with_reducible refine CW.skip ?_)
    | (with_reducible refine CW.ret ?_)
    | (with_reducible refine KP.then_ret ?_)
    | (with_reducible refine KP.block_ret ?_)
    | (with_reducible refine CW.block ?_)
    | (with_reducible refine KP.block_normal ?_)
    | (with_reducible refine CW.exit ?_)
    | (with_reducible refine KP.then_exit ?_)
    | (with_reducible refine KP.block_hit ?_)
    | ((with_reducible refine KP.block_miss ?_ ?_); (· rfl))
    | ((with_reducible refine CW.cond_t ?_ ?_); (· rfl))
    | ((with_reducible refine CW.cond_f ?_ ?_); (· rfl))
    | ((with_reducible apply CW.condP); (· rfl))
    | ((with_reducible apply CW.cond); (· rfl))
    | (with_reducible refine CP.exP fun _ => ?_)
    | (with_reducible refine CP.puP fun _ => ?_)
    | ((with_reducible refine CP.ret_0 ?_ ?_); (· decide))
    | ((with_reducible refine CP.ret_1 ?_ ?_); (· decide))
    | ((with_reducible refine CP.ret_2 ?_ ?_); (· decide))
    | ((with_reducible refine CP.ret_3 ?_ ?_); (· decide))
    | ((with_reducible refine CP.ret_4 ?_ ?_); (· decide))
    | (with_reducible refine CP.ret0_0 ?_)
    | (with_reducible refine CP.ret0_1 ?_)
    | (with_reducible refine CP.ret0_2 ?_)
    | (with_reducible refine CP.ret0_3 ?_)
    | (with_reducible refine CP.ret0_4 ?_)
    | ((with_reducible apply KP.guard_yes); (· rfl); (· rfl))
    | ((with_reducible apply KP.guard_no); (· rfl); (· rfl); (· decide))
    | ((with_reducible apply KP.guard_un); (· rfl); (· rfl); (· decide))
    | ((with_reducible apply KP.guard_no0); (· rfl); (· rfl))
    | ((with_reducible apply KP.guard_un0); (· rfl); (· rfl))
    | ((with_reducible apply KP.quiet); (· first | exact QY.assign rfl | exact QY.move rfl | exact QY.eqnil_s rfl rfl | exact QY.eqnil_n rfl rfl | exact QY.same (QY.eql rfl rfl) (dec_t (by omega)) | exact QY.same (QY.eql rfl rfl) (dec_f (by omega)) | exact QY.eql rfl rfl | exact QY.eq_agg rfl rfl | exact QY.eq_str rfl rfl | exact QY.eq_bool rfl rfl | exact QY.nilCheck_ptr rfl | exact QY.nilCheck_iface rfl | exact QY.nilCheck_func rfl | exact QY.fieldAddr0 rfl | exact QY.fieldAddr rfl | exact QY.load_s rfl (Rd.own (by with_reducible first | exact k0 | exact k1 | exact k2 | exact k3 | exact k4 | exact k5 | exact k6 | exact k7 | exact k8 | exact k9 | fail)) (Reads.pt1 (by rfl)) | exact QY.load_a rfl (Rd.own (by with_reducible first | exact k0 | exact k1 | exact k2 | exact k3 | exact k4 | exact k5 | exact k6 | exact k7 | exact k8 | exact k9 | fail)) Reads.pt_all (by rfl) | exact QY.len rfl | exact QY.len_str rfl | exact QY.same (QY.lss rfl rfl) (dec_t (by omega)) | exact QY.same (QY.lss rfl rfl) (dec_f (by omega)) | exact QY.lss rfl rfl | exact no_rule | exact QY.inc64 rfl rfl (by omega) | exact QY.add64 rfl rfl (by omega) | exact QY.add rfl rfl); (· decide))
    | ((with_reducible refine KP.eff ?_); (first | refine EW.alloc (by decide) ?_ | refine EW.store_s' rfl rfl (by with_reducible first | exact k0 | exact k1 | exact k2 | exact k3 | exact k4 | exact k5 | exact k6 | exact k7 | exact k8 | exact k9 | fail) (by (repeat (first | exact SetAt.head | apply SetAt.tail))) (by first | rfl | assumption) ?_ | refine EW.store_all rfl rfl (by with_reducible first | exact k0 | exact k1 | exact k2 | exact k3 | exact k4 | exact k5 | exact k6 | exact k7 | exact k8 | exact k9 | fail) (by rfl) (by rfl) (by first | rfl | decide) ?_ | refine EW.store_a' rfl rfl (by with_reducible first | exact k0 | exact k1 | exact k2 | exact k3 | exact k4 | exact k5 | exact k6 | exact k7 | exact k8 | exact k9 | fail) (by rfl) (by (repeat (first | exact SplAt.done | apply SplAt.put | apply SplAt.skip))) (by first | rfl | decide) ?_))
    | ((with_reducible refine CW.draw (i := 7) ?_ [[], [], [1], [1, 2], [1, 2, 3], [], [1, 2, 3, 4, 5], [1, 2, 3, 4, 5, 6], [0, 1, 2, 3, 4, 5, 6, 7], [0, 1, 2, 3, 4, 5, 6, 7, 8]] ?_ ?_ ?_ ?_); (· rfl); (· kernel_rfl); (· kernel_rfl); (· repeat (first | exact NoHang.post | refine NoHang.then ?_ | refine NoHang.block ?_)); refine DW.pure 0 rfl (by kernel_rfl) rfl (by decide) (fun _ => (by first | exact QG.plain (QY.move rfl))) ?_; refine DW.pure 1 rfl (by kernel_rfl) rfl (by decide) (fun _ => (by first | exact QG.plain (QY.move rfl))) ?_; refine DW.pure 2 rfl (by kernel_rfl) rfl (by decide) (fun _ => (by first | exact QG.plain (QY.nilCheck_ptr rfl) | exact QG.plain (QY.nilCheck_iface rfl) | exact QG.plain (QY.nilCheck_func rfl))) ?_; refine DW.pure 3 rfl (by kernel_rfl) rfl (by decide) (fun _ => (by first | exact QG.plain (QY.fieldAddr0 rfl) | exact QG.plain (QY.fieldAddr rfl))) ?_; refine DW.mem 4 rfl (by kernel_rfl) rfl (by decide) rfl (by first | exact QG.plain (QY.load_s rfl (Rd.own (by with_reducible first | exact k0 | exact k1 | exact k2 | exact k3 | exact k4 | exact k5 | exact k6 | exact k7 | exact k8 | exact k9 | fail)) (Reads.pt1 (by rfl))) | exact QG.plain (QY.load_a rfl (Rd.own (by with_reducible first | exact k0 | exact k1 | exact k2 | exact k3 | exact k4 | exact k5 | exact k6 | exact k7 | exact k8 | exact k9 | fail)) Reads.pt_all (by rfl))) ?_; refine DW.mem 5 rfl (by kernel_rfl) rfl (by decide) rfl (by first | exact QG.plain (QY.load_s rfl (Rd.own (by with_reducible first | exact k0 | exact k1 | exact k2 | exact k3 | exact k4 | exact k5 | exact k6 | exact k7 | exact k8 | exact k9 | fail)) (Reads.pt1 (by rfl))) | exact QG.plain (QY.load_a rfl (Rd.own (by with_reducible first | exact k0 | exact k1 | exact k2 | exact k3 | exact k4 | exact k5 | exact k6 | exact k7 | exact k8 | exact k9 | fail)) Reads.pt_all (by rfl))) ?_; refine DW.mem 6 rfl (by kernel_rfl) rfl (by decide) rfl (by first | exact QG.plain (no_rule)) ?_; refine DW.exec 7 rfl (by kernel_rfl) rfl ?_; intro hdk; (first | (refine EW.buildSlice1_s (by decide) rfl (by first | rfl | assumption) rfl ?_) | (refine EW.buildSlice1_a (by decide) rfl (by rfl) (by rfl) (by decide) (by decide) ?_)); (repeat' (first | (intro gnew) | (refine CP.exP fun _ => ?_) | (refine CP.puP fun _ => ?_) | (refine CP.ret_0 (by decide) ?_) | (refine CP.ret_1 (by decide) ?_) | (refine CP.ret_2 (by decide) ?_) | (refine CP.ret_3 (by decide) ?_) | (refine CP.ret_4 (by decide) ?_) | (refine CP.ret0_0 ?_) | (refine CP.ret0_1 ?_) | (refine CP.ret0_2 ?_) | (refine CP.ret0_3 ?_) | (refine CP.ret0_4 ?_))); refine DK.mk hdk (by exact ObE.nil) ?_; clear hdk; refine DW.exec 8 rfl (by kernel_rfl) rfl ?_; intro hdk; (first | (refine (no_rule_for_call))); (repeat' (first | (intro gnew) | (refine CP.exP fun _ => ?_) | (refine CP.puP fun _ => ?_) | (refine CP.ret_0 (by decide) ?_) | (refine CP.ret_1 (by decide) ?_) | (refine CP.ret_2 (by decide) ?_) | (refine CP.ret_3 (by decide) ?_) | (refine CP.ret_4 (by decide) ?_) | (refine CP.ret0_0 ?_) | (refine CP.ret0_1 ?_) | (refine CP.ret0_2 ?_) | (refine CP.ret0_3 ?_) | (refine CP.ret0_4 ?_))); refine DK.mk hdk (by exact ObE.nil) ?_; clear hdk; refine DW.pure 9 rfl (by kernel_rfl) rfl (by decide) (fun _ => (by first | exact QG.plain (QY.assign rfl))) ?_; refine DW.done (by kernel_rfl) ?_)
    | ((with_reducible apply KP.fin1); (· rfl); (· rfl))
    | ((with_reducible apply KP.fin2); (· rfl); (· rfl); (· rfl))
    | ((with_reducible refine KP.fin0 ?_ ?_); (· rfl))
    | ((with_reducible refine KP.fin0r ?_ ?_); (· rfl))
    | (intro _))
  exact Fina.ret .nil
theorem QF.find {l : List Ask} {m : List (Place × Ask)} (f : QF l m) {i : Nat} {a : Ask} (h : l[i]? = some a) : mget m a.place = some a := by
  rw [f.get]
  have hn := f.nd
  clear f
  induction l generalizing i with
  | nil => simp at h
  | cons x l ih =>
    simp only [List.map_cons, List.nodup_cons] at hn
    cases i with
    | zero => simp at h; subst h; simp [List.find?_cons]
    | succ i =>
      simp at h
      have hm : a ∈ l := List.mem_of_getElem? h
      have : ¬ x.place = a.place := fun e => hn.1 (e ▸ List.mem_map_of_mem hm)
      simp only [List.find?_cons, this, decide_false]
      exact ih h hn.2
theorem app_okA {l : List Ask} {i : Nat} {a : Ask} (h : l.length ≤ 24) : (l.take i).length + [a].length ≤ maxLen ∧ ((l.take i).length + [a].length) * 104 ≤ 140737488355328 := by
  simp [maxLen]; omega
theorem all_spec {q : Nat} {l : List Ask} : Spc Try.prog 14 #[qp q] [] [Qu q l] (exP fun s => puP (s.oneCell' = true) (ret s [row 32 11 eA s l, Qu q l])) := by
  refine Spc.enter' (args := [qp q]) (T0 := [(0, qp q)]) Try.func14 rfl Try.ntmps14 (Nat.le_of_ble_eq_true rfl) rfl ?_
  intro w0 own
  refine CW.qu fun v bm m f o => ?_
  refine CW.add (B := row 32 11 eA (.slice none 0 0) (l.take 0)) row.none ?_
  
  repeat' (first
    | (with_reducible refine CW.seq ?_)
    | (with_reducible refine CW.region ?_)
    | (with_reducible refine KP.list_nil ?_)
    | (with_reducible refine KP.then_code ?_)
    | (with_reducible refine CW.skip ?_)
    | (with_reducible refine CW.ret ?_)
    | (with_reducible refine KP.then_ret ?_)
    | (with_reducible refine KP.block_ret ?_)
    | (with_reducible refine CW.block ?_)
    | (with_reducible refine KP.block_normal ?_)
    | (with_reducible refine CW.exit ?_)
    | (with_reducible refine KP.then_exit ?_)
    | (with_reducible refine KP.block_hit ?_)
    | ((with_reducible refine KP.block_miss ?_ ?_); (· rfl))
    | ((with_reducible refine CW.cond_t ?_ ?_); (· rfl))
    | ((with_reducible refine CW.cond_f ?_ ?_); (· rfl))
    | ((with_reducible apply CW.condP); (· rfl))
    | ((with_reducible apply CW.cond); (· rfl))
    | (with_reducible refine CP.exP fun _ => ?_)
    | (with_reducible refine CP.puP fun _ => ?_)
    | ((with_reducible refine CP.ret_0 ?_ ?_); (· decide))
    | ((with_reducible refine CP.ret_1 ?_ ?_); (· decide))
    | ((with_reducible refine CP.ret_2 ?_ ?_); (· decide))
    | ((with_reducible refine CP.ret_3 ?_ ?_); (· decide))
    | ((with_reducible refine CP.ret_4 ?_ ?_); (· decide))
    | (with_reducible refine CP.ret0_0 ?_)
    | (with_reducible refine CP.ret0_1 ?_)
    | (with_reducible refine CP.ret0_2 ?_)
    | (with_reducible refine CP.ret0_3 ?_)
    | (with_reducible refine CP.ret0_4 ?_)
    | ((with_reducible apply KP.guard_yes); (· rfl); (· rfl))
    | ((with_reducible apply KP.guard_no); (· rfl); (· rfl); (· decide))
    | ((with_reducible apply KP.guard_un); (· rfl); (· rfl); (· decide))
    | ((with_reducible apply KP.guard_no0); (· rfl); (· rfl))
    | ((with_reducible apply KP.guard_un0); (· rfl); (· rfl))
    | ((with_reducible apply KP.quiet); (· first | exact QY.assign rfl | exact QY.move rfl | exact QY.eqnil_s rfl rfl | exact QY.eqnil_n rfl rfl | exact QY.same (QY.eql rfl rfl) (dec_t (by omega)) | exact QY.same (QY.eql rfl rfl) (dec_f (by omega)) | exact QY.eql rfl rfl | exact QY.eq_agg rfl rfl | exact QY.eq_str rfl rfl | exact QY.eq_bool rfl rfl | exact QY.nilCheck_ptr rfl | exact QY.nilCheck_iface rfl | exact QY.nilCheck_func rfl | exact QY.fieldAddr0 rfl | exact QY.fieldAddr rfl | exact QY.load_s rfl (Rd.own (by with_reducible first | exact k0 | exact k1 | exact k2 | exact k3 | exact k4 | exact k5 | exact k6 | exact k7 | exact k8 | exact k9 | fail)) (Reads.pt1 (by rfl)) | exact QY.load_a rfl (Rd.own (by with_reducible first | exact k0 | exact k1 | exact k2 | exact k3 | exact k4 | exact k5 | exact k6 | exact k7 | exact k8 | exact k9 | fail)) Reads.pt_all (by rfl) | exact QY.len_row rfl (Rd.own (by with_reducible first | exact k0 | exact k1 | exact k2 | exact k3 | exact k4 | exact k5 | exact k6 | exact k7 | exact k8 | exact k9 | fail)) RowL.row | exact QY.len rfl | exact QY.len_str rfl | exact QY.same (QY.lss rfl rfl) (dec_t (by omega)) | exact QY.same (QY.lss rfl rfl) (dec_f (by omega)) | exact QY.lss rfl rfl | exact no_rule | exact QY.inc64 rfl rfl (by omega) | exact QY.add64 rfl rfl (by omega) | exact QY.add rfl rfl); (· decide))
    | ((with_reducible refine KP.eff ?_); (first | refine EW.alloc (by decide) ?_ | refine EW.store_s' rfl rfl (by with_reducible first | exact k0 | exact k1 | exact k2 | exact k3 | exact k4 | exact k5 | exact k6 | exact k7 | exact k8 | exact k9 | fail) (by (repeat (first | exact SetAt.head | apply SetAt.tail))) (by first | rfl | assumption) ?_ | refine EW.store_all rfl rfl (by with_reducible first | exact k0 | exact k1 | exact k2 | exact k3 | exact k4 | exact k5 | exact k6 | exact k7 | exact k8 | exact k9 | fail) (by rfl) (by rfl) (by first | rfl | decide) ?_ | refine EW.store_a' rfl rfl (by with_reducible first | exact k0 | exact k1 | exact k2 | exact k3 | exact k4 | exact k5 | exact k6 | exact k7 | exact k8 | exact k9 | fail) (by rfl) (by (repeat (first | exact SplAt.done | apply SplAt.put | apply SplAt.skip))) (by first | rfl | decide) ?_))
    | ((with_reducible refine CW.draw (i := 7) ?_ [[], [], [1], [1, 2], [1, 2, 3], [], [1, 2, 3, 4, 5], [1, 2, 3, 4, 5, 6], [0, 1, 2, 3, 4, 5, 6, 7], [0, 1, 2, 3, 4, 5, 6, 7, 8]] ?_ ?_ ?_ ?_); (· rfl); (· kernel_rfl); (· kernel_rfl); (· repeat (first | exact NoHang.post | refine NoHang.then ?_ | refine NoHang.block ?_)); refine DW.pure 0 rfl (by kernel_rfl) rfl (by decide) (fun _ => (by first | exact QG.plain (QY.move rfl))) ?_; refine DW.pure 1 rfl (by kernel_rfl) rfl (by decide) (fun _ => (by first | exact QG.plain (QY.move rfl))) ?_; refine DW.pure 2 rfl (by kernel_rfl) rfl (by decide) (fun _ => (by first | exact QG.plain (QY.nilCheck_ptr rfl) | exact QG.plain (QY.nilCheck_iface rfl) | exact QG.plain (QY.nilCheck_func rfl))) ?_; refine DW.pure 3 rfl (by kernel_rfl) rfl (by decide) (fun _ => (by first | exact QG.plain (QY.fieldAddr0 rfl) | exact QG.plain (QY.fieldAddr rfl))) ?_; refine DW.mem 4 rfl (by kernel_rfl) rfl (by decide) rfl (by first | exact QG.plain (QY.load_s rfl (Rd.own (by with_reducible first | exact k0 | exact k1 | exact k2 | exact k3 | exact k4 | exact k5 | exact k6 | exact k7 | exact k8 | exact k9 | fail)) (Reads.pt1 (by rfl))) | exact QG.plain (QY.load_a rfl (Rd.own (by with_reducible first | exact k0 | exact k1 | exact k2 | exact k3 | exact k4 | exact k5 | exact k6 | exact k7 | exact k8 | exact k9 | fail)) Reads.pt_all (by rfl))) ?_; refine DW.mem 5 rfl (by kernel_rfl) rfl (by decide) rfl (by first | exact QG.plain (QY.load_s rfl (Rd.own (by with_reducible first | exact k0 | exact k1 | exact k2 | exact k3 | exact k4 | exact k5 | exact k6 | exact k7 | exact k8 | exact k9 | fail)) (Reads.pt1 (by rfl))) | exact QG.plain (QY.load_a rfl (Rd.own (by with_reducible first | exact k0 | exact k1 | exact k2 | exact k3 | exact k4 | exact k5 | exact k6 | exact k7 | exact k8 | exact k9 | fail)) Reads.pt_all (by rfl))) ?_; refine DW.mem 6 rfl (by kernel_rfl) rfl (by decide) rfl (by first | exact QG.plain (no_rule)) ?_; refine DW.exec 7 rfl (by kernel_rfl) rfl ?_; intro hdk; (first | (refine EW.buildSlice1_s (by decide) rfl (by first | rfl | assumption) rfl ?_) | (refine EW.buildSlice1_a (by decide) rfl (by rfl) (by rfl) (by decide) (by decide) ?_)); (repeat' (first | (intro gnew) | (refine CP.exP fun _ => ?_) | (refine CP.puP fun _ => ?_) | (refine CP.ret_0 (by decide) ?_) | (refine CP.ret_1 (by decide) ?_) | (refine CP.ret_2 (by decide) ?_) | (refine CP.ret_3 (by decide) ?_) | (refine CP.ret_4 (by decide) ?_) | (refine CP.ret0_0 ?_) | (refine CP.ret0_1 ?_) | (refine CP.ret0_2 ?_) | (refine CP.ret0_3 ?_) | (refine CP.ret0_4 ?_))); refine DK.mk hdk (by exact ObE.nil) ?_; clear hdk; refine DW.exec 8 rfl (by kernel_rfl) rfl ?_; intro hdk; (first | (refine (no_rule_for_call))); (repeat' (first | (intro gnew) | (refine CP.exP fun _ => ?_) | (refine CP.puP fun _ => ?_) | (refine CP.ret_0 (by decide) ?_) | (refine CP.ret_1 (by decide) ?_) | (refine CP.ret_2 (by decide) ?_) | (refine CP.ret_3 (by decide) ?_) | (refine CP.ret_4 (by decide) ?_) | (refine CP.ret0_0 ?_) | (refine CP.ret0_1 ?_) | (refine CP.ret0_2 ?_) | (refine CP.ret0_3 ?_) | (refine CP.ret0_4 ?_))); refine DK.mk hdk (by exact ObE.nil) ?_; clear hdk; refine DW.pure 9 rfl (by kernel_rfl) rfl (by decide) (fun _ => (by first | exact QG.plain (QY.assign rfl))) ?_; refine DW.done (by kernel_rfl) ?_)
    | ((with_reducible apply KP.fin1); (· rfl); (· rfl))
    | ((with_reducible apply KP.fin2); (· rfl); (· rfl); (· rfl))
    | ((with_reducible refine KP.fin0 ?_ ?_); (· rfl))
    | ((with_reducible refine KP.fin0r ?_ ?_); (· rfl))
    | (intro _))
  refine CW.loop (X := Nat × Value) (ks := [0, 11, 12, 13, 3]) (fun z => [(0, qp q), (11, v), (12, iv (l.map Ask.place).length), (13, iv z.1), (3, z.2)]) (fun z => [row 32 11 eA z.2 (l.take z.1), pt q 53 [v, .map (some bm)], row 56 2 eP v (l.map Ask.place), mapA pv av bm m])
    (fun z => z.1 ≤ l.length ∧ z.2.oneCell' = true) (fun z => l.length - z.1) (0, .slice none 0 0) ⟨by simp, rfl⟩ (by repeat first | exact Keeps.nil | (apply Keeps.cons; (· rfl))) (Ent.cons (by with_reducible first | exact k0 | exact k1 | exact k2 | exact k3 | exact k4 | exact k5 | exact k6 | exact k7 | exact k8 | exact k9 | fail) (Ent.cons (by with_reducible first | exact k0 | exact k1 | exact k2 | exact k3 | exact k4 | exact k5 | exact k6 | exact k7 | exact k8 | exact k9 | fail) (Ent.cons (by with_reducible first | exact k0 | exact k1 | exact k2 | exact k3 | exact k4 | exact k5 | exact k6 | exact k7 | exact k8 | exact k9 | fail) (Ent.cons (by with_reducible first | exact k0 | exact k1 | exact k2 | exact k3 | exact k4 | exact k5 | exact k6 | exact k7 | exact k8 | exact k9 | fail) Ent.nil)))) ?_
  rintro ⟨i, s⟩ ⟨hi, hs⟩
  have h24 := f.len
  have hml : (l.map Ask.place).length = l.length := by simp
  dsimp only at hi hs ⊢
  rcases Nat.lt_or_ge i l.length with hlt | hge
  · obtain ⟨a, ha⟩ : ∃ a, l[i]? = some a := ⟨l[i], by simp [hlt]⟩
    have hk := f.find ha
    have hp : (l.map Ask.place)[i]? = some a.place := by simp [ha]
    have hap := app_okA (l := l) (i := i) (a := a) h24
    
    
    
    
    repeat' (first
    | (with_reducible refine CW.seq ?_)
    | (with_reducible refine CW.region ?_)
    | (with_reducible refine KP.list_nil ?_)
    | (with_reducible refine KP.then_code ?_)
    | (with_reducible refine CW.skip ?_)
    | (with_reducible refine CW.ret ?_)
    | (with_reducible refine KP.then_ret ?_)
    | (with_reducible refine KP.block_ret ?_)
    | (with_reducible refine CW.block ?_)
    | (with_reducible refine KP.block_normal ?_)
    | (with_reducible refine CW.exit ?_)
    | (with_reducible refine KP.then_exit ?_)
    | (with_reducible refine KP.block_hit ?_)
    | ((with_reducible refine KP.block_miss ?_ ?_); (· rfl))
    | ((with_reducible refine CW.cond_t ?_ ?_); (· rfl))
    | ((with_reducible refine CW.cond_f ?_ ?_); (· rfl))
    | ((with_reducible apply CW.condP); (· rfl))
    | ((with_reducible apply CW.cond); (· rfl))
    | (with_reducible refine CP.exP fun _ => ?_)
    | (with_reducible refine CP.puP fun _ => ?_)
    | ((with_reducible refine CP.ret_0 ?_ ?_); (· decide))
    | ((with_reducible refine CP.ret_1 ?_ ?_); (· decide))
    | ((with_reducible refine CP.ret_2 ?_ ?_); (· decide))
    | ((with_reducible refine CP.ret_3 ?_ ?_); (· decide))
    | ((with_reducible refine CP.ret_4 ?_ ?_); (· decide))
    | (with_reducible refine CP.ret0_0 ?_)
    | (with_reducible refine CP.ret0_1 ?_)
    | (with_reducible refine CP.ret0_2 ?_)
    | (with_reducible refine CP.ret0_3 ?_)
    | (with_reducible refine CP.ret0_4 ?_)
    | ((with_reducible apply KP.guard_yes); (· rfl); (· rfl))
    | ((with_reducible apply KP.guard_no); (· rfl); (· rfl); (· decide))
    | ((with_reducible apply KP.guard_un); (· rfl); (· rfl); (· decide))
    | ((with_reducible apply KP.guard_no0); (· rfl); (· rfl))
    | ((with_reducible apply KP.guard_un0); (· rfl); (· rfl))
    | ((with_reducible apply KP.quiet); (· first | exact QY.assign rfl | exact QY.move rfl | exact QY.eqnil_s rfl rfl | exact QY.eqnil_n rfl rfl | exact QY.same (QY.eql rfl rfl) (dec_t (by omega)) | exact QY.same (QY.eql rfl rfl) (dec_f (by omega)) | exact QY.eql rfl rfl | exact QY.eq_agg rfl rfl | exact QY.eq_str rfl rfl | exact QY.eq_bool rfl rfl | exact QY.nilCheck_ptr rfl | exact QY.nilCheck_iface rfl | exact QY.nilCheck_func rfl | exact QY.fieldAddr0 rfl | exact QY.fieldAddr rfl | exact QY.load_a (cs := eP a.place) rfl (Rd.own (by with_reducible first | exact k0 | exact k1 | exact k2 | exact k3 | exact k4 | exact k5 | exact k6 | exact k7 | exact k8 | exact k9 | fail)) (Reads.row (i := i) (x := a.place) (enc := eP) RowL.row hp) (by rfl) | exact QY.load_s rfl (Rd.own (by with_reducible first | exact k0 | exact k1 | exact k2 | exact k3 | exact k4 | exact k5 | exact k6 | exact k7 | exact k8 | exact k9 | fail)) (Reads.pt1 (by rfl)) | exact QY.load_a rfl (Rd.own (by with_reducible first | exact k0 | exact k1 | exact k2 | exact k3 | exact k4 | exact k5 | exact k6 | exact k7 | exact k8 | exact k9 | fail)) Reads.pt_all (by rfl) | exact QY.len_row rfl (Rd.own (by with_reducible first | exact k0 | exact k1 | exact k2 | exact k3 | exact k4 | exact k5 | exact k6 | exact k7 | exact k8 | exact k9 | fail)) RowL.row | exact QY.len rfl | exact QY.len_str rfl | exact QY.same (QY.lss rfl rfl) (dec_t (by omega)) | exact QY.same (QY.lss rfl rfl) (dec_f (by omega)) | exact QY.lss rfl rfl | exact QY.index (i := i) rfl rfl (Rd.own (by with_reducible first | exact k0 | exact k1 | exact k2 | exact k3 | exact k4 | exact k5 | exact k6 | exact k7 | exact k8 | exact k9 | fail)) (RowL.row (n := 2)) (by omega) | exact QY.inc64 rfl rfl (by omega) | exact QY.add64 rfl rfl (by omega) | exact QY.add rfl rfl); (· decide))
    | ((with_reducible refine KP.eff ?_); (first | refine EW.alloc (by decide) ?_ | refine EW.store_s' rfl rfl (by with_reducible first | exact k0 | exact k1 | exact k2 | exact k3 | exact k4 | exact k5 | exact k6 | exact k7 | exact k8 | exact k9 | fail) (by (repeat (first | exact SetAt.head | apply SetAt.tail))) (by first | rfl | assumption) ?_ | refine EW.store_all rfl rfl (by with_reducible first | exact k0 | exact k1 | exact k2 | exact k3 | exact k4 | exact k5 | exact k6 | exact k7 | exact k8 | exact k9 | fail) (by rfl) (by rfl) (by first | rfl | decide) ?_ | refine EW.store_a' rfl rfl (by with_reducible first | exact k0 | exact k1 | exact k2 | exact k3 | exact k4 | exact k5 | exact k6 | exact k7 | exact k8 | exact k9 | fail) (by rfl) (by (repeat (first | exact SplAt.done | apply SplAt.put | apply SplAt.skip))) (by first | rfl | decide) ?_))
    | ((with_reducible refine CW.draw (i := 7) ?_ [[], [], [1], [1, 2], [1, 2, 3], [], [1, 2, 3, 4, 5], [1, 2, 3, 4, 5, 6], [0, 1, 2, 3, 4, 5, 6, 7], [0, 1, 2, 3, 4, 5, 6, 7, 8]] ?_ ?_ ?_ ?_); (· rfl); (· kernel_rfl); (· kernel_rfl); (· repeat (first | exact NoHang.post | refine NoHang.then ?_ | refine NoHang.block ?_)); refine DW.pure 0 rfl (by kernel_rfl) rfl (by decide) (fun _ => (by first | exact QG.plain (QY.move rfl))) ?_; refine DW.pure 1 rfl (by kernel_rfl) rfl (by decide) (fun _ => (by first | exact QG.plain (QY.move rfl))) ?_; refine DW.pure 2 rfl (by kernel_rfl) rfl (by decide) (fun _ => (by first | exact QG.plain (QY.nilCheck_ptr rfl) | exact QG.plain (QY.nilCheck_iface rfl) | exact QG.plain (QY.nilCheck_func rfl))) ?_; refine DW.pure 3 rfl (by kernel_rfl) rfl (by decide) (fun _ => (by first | exact QG.plain (QY.fieldAddr0 rfl) | exact QG.plain (QY.fieldAddr rfl))) ?_; refine DW.mem 4 rfl (by kernel_rfl) rfl (by decide) rfl (by first | exact QG.plain (QY.load_a (cs := eP a.place) rfl (Rd.own (by with_reducible first | exact k0 | exact k1 | exact k2 | exact k3 | exact k4 | exact k5 | exact k6 | exact k7 | exact k8 | exact k9 | fail)) (Reads.row (i := i) (x := a.place) (enc := eP) RowL.row hp) (by rfl)) | exact QG.plain (QY.load_s rfl (Rd.own (by with_reducible first | exact k0 | exact k1 | exact k2 | exact k3 | exact k4 | exact k5 | exact k6 | exact k7 | exact k8 | exact k9 | fail)) (Reads.pt1 (by rfl))) | exact QG.plain (QY.load_a rfl (Rd.own (by with_reducible first | exact k0 | exact k1 | exact k2 | exact k3 | exact k4 | exact k5 | exact k6 | exact k7 | exact k8 | exact k9 | fail)) Reads.pt_all (by rfl))) ?_; refine DW.mem 5 rfl (by kernel_rfl) rfl (by decide) rfl (by first | exact QG.plain (QY.load_a (cs := eP a.place) rfl (Rd.own (by with_reducible first | exact k0 | exact k1 | exact k2 | exact k3 | exact k4 | exact k5 | exact k6 | exact k7 | exact k8 | exact k9 | fail)) (Reads.row (i := i) (x := a.place) (enc := eP) RowL.row hp) (by rfl)) | exact QG.plain (QY.load_s rfl (Rd.own (by with_reducible first | exact k0 | exact k1 | exact k2 | exact k3 | exact k4 | exact k5 | exact k6 | exact k7 | exact k8 | exact k9 | fail)) (Reads.pt1 (by rfl))) | exact QG.plain (QY.load_a rfl (Rd.own (by with_reducible first | exact k0 | exact k1 | exact k2 | exact k3 | exact k4 | exact k5 | exact k6 | exact k7 | exact k8 | exact k9 | fail)) Reads.pt_all (by rfl))) ?_; refine DW.mem 6 rfl (by kernel_rfl) rfl (by decide) rfl (by first | exact QG.plain (QY.lookup_some (k := a.place) (ev' := av) rfl rfl (Rd.own (by with_reducible first | exact k0 | exact k1 | exact k2 | exact k3 | exact k4 | exact k5 | exact k6 | exact k7 | exact k8 | exact k9 | fail)) hk)) ?_; refine DW.exec 7 rfl (by kernel_rfl) rfl ?_; intro hdk; (first | (refine EW.buildSlice1_s (by decide) rfl (by first | rfl | assumption) rfl ?_) | (refine EW.buildSlice1_a (by decide) rfl (by rfl) (by rfl) (by decide) (by decide) ?_)); (repeat' (first | (intro gnew) | (refine CP.exP fun _ => ?_) | (refine CP.puP fun _ => ?_) | (refine CP.ret_0 (by decide) ?_) | (refine CP.ret_1 (by decide) ?_) | (refine CP.ret_2 (by decide) ?_) | (refine CP.ret_3 (by decide) ?_) | (refine CP.ret_4 (by decide) ?_) | (refine CP.ret0_0 ?_) | (refine CP.ret0_1 ?_) | (refine CP.ret0_2 ?_) | (refine CP.ret0_3 ?_) | (refine CP.ret0_4 ?_))); refine DK.mk hdk (by exact ObE.nil) ?_; clear hdk; refine DW.exec 8 rfl (by kernel_rfl) rfl ?_; intro hdk; (first | (refine EW.append (ys := [a]) (enc := eA) (by rfl) rfl rfl (by with_reducible first | exact k0 | exact k1 | exact k2 | exact k3 | exact k4 | exact k5 | exact k6 | exact k7 | exact k8 | exact k9 | fail) (Rd.own (by with_reducible first | exact k0 | exact k1 | exact k2 | exact k3 | exact k4 | exact k5 | exact k6 | exact k7 | exact k8 | exact k9 | fail)) (RowL.pt (xs := [a]) (by rfl) (by simp [maxLen])) hap.1 hap.2 (by decide) ?_)); (repeat' (first | (intro gnew) | (refine CP.exP fun _ => ?_) | (refine CP.puP fun _ => ?_) | (refine CP.ret_0 (by decide) ?_) | (refine CP.ret_1 (by decide) ?_) | (refine CP.ret_2 (by decide) ?_) | (refine CP.ret_3 (by decide) ?_) | (refine CP.ret_4 (by decide) ?_) | (refine CP.ret0_0 ?_) | (refine CP.ret0_1 ?_) | (refine CP.ret0_2 ?_) | (refine CP.ret0_3 ?_) | (refine CP.ret0_4 ?_))); refine DK.mk hdk (by exact ObE.nil) ?_; clear hdk; refine DW.pure 9 rfl (by kernel_rfl) rfl (by decide) (fun _ => (by first | exact QG.plain (QY.assign rfl))) ?_; refine DW.done (by kernel_rfl) ?_)
    | ((with_reducible apply KP.fin1); (· rfl); (· rfl))
    | ((with_reducible apply KP.fin2); (· rfl); (· rfl); (· rfl))
    | ((with_reducible refine KP.fin0 ?_ ?_); (· rfl))
    | ((with_reducible refine KP.fin0r ?_ ?_); (· rfl))
    | (intro _))
    rename_i v'
    have e : l.take i ++ [a] = l.take (i + 1) := by rw [List.take_add_one, ha]; rfl
    rw [e]
    exact KP.round (ks := [0, 11, 12, 13, 3]) (i + 1, v') ⟨by omega, by assumption⟩ (by simp only; omega) (by repeat first | exact Keeps.nil | (apply Keeps.cons; (· rfl))) (Ent.cons (by with_reducible first | exact k0 | exact k1 | exact k2 | exact k3 | exact k4 | exact k5 | exact k6 | exact k7 | exact k8 | exact k9 | fail) (Ent.cons (by with_reducible first | exact k0 | exact k1 | exact k2 | exact k3 | exact k4 | exact k5 | exact k6 | exact k7 | exact k8 | exact k9 | fail) (Ent.cons (by with_reducible first | exact k0 | exact k1 | exact k2 | exact k3 | exact k4 | exact k5 | exact k6 | exact k7 | exact k8 | exact k9 | fail) (Ent.cons (by with_reducible first | exact k0 | exact k1 | exact k2 | exact k3 | exact k4 | exact k5 | exact k6 | exact k7 | exact k8 | exact k9 | fail) Ent.nil))))
  · repeat' (first
    | (with_reducible refine CW.seq ?_)
    | (with_reducible refine CW.region ?_)
    | (with_reducible refine KP.list_nil ?_)
    | (with_reducible refine KP.then_code ?_)
    | (with_reducible refine CW.skip ?_)
    | (with_reducible refine CW.ret ?_)
    | (with_reducible refine KP.then_ret ?_)
    | (with_reducible refine KP.block_ret ?_)
    | (with_reducible refine CW.block ?_)
    | (with_reducible refine KP.block_normal ?_)
    | (with_reducible refine CW.exit ?_)
    | (with_reducible refine KP.then_exit ?_)
    | (with_reducible refine KP.block_hit ?_)
    | ((with_reducible refine KP.block_miss ?_ ?_); (· rfl))
    | ((with_reducible refine CW.cond_t ?_ ?_); (· rfl))
    | ((with_reducible refine CW.cond_f ?_ ?_); (· rfl))
    | ((with_reducible apply CW.condP); (· rfl))
    | ((with_reducible apply CW.cond); (· rfl))
    | (with_reducible refine CP.exP fun _ => ?_)
    | (with_reducible refine CP.puP fun _ => ?_)
    | ((with_reducible refine CP.ret_0 ?_ ?_); (· decide))
    | ((with_reducible refine CP.ret_1 ?_ ?_); (· decide))
    | ((with_reducible refine CP.ret_2 ?_ ?_); (· decide))
    | ((with_reducible refine CP.ret_3 ?_ ?_); (· decide))
    | ((with_reducible refine CP.ret_4 ?_ ?_); (· decide))
    | (with_reducible refine CP.ret0_0 ?_)
    | (with_reducible refine CP.ret0_1 ?_)
    | (with_reducible refine CP.ret0_2 ?_)
    | (with_reducible refine CP.ret0_3 ?_)
    | (with_reducible refine CP.ret0_4 ?_)
    | ((with_reducible apply KP.guard_yes); (· rfl); (· rfl))
    | ((with_reducible apply KP.guard_no); (· rfl); (· rfl); (· decide))
    | ((with_reducible apply KP.guard_un); (· rfl); (· rfl); (· decide))
    | ((with_reducible apply KP.guard_no0); (· rfl); (· rfl))
    | ((with_reducible apply KP.guard_un0); (· rfl); (· rfl))
    | ((with_reducible apply KP.quiet); (· first | exact QY.assign rfl | exact QY.move rfl | exact QY.eqnil_s rfl rfl | exact QY.eqnil_n rfl rfl | exact QY.same (QY.eql rfl rfl) (dec_t (by omega)) | exact QY.same (QY.eql rfl rfl) (dec_f (by omega)) | exact QY.eql rfl rfl | exact QY.eq_agg rfl rfl | exact QY.eq_str rfl rfl | exact QY.eq_bool rfl rfl | exact QY.nilCheck_ptr rfl | exact QY.nilCheck_iface rfl | exact QY.nilCheck_func rfl | exact QY.fieldAddr0 rfl | exact QY.fieldAddr rfl | exact QY.load_a (cs := eP a.place) rfl (Rd.own (by with_reducible first | exact k0 | exact k1 | exact k2 | exact k3 | exact k4 | exact k5 | exact k6 | exact k7 | exact k8 | exact k9 | fail)) (Reads.row (i := i) (x := a.place) (enc := eP) RowL.row hp) (by rfl) | exact QY.load_s rfl (Rd.own (by with_reducible first | exact k0 | exact k1 | exact k2 | exact k3 | exact k4 | exact k5 | exact k6 | exact k7 | exact k8 | exact k9 | fail)) (Reads.pt1 (by rfl)) | exact QY.load_a rfl (Rd.own (by with_reducible first | exact k0 | exact k1 | exact k2 | exact k3 | exact k4 | exact k5 | exact k6 | exact k7 | exact k8 | exact k9 | fail)) Reads.pt_all (by rfl) | exact QY.len_row rfl (Rd.own (by with_reducible first | exact k0 | exact k1 | exact k2 | exact k3 | exact k4 | exact k5 | exact k6 | exact k7 | exact k8 | exact k9 | fail)) RowL.row | exact QY.len rfl | exact QY.len_str rfl | exact QY.same (QY.lss rfl rfl) (dec_t (by omega)) | exact QY.same (QY.lss rfl rfl) (dec_f (by omega)) | exact QY.lss rfl rfl | exact QY.index (i := i) rfl rfl (Rd.own (by with_reducible first | exact k0 | exact k1 | exact k2 | exact k3 | exact k4 | exact k5 | exact k6 | exact k7 | exact k8 | exact k9 | fail)) (RowL.row (n := 2)) (by omega) | exact QY.inc64 rfl rfl (by omega) | exact QY.add64 rfl rfl (by omega) | exact QY.add rfl rfl); (· decide))
    | ((with_reducible refine KP.eff ?_); (first | refine EW.alloc (by decide) ?_ | refine EW.store_s' rfl rfl (by with_reducible first | exact k0 | exact k1 | exact k2 | exact k3 | exact k4 | exact k5 | exact k6 | exact k7 | exact k8 | exact k9 | fail) (by (repeat (first | exact SetAt.head | apply SetAt.tail))) (by first | rfl | assumption) ?_ | refine EW.store_all rfl rfl (by with_reducible first | exact k0 | exact k1 | exact k2 | exact k3 | exact k4 | exact k5 | exact k6 | exact k7 | exact k8 | exact k9 | fail) (by rfl) (by rfl) (by first | rfl | decide) ?_ | refine EW.store_a' rfl rfl (by with_reducible first | exact k0 | exact k1 | exact k2 | exact k3 | exact k4 | exact k5 | exact k6 | exact k7 | exact k8 | exact k9 | fail) (by rfl) (by (repeat (first | exact SplAt.done | apply SplAt.put | apply SplAt.skip))) (by first | rfl | decide) ?_))
    | ((with_reducible refine CW.draw (i := 7) ?_ [[], [], [1], [1, 2], [1, 2, 3], [], [1, 2, 3, 4, 5], [1, 2, 3, 4, 5, 6], [0, 1, 2, 3, 4, 5, 6, 7], [0, 1, 2, 3, 4, 5, 6, 7, 8]] ?_ ?_ ?_ ?_); (· rfl); (· kernel_rfl); (· kernel_rfl); (· repeat (first | exact NoHang.post | refine NoHang.then ?_ | refine NoHang.block ?_)); refine DW.pure 0 rfl (by kernel_rfl) rfl (by decide) (fun _ => (by first | exact QG.plain (QY.move rfl))) ?_; refine DW.pure 1 rfl (by kernel_rfl) rfl (by decide) (fun _ => (by first | exact QG.plain (QY.move rfl))) ?_; refine DW.pure 2 rfl (by kernel_rfl) rfl (by decide) (fun _ => (by first | exact QG.plain (QY.nilCheck_ptr rfl) | exact QG.plain (QY.nilCheck_iface rfl) | exact QG.plain (QY.nilCheck_func rfl))) ?_; refine DW.pure 3 rfl (by kernel_rfl) rfl (by decide) (fun _ => (by first | exact QG.plain (QY.fieldAddr0 rfl) | exact QG.plain (QY.fieldAddr rfl))) ?_; refine DW.mem 4 rfl (by kernel_rfl) rfl (by decide) rfl (by first | exact QG.plain (QY.load_a (cs := eP a.place) rfl (Rd.own (by with_reducible first | exact k0 | exact k1 | exact k2 | exact k3 | exact k4 | exact k5 | exact k6 | exact k7 | exact k8 | exact k9 | fail)) (Reads.row (i := i) (x := a.place) (enc := eP) RowL.row hp) (by rfl)) | exact QG.plain (QY.load_s rfl (Rd.own (by with_reducible first | exact k0 | exact k1 | exact k2 | exact k3 | exact k4 | exact k5 | exact k6 | exact k7 | exact k8 | exact k9 | fail)) (Reads.pt1 (by rfl))) | exact QG.plain (QY.load_a rfl (Rd.own (by with_reducible first | exact k0 | exact k1 | exact k2 | exact k3 | exact k4 | exact k5 | exact k6 | exact k7 | exact k8 | exact k9 | fail)) Reads.pt_all (by rfl))) ?_; refine DW.mem 5 rfl (by kernel_rfl) rfl (by decide) rfl (by first | exact QG.plain (QY.load_a (cs := eP a.place) rfl (Rd.own (by with_reducible first | exact k0 | exact k1 | exact k2 | exact k3 | exact k4 | exact k5 | exact k6 | exact k7 | exact k8 | exact k9 | fail)) (Reads.row (i := i) (x := a.place) (enc := eP) RowL.row hp) (by rfl)) | exact QG.plain (QY.load_s rfl (Rd.own (by with_reducible first | exact k0 | exact k1 | exact k2 | exact k3 | exact k4 | exact k5 | exact k6 | exact k7 | exact k8 | exact k9 | fail)) (Reads.pt1 (by rfl))) | exact QG.plain (QY.load_a rfl (Rd.own (by with_reducible first | exact k0 | exact k1 | exact k2 | exact k3 | exact k4 | exact k5 | exact k6 | exact k7 | exact k8 | exact k9 | fail)) Reads.pt_all (by rfl))) ?_; refine DW.mem 6 rfl (by kernel_rfl) rfl (by decide) rfl (by first | exact QG.plain (QY.lookup_some (k := a.place) (ev' := av) rfl rfl (Rd.own (by with_reducible first | exact k0 | exact k1 | exact k2 | exact k3 | exact k4 | exact k5 | exact k6 | exact k7 | exact k8 | exact k9 | fail)) hk)) ?_; refine DW.exec 7 rfl (by kernel_rfl) rfl ?_; intro hdk; (first | (refine EW.buildSlice1_s (by decide) rfl (by first | rfl | assumption) rfl ?_) | (refine EW.buildSlice1_a (by decide) rfl (by rfl) (by rfl) (by decide) (by decide) ?_)); (repeat' (first | (intro gnew) | (refine CP.exP fun _ => ?_) | (refine CP.puP fun _ => ?_) | (refine CP.ret_0 (by decide) ?_) | (refine CP.ret_1 (by decide) ?_) | (refine CP.ret_2 (by decide) ?_) | (refine CP.ret_3 (by decide) ?_) | (refine CP.ret_4 (by decide) ?_) | (refine CP.ret0_0 ?_) | (refine CP.ret0_1 ?_) | (refine CP.ret0_2 ?_) | (refine CP.ret0_3 ?_) | (refine CP.ret0_4 ?_))); refine DK.mk hdk (by exact ObE.nil) ?_; clear hdk; refine DW.exec 8 rfl (by kernel_rfl) rfl ?_; intro hdk; (first | (refine EW.append (ys := [a]) (enc := eA) (by rfl) rfl rfl (by with_reducible first | exact k0 | exact k1 | exact k2 | exact k3 | exact k4 | exact k5 | exact k6 | exact k7 | exact k8 | exact k9 | fail) (Rd.own (by with_reducible first | exact k0 | exact k1 | exact k2 | exact k3 | exact k4 | exact k5 | exact k6 | exact k7 | exact k8 | exact k9 | fail)) (RowL.pt (xs := [a]) (by rfl) (by simp [maxLen])) hap.1 hap.2 (by decide) ?_)); (repeat' (first | (intro gnew) | (refine CP.exP fun _ => ?_) | (refine CP.puP fun _ => ?_) | (refine CP.ret_0 (by decide) ?_) | (refine CP.ret_1 (by decide) ?_) | (refine CP.ret_2 (by decide) ?_) | (refine CP.ret_3 (by decide) ?_) | (refine CP.ret_4 (by decide) ?_) | (refine CP.ret0_0 ?_) | (refine CP.ret0_1 ?_) | (refine CP.ret0_2 ?_) | (refine CP.ret0_3 ?_) | (refine CP.ret0_4 ?_))); refine DK.mk hdk (by exact ObE.nil) ?_; clear hdk; refine DW.pure 9 rfl (by kernel_rfl) rfl (by decide) (fun _ => (by first | exact QG.plain (QY.assign rfl))) ?_; refine DW.done (by kernel_rfl) ?_)
    | ((with_reducible apply KP.fin1); (· rfl); (· rfl))
    | ((with_reducible apply KP.fin2); (· rfl); (· rfl); (· rfl))
    | ((with_reducible refine KP.fin0 ?_ ?_); (· rfl))
    | ((with_reducible refine KP.fin0r ?_ ?_); (· rfl))
    | (intro _))
    rw [List.take_of_length_le hge]
    exact Fina.exP _ (Fina.puP hs (Fina.gather (Split.cons (by with_reducible first | exact k0 | exact k1 | exact k2 | exact k3 | exact k4 | exact k5 | exact k6 | exact k7 | exact k8 | exact k9 | fail) (Split.cons (by with_reducible first | exact k0 | exact k1 | exact k2 | exact k3 | exact k4 | exact k5 | exact k6 | exact k7 | exact k8 | exact k9 | fail) (Split.cons (by with_reducible first | exact k0 | exact k1 | exact k2 | exact k3 | exact k4 | exact k5 | exact k6 | exact k7 | exact k8 | exact k9 | fail) Split.nil))) (Qu.intro f o) (Fina.ret (Ent.cons (by with_reducible first | exact k0 | exact k1 | exact k2 | exact k3 | exact k4 | exact k5 | exact k6 | exact k7 | exact k8 | exact k9 | fail) (Ent.cons (by with_reducible first | exact k0 | exact k1 | exact k2 | exact k3 | exact k4 | exact k5 | exact k6 | exact k7 | exact k8 | exact k9 | fail) Ent.nil)))))

end Go.Proofs.Ytnnobondpimnpaa
