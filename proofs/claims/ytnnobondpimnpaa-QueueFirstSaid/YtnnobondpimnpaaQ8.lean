import Derived.Test.YtnnobondpimnpaaQ7
import Derived.Test.YtnnobondpimnpaaInk9
/- QueueNone. -/
namespace Go.Proofs.Ytnnobondpimnpaa
open Go Go.Ink
set_option linter.unusedVariables false
set_option linter.unusedSimpArgs false
attribute [local irreducible] KP QY EW CW DW QG CP Spc DK Fina

theorem act_part {c : Actn} : ∀ j v, (eA c.a)[j]? = some v → (eC c)[0 + 3 + j]? = some v := fun j v h => by
  have : (eC c)[0 + 3 + j]? = (eA c.a)[j]? := by
    unfold eC
    rw [List.getElem?_append_right (by simp)]
    congr 1; simp
  rw [this]; exact h



theorem none_spec {c : Actn} : Spc Try.prog 7 #[cv c] [] [] (ret (.bool true) []) := by
  refine Spc.enter' (args := [cv c]) (T0 := [(0, cv c)]) Try.func7 rfl Try.ntmps7 (Nat.le_of_ble_eq_true rfl) rfl ?_
  intro w0 own
  repeat' (first
    | (with_reducible refine CW.seq ?_)
    | (with_reducible refine CW.region ?_)
    | (with_reducible refine KP.list_nil ?_)
    | (with_reducible refine KP.then_code ?_)
    | (with_reducible refine CW.skip ?_)
    | (with_reducible refine CW.ret ?_)
    | (with_reducible refine KP.then_ret ?_)
    | (with_reducible refine KP.block_ret ?_)
    | (with_reducible refine CW.block ?_)
    | (with_reducible refine KP.block_normal ?_)
    | (with_reducible refine CW.exit ?_)
    | (with_reducible refine KP.then_exit ?_)
    | (with_reducible refine KP.block_hit ?_)
    | ((with_reducible refine KP.block_miss ?_ ?_); (· rfl))
    | ((with_reducible refine CW.cond_t ?_ ?_); (· rfl))
    | ((with_reducible refine CW.cond_f ?_ ?_); (· rfl))
    | ((with_reducible apply CW.condP); (· rfl))
    | ((with_reducible apply CW.cond); (· rfl))
    | (with_reducible refine CP.exP fun _ => ?_)
    | (with_reducible refine CP.puP fun _ => ?_)
    | ((with_reducible refine CP.ret_0 ?_ ?_); (· decide))
    | ((with_reducible refine CP.ret_1 ?_ ?_); (· decide))
    | ((with_reducible refine CP.ret_2 ?_ ?_); (· decide))
    | ((with_reducible refine CP.ret_3 ?_ ?_); (· decide))
    | ((with_reducible refine CP.ret_4 ?_ ?_); (· decide))
    | (with_reducible refine CP.ret0_0 ?_)
    | (with_reducible refine CP.ret0_1 ?_)
    | (with_reducible refine CP.ret0_2 ?_)
    | (with_reducible refine CP.ret0_3 ?_)
    | (with_reducible refine CP.ret0_4 ?_)
    | ((with_reducible apply KP.guard_yes); (· rfl); (· rfl))
    | ((with_reducible apply KP.guard_no); (· rfl); (· rfl); (· decide))
    | ((with_reducible apply KP.guard_un); (· rfl); (· rfl); (· decide))
    | ((with_reducible apply KP.guard_no0); (· rfl); (· rfl))
    | ((with_reducible apply KP.guard_un0); (· rfl); (· rfl))
    | ((with_reducible apply KP.quiet); (· first | exact QY.assign rfl | exact QY.move rfl | exact QY.extract rfl rfl | exact QY.load_a (cs := eA c.a) rfl (Rd.own (by with_reducible first | exact k0 | exact k1 | exact k2 | exact k3 | exact k4 | exact k5 | exact k6 | exact k7 | exact k8 | exact k9 | fail)) (Reads.pt act_part) (by rfl) | exact QY.load_s rfl (Rd.own (by with_reducible first | exact k0 | exact k1 | exact k2 | exact k3 | exact k4 | exact k5 | exact k6 | exact k7 | exact k8 | exact k9 | fail)) (Reads.pt1 (by rfl)) | exact QY.load_a rfl (Rd.own (by with_reducible first | exact k0 | exact k1 | exact k2 | exact k3 | exact k4 | exact k5 | exact k6 | exact k7 | exact k8 | exact k9 | fail)) Reads.pt_all (by rfl) | exact QY.build (by (repeat (first | exact Fills.nil | (apply Fills.scal; (· rfl); (· rfl); (· first | rfl | assumption); (· (repeat (first | exact SetAt.head | apply SetAt.tail)))) | (apply Fills.agg; (· rfl); (· rfl); (· rfl); (· (repeat (first | exact SplAt.done | apply SplAt.put | apply SplAt.skip))))))) | exact QY.same (QY.eq_agg (enc := eA) (p := Ask.zero) (q := Ask.zero) rfl rfl) (dec_t rfl) | exact QY.eqnil_s rfl rfl | exact QY.eqnil_n rfl rfl | exact QY.same (QY.eql rfl rfl) (dec_t (by omega)) | exact QY.same (QY.eql rfl rfl) (dec_f (by omega)) | exact QY.eql rfl rfl | exact QY.eq_agg rfl rfl | exact QY.eq_str rfl rfl | exact QY.eq_bool rfl rfl | exact QY.not_t rfl | exact QY.not_f rfl | exact QY.notP rfl | exact QY.not rfl | exact QY.pick_t rfl rfl | exact QY.pick_f rfl rfl | exact QY.fieldAddr0 rfl | exact QY.fieldAddr rfl | exact QY.len rfl | exact QY.len_str rfl); (· decide))
    | ((with_reducible refine KP.eff ?_); (first | refine EW.box_s (by decide) rfl (by first | rfl | assumption) ?_ | refine EW.box_a (by decide) rfl ?_ | refine EW.call (vs := [.pointer none]) pop_nil rfl .nil .nil ?_ | refine EW.call (vs := [.pointer none]) len_nil rfl .nil .nil ?_ | refine EW.call (vs := [.pointer none]) all_nil rfl .nil .nil ?_ | refine EW.call (vs := [.pointer none, av c.a]) push_nil rfl .nil .nil ?_ | refine EW.call (vs := [.pointer none, iv c.slot, iv c.query]) stop_nil rfl .nil .nil ?_ | refine EW.call (vs := []) awake_spec rfl .nil .nil ?_ | refine EW.alloc (by decide) ?_ | refine EW.store_s' rfl rfl (by with_reducible first | exact k0 | exact k1 | exact k2 | exact k3 | exact k4 | exact k5 | exact k6 | exact k7 | exact k8 | exact k9 | fail) (by (repeat (first | exact SetAt.head | apply SetAt.tail))) (by first | rfl | assumption) ?_ | refine EW.store_all rfl rfl (by with_reducible first | exact k0 | exact k1 | exact k2 | exact k3 | exact k4 | exact k5 | exact k6 | exact k7 | exact k8 | exact k9 | fail) (by rfl) (by rfl) (by first | rfl | decide) ?_ | refine EW.store_a' rfl rfl (by with_reducible first | exact k0 | exact k1 | exact k2 | exact k3 | exact k4 | exact k5 | exact k6 | exact k7 | exact k8 | exact k9 | fail) (by rfl) (by (repeat (first | exact SplAt.done | apply SplAt.put | apply SplAt.skip))) (by first | rfl | decide) ?_))
    | ((with_reducible apply KP.fin1); (· rfl); (· rfl))
    | ((with_reducible apply KP.fin2); (· rfl); (· rfl); (· rfl))
    | ((with_reducible refine KP.fin0 ?_ ?_); (· rfl))
    | ((with_reducible refine KP.fin0r ?_ ?_); (· rfl))
    | (intro _))
  exact Fina.ret .nil

theorem queueNone_spec {c : Actn} : Spc Try.prog 7 #[cv c] [] [] (ret (.bool true) []) := none_spec
def kA : List FK := [.int .i64, .int .i64, .int .i64, .int .i64, .int .i64, .str, .int .i64, .int .i64, .bool, .int .i64, .str]
theorem decA : ∀ cs, Fits kA cs → ∃ z, eA z = cs := by
  intro cs h
  unfold kA at h
  obtain _ | ⟨⟨n0, rfl, _⟩, h⟩ := h
  obtain _ | ⟨⟨n1, rfl, _⟩, h⟩ := h
  obtain _ | ⟨⟨n2, rfl, _⟩, h⟩ := h
  obtain _ | ⟨⟨n3, rfl, _⟩, h⟩ := h
  obtain _ | ⟨⟨n4, rfl, _⟩, h⟩ := h
  obtain _ | ⟨⟨n5, rfl, _⟩, h⟩ := h
  obtain _ | ⟨⟨n6, rfl, _⟩, h⟩ := h
  obtain _ | ⟨⟨n7, rfl, _⟩, h⟩ := h
  obtain _ | ⟨⟨n8, rfl⟩, h⟩ := h
  obtain _ | ⟨⟨n9, rfl, _⟩, h⟩ := h
  obtain _ | ⟨⟨n10, rfl, _⟩, h⟩ := h
  cases h
  exact ⟨⟨n0, n1, n2, n3, n4, n5, n6, n7, n8, n9, n10⟩, rfl⟩
def kC : List FK := .int .i64 :: .int .i64 :: .int .i64 :: kA
theorem decC : ∀ cs, Fits kC cs → ∃ z, eC z = cs := by
  intro cs h
  unfold kC at h
  obtain _ | ⟨⟨n0, rfl, _⟩, h⟩ := h
  obtain _ | ⟨⟨n1, rfl, _⟩, h⟩ := h
  obtain _ | ⟨⟨n2, rfl, _⟩, h⟩ := h
  obtain ⟨a, rfl⟩ := decA _ h
  exact ⟨⟨n0, n1, n2, a⟩, rfl⟩
end Go.Proofs.Ytnnobondpimnpaa
