import Derived.Test.YtpmhelfdmhjnbaaM7
import Derived.Test.YtpmhelfdmhjnbaaMX
/- What every merge answers; MergeNone. -/
namespace Go.Proofs.Ytpmhelfdmhjnbaa
open Go Go.Ink
set_option linter.unusedVariables false
set_option linter.unusedSimpArgs false
attribute [local irreducible] KP QY EW CW DW QG CP Spc DK Fina wpList lessF

def itA : Item := ⟨0, ⟨#[97]⟩⟩
def itB : Item := ⟨1, ⟨#[98]⟩⟩
def itC : Item := ⟨2, ⟨#[99]⟩⟩
def aw1 : MS := ⟨3, [⟨0, 1, true, true, itC, [itA, itC]⟩, ⟨0, 0, false, false, Item.zero, []⟩], []⟩
def aw2 : MS := ⟨3, [⟨0, 1, true, true, itC, [itA, itC]⟩, ⟨0, 1, false, true, itB, [itB]⟩], []⟩
def aw3 : MS := ⟨3, [⟨0, 1, true, true, itC, [itC]⟩, ⟨0, 1, false, true, itB, []⟩], [itA, itB]⟩
theorem aw_put1 : (newF [0, 0] 3).put 0 0 [itA, itC] true = (true, aw1) := by decide +kernel
theorem aw_tell1 : aw1.tell = ([], aw1) := by decide +kernel
theorem aw_put2 : aw1.put 1 0 [itB] false = (true, aw2) := by decide +kernel
theorem aw_tell2 : aw2.tell = ([itA, itB], aw3) := by decide +kernel
theorem aw_wants : aw3.wants = [1] := by decide +kernel
theorem aw_done : aw3.done = false := by decide +kernel
theorem putE {m : Nat} {st st' : MS} {v : Value} {i seq : Int} {items : List Item} {e b : Bool} (h : st.put i seq items e = (b, st')) : Spc Try.prog 57 #[qp m, iv i, iv seq, v, .bool e] [rrow 2 eI v items] [Mg m st] (ret (.bool b) [Mg m st']) := by
  have := putM (m := m) (st := st) (v := v) (i := i) (seq := seq) (items := items) (e := e)
  rw [h] at this; exact this
theorem tellE {m : Nat} {st st' : MS} {l : List Item} (h : st.tell = (l, st')) : Spc Try.prog 66 #[qp m] [] [Mg m st] (exP fun v' => puP (v'.oneCell' = true) (ret v' [row 39 2 eI v' l, Mg m st'])) := by
  have := tellM (m := m) (st := st)
  rw [h] at this; exact this
theorem wantsE {m : Nat} {st : MS} {l : List Int} (h : st.wants = l) : Spc Try.prog 58 #[qp m] [] [Mg m st] (exP fun v' => puP (v'.oneCell' = true) (ret v' [Mg m st, row 3 1 eN v' l])) := h ▸ wantsM
theorem doneE {m : Nat} {st : MS} {b : Bool} (h : st.done = b) : Spc Try.prog 70 #[qp m] [] [Mg m st] (ret (.bool b) [Mg m st]) := h ▸ doneM
theorem newE {v : Value} {least : List Int} {n : Int} (h : 0 < least.length ∧ least.length ≤ 6 ∧ 1 ≤ n ∧ n ≤ 10) : Spc Try.prog 56 #[v, iv n] [rrow 1 eN v least] [] (exP fun m => ret (rNw (qp m) 0) [Mg m (newF least n)]) := new_ok h.1 h.2.1 h.2.2.1 h.2.2.2








theorem awakeM : Spc Try.prog 55 #[] [] [] (ret (.bool true) []) := by
  refine Spc.enter' (args := []) (T0 := []) Try.func55 rfl Try.ntmps55 (Nat.le_of_ble_eq_true rfl) rfl ?_
  intro w0 own
  have e0 : ([] : List Item).length = 0 := rfl
  repeat' (first
    | (with_reducible refine CW.seq ?_)
    | (with_reducible refine KP.then_code ?_)
    | (with_reducible refine CW.skip ?_)
    | (with_reducible refine CW.ret ?_)
    | (with_reducible refine KP.then_ret ?_)
    | (with_reducible refine KP.block_ret ?_)
    | (with_reducible refine CW.block ?_)
    | (with_reducible refine KP.block_normal ?_)
    | (with_reducible refine CW.exit ?_)
    | (with_reducible refine KP.then_exit ?_)
    | (with_reducible refine KP.block_hit ?_)
    | refine KP.bm ?_
    | refine CW.ct ?_
    | refine CW.cf ?_
    | (refine CW.cP ?_ ?_ <;> intro _ <;> try contradiction)
    | (refine CW.cs ?_ ?_ <;> intro _ <;> try contradiction)
    | (refine CW.region (i := 0) ?_ <;> refine KP.q QK.as ?_ <;> refine KP.list_nil ?_)
    | (refine CW.region (i := 1) ?_ <;> (refine KP.e ?_; ((first | refine EW.buildSlice (by decide) rfl (by decide) (by decide) (by repeat (first | exact Fills.nil | (apply Fills.scal; (· rfl); (· rfl); (· first | rfl | assumption); (· (repeat (first | exact SetAt.head | apply SetAt.tail)))) | (apply Fills.agg; (· rfl); (· rfl); (· rfl); (· (repeat (first | exact SplAt.done | apply SplAt.put | apply SplAt.skip)))))) ?_ | refine EW.buildSlice1_s (by decide) rfl (by first | rfl | assumption) rfl ?_ | refine EW.buildSlice1_a (by decide) rfl (by rfl) (by rfl) (by decide) (by decide) ?_); intro b4)) <;> (refine KP.e ?_; ((refine EK.call (newE (least := [0, 0]) (n := 3) (by decide)) ?_); repeat' first | refine CP.r ?_ | refine CP.r0 ?_ | refine CP.exP fun e5 => ?_ | refine CP.puP fun h5 => ?_)) <;> refine KP.q QK.mv ?_ <;> refine KP.q QK.ex ?_ <;> refine KP.q QK.ex ?_ <;> refine KP.q QK.as ?_ <;> refine KP.q QK.as ?_ <;> refine KP.list_nil ?_)
    | (refine CW.region (i := 2) ?_ <;> refine KP.q QK.mv ?_ <;> refine KP.q QK.nei ?_ <;> refine KP.q QK.mv ?_ <;> (first | refine KP.gn ?_ | refine KP.gu ?_ | refine KP.qy QK.mv ?_ | ((first | refine KP.gsP (t := 10) ?_ ?_ | refine KP.gs (t := 10) ?_ ?_) <;> intro _ <;> first | contradiction | refine KP.gn ?_ | refine KP.qy QK.mv ?_)) <;> (first | refine KP.gn ?_ | refine KP.gu ?_ | refine KP.qy QK.eqp ?_) <;> refine KP.q QK.pk ?_ <;> refine KP.q QK.mv ?_ <;> (first | refine KP.gn ?_ | refine KP.gu ?_ | refine KP.qy QK.mv ?_ | ((first | refine KP.gsP (t := 14) ?_ ?_ | refine KP.gs (t := 14) ?_ ?_) <;> intro _ <;> first | contradiction | refine KP.gn ?_ | refine KP.qy QK.mv ?_)) <;> (first | refine KP.gn ?_ | refine KP.gu ?_ | refine KP.qy QK.bd ?_) <;> (first | refine KP.gn ?_ | refine KP.gu ?_ | refine KP.qy QK.bd ?_) <;> (first | refine KP.gn ?_ | refine KP.gu ?_ | (refine KP.gy ?_; refine KP.e ?_; ((first | refine EW.buildSlice (by decide) rfl (by decide) (by decide) (by repeat (first | exact Fills.nil | (apply Fills.scal; (· rfl); (· rfl); (· first | rfl | assumption); (· (repeat (first | exact SetAt.head | apply SetAt.tail)))) | (apply Fills.agg; (· rfl); (· rfl); (· rfl); (· (repeat (first | exact SplAt.done | apply SplAt.put | apply SplAt.skip)))))) ?_ | refine EW.buildSlice1_s (by decide) rfl (by first | rfl | assumption) rfl ?_ | refine EW.buildSlice1_a (by decide) rfl (by rfl) (by rfl) (by decide) (by decide) ?_); intro b18))) <;> (first | refine KP.gn ?_ | refine KP.gu ?_ | (refine KP.gy ?_; refine KP.e ?_; ((first | refine EK.call (putE aw_put1) ?_ | refine EK.call (putE aw_put2) ?_); repeat' first | refine CP.r ?_ | refine CP.r0 ?_ | refine CP.exP fun e19 => ?_ | refine CP.puP fun h19 => ?_))) <;> (first | refine KP.gn ?_ | refine KP.gu ?_ | refine KP.qy QK.not ?_) <;> refine KP.q QK.pk ?_ <;> refine KP.q QK.mv ?_ <;> (first | refine KP.gn ?_ | refine KP.gu ?_ | refine KP.qy QK.mv ?_ | ((first | refine KP.gsP (t := 22) ?_ ?_ | refine KP.gs (t := 22) ?_ ?_) <;> intro _ <;> first | contradiction | refine KP.gn ?_ | refine KP.qy QK.mv ?_)) <;> (first | refine KP.gn ?_ | refine KP.gu ?_ | (refine KP.gy ?_; refine KP.e ?_; ((first | refine EK.call (tellE aw_tell1) ?_ | refine EK.call (tellE aw_tell2) ?_); repeat' first | refine CP.r ?_ | refine CP.r0 ?_ | refine CP.exP fun e24 => ?_ | refine CP.puP fun h24 => ?_))) <;> (first | refine KP.gn ?_ | refine KP.gu ?_ | refine KP.qy QK.len ?_) <;> (first | refine KP.gn ?_ | refine KP.gu ?_ | refine KP.qy QK.nei ?_) <;> refine KP.q QK.pk ?_ <;> refine KP.list_nil ?_)
    | (refine CW.region (i := 3) ?_ <;> refine KP.q QK.as ?_ <;> refine KP.list_nil ?_)
    | (refine CW.region (i := 4) ?_ <;> refine KP.q QK.mv ?_ <;> refine KP.q QK.bd ?_ <;> (refine KP.e ?_; ((first | refine EW.buildSlice (by decide) rfl (by decide) (by decide) (by repeat (first | exact Fills.nil | (apply Fills.scal; (· rfl); (· rfl); (· first | rfl | assumption); (· (repeat (first | exact SetAt.head | apply SetAt.tail)))) | (apply Fills.agg; (· rfl); (· rfl); (· rfl); (· (repeat (first | exact SplAt.done | apply SplAt.put | apply SplAt.skip)))))) ?_ | refine EW.buildSlice1_s (by decide) rfl (by first | rfl | assumption) rfl ?_ | refine EW.buildSlice1_a (by decide) rfl (by rfl) (by rfl) (by decide) (by decide) ?_); intro b30)) <;> (refine KP.e ?_; ((first | refine EK.call (putE aw_put1) ?_ | refine EK.call (putE aw_put2) ?_); repeat' first | refine CP.r ?_ | refine CP.r0 ?_ | refine CP.exP fun e31 => ?_ | refine CP.puP fun h31 => ?_)) <;> refine KP.q QK.mv ?_ <;> (first | refine KP.gn ?_ | refine KP.gu ?_ | refine KP.qy QK.mv ?_ | ((first | refine KP.gsP (t := 32) ?_ ?_ | refine KP.gs (t := 32) ?_ ?_) <;> intro _ <;> first | contradiction | refine KP.gn ?_ | refine KP.qy QK.mv ?_)) <;> (first | refine KP.gn ?_ | refine KP.gu ?_ | (refine KP.gy ?_; refine KP.e ?_; ((first | refine EK.call (tellE aw_tell1) ?_ | refine EK.call (tellE aw_tell2) ?_); repeat' first | refine CP.r ?_ | refine CP.r0 ?_ | refine CP.exP fun e34 => ?_ | refine CP.puP fun h34 => ?_))) <;> (first | refine KP.gn ?_ | refine KP.gu ?_ | refine KP.qy QK.bd ?_) <;> (first | refine KP.gn ?_ | refine KP.gu ?_ | refine KP.qy QK.bd ?_) <;> (first | refine KP.gn ?_ | refine KP.gu ?_ | (refine KP.gy ?_; refine KP.e ?_; ((first | refine EW.buildSlice (by decide) rfl (by decide) (by decide) (by repeat (first | exact Fills.nil | (apply Fills.scal; (· rfl); (· rfl); (· first | rfl | assumption); (· (repeat (first | exact SetAt.head | apply SetAt.tail)))) | (apply Fills.agg; (· rfl); (· rfl); (· rfl); (· (repeat (first | exact SplAt.done | apply SplAt.put | apply SplAt.skip)))))) ?_ | refine EW.buildSlice1_s (by decide) rfl (by first | rfl | assumption) rfl ?_ | refine EW.buildSlice1_a (by decide) rfl (by rfl) (by rfl) (by decide) (by decide) ?_); intro b37))) <;> (first | refine KP.gn ?_ | refine KP.gu ?_ | (refine KP.gy ?_; refine KP.e ?_; ((refine EK.call (sameE (xs := [itA, itB])) ?_); repeat' first | refine CP.r ?_ | refine CP.r0 ?_ | refine CP.exP fun e38 => ?_ | refine CP.puP fun h38 => ?_))) <;> refine KP.q QK.pk ?_ <;> refine KP.q QK.mv ?_ <;> (first | refine KP.gn ?_ | refine KP.gu ?_ | refine KP.qy QK.mv ?_ | ((first | refine KP.gsP (t := 40) ?_ ?_ | refine KP.gs (t := 40) ?_ ?_) <;> intro _ <;> first | contradiction | refine KP.gn ?_ | refine KP.qy QK.mv ?_)) <;> (first | refine KP.gn ?_ | refine KP.gu ?_ | (refine KP.gy ?_; refine KP.e ?_; ((refine EK.call (wantsE aw_wants) ?_); repeat' first | refine CP.r ?_ | refine CP.r0 ?_ | refine CP.exP fun e42 => ?_ | refine CP.puP fun h42 => ?_))) <;> (first | refine KP.gn ?_ | refine KP.gu ?_ | (refine KP.gy ?_; refine KP.e ?_; ((first | refine EW.buildSlice (by decide) rfl (by decide) (by decide) (by repeat (first | exact Fills.nil | (apply Fills.scal; (· rfl); (· rfl); (· first | rfl | assumption); (· (repeat (first | exact SetAt.head | apply SetAt.tail)))) | (apply Fills.agg; (· rfl); (· rfl); (· rfl); (· (repeat (first | exact SplAt.done | apply SplAt.put | apply SplAt.skip)))))) ?_ | refine EW.buildSlice1_s (by decide) rfl (by first | rfl | assumption) rfl ?_ | refine EW.buildSlice1_a (by decide) rfl (by rfl) (by rfl) (by decide) (by decide) ?_); intro b43))) <;> (first | refine KP.gn ?_ | refine KP.gu ?_ | (refine KP.gy ?_; refine KP.e ?_; ((refine EK.call (sameNE (xs := [1])) ?_); repeat' first | refine CP.r ?_ | refine CP.r0 ?_ | refine CP.exP fun e44 => ?_ | refine CP.puP fun h44 => ?_))) <;> refine KP.q QK.pk ?_ <;> refine KP.q QK.mv ?_ <;> (first | refine KP.gn ?_ | refine KP.gu ?_ | refine KP.qy QK.mv ?_ | ((first | refine KP.gsP (t := 46) ?_ ?_ | refine KP.gs (t := 46) ?_ ?_) <;> intro _ <;> first | contradiction | refine KP.gn ?_ | refine KP.qy QK.mv ?_)) <;> (first | refine KP.gn ?_ | refine KP.gu ?_ | (refine KP.gy ?_; refine KP.e ?_; ((refine EK.call (doneE aw_done) ?_); repeat' first | refine CP.r ?_ | refine CP.r0 ?_ | refine CP.exP fun e48 => ?_ | refine CP.puP fun h48 => ?_))) <;> (first | refine KP.gn ?_ | refine KP.gu ?_ | refine KP.qy QK.not ?_) <;> refine KP.q QK.pk ?_ <;> refine KP.q QK.as ?_ <;> refine KP.list_nil ?_)
    | ((with_reducible apply KP.fin1); (· rfl); (· rfl)))
  exact FA.ret

end Go.Proofs.Ytpmhelfdmhjnbaa
