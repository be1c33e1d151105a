import Derived.Test.YtnnobondpimnpaaQ9
import Derived.Test.YtnnobondpimnpaaInkA
/- QueueOne. -/
namespace Go.Proofs.Ytnnobondpimnpaa
open Go Go.Ink
set_option linter.unusedVariables false
set_option linter.unusedSimpArgs false
attribute [local irreducible] KP QY EW CW DW QG CP Spc DK Fina wpList

theorem push_true {l l' : List Ask} {a : Ask} (h : pushF l a = (true, l')) : l.length ≤ l'.length ∧ l'.length ≤ l.length + 1 ∧ ∀ (k : Nat) x y, l[k]? = some x → l'[k]? = some y → x = y ∨ (y = a ∧ x.slot = a.slot ∧ x.shard = a.shard) := by
  unfold pushF at h
  split at h
  · split at h
    · split at h
      · simp at h
      · simp only [Prod.mk.injEq, true_and] at h
        subst h
        refine ⟨by simp, by simp, fun k x y hx hy => ?_⟩
        rw [List.getElem?_map, hx] at hy
        simp only [Option.map_some, Option.some.injEq] at hy
        subst hy
        split
        · rename_i hp
          right
          simpa [Ask.place] using hp
        · left; rfl
    · simp only [Prod.mk.injEq, true_and] at h
      subst h
      refine ⟨by simp, by simp, fun k x y hx hy => ?_⟩
      rw [List.getElem?_append_left (List.getElem?_eq_some_iff.1 hx).1, hx] at hy
      left; simpa using hy
  · simp at h
theorem push_as {q : Nat} {l l' : List Ask} {a : Ask} {b : Bool} (h : pushF l a = (b, l')) : Spc Try.prog 11 #[qp q, av a] [] [Qu q l] (ret (.bool b) [Qu q l']) := by
  have := push_spec (q := q) (l := l) (a := a)
  rw [h] at this; exact this
theorem two_places {l : List Ask} (h : (l.map Ask.place).Nodup) {j k : Nat} (hjk : j < k) {x y : Ask} (hx : l[j]? = some x) (hy : l[k]? = some y) : ¬ (x.slot = y.slot ∧ x.shard = y.shard) := by
  intro e
  have h1 : (l.map Ask.place)[j]? = some x.place := by simp [hx]
  have h2 : (l.map Ask.place)[k]? = some x.place := by simp [hy, Ask.place, e.1, e.2]
  have hj := (List.getElem?_eq_some_iff.1 h1)
  have hk := (List.getElem?_eq_some_iff.1 h2)
  have := List.pairwise_iff_getElem.1 h j k hj.1 hk.1 hjk
  exact this (by rw [hj.2, hk.2])







set_option maxHeartbeats 8000000 in
theorem queueOne_spec {v : Value} {xs : List Actn} : Spc Try.prog 6 #[v] [rrow 14 eC v xs] [] (ret (.bool true) []) := by
  refine Spc.enter' (args := [v]) (T0 := [(0, v)]) Try.func6 rfl Try.ntmps6 (Nat.le_of_ble_eq_true rfl) rfl ?_
  intro w0 own
  refine CW.roFact (List.Mem.head _) (fun _ h => rrow.le h) fun hxs => ?_
  cases hg : greatF xs
  · have hl := great_len hg
    repeat' (first
    | (with_reducible refine CW.seq ?_)
    | (with_reducible refine KP.then_code ?_)
    | (with_reducible refine CW.skip ?_)
    | (with_reducible refine CW.ret ?_)
    | (with_reducible refine KP.then_ret ?_)
    | (with_reducible refine KP.block_ret ?_)
    | (with_reducible refine CW.block ?_)
    | (with_reducible refine KP.block_normal ?_)
    | (with_reducible refine CW.exit ?_)
    | (with_reducible refine KP.then_exit ?_)
    | (with_reducible refine KP.block_hit ?_)
    | refine KP.bm ?_
    | refine CW.ct ?_
    | refine CW.cf ?_
    | (refine CW.cP ?_ ?_ <;> intro _ <;> try contradiction)
    | (refine CW.cs ?_ ?_ <;> intro _ <;> try contradiction)
    | (refine CW.region (i := 0) ?_ <;> refine KP.q QK.as ?_ <;> refine KP.list_nil ?_)
    | (refine CW.region (i := 1) ?_ <;> refine KP.q QK.mv ?_ <;> (refine KP.e ?_; ((first | refine EK.call (great_t hg) ?_ | refine EK.call (great_f hg) ?_); repeat' first | refine CP.r ?_ | refine CP.r0 ?_ | refine CP.exP fun e15 => ?_ | refine CP.puP fun h15 => ?_)) <;> refine KP.list_nil ?_)
    | (refine CW.region (i := 2) ?_ <;> (refine KP.e ?_; ((refine EK.call (awake_spec) ?_); repeat' first | refine CP.r ?_ | refine CP.r0 ?_ | refine CP.exP fun e16 => ?_ | refine CP.puP fun h16 => ?_)) <;> refine KP.q QK.as ?_ <;> refine KP.list_nil ?_)
    | (refine CW.region (i := 3) ?_ <;> (refine KP.e ?_; ((refine EK.call (new_spec) ?_); repeat' first | refine CP.r ?_ | refine CP.r0 ?_ | refine CP.exP fun e17 => ?_ | refine CP.puP fun h17 => ?_)) <;> refine KP.q QK.as ?_ <;> refine KP.list_nil ?_)
    | (refine CW.region (i := 4) ?_ <;> refine KP.q QK.mv ?_ <;> refine KP.q QK.eqp ?_ <;> refine KP.list_nil ?_)
    | (refine CW.region (i := 5) ?_ <;> refine KP.q QK.as ?_ <;> refine KP.list_nil ?_)
    | (refine CW.region (i := 6) ?_ <;> refine KP.q QK.as ?_ <;> refine KP.list_nil ?_)
    | ((with_reducible apply KP.fin1); (· rfl); (· rfl)))
    obtain ⟨q, rfl⟩ : ∃ q, q = e17 := ⟨_, rfl⟩
    refine CA.loop (X := Nat × List Ask) (ks := [0, 3, 4]) (fun z => [(0, v), (3, qp q), (4, iv z.1)]) (fun z => [Qu q z.2]) (fun z => z.1 ≤ xs.length) (fun z => xs.length - z.1) (0, []) (by simp) ?_
    rintro ⟨i, l⟩ hi
    try dsimp only at hi ⊢
    rcases Nat.lt_or_ge i xs.length with hlt | hge
    · obtain ⟨c, hc⟩ : ∃ c, xs[i]? = some c := ⟨xs[i], by simp [hlt]⟩
      repeat' (first
    | (with_reducible refine CW.seq ?_)
    | (with_reducible refine KP.then_code ?_)
    | (with_reducible refine CW.skip ?_)
    | (with_reducible refine CW.ret ?_)
    | (with_reducible refine KP.then_ret ?_)
    | (with_reducible refine KP.block_ret ?_)
    | (with_reducible refine CW.block ?_)
    | (with_reducible refine KP.block_normal ?_)
    | (with_reducible refine CW.exit ?_)
    | (with_reducible refine KP.then_exit ?_)
    | (with_reducible refine KP.block_hit ?_)
    | refine KP.bm ?_
    | refine CW.ct ?_
    | refine CW.cf ?_
    | (refine CW.cP ?_ ?_ <;> intro _ <;> try contradiction)
    | (refine CW.cs ?_ ?_ <;> intro _ <;> try contradiction)
    | (refine CW.region (i := 7) ?_ <;> refine KP.q QK.mv ?_ <;> refine KP.q QK.mv ?_ <;> refine KP.q QK.len ?_ <;> refine KP.q QK.lss ?_ <;> refine KP.list_nil ?_)
    | (refine CW.region (i := 9) ?_ <;> refine KP.q QK.mv ?_ <;> (refine KP.e ?_; ((refine EK.call (all_spec) ?_); repeat' first | refine CP.r ?_ | refine CP.r0 ?_ | refine CP.exP fun e27 => ?_ | refine CP.puP fun h27 => ?_)) <;> refine KP.q QK.as ?_ <;> refine KP.list_nil ?_)
    | (refine CW.region (i := 10) ?_ <;> refine KP.q QK.mv ?_ <;> refine KP.q QK.mv ?_ <;> refine KP.q QK.ia ?_ <;> refine KP.q (by first | exact QY.load_a (cs := eA c.a) rfl (Rd.own (by with_reducible first | exact k0 | exact k1 | exact k2 | exact k3 | exact k4 | exact k5 | exact k6 | exact k7 | exact k8 | exact k9 | fail)) (Reads.pt act_part) (by rfl) | exact QK.lda) ?_ <;> (refine KP.e ?_; (refine EK.alloc ?_; intro b6)) <;> (refine KP.e ?_; (first | refine EK.st_a ?_ | refine EK.st_ra ?_ | refine EK.st_p ?_)) <;> refine KP.list_nil ?_)
    | ((with_reducible apply KP.fin1); (· rfl); (· rfl)))
      
      repeat' (first
    | (with_reducible refine CW.seq ?_)
    | (with_reducible refine KP.then_code ?_)
    | (with_reducible refine CW.skip ?_)
    | (with_reducible refine CW.ret ?_)
    | (with_reducible refine KP.then_ret ?_)
    | (with_reducible refine KP.block_ret ?_)
    | (with_reducible refine CW.block ?_)
    | (with_reducible refine KP.block_normal ?_)
    | (with_reducible refine CW.exit ?_)
    | (with_reducible refine KP.then_exit ?_)
    | (with_reducible refine KP.block_hit ?_)
    | refine KP.bm ?_
    | (refine CW.region (i := 11) ?_ <;> refine KP.q QK.fa ?_ <;> refine KP.q QK.lds ?_ <;> refine KP.q QK.eqi ?_ <;> refine KP.list_nil ?_)
    | ((with_reducible apply KP.fin1); (· rfl); (· rfl)))
      refine CW.mid (X := List Ask) (fun _ => [(0, v), (3, qp q), (4, iv i)]) (fun l' => [Qu q l']) (fun _ => True) ?_ ?_
      · have hn0 : ([] : List Ask).length = 0 := rfl
        by_cases h1 : c.do_ = 1
        · cases l with
          | nil =>
            repeat' (first
    | (with_reducible refine CW.seq ?_)
    | (with_reducible refine KP.then_code ?_)
    | (with_reducible refine CW.skip ?_)
    | (with_reducible refine CW.ret ?_)
    | (with_reducible refine KP.then_ret ?_)
    | (with_reducible refine KP.block_ret ?_)
    | (with_reducible refine CW.block ?_)
    | (with_reducible refine KP.block_normal ?_)
    | (with_reducible refine CW.exit ?_)
    | (with_reducible refine KP.then_exit ?_)
    | (with_reducible refine KP.block_hit ?_)
    | refine KP.bm ?_
    | refine CW.ct ?_
    | refine CW.cf ?_
    | (refine CW.cP ?_ ?_ <;> intro _ <;> try contradiction)
    | (refine CW.cs ?_ ?_ <;> intro _ <;> try contradiction)
    | (refine CW.region (i := 12) ?_ <;> refine KP.q QK.mv ?_ <;> (refine KP.e ?_; ((first | refine EK.call (pop_none) ?_ | refine EK.call (pop_some) ?_); repeat' first | refine CP.r ?_ | refine CP.r0 ?_ | refine CP.exP fun e37 => ?_ | refine CP.puP fun h37 => ?_)) <;> refine KP.q QK.mv ?_ <;> refine KP.q QK.ex ?_ <;> refine KP.q QK.ex ?_ <;> (refine KP.e ?_; (refine EK.alloc ?_; intro b7)) <;> (refine KP.e ?_; (first | refine EK.st_a ?_ | refine EK.st_ra ?_ | refine EK.st_p ?_)) <;> refine KP.q QK.as ?_ <;> refine KP.list_nil ?_)
    | (((with_reducible refine CW.draw (i := 13) ?_ [[], [], [1], [1, 2], [0, 1, 2, 3], [0, 1, 2, 3, 4], [0, 1, 2, 3, 4, 5], [0, 1, 2, 3, 4, 5, 6], [0, 1, 2, 3, 4, 5, 6, 7], [0, 1, 2, 3, 4, 5, 6, 7], [0, 1, 2, 3, 4, 5, 6, 7, 9], [0, 1, 2, 3, 4, 5, 6, 7, 9, 10], [0, 1, 2, 3, 4, 5, 6, 7, 8, 9, 10, 11], [0, 1, 2, 3, 4, 5, 6, 7, 8, 9, 10, 11, 12], [0, 1, 2, 3, 4, 5, 6, 7, 8, 9, 10, 11, 12, 13]] ?_ ?_ ?_ ?_); (· rfl); (· kernel_rfl); (· kernel_rfl); (· repeat (first | exact NoHang.post | refine NoHang.then ?_ | refine NoHang.block ?_))) <;> refine DW.p 0 rfl (fun _ => QK.mv) ?_ <;> refine DW.p 1 rfl (fun _ => QK.mv) ?_ <;> refine DW.m 2 rfl QK.len ?_ <;> refine DW.p 3 rfl (fun _ => QK.gtr) ?_ <;> refine DW.p 4 rfl (fun _ => QK.neb) ?_ <;> refine DW.p 5 rfl (fun _ => QK.mv) ?_ <;> (first | refine DW.pn 6 rfl rfl rfl ?_ | refine DW.pu 6 rfl rfl rfl ?_ | refine DW.py 6 rfl rfl rfl (fun _ => QK.mv) ?_ | ((first | refine DW.sP (t := 45) ?_ ?_ | refine DW.s (t := 45) ?_ ?_) <;> intro _ <;> first | contradiction | refine DW.pn 6 rfl rfl rfl ?_ | refine DW.pu 6 rfl rfl rfl ?_ | refine DW.py 6 rfl rfl rfl (fun _ => QK.mv) ?_)) <;> (first | refine DW.pn 7 rfl rfl rfl ?_ | refine DW.pu 7 rfl rfl rfl ?_ | refine DW.py 7 rfl rfl rfl (fun _ => QK.mv) ?_) <;> (first | refine DW.pn 9 rfl rfl rfl ?_ | refine DW.pu 9 rfl rfl rfl ?_ | refine DW.py 9 rfl rfl rfl (fun _ => QK.mv) ?_ | ((first | refine DW.sP (t := 47) ?_ ?_ | refine DW.s (t := 47) ?_ ?_) <;> intro _ <;> first | contradiction | refine DW.pn 9 rfl rfl rfl ?_ | refine DW.pu 9 rfl rfl rfl ?_ | refine DW.py 9 rfl rfl rfl (fun _ => QK.mv) ?_)) <;> (first | refine DW.mn 8 rfl rfl rfl ?_ | refine DW.mu 8 rfl rfl rfl ?_ | refine DW.my 8 rfl rfl rfl (by first | exact QY.load_a (cs := eA c.a) rfl (Rd.own (by with_reducible first | exact k0 | exact k1 | exact k2 | exact k3 | exact k4 | exact k5 | exact k6 | exact k7 | exact k8 | exact k9 | fail)) (Reads.pt act_part) (by rfl) | exact QK.lda) ?_) <;> (first | refine DW.mn 10 rfl rfl rfl ?_ | refine DW.mu 10 rfl rfl rfl ?_ | refine DW.my 10 rfl rfl rfl QK.ia ?_) <;> (first | refine DW.mn 11 rfl rfl rfl ?_ | refine DW.mu 11 rfl rfl rfl ?_ | refine DW.my 11 rfl rfl rfl (by first | exact QY.load_a (cs := eA c.a) rfl (Rd.own (by with_reducible first | exact k0 | exact k1 | exact k2 | exact k3 | exact k4 | exact k5 | exact k6 | exact k7 | exact k8 | exact k9 | fail)) (Reads.pt act_part) (by rfl) | exact QK.lda) ?_) <;> (first | refine DW.pn 12 rfl rfl rfl ?_ | refine DW.pu 12 rfl rfl rfl ?_ | refine DW.py 12 rfl rfl rfl (fun _ => QK.nea) ?_) <;> (first | refine DW.pn 13 rfl rfl rfl ?_ | refine DW.pu 13 rfl rfl rfl ?_ | refine DW.py 13 rfl rfl rfl (fun _ => QK.pk) ?_) <;> refine DW.p 14 rfl (fun _ => QK.pk) ?_ <;> refine DW.zz ?_)
    | ((with_reducible apply KP.fin1); (· rfl); (· rfl)))
            exact KA.joint [] trivial
          | cons a l0 =>
            have h0 : (a :: l0)[0]? = some a := rfl
            have hc1 : ¬ (a ≠ a) := by simp
            have hc2 : 0 < (a :: l0).length := by simp
            repeat' (first
    | (with_reducible refine CW.seq ?_)
    | (with_reducible refine KP.then_code ?_)
    | (with_reducible refine CW.skip ?_)
    | (with_reducible refine CW.ret ?_)
    | (with_reducible refine KP.then_ret ?_)
    | (with_reducible refine KP.block_ret ?_)
    | (with_reducible refine CW.block ?_)
    | (with_reducible refine KP.block_normal ?_)
    | (with_reducible refine CW.exit ?_)
    | (with_reducible refine KP.then_exit ?_)
    | (with_reducible refine KP.block_hit ?_)
    | refine KP.bm ?_
    | refine CW.ct ?_
    | refine CW.cf ?_
    | (refine CW.cP ?_ ?_ <;> intro _ <;> try contradiction)
    | (refine CW.cs ?_ ?_ <;> intro _ <;> try contradiction)
    | (refine CW.region (i := 12) ?_ <;> refine KP.q QK.mv ?_ <;> (refine KP.e ?_; ((first | refine EK.call (pop_none) ?_ | refine EK.call (pop_some) ?_); repeat' first | refine CP.r ?_ | refine CP.r0 ?_ | refine CP.exP fun e37 => ?_ | refine CP.puP fun h37 => ?_)) <;> refine KP.q QK.mv ?_ <;> refine KP.q QK.ex ?_ <;> refine KP.q QK.ex ?_ <;> (refine KP.e ?_; (refine EK.alloc ?_; intro b7)) <;> (refine KP.e ?_; (first | refine EK.st_a ?_ | refine EK.st_ra ?_ | refine EK.st_p ?_)) <;> refine KP.q QK.as ?_ <;> refine KP.list_nil ?_)
    | (((with_reducible refine CW.draw (i := 13) ?_ [[], [], [1], [1, 2], [0, 1, 2, 3], [0, 1, 2, 3, 4], [0, 1, 2, 3, 4, 5], [0, 1, 2, 3, 4, 5, 6], [0, 1, 2, 3, 4, 5, 6, 7], [0, 1, 2, 3, 4, 5, 6, 7], [0, 1, 2, 3, 4, 5, 6, 7, 9], [0, 1, 2, 3, 4, 5, 6, 7, 9, 10], [0, 1, 2, 3, 4, 5, 6, 7, 8, 9, 10, 11], [0, 1, 2, 3, 4, 5, 6, 7, 8, 9, 10, 11, 12], [0, 1, 2, 3, 4, 5, 6, 7, 8, 9, 10, 11, 12, 13]] ?_ ?_ ?_ ?_); (· rfl); (· kernel_rfl); (· kernel_rfl); (· repeat (first | exact NoHang.post | refine NoHang.then ?_ | refine NoHang.block ?_))) <;> refine DW.p 0 rfl (fun _ => QK.mv) ?_ <;> refine DW.p 1 rfl (fun _ => QK.mv) ?_ <;> refine DW.m 2 rfl QK.len ?_ <;> refine DW.p 3 rfl (fun _ => QK.gtr) ?_ <;> refine DW.p 4 rfl (fun _ => QK.neb) ?_ <;> refine DW.p 5 rfl (fun _ => QK.mv) ?_ <;> (first | refine DW.pn 6 rfl rfl rfl ?_ | refine DW.pu 6 rfl rfl rfl ?_ | refine DW.py 6 rfl rfl rfl (fun _ => QK.mv) ?_ | ((first | refine DW.sP (t := 45) ?_ ?_ | refine DW.s (t := 45) ?_ ?_) <;> intro _ <;> first | contradiction | refine DW.pn 6 rfl rfl rfl ?_ | refine DW.pu 6 rfl rfl rfl ?_ | refine DW.py 6 rfl rfl rfl (fun _ => QK.mv) ?_)) <;> (first | refine DW.pn 7 rfl rfl rfl ?_ | refine DW.pu 7 rfl rfl rfl ?_ | refine DW.py 7 rfl rfl rfl (fun _ => QK.mv) ?_) <;> (first | refine DW.pn 9 rfl rfl rfl ?_ | refine DW.pu 9 rfl rfl rfl ?_ | refine DW.py 9 rfl rfl rfl (fun _ => QK.mv) ?_ | ((first | refine DW.sP (t := 47) ?_ ?_ | refine DW.s (t := 47) ?_ ?_) <;> intro _ <;> first | contradiction | refine DW.pn 9 rfl rfl rfl ?_ | refine DW.pu 9 rfl rfl rfl ?_ | refine DW.py 9 rfl rfl rfl (fun _ => QK.mv) ?_)) <;> (first | refine DW.mn 8 rfl rfl rfl ?_ | refine DW.mu 8 rfl rfl rfl ?_ | refine DW.my 8 rfl rfl rfl (by first | exact QY.load_a (cs := eA c.a) rfl (Rd.own (by with_reducible first | exact k0 | exact k1 | exact k2 | exact k3 | exact k4 | exact k5 | exact k6 | exact k7 | exact k8 | exact k9 | fail)) (Reads.pt act_part) (by rfl) | exact QK.lda) ?_) <;> (first | refine DW.mn 10 rfl rfl rfl ?_ | refine DW.mu 10 rfl rfl rfl ?_ | refine DW.my 10 rfl rfl rfl QK.ia ?_) <;> (first | refine DW.mn 11 rfl rfl rfl ?_ | refine DW.mu 11 rfl rfl rfl ?_ | refine DW.my 11 rfl rfl rfl (by first | exact QY.load_a (cs := eA c.a) rfl (Rd.own (by with_reducible first | exact k0 | exact k1 | exact k2 | exact k3 | exact k4 | exact k5 | exact k6 | exact k7 | exact k8 | exact k9 | fail)) (Reads.pt act_part) (by rfl) | exact QK.lda) ?_) <;> (first | refine DW.pn 12 rfl rfl rfl ?_ | refine DW.pu 12 rfl rfl rfl ?_ | refine DW.py 12 rfl rfl rfl (fun _ => QK.nea) ?_) <;> (first | refine DW.pn 13 rfl rfl rfl ?_ | refine DW.pu 13 rfl rfl rfl ?_ | refine DW.py 13 rfl rfl rfl (fun _ => QK.pk) ?_) <;> refine DW.p 14 rfl (fun _ => QK.pk) ?_ <;> refine DW.zz ?_)
    | ((with_reducible apply KP.fin1); (· rfl); (· rfl)))
            exact KA.joint l0 trivial
        · refine CW.ownFact (A := Qu q l) (by with_reducible first | exact k0 | exact k1 | exact k2 | exact k3 | exact k4 | exact k5 | exact k6 | exact k7 | exact k8 | exact k9 | fail) (fun _ h => QF.fact h) fun hQ0 => ?_
          obtain ⟨mq0, hQ0⟩ := hQ0
          have h240 := hQ0.len
          have hpt : ∃ b l', pushF l c.a = (b, l') := ⟨_, _, rfl⟩
          obtain ⟨pb, pl, hpf⟩ := hpt
          cases pb
          · repeat' (first
    | (with_reducible refine CW.seq ?_)
    | (with_reducible refine KP.then_code ?_)
    | (with_reducible refine CW.skip ?_)
    | (with_reducible refine CW.ret ?_)
    | (with_reducible refine KP.then_ret ?_)
    | (with_reducible refine KP.block_ret ?_)
    | (with_reducible refine CW.block ?_)
    | (with_reducible refine KP.block_normal ?_)
    | (with_reducible refine CW.exit ?_)
    | (with_reducible refine KP.then_exit ?_)
    | (with_reducible refine KP.block_hit ?_)
    | refine KP.bm ?_
    | refine CW.ct ?_
    | refine CW.cf ?_
    | (refine CW.cP ?_ ?_ <;> intro _ <;> try contradiction)
    | (refine CW.cs ?_ ?_ <;> intro _ <;> try contradiction)
    | (refine CW.region (i := 15) ?_ <;> refine KP.q QK.fa ?_ <;> refine KP.q QK.lds ?_ <;> refine KP.q QK.eqi ?_ <;> refine KP.q QK.mv ?_ <;> (first | refine KP.gn ?_ | refine KP.gu ?_ | refine KP.qy QK.mv ?_ | ((first | refine KP.gsP (t := 58) ?_ ?_ | refine KP.gs (t := 58) ?_ ?_) <;> intro _ <;> first | contradiction | refine KP.gn ?_ | refine KP.qy QK.mv ?_)) <;> (first | refine KP.gn ?_ | refine KP.gu ?_ | refine KP.qy QK.fa ?_) <;> (first | refine KP.gn ?_ | refine KP.gu ?_ | refine KP.qy (by first | exact QY.load_a (cs := eA c.a) rfl (Rd.own (by with_reducible first | exact k0 | exact k1 | exact k2 | exact k3 | exact k4 | exact k5 | exact k6 | exact k7 | exact k8 | exact k9 | fail)) (Reads.pt act_part) (by rfl) | exact QK.lda) ?_) <;> (first | refine KP.gn ?_ | refine KP.gu ?_ | (refine KP.gy ?_; refine KP.e ?_; ((refine EK.call (push_as hpf) ?_); repeat' first | refine CP.r ?_ | refine CP.r0 ?_ | refine CP.exP fun e62 => ?_ | refine CP.puP fun h62 => ?_))) <;> refine KP.q QK.pk ?_ <;> refine KP.list_nil ?_)
    | ((with_reducible apply KP.fin1); (· rfl); (· rfl)))
            · exact KA.joint pl trivial
            · exact KA.joint l trivial
          · obtain ⟨hp1, hp2, hp3⟩ := push_true hpf
            repeat' (first
    | (with_reducible refine CW.seq ?_)
    | (with_reducible refine KP.then_code ?_)
    | (with_reducible refine CW.skip ?_)
    | (with_reducible refine CW.ret ?_)
    | (with_reducible refine KP.then_ret ?_)
    | (with_reducible refine KP.block_ret ?_)
    | (with_reducible refine CW.block ?_)
    | (with_reducible refine KP.block_normal ?_)
    | (with_reducible refine CW.exit ?_)
    | (with_reducible refine KP.then_exit ?_)
    | (with_reducible refine KP.block_hit ?_)
    | refine KP.bm ?_
    | refine CW.ct ?_
    | refine CW.cf ?_
    | (refine CW.cP ?_ ?_ <;> intro _ <;> try contradiction)
    | (refine CW.cs ?_ ?_ <;> intro _ <;> try contradiction)
    | (refine CW.region (i := 15) ?_ <;> refine KP.q QK.fa ?_ <;> refine KP.q QK.lds ?_ <;> refine KP.q QK.eqi ?_ <;> refine KP.q QK.mv ?_ <;> (first | refine KP.gn ?_ | refine KP.gu ?_ | refine KP.qy QK.mv ?_ | ((first | refine KP.gsP (t := 58) ?_ ?_ | refine KP.gs (t := 58) ?_ ?_) <;> intro _ <;> first | contradiction | refine KP.gn ?_ | refine KP.qy QK.mv ?_)) <;> (first | refine KP.gn ?_ | refine KP.gu ?_ | refine KP.qy QK.fa ?_) <;> (first | refine KP.gn ?_ | refine KP.gu ?_ | refine KP.qy (by first | exact QY.load_a (cs := eA c.a) rfl (Rd.own (by with_reducible first | exact k0 | exact k1 | exact k2 | exact k3 | exact k4 | exact k5 | exact k6 | exact k7 | exact k8 | exact k9 | fail)) (Reads.pt act_part) (by rfl) | exact QK.lda) ?_) <;> (first | refine KP.gn ?_ | refine KP.gu ?_ | (refine KP.gy ?_; refine KP.e ?_; ((refine EK.call (push_as hpf) ?_); repeat' first | refine CP.r ?_ | refine CP.r0 ?_ | refine CP.exP fun e62 => ?_ | refine CP.puP fun h62 => ?_))) <;> refine KP.q QK.pk ?_ <;> refine KP.list_nil ?_)
    | (refine CW.region (i := 16) ?_ <;> refine KP.q QK.mv ?_ <;> (refine KP.e ?_; ((refine EK.call (all_spec) ?_); repeat' first | refine CP.r ?_ | refine CP.r0 ?_ | refine CP.exP fun e65 => ?_ | refine CP.puP fun h65 => ?_)) <;> refine KP.q QK.as ?_ <;> refine KP.list_nil ?_)
    | (refine CW.region (i := 17) ?_ <;> refine KP.q QK.mv ?_ <;> refine KP.q QK.len ?_ <;> refine KP.q QK.mv ?_ <;> refine KP.q QK.len ?_ <;> refine KP.q QK.lss ?_ <;> refine KP.q QK.mv ?_ <;> (first | refine KP.gn ?_ | refine KP.gu ?_ | refine KP.qy QK.mv ?_ | ((first | refine KP.gsP (t := 71) ?_ ?_ | refine KP.gs (t := 71) ?_ ?_) <;> intro _ <;> first | contradiction | refine KP.gn ?_ | refine KP.qy QK.mv ?_)) <;> (first | refine KP.gn ?_ | refine KP.gu ?_ | refine KP.qy QK.len ?_) <;> (first | refine KP.gn ?_ | refine KP.gu ?_ | refine KP.qy QK.mv ?_) <;> (first | refine KP.gn ?_ | refine KP.gu ?_ | refine KP.qy QK.len ?_) <;> (first | refine KP.gn ?_ | refine KP.gu ?_ | refine KP.qy QK.add ?_) <;> (first | refine KP.gn ?_ | refine KP.gu ?_ | refine KP.qy QK.gtr ?_) <;> refine KP.q QK.pk ?_ <;> refine KP.list_nil ?_)
    | (refine CW.region (i := 19) ?_ <;> refine KP.q QK.as ?_ <;> refine KP.list_nil ?_)
    | ((with_reducible apply KP.fin1); (· rfl); (· rfl)))
            · refine CA.loop (X := Nat) (fun k => [(0, v), (3, qp q), (4, iv i), (5, e27), (6, qp b6), (9, e65), (10, iv k)]) (fun _ => [row 32 11 eA e65 pl, pt b6 39 (eC c), row 32 11 eA e27 l, Qu q pl]) (fun k => k ≤ l.length) (fun k => l.length - k) 0 (by simp) ?_
              intro k hk
              try dsimp only at hk ⊢
              rcases Nat.lt_or_ge k l.length with hlk | hgk
              · obtain ⟨x, hx⟩ : ∃ x, l[k]? = some x := ⟨l[k], by simp [hlk]⟩
                obtain ⟨y, hy⟩ : ∃ y, pl[k]? = some y := ⟨pl[k]'(by omega), by simp [show k < pl.length by omega]⟩
                have hxy := hp3 k x y hx hy
                
                
                by_cases hyx : y = x
                · have hyx' : ¬ (y ≠ x) := by simp [hyx]
                  repeat' (first
    | (with_reducible refine CW.seq ?_)
    | (with_reducible refine KP.then_code ?_)
    | (with_reducible refine CW.skip ?_)
    | (with_reducible refine CW.ret ?_)
    | (with_reducible refine KP.then_ret ?_)
    | (with_reducible refine KP.block_ret ?_)
    | (with_reducible refine CW.block ?_)
    | (with_reducible refine KP.block_normal ?_)
    | (with_reducible refine CW.exit ?_)
    | (with_reducible refine KP.then_exit ?_)
    | (with_reducible refine KP.block_hit ?_)
    | refine KP.bm ?_
    | refine CW.ct ?_
    | refine CW.cf ?_
    | (refine CW.cP ?_ ?_ <;> intro _ <;> try contradiction)
    | (refine CW.cs ?_ ?_ <;> intro _ <;> try contradiction)
    | (refine CW.region (i := 20) ?_ <;> refine KP.q QK.mv ?_ <;> refine KP.q QK.mv ?_ <;> refine KP.q QK.len ?_ <;> refine KP.q QK.lss ?_ <;> refine KP.list_nil ?_)
    | (((with_reducible refine CW.draw (i := 22) ?_ [[], [], [0, 1], [0, 1, 2], [], [], [4, 5], [4, 5, 6], [0, 1, 2, 3, 4, 5, 6, 7], [0, 1, 2, 3, 4, 5, 6, 7, 8], [0, 1, 2, 3, 4, 5, 6, 7, 8, 9], [0, 1, 2, 3, 4, 5, 6, 7, 8, 9], [0, 1, 2, 3, 4, 5, 6, 7, 8, 9, 10, 11], [0, 1, 2, 3, 4, 5, 6, 7, 8, 9, 10, 11, 12], [0, 1, 2, 3, 4, 5, 6, 7, 8, 9], [0, 1, 2, 3, 4, 5, 6, 7, 8, 9, 14], [0, 1, 2, 3, 4, 5, 6, 7, 8, 9, 10, 11, 12, 13, 14, 15], [0, 1, 2, 3, 4, 5, 6, 7, 8, 9, 10, 11, 12, 13, 14, 15, 16], [0, 1, 2, 3, 4, 5, 6, 7, 8, 9, 10, 11, 12, 13, 14, 15, 16, 17], [0, 1, 2, 3, 4, 5, 6, 7, 8, 9, 10, 11, 12, 13, 14, 15, 16, 17], [0, 1, 2, 3, 4, 5, 6, 7, 8, 9, 10, 11, 12, 13, 14, 15, 16, 17, 18, 19], [0, 1, 2, 3, 4, 5, 6, 7, 8, 9, 10, 11, 12, 13, 14, 15, 16, 17, 18, 19, 20], [0, 1, 2, 3, 4, 5, 6, 7, 8, 9, 10, 11, 12, 13, 14, 15, 16, 17, 18, 19, 20, 21], [0, 1, 2, 3, 4, 5, 6, 7, 8, 9, 10, 11, 12, 13, 14, 15, 16, 17], [0, 1, 2, 3, 4, 5, 6, 7, 8, 9, 10, 11, 12, 13, 14, 15, 16, 17, 23], [0, 1, 2, 3, 4, 5, 6, 7, 8, 9, 10, 11, 12, 13, 14, 15, 16, 17, 23, 24], [0, 1, 2, 3, 4, 5, 6, 7, 8, 9, 10, 11, 12, 13, 14, 15, 16, 17, 18, 19, 20, 21, 22, 23, 24, 25], [0, 1, 2, 3, 4, 5, 6, 7, 8, 9, 10, 11, 12, 13, 14, 15, 16, 17, 18, 19, 20, 21, 22, 23, 24, 25, 26], [0, 1, 2, 3, 4, 5, 6, 7, 8, 9, 10, 11, 12, 13, 14, 15, 16, 17, 18, 19, 20, 21, 22, 23, 24, 25, 26, 27], [0, 1, 2, 3, 4, 5, 6, 7, 8, 9, 10, 11, 12, 13, 14, 15, 16, 17, 18, 19, 20, 21, 22, 23, 24, 25, 26, 27, 28], [0, 1, 2, 3, 4, 5, 6, 7, 8, 9, 10, 11, 12, 13, 14, 15, 16, 17, 18, 19, 20, 21, 22, 23, 24, 25, 26, 27, 28], [0, 1, 2, 3, 4, 5, 6, 7, 8, 9, 10, 11, 12, 13, 14, 15, 16, 17, 18, 19, 20, 21, 22, 23, 24, 25, 26, 27, 28, 29, 30], [0, 1, 2, 3, 4, 5, 6, 7, 8, 9, 10, 11, 12, 13, 14, 15, 16, 17, 18, 19, 20, 21, 22, 23, 24, 25, 26, 27, 28, 29, 30, 31], [0, 1, 2, 3, 4, 5, 6, 7, 8, 9, 10, 11, 12, 13, 14, 15, 16, 17, 18, 19, 20, 21, 22, 23, 24, 25, 26, 27, 28, 29, 30, 31, 32], [0, 1, 2, 3, 4, 5, 6, 7, 8, 9, 10, 11, 12, 13, 14, 15, 16, 17, 18, 19, 20, 21, 22, 23, 24, 25, 26, 27, 28], [0, 1, 2, 3, 4, 5, 6, 7, 8, 9, 10, 11, 12, 13, 14, 15, 16, 17, 18, 19, 20, 21, 22, 23, 24, 25, 26, 27, 28, 34], [0, 1, 2, 3, 4, 5, 6, 7, 8, 9, 10, 11, 12, 13, 14, 15, 16, 17, 18, 19, 20, 21, 22, 23, 24, 25, 26, 27, 28, 34, 35], [0, 1, 2, 3, 4, 5, 6, 7, 8, 9, 10, 11, 12, 13, 14, 15, 16, 17, 18, 19, 20, 21, 22, 23, 24, 25, 26, 27, 28, 29, 30, 31, 32, 33, 34, 35, 36], [0, 1, 2, 3, 4, 5, 6, 7, 8, 9, 10, 11, 12, 13, 14, 15, 16, 17, 18, 19, 20, 21, 22, 23, 24, 25, 26, 27, 28, 29, 30, 31, 32, 33, 34, 35, 36, 37], [0, 1, 2, 3, 4, 5, 6, 7, 8, 9, 10, 11, 12, 13, 14, 15, 16, 17, 18, 19, 20, 21, 22, 23, 24, 25, 26, 27, 28, 29, 30, 31, 32, 33, 34, 35, 36, 37, 38]] ?_ ?_ ?_ ?_); (· rfl); (· kernel_rfl); (· kernel_rfl); (· repeat (first | exact NoHang.post | refine NoHang.then ?_ | refine NoHang.block ?_))) <;> refine DW.p 0 rfl (fun _ => QK.mv) ?_ <;> refine DW.p 1 rfl (fun _ => QK.mv) ?_ <;> refine DW.p 4 rfl (fun _ => QK.mv) ?_ <;> refine DW.p 5 rfl (fun _ => QK.mv) ?_ <;> refine DW.m 2 rfl QK.ia ?_ <;> refine DW.m 3 rfl (by first | exact QY.load_a (cs := eA y) rfl (Rd.own (by with_reducible first | exact k0 | exact k1 | exact k2 | exact k3 | exact k4 | exact k5 | exact k6 | exact k7 | exact k8 | exact k9 | fail)) (Reads.row RowL.row hy) (by rfl) | exact QY.load_a (cs := eA x) rfl (Rd.own (by with_reducible first | exact k0 | exact k1 | exact k2 | exact k3 | exact k4 | exact k5 | exact k6 | exact k7 | exact k8 | exact k9 | fail)) (Reads.row RowL.row hx) (by rfl) | exact QY.load_a (cs := eA c.a) rfl (Rd.own (by with_reducible first | exact k0 | exact k1 | exact k2 | exact k3 | exact k4 | exact k5 | exact k6 | exact k7 | exact k8 | exact k9 | fail)) (Reads.pt act_part) (by rfl) | exact QK.lda) ?_ <;> refine DW.m 6 rfl QK.ia ?_ <;> refine DW.m 7 rfl (by first | exact QY.load_a (cs := eA y) rfl (Rd.own (by with_reducible first | exact k0 | exact k1 | exact k2 | exact k3 | exact k4 | exact k5 | exact k6 | exact k7 | exact k8 | exact k9 | fail)) (Reads.row RowL.row hy) (by rfl) | exact QY.load_a (cs := eA x) rfl (Rd.own (by with_reducible first | exact k0 | exact k1 | exact k2 | exact k3 | exact k4 | exact k5 | exact k6 | exact k7 | exact k8 | exact k9 | fail)) (Reads.row RowL.row hx) (by rfl) | exact QY.load_a (cs := eA c.a) rfl (Rd.own (by with_reducible first | exact k0 | exact k1 | exact k2 | exact k3 | exact k4 | exact k5 | exact k6 | exact k7 | exact k8 | exact k9 | fail)) (Reads.pt act_part) (by rfl) | exact QK.lda) ?_ <;> refine DW.p 8 rfl (fun _ => QK.nea) ?_ <;> refine DW.p 9 rfl (fun _ => QK.mv) ?_ <;> (first | refine DW.pn 10 rfl rfl rfl ?_ | refine DW.pu 10 rfl rfl rfl ?_ | refine DW.py 10 rfl rfl rfl (fun _ => QK.mv) ?_ | ((first | refine DW.sP (t := 94) ?_ ?_ | refine DW.s (t := 94) ?_ ?_) <;> intro _ <;> first | contradiction | refine DW.pn 10 rfl rfl rfl ?_ | refine DW.pu 10 rfl rfl rfl ?_ | refine DW.py 10 rfl rfl rfl (fun _ => QK.mv) ?_)) <;> (first | refine DW.pn 11 rfl rfl rfl ?_ | refine DW.pu 11 rfl rfl rfl ?_ | refine DW.py 11 rfl rfl rfl (fun _ => QK.mv) ?_) <;> (first | refine DW.pn 14 rfl rfl rfl ?_ | refine DW.pu 14 rfl rfl rfl ?_ | refine DW.py 14 rfl rfl rfl (fun _ => QK.fa) ?_) <;> (first | refine DW.mn 12 rfl rfl rfl ?_ | refine DW.mu 12 rfl rfl rfl ?_ | refine DW.my 12 rfl rfl rfl QK.ia ?_) <;> (first | refine DW.mn 13 rfl rfl rfl ?_ | refine DW.mu 13 rfl rfl rfl ?_ | refine DW.my 13 rfl rfl rfl (by first | exact QY.load_a (cs := eA y) rfl (Rd.own (by with_reducible first | exact k0 | exact k1 | exact k2 | exact k3 | exact k4 | exact k5 | exact k6 | exact k7 | exact k8 | exact k9 | fail)) (Reads.row RowL.row hy) (by rfl) | exact QY.load_a (cs := eA x) rfl (Rd.own (by with_reducible first | exact k0 | exact k1 | exact k2 | exact k3 | exact k4 | exact k5 | exact k6 | exact k7 | exact k8 | exact k9 | fail)) (Reads.row RowL.row hx) (by rfl) | exact QY.load_a (cs := eA c.a) rfl (Rd.own (by with_reducible first | exact k0 | exact k1 | exact k2 | exact k3 | exact k4 | exact k5 | exact k6 | exact k7 | exact k8 | exact k9 | fail)) (Reads.pt act_part) (by rfl) | exact QK.lda) ?_) <;> (first | refine DW.mn 15 rfl rfl rfl ?_ | refine DW.mu 15 rfl rfl rfl ?_ | refine DW.my 15 rfl rfl rfl (by first | exact QY.load_a (cs := eA y) rfl (Rd.own (by with_reducible first | exact k0 | exact k1 | exact k2 | exact k3 | exact k4 | exact k5 | exact k6 | exact k7 | exact k8 | exact k9 | fail)) (Reads.row RowL.row hy) (by rfl) | exact QY.load_a (cs := eA x) rfl (Rd.own (by with_reducible first | exact k0 | exact k1 | exact k2 | exact k3 | exact k4 | exact k5 | exact k6 | exact k7 | exact k8 | exact k9 | fail)) (Reads.row RowL.row hx) (by rfl) | exact QY.load_a (cs := eA c.a) rfl (Rd.own (by with_reducible first | exact k0 | exact k1 | exact k2 | exact k3 | exact k4 | exact k5 | exact k6 | exact k7 | exact k8 | exact k9 | fail)) (Reads.pt act_part) (by rfl) | exact QK.lda) ?_) <;> (first | refine DW.pn 16 rfl rfl rfl ?_ | refine DW.pu 16 rfl rfl rfl ?_ | refine DW.py 16 rfl rfl rfl (fun _ => QK.nea) ?_) <;> (first | refine DW.pn 17 rfl rfl rfl ?_ | refine DW.pu 17 rfl rfl rfl ?_ | refine DW.py 17 rfl rfl rfl (fun _ => QK.mv) ?_) <;> (first | refine DW.pn 18 rfl rfl rfl ?_ | refine DW.pu 18 rfl rfl rfl ?_ | refine DW.py 18 rfl rfl rfl (fun _ => QK.mv) ?_ | ((first | refine DW.sP (t := 102) ?_ ?_ | refine DW.s (t := 102) ?_ ?_) <;> intro _ <;> first | contradiction | refine DW.pn 18 rfl rfl rfl ?_ | refine DW.pu 18 rfl rfl rfl ?_ | refine DW.py 18 rfl rfl rfl (fun _ => QK.mv) ?_)) <;> (first | refine DW.pn 19 rfl rfl rfl ?_ | refine DW.pu 19 rfl rfl rfl ?_ | refine DW.py 19 rfl rfl rfl (fun _ => QK.mv) ?_) <;> (first | refine DW.pn 23 rfl rfl rfl ?_ | refine DW.pu 23 rfl rfl rfl ?_ | refine DW.py 23 rfl rfl rfl (fun _ => QK.fa) ?_) <;> (first | refine DW.pn 24 rfl rfl rfl ?_ | refine DW.pu 24 rfl rfl rfl ?_ | refine DW.py 24 rfl rfl rfl (fun _ => QK.fa) ?_) <;> (first | refine DW.mn 20 rfl rfl rfl ?_ | refine DW.mu 20 rfl rfl rfl ?_ | refine DW.my 20 rfl rfl rfl QK.ia ?_) <;> (first | refine DW.pn 21 rfl rfl rfl ?_ | refine DW.pu 21 rfl rfl rfl ?_ | refine DW.py 21 rfl rfl rfl (fun _ => QK.fa) ?_) <;> (first | refine DW.mn 22 rfl rfl rfl ?_ | refine DW.mu 22 rfl rfl rfl ?_ | refine DW.my 22 rfl rfl rfl (by first | exact QY.load_s rfl (Rd.own (by with_reducible first | exact k0 | exact k1 | exact k2 | exact k3 | exact k4 | exact k5 | exact k6 | exact k7 | exact k8 | exact k9 | fail)) (Reads.row0 RowL.row hx (by rfl)) | exact QY.load_s rfl (Rd.own (by with_reducible first | exact k0 | exact k1 | exact k2 | exact k3 | exact k4 | exact k5 | exact k6 | exact k7 | exact k8 | exact k9 | fail)) (Reads.row1 RowL.row hx (by rfl)) | exact QK.lds) ?_) <;> (first | refine DW.mn 25 rfl rfl rfl ?_ | refine DW.mu 25 rfl rfl rfl ?_ | refine DW.my 25 rfl rfl rfl (by first | exact QY.load_s rfl (Rd.own (by with_reducible first | exact k0 | exact k1 | exact k2 | exact k3 | exact k4 | exact k5 | exact k6 | exact k7 | exact k8 | exact k9 | fail)) (Reads.row0 RowL.row hx (by rfl)) | exact QY.load_s rfl (Rd.own (by with_reducible first | exact k0 | exact k1 | exact k2 | exact k3 | exact k4 | exact k5 | exact k6 | exact k7 | exact k8 | exact k9 | fail)) (Reads.row1 RowL.row hx (by rfl)) | exact QK.lds) ?_) <;> (first | refine DW.pn 26 rfl rfl rfl ?_ | refine DW.pu 26 rfl rfl rfl ?_ | refine DW.py 26 rfl rfl rfl (fun _ => QK.nei) ?_) <;> (first | refine DW.pn 27 rfl rfl rfl ?_ | refine DW.pu 27 rfl rfl rfl ?_ | refine DW.py 27 rfl rfl rfl (fun _ => QK.pk) ?_) <;> (first | refine DW.pn 28 rfl rfl rfl ?_ | refine DW.pu 28 rfl rfl rfl ?_ | refine DW.py 28 rfl rfl rfl (fun _ => QK.mv) ?_) <;> (first | refine DW.pn 29 rfl rfl rfl ?_ | refine DW.pu 29 rfl rfl rfl ?_ | refine DW.py 29 rfl rfl rfl (fun _ => QK.mv) ?_ | ((first | refine DW.sP (t := 113) ?_ ?_ | refine DW.s (t := 113) ?_ ?_) <;> intro _ <;> first | contradiction | refine DW.pn 29 rfl rfl rfl ?_ | refine DW.pu 29 rfl rfl rfl ?_ | refine DW.py 29 rfl rfl rfl (fun _ => QK.mv) ?_)) <;> (first | refine DW.pn 30 rfl rfl rfl ?_ | refine DW.pu 30 rfl rfl rfl ?_ | refine DW.py 30 rfl rfl rfl (fun _ => QK.mv) ?_) <;> (first | refine DW.pn 34 rfl rfl rfl ?_ | refine DW.pu 34 rfl rfl rfl ?_ | refine DW.py 34 rfl rfl rfl (fun _ => QK.fa) ?_) <;> (first | refine DW.pn 35 rfl rfl rfl ?_ | refine DW.pu 35 rfl rfl rfl ?_ | refine DW.py 35 rfl rfl rfl (fun _ => QK.fa) ?_) <;> (first | refine DW.mn 31 rfl rfl rfl ?_ | refine DW.mu 31 rfl rfl rfl ?_ | refine DW.my 31 rfl rfl rfl QK.ia ?_) <;> (first | refine DW.pn 32 rfl rfl rfl ?_ | refine DW.pu 32 rfl rfl rfl ?_ | refine DW.py 32 rfl rfl rfl (fun _ => QK.fa) ?_) <;> (first | refine DW.mn 33 rfl rfl rfl ?_ | refine DW.mu 33 rfl rfl rfl ?_ | refine DW.my 33 rfl rfl rfl (by first | exact QY.load_s rfl (Rd.own (by with_reducible first | exact k0 | exact k1 | exact k2 | exact k3 | exact k4 | exact k5 | exact k6 | exact k7 | exact k8 | exact k9 | fail)) (Reads.row0 RowL.row hx (by rfl)) | exact QY.load_s rfl (Rd.own (by with_reducible first | exact k0 | exact k1 | exact k2 | exact k3 | exact k4 | exact k5 | exact k6 | exact k7 | exact k8 | exact k9 | fail)) (Reads.row1 RowL.row hx (by rfl)) | exact QK.lds) ?_) <;> (first | refine DW.mn 36 rfl rfl rfl ?_ | refine DW.mu 36 rfl rfl rfl ?_ | refine DW.my 36 rfl rfl rfl (by first | exact QY.load_s rfl (Rd.own (by with_reducible first | exact k0 | exact k1 | exact k2 | exact k3 | exact k4 | exact k5 | exact k6 | exact k7 | exact k8 | exact k9 | fail)) (Reads.row0 RowL.row hx (by rfl)) | exact QY.load_s rfl (Rd.own (by with_reducible first | exact k0 | exact k1 | exact k2 | exact k3 | exact k4 | exact k5 | exact k6 | exact k7 | exact k8 | exact k9 | fail)) (Reads.row1 RowL.row hx (by rfl)) | exact QK.lds) ?_) <;> (first | refine DW.pn 37 rfl rfl rfl ?_ | refine DW.pu 37 rfl rfl rfl ?_ | refine DW.py 37 rfl rfl rfl (fun _ => QK.nei) ?_) <;> (first | refine DW.pn 38 rfl rfl rfl ?_ | refine DW.pu 38 rfl rfl rfl ?_ | refine DW.py 38 rfl rfl rfl (fun _ => QK.pk) ?_) <;> refine DW.p 39 rfl (fun _ => QK.pk) ?_ <;> refine DW.zz ?_)
    | (refine CW.region (i := 21) ?_ <;> refine KP.q QK.mv ?_ <;> refine KP.q QK.add ?_ <;> refine KP.q QK.as ?_ <;> refine KP.list_nil ?_)
    | ((with_reducible apply KP.fin1); (· rfl); (· rfl)))
                  exact KA.round (k + 1) (by omega)
                · have hyx' : y ≠ x := hyx
                  rcases hxy with rfl | ⟨rfl, hs1, hs2⟩
                  · exact absurd rfl hyx
                  have hcc : ¬ (c.a ≠ c.a) := by simp
                  repeat' (first
    | (with_reducible refine CW.seq ?_)
    | (with_reducible refine KP.then_code ?_)
    | (with_reducible refine CW.skip ?_)
    | (with_reducible refine CW.ret ?_)
    | (with_reducible refine KP.then_ret ?_)
    | (with_reducible refine KP.block_ret ?_)
    | (with_reducible refine CW.block ?_)
    | (with_reducible refine KP.block_normal ?_)
    | (with_reducible refine CW.exit ?_)
    | (with_reducible refine KP.then_exit ?_)
    | (with_reducible refine KP.block_hit ?_)
    | refine KP.bm ?_
    | refine CW.ct ?_
    | refine CW.cf ?_
    | (refine CW.cP ?_ ?_ <;> intro _ <;> try contradiction)
    | (refine CW.cs ?_ ?_ <;> intro _ <;> try contradiction)
    | (refine CW.region (i := 20) ?_ <;> refine KP.q QK.mv ?_ <;> refine KP.q QK.mv ?_ <;> refine KP.q QK.len ?_ <;> refine KP.q QK.lss ?_ <;> refine KP.list_nil ?_)
    | (((with_reducible refine CW.draw (i := 22) ?_ [[], [], [0, 1], [0, 1, 2], [], [], [4, 5], [4, 5, 6], [0, 1, 2, 3, 4, 5, 6, 7], [0, 1, 2, 3, 4, 5, 6, 7, 8], [0, 1, 2, 3, 4, 5, 6, 7, 8, 9], [0, 1, 2, 3, 4, 5, 6, 7, 8, 9], [0, 1, 2, 3, 4, 5, 6, 7, 8, 9, 10, 11], [0, 1, 2, 3, 4, 5, 6, 7, 8, 9, 10, 11, 12], [0, 1, 2, 3, 4, 5, 6, 7, 8, 9], [0, 1, 2, 3, 4, 5, 6, 7, 8, 9, 14], [0, 1, 2, 3, 4, 5, 6, 7, 8, 9, 10, 11, 12, 13, 14, 15], [0, 1, 2, 3, 4, 5, 6, 7, 8, 9, 10, 11, 12, 13, 14, 15, 16], [0, 1, 2, 3, 4, 5, 6, 7, 8, 9, 10, 11, 12, 13, 14, 15, 16, 17], [0, 1, 2, 3, 4, 5, 6, 7, 8, 9, 10, 11, 12, 13, 14, 15, 16, 17], [0, 1, 2, 3, 4, 5, 6, 7, 8, 9, 10, 11, 12, 13, 14, 15, 16, 17, 18, 19], [0, 1, 2, 3, 4, 5, 6, 7, 8, 9, 10, 11, 12, 13, 14, 15, 16, 17, 18, 19, 20], [0, 1, 2, 3, 4, 5, 6, 7, 8, 9, 10, 11, 12, 13, 14, 15, 16, 17, 18, 19, 20, 21], [0, 1, 2, 3, 4, 5, 6, 7, 8, 9, 10, 11, 12, 13, 14, 15, 16, 17], [0, 1, 2, 3, 4, 5, 6, 7, 8, 9, 10, 11, 12, 13, 14, 15, 16, 17, 23], [0, 1, 2, 3, 4, 5, 6, 7, 8, 9, 10, 11, 12, 13, 14, 15, 16, 17, 23, 24], [0, 1, 2, 3, 4, 5, 6, 7, 8, 9, 10, 11, 12, 13, 14, 15, 16, 17, 18, 19, 20, 21, 22, 23, 24, 25], [0, 1, 2, 3, 4, 5, 6, 7, 8, 9, 10, 11, 12, 13, 14, 15, 16, 17, 18, 19, 20, 21, 22, 23, 24, 25, 26], [0, 1, 2, 3, 4, 5, 6, 7, 8, 9, 10, 11, 12, 13, 14, 15, 16, 17, 18, 19, 20, 21, 22, 23, 24, 25, 26, 27], [0, 1, 2, 3, 4, 5, 6, 7, 8, 9, 10, 11, 12, 13, 14, 15, 16, 17, 18, 19, 20, 21, 22, 23, 24, 25, 26, 27, 28], [0, 1, 2, 3, 4, 5, 6, 7, 8, 9, 10, 11, 12, 13, 14, 15, 16, 17, 18, 19, 20, 21, 22, 23, 24, 25, 26, 27, 28], [0, 1, 2, 3, 4, 5, 6, 7, 8, 9, 10, 11, 12, 13, 14, 15, 16, 17, 18, 19, 20, 21, 22, 23, 24, 25, 26, 27, 28, 29, 30], [0, 1, 2, 3, 4, 5, 6, 7, 8, 9, 10, 11, 12, 13, 14, 15, 16, 17, 18, 19, 20, 21, 22, 23, 24, 25, 26, 27, 28, 29, 30, 31], [0, 1, 2, 3, 4, 5, 6, 7, 8, 9, 10, 11, 12, 13, 14, 15, 16, 17, 18, 19, 20, 21, 22, 23, 24, 25, 26, 27, 28, 29, 30, 31, 32], [0, 1, 2, 3, 4, 5, 6, 7, 8, 9, 10, 11, 12, 13, 14, 15, 16, 17, 18, 19, 20, 21, 22, 23, 24, 25, 26, 27, 28], [0, 1, 2, 3, 4, 5, 6, 7, 8, 9, 10, 11, 12, 13, 14, 15, 16, 17, 18, 19, 20, 21, 22, 23, 24, 25, 26, 27, 28, 34], [0, 1, 2, 3, 4, 5, 6, 7, 8, 9, 10, 11, 12, 13, 14, 15, 16, 17, 18, 19, 20, 21, 22, 23, 24, 25, 26, 27, 28, 34, 35], [0, 1, 2, 3, 4, 5, 6, 7, 8, 9, 10, 11, 12, 13, 14, 15, 16, 17, 18, 19, 20, 21, 22, 23, 24, 25, 26, 27, 28, 29, 30, 31, 32, 33, 34, 35, 36], [0, 1, 2, 3, 4, 5, 6, 7, 8, 9, 10, 11, 12, 13, 14, 15, 16, 17, 18, 19, 20, 21, 22, 23, 24, 25, 26, 27, 28, 29, 30, 31, 32, 33, 34, 35, 36, 37], [0, 1, 2, 3, 4, 5, 6, 7, 8, 9, 10, 11, 12, 13, 14, 15, 16, 17, 18, 19, 20, 21, 22, 23, 24, 25, 26, 27, 28, 29, 30, 31, 32, 33, 34, 35, 36, 37, 38]] ?_ ?_ ?_ ?_); (· rfl); (· kernel_rfl); (· kernel_rfl); (· repeat (first | exact NoHang.post | refine NoHang.then ?_ | refine NoHang.block ?_))) <;> refine DW.p 0 rfl (fun _ => QK.mv) ?_ <;> refine DW.p 1 rfl (fun _ => QK.mv) ?_ <;> refine DW.p 4 rfl (fun _ => QK.mv) ?_ <;> refine DW.p 5 rfl (fun _ => QK.mv) ?_ <;> refine DW.m 2 rfl QK.ia ?_ <;> refine DW.m 3 rfl (by first | exact QY.load_a (cs := eA y) rfl (Rd.own (by with_reducible first | exact k0 | exact k1 | exact k2 | exact k3 | exact k4 | exact k5 | exact k6 | exact k7 | exact k8 | exact k9 | fail)) (Reads.row RowL.row hy) (by rfl) | exact QY.load_a (cs := eA x) rfl (Rd.own (by with_reducible first | exact k0 | exact k1 | exact k2 | exact k3 | exact k4 | exact k5 | exact k6 | exact k7 | exact k8 | exact k9 | fail)) (Reads.row RowL.row hx) (by rfl) | exact QY.load_a (cs := eA c.a) rfl (Rd.own (by with_reducible first | exact k0 | exact k1 | exact k2 | exact k3 | exact k4 | exact k5 | exact k6 | exact k7 | exact k8 | exact k9 | fail)) (Reads.pt act_part) (by rfl) | exact QK.lda) ?_ <;> refine DW.m 6 rfl QK.ia ?_ <;> refine DW.m 7 rfl (by first | exact QY.load_a (cs := eA y) rfl (Rd.own (by with_reducible first | exact k0 | exact k1 | exact k2 | exact k3 | exact k4 | exact k5 | exact k6 | exact k7 | exact k8 | exact k9 | fail)) (Reads.row RowL.row hy) (by rfl) | exact QY.load_a (cs := eA x) rfl (Rd.own (by with_reducible first | exact k0 | exact k1 | exact k2 | exact k3 | exact k4 | exact k5 | exact k6 | exact k7 | exact k8 | exact k9 | fail)) (Reads.row RowL.row hx) (by rfl) | exact QY.load_a (cs := eA c.a) rfl (Rd.own (by with_reducible first | exact k0 | exact k1 | exact k2 | exact k3 | exact k4 | exact k5 | exact k6 | exact k7 | exact k8 | exact k9 | fail)) (Reads.pt act_part) (by rfl) | exact QK.lda) ?_ <;> refine DW.p 8 rfl (fun _ => QK.nea) ?_ <;> refine DW.p 9 rfl (fun _ => QK.mv) ?_ <;> (first | refine DW.pn 10 rfl rfl rfl ?_ | refine DW.pu 10 rfl rfl rfl ?_ | refine DW.py 10 rfl rfl rfl (fun _ => QK.mv) ?_ | ((first | refine DW.sP (t := 94) ?_ ?_ | refine DW.s (t := 94) ?_ ?_) <;> intro _ <;> first | contradiction | refine DW.pn 10 rfl rfl rfl ?_ | refine DW.pu 10 rfl rfl rfl ?_ | refine DW.py 10 rfl rfl rfl (fun _ => QK.mv) ?_)) <;> (first | refine DW.pn 11 rfl rfl rfl ?_ | refine DW.pu 11 rfl rfl rfl ?_ | refine DW.py 11 rfl rfl rfl (fun _ => QK.mv) ?_) <;> (first | refine DW.pn 14 rfl rfl rfl ?_ | refine DW.pu 14 rfl rfl rfl ?_ | refine DW.py 14 rfl rfl rfl (fun _ => QK.fa) ?_) <;> (first | refine DW.mn 12 rfl rfl rfl ?_ | refine DW.mu 12 rfl rfl rfl ?_ | refine DW.my 12 rfl rfl rfl QK.ia ?_) <;> (first | refine DW.mn 13 rfl rfl rfl ?_ | refine DW.mu 13 rfl rfl rfl ?_ | refine DW.my 13 rfl rfl rfl (by first | exact QY.load_a (cs := eA y) rfl (Rd.own (by with_reducible first | exact k0 | exact k1 | exact k2 | exact k3 | exact k4 | exact k5 | exact k6 | exact k7 | exact k8 | exact k9 | fail)) (Reads.row RowL.row hy) (by rfl) | exact QY.load_a (cs := eA x) rfl (Rd.own (by with_reducible first | exact k0 | exact k1 | exact k2 | exact k3 | exact k4 | exact k5 | exact k6 | exact k7 | exact k8 | exact k9 | fail)) (Reads.row RowL.row hx) (by rfl) | exact QY.load_a (cs := eA c.a) rfl (Rd.own (by with_reducible first | exact k0 | exact k1 | exact k2 | exact k3 | exact k4 | exact k5 | exact k6 | exact k7 | exact k8 | exact k9 | fail)) (Reads.pt act_part) (by rfl) | exact QK.lda) ?_) <;> (first | refine DW.mn 15 rfl rfl rfl ?_ | refine DW.mu 15 rfl rfl rfl ?_ | refine DW.my 15 rfl rfl rfl (by first | exact QY.load_a (cs := eA y) rfl (Rd.own (by with_reducible first | exact k0 | exact k1 | exact k2 | exact k3 | exact k4 | exact k5 | exact k6 | exact k7 | exact k8 | exact k9 | fail)) (Reads.row RowL.row hy) (by rfl) | exact QY.load_a (cs := eA x) rfl (Rd.own (by with_reducible first | exact k0 | exact k1 | exact k2 | exact k3 | exact k4 | exact k5 | exact k6 | exact k7 | exact k8 | exact k9 | fail)) (Reads.row RowL.row hx) (by rfl) | exact QY.load_a (cs := eA c.a) rfl (Rd.own (by with_reducible first | exact k0 | exact k1 | exact k2 | exact k3 | exact k4 | exact k5 | exact k6 | exact k7 | exact k8 | exact k9 | fail)) (Reads.pt act_part) (by rfl) | exact QK.lda) ?_) <;> (first | refine DW.pn 16 rfl rfl rfl ?_ | refine DW.pu 16 rfl rfl rfl ?_ | refine DW.py 16 rfl rfl rfl (fun _ => QK.nea) ?_) <;> (first | refine DW.pn 17 rfl rfl rfl ?_ | refine DW.pu 17 rfl rfl rfl ?_ | refine DW.py 17 rfl rfl rfl (fun _ => QK.mv) ?_) <;> (first | refine DW.pn 18 rfl rfl rfl ?_ | refine DW.pu 18 rfl rfl rfl ?_ | refine DW.py 18 rfl rfl rfl (fun _ => QK.mv) ?_ | ((first | refine DW.sP (t := 102) ?_ ?_ | refine DW.s (t := 102) ?_ ?_) <;> intro _ <;> first | contradiction | refine DW.pn 18 rfl rfl rfl ?_ | refine DW.pu 18 rfl rfl rfl ?_ | refine DW.py 18 rfl rfl rfl (fun _ => QK.mv) ?_)) <;> (first | refine DW.pn 19 rfl rfl rfl ?_ | refine DW.pu 19 rfl rfl rfl ?_ | refine DW.py 19 rfl rfl rfl (fun _ => QK.mv) ?_) <;> (first | refine DW.pn 23 rfl rfl rfl ?_ | refine DW.pu 23 rfl rfl rfl ?_ | refine DW.py 23 rfl rfl rfl (fun _ => QK.fa) ?_) <;> (first | refine DW.pn 24 rfl rfl rfl ?_ | refine DW.pu 24 rfl rfl rfl ?_ | refine DW.py 24 rfl rfl rfl (fun _ => QK.fa) ?_) <;> (first | refine DW.mn 20 rfl rfl rfl ?_ | refine DW.mu 20 rfl rfl rfl ?_ | refine DW.my 20 rfl rfl rfl QK.ia ?_) <;> (first | refine DW.pn 21 rfl rfl rfl ?_ | refine DW.pu 21 rfl rfl rfl ?_ | refine DW.py 21 rfl rfl rfl (fun _ => QK.fa) ?_) <;> (first | refine DW.mn 22 rfl rfl rfl ?_ | refine DW.mu 22 rfl rfl rfl ?_ | refine DW.my 22 rfl rfl rfl (by first | exact QY.load_s rfl (Rd.own (by with_reducible first | exact k0 | exact k1 | exact k2 | exact k3 | exact k4 | exact k5 | exact k6 | exact k7 | exact k8 | exact k9 | fail)) (Reads.row0 RowL.row hx (by rfl)) | exact QY.load_s rfl (Rd.own (by with_reducible first | exact k0 | exact k1 | exact k2 | exact k3 | exact k4 | exact k5 | exact k6 | exact k7 | exact k8 | exact k9 | fail)) (Reads.row1 RowL.row hx (by rfl)) | exact QK.lds) ?_) <;> (first | refine DW.mn 25 rfl rfl rfl ?_ | refine DW.mu 25 rfl rfl rfl ?_ | refine DW.my 25 rfl rfl rfl (by first | exact QY.load_s rfl (Rd.own (by with_reducible first | exact k0 | exact k1 | exact k2 | exact k3 | exact k4 | exact k5 | exact k6 | exact k7 | exact k8 | exact k9 | fail)) (Reads.row0 RowL.row hx (by rfl)) | exact QY.load_s rfl (Rd.own (by with_reducible first | exact k0 | exact k1 | exact k2 | exact k3 | exact k4 | exact k5 | exact k6 | exact k7 | exact k8 | exact k9 | fail)) (Reads.row1 RowL.row hx (by rfl)) | exact QK.lds) ?_) <;> (first | refine DW.pn 26 rfl rfl rfl ?_ | refine DW.pu 26 rfl rfl rfl ?_ | refine DW.py 26 rfl rfl rfl (fun _ => QK.nei) ?_) <;> (first | refine DW.pn 27 rfl rfl rfl ?_ | refine DW.pu 27 rfl rfl rfl ?_ | refine DW.py 27 rfl rfl rfl (fun _ => QK.pk) ?_) <;> (first | refine DW.pn 28 rfl rfl rfl ?_ | refine DW.pu 28 rfl rfl rfl ?_ | refine DW.py 28 rfl rfl rfl (fun _ => QK.mv) ?_) <;> (first | refine DW.pn 29 rfl rfl rfl ?_ | refine DW.pu 29 rfl rfl rfl ?_ | refine DW.py 29 rfl rfl rfl (fun _ => QK.mv) ?_ | ((first | refine DW.sP (t := 113) ?_ ?_ | refine DW.s (t := 113) ?_ ?_) <;> intro _ <;> first | contradiction | refine DW.pn 29 rfl rfl rfl ?_ | refine DW.pu 29 rfl rfl rfl ?_ | refine DW.py 29 rfl rfl rfl (fun _ => QK.mv) ?_)) <;> (first | refine DW.pn 30 rfl rfl rfl ?_ | refine DW.pu 30 rfl rfl rfl ?_ | refine DW.py 30 rfl rfl rfl (fun _ => QK.mv) ?_) <;> (first | refine DW.pn 34 rfl rfl rfl ?_ | refine DW.pu 34 rfl rfl rfl ?_ | refine DW.py 34 rfl rfl rfl (fun _ => QK.fa) ?_) <;> (first | refine DW.pn 35 rfl rfl rfl ?_ | refine DW.pu 35 rfl rfl rfl ?_ | refine DW.py 35 rfl rfl rfl (fun _ => QK.fa) ?_) <;> (first | refine DW.mn 31 rfl rfl rfl ?_ | refine DW.mu 31 rfl rfl rfl ?_ | refine DW.my 31 rfl rfl rfl QK.ia ?_) <;> (first | refine DW.pn 32 rfl rfl rfl ?_ | refine DW.pu 32 rfl rfl rfl ?_ | refine DW.py 32 rfl rfl rfl (fun _ => QK.fa) ?_) <;> (first | refine DW.mn 33 rfl rfl rfl ?_ | refine DW.mu 33 rfl rfl rfl ?_ | refine DW.my 33 rfl rfl rfl (by first | exact QY.load_s rfl (Rd.own (by with_reducible first | exact k0 | exact k1 | exact k2 | exact k3 | exact k4 | exact k5 | exact k6 | exact k7 | exact k8 | exact k9 | fail)) (Reads.row0 RowL.row hx (by rfl)) | exact QY.load_s rfl (Rd.own (by with_reducible first | exact k0 | exact k1 | exact k2 | exact k3 | exact k4 | exact k5 | exact k6 | exact k7 | exact k8 | exact k9 | fail)) (Reads.row1 RowL.row hx (by rfl)) | exact QK.lds) ?_) <;> (first | refine DW.mn 36 rfl rfl rfl ?_ | refine DW.mu 36 rfl rfl rfl ?_ | refine DW.my 36 rfl rfl rfl (by first | exact QY.load_s rfl (Rd.own (by with_reducible first | exact k0 | exact k1 | exact k2 | exact k3 | exact k4 | exact k5 | exact k6 | exact k7 | exact k8 | exact k9 | fail)) (Reads.row0 RowL.row hx (by rfl)) | exact QY.load_s rfl (Rd.own (by with_reducible first | exact k0 | exact k1 | exact k2 | exact k3 | exact k4 | exact k5 | exact k6 | exact k7 | exact k8 | exact k9 | fail)) (Reads.row1 RowL.row hx (by rfl)) | exact QK.lds) ?_) <;> (first | refine DW.pn 37 rfl rfl rfl ?_ | refine DW.pu 37 rfl rfl rfl ?_ | refine DW.py 37 rfl rfl rfl (fun _ => QK.nei) ?_) <;> (first | refine DW.pn 38 rfl rfl rfl ?_ | refine DW.pu 38 rfl rfl rfl ?_ | refine DW.py 38 rfl rfl rfl (fun _ => QK.pk) ?_) <;> refine DW.p 39 rfl (fun _ => QK.pk) ?_ <;> refine DW.zz ?_)
    | (refine CW.region (i := 21) ?_ <;> refine KP.q QK.mv ?_ <;> refine KP.q QK.add ?_ <;> refine KP.q QK.as ?_ <;> refine KP.list_nil ?_)
    | ((with_reducible apply KP.fin1); (· rfl); (· rfl)))
                  exact KA.round (k + 1) (by omega)
              · repeat' (first
    | (with_reducible refine CW.seq ?_)
    | (with_reducible refine KP.then_code ?_)
    | (with_reducible refine CW.skip ?_)
    | (with_reducible refine CW.ret ?_)
    | (with_reducible refine KP.then_ret ?_)
    | (with_reducible refine KP.block_ret ?_)
    | (with_reducible refine CW.block ?_)
    | (with_reducible refine KP.block_normal ?_)
    | (with_reducible refine CW.exit ?_)
    | (with_reducible refine KP.then_exit ?_)
    | (with_reducible refine KP.block_hit ?_)
    | refine KP.bm ?_
    | refine CW.ct ?_
    | refine CW.cf ?_
    | (refine CW.cP ?_ ?_ <;> intro _ <;> try contradiction)
    | (refine CW.cs ?_ ?_ <;> intro _ <;> try contradiction)
    | (refine CW.region (i := 20) ?_ <;> refine KP.q QK.mv ?_ <;> refine KP.q QK.mv ?_ <;> refine KP.q QK.len ?_ <;> refine KP.q QK.lss ?_ <;> refine KP.list_nil ?_)
    | ((with_reducible apply KP.fin1); (· rfl); (· rfl)))
                exact KA.joint pl trivial
            · exact KA.joint l trivial
      · rintro l' -
        refine CW.ownFact (A := Qu q l') (by with_reducible first | exact k0 | exact k1 | exact k2 | exact k3 | exact k4 | exact k5 | exact k6 | exact k7 | exact k8 | exact k9 | fail) (fun _ h => QF.fact h) fun hQ => ?_
        obtain ⟨mq, hQ⟩ := hQ
        have h24 := hQ.len
        have hnd := hQ.nd
        repeat' (first
    | (with_reducible refine CW.seq ?_)
    | (with_reducible refine KP.then_code ?_)
    | (with_reducible refine CW.skip ?_)
    | (with_reducible refine CW.ret ?_)
    | (with_reducible refine KP.then_ret ?_)
    | (with_reducible refine KP.block_ret ?_)
    | (with_reducible refine CW.block ?_)
    | (with_reducible refine KP.block_normal ?_)
    | (with_reducible refine CW.exit ?_)
    | (with_reducible refine KP.then_exit ?_)
    | (with_reducible refine KP.block_hit ?_)
    | refine KP.bm ?_
    | refine CW.ct ?_
    | refine CW.cf ?_
    | (refine CW.cP ?_ ?_ <;> intro _ <;> try contradiction)
    | (refine CW.cs ?_ ?_ <;> intro _ <;> try contradiction)
    | (refine CW.region (i := 24) ?_ <;> refine KP.q QK.mv ?_ <;> (refine KP.e ?_; ((refine EK.call (all_spec) ?_); repeat' first | refine CP.r ?_ | refine CP.r0 ?_ | refine CP.exP fun e126 => ?_ | refine CP.puP fun h126 => ?_)) <;> refine KP.q QK.as ?_ <;> refine KP.list_nil ?_)
    | (refine CW.region (i := 25) ?_ <;> refine KP.q QK.as ?_ <;> refine KP.list_nil ?_)
    | ((with_reducible apply KP.fin1); (· rfl); (· rfl)))
        refine CA.loop (X := Nat) (fun k => [(0, v), (3, qp q), (4, iv i), (11, e126), (12, iv k)]) (fun _ => [row 32 11 eA e126 l', Qu q l']) (fun k => k ≤ l'.length) (fun k => l'.length - k) 0 (by simp) ?_
        intro k hk
        try dsimp only at hk ⊢
        rcases Nat.lt_or_ge k l'.length with hlk | hgk
        · obtain ⟨y, hy⟩ : ∃ y, l'[k]? = some y := ⟨l'[k], by simp [hlk]⟩
          repeat' (first
    | (with_reducible refine CW.seq ?_)
    | (with_reducible refine KP.then_code ?_)
    | (with_reducible refine CW.skip ?_)
    | (with_reducible refine CW.ret ?_)
    | (with_reducible refine KP.then_ret ?_)
    | (with_reducible refine KP.block_ret ?_)
    | (with_reducible refine CW.block ?_)
    | (with_reducible refine KP.block_normal ?_)
    | (with_reducible refine CW.exit ?_)
    | (with_reducible refine KP.then_exit ?_)
    | (with_reducible refine KP.block_hit ?_)
    | refine KP.bm ?_
    | refine CW.ct ?_
    | refine CW.cf ?_
    | (refine CW.cP ?_ ?_ <;> intro _ <;> try contradiction)
    | (refine CW.cs ?_ ?_ <;> intro _ <;> try contradiction)
    | (refine CW.region (i := 26) ?_ <;> refine KP.q QK.mv ?_ <;> refine KP.q QK.mv ?_ <;> refine KP.q QK.len ?_ <;> refine KP.q QK.lss ?_ <;> refine KP.list_nil ?_)
    | (refine CW.region (i := 28) ?_ <;> refine KP.q QK.as ?_ <;> refine KP.list_nil ?_)
    | ((with_reducible apply KP.fin1); (· rfl); (· rfl)))
          refine CA.loop (X := Nat) (fun j => [(0, v), (3, qp q), (4, iv i), (11, e126), (12, iv k), (13, iv j)]) (fun _ => [row 32 11 eA e126 l', Qu q l']) (fun j => j ≤ k) (fun j => k - j) 0 (by simp) ?_
          intro j hj
          try dsimp only at hj ⊢
          rcases Nat.lt_or_ge j k with hlj | hgj
          · obtain ⟨x, hx⟩ : ∃ x, l'[j]? = some x := ⟨l'[j]'(by omega), by simp [show j < l'.length by omega]⟩
            have htp := two_places hnd hlj hx hy
            have hjl : j < l'.length := by omega
            
            repeat' (first
    | (with_reducible refine CW.seq ?_)
    | (with_reducible refine KP.then_code ?_)
    | (with_reducible refine CW.skip ?_)
    | (with_reducible refine CW.ret ?_)
    | (with_reducible refine KP.then_ret ?_)
    | (with_reducible refine KP.block_ret ?_)
    | (with_reducible refine CW.block ?_)
    | (with_reducible refine KP.block_normal ?_)
    | (with_reducible refine CW.exit ?_)
    | (with_reducible refine KP.then_exit ?_)
    | (with_reducible refine KP.block_hit ?_)
    | refine KP.bm ?_
    | refine CW.ct ?_
    | refine CW.cf ?_
    | (refine CW.cP ?_ ?_ <;> intro _ <;> try contradiction)
    | (refine CW.cs ?_ ?_ <;> intro _ <;> try contradiction)
    | (refine CW.region (i := 29) ?_ <;> refine KP.q QK.mv ?_ <;> refine KP.q QK.mv ?_ <;> refine KP.q QK.lss ?_ <;> refine KP.list_nil ?_)
    | (((with_reducible refine CW.draw (i := 31) ?_ [[], [], [0, 1], [0, 1, 2], [0, 1, 2, 3], [], [], [5, 6], [5, 6, 7], [5, 6, 7, 8], [0, 1, 2, 3, 4, 5, 6, 7, 8, 9], [0, 1, 2, 3, 4, 5, 6, 7, 8, 9, 10], [0, 1, 2, 3, 4, 5, 6, 7, 8, 9, 10, 11], [0, 1, 2, 3, 4, 5, 6, 7, 8, 9, 10, 11], [0, 1, 2, 3, 4, 5, 6, 7, 8, 9, 10, 11, 12, 13], [0, 1, 2, 3, 4, 5, 6, 7, 8, 9, 10, 11, 12, 13, 14], [0, 1, 2, 3, 4, 5, 6, 7, 8, 9, 10, 11, 12, 13, 14, 15], [0, 1, 2, 3, 4, 5, 6, 7, 8, 9, 10, 11], [0, 1, 2, 3, 4, 5, 6, 7, 8, 9, 10, 11], [0, 1, 2, 3, 4, 5, 6, 7, 8, 9, 10, 11, 17, 18], [0, 1, 2, 3, 4, 5, 6, 7, 8, 9, 10, 11, 17, 18, 19], [0, 1, 2, 3, 4, 5, 6, 7, 8, 9, 10, 11, 17, 18, 19, 20], [0, 1, 2, 3, 4, 5, 6, 7, 8, 9, 10, 11, 12, 13, 14, 15, 16, 17, 18, 19, 20, 21], [0, 1, 2, 3, 4, 5, 6, 7, 8, 9, 10, 11, 12, 13, 14, 15, 16, 17, 18, 19, 20, 21, 22]] ?_ ?_ ?_ ?_); (· rfl); (· kernel_rfl); (· kernel_rfl); (· repeat (first | exact NoHang.post | refine NoHang.then ?_ | refine NoHang.block ?_))) <;> refine DW.p 0 rfl (fun _ => QK.mv) ?_ <;> refine DW.p 1 rfl (fun _ => QK.mv) ?_ <;> refine DW.p 5 rfl (fun _ => QK.mv) ?_ <;> refine DW.p 6 rfl (fun _ => QK.mv) ?_ <;> refine DW.m 2 rfl QK.ia ?_ <;> refine DW.p 3 rfl (fun _ => QK.fa) ?_ <;> refine DW.m 4 rfl (by first | exact QY.load_s rfl (Rd.own (by with_reducible first | exact k0 | exact k1 | exact k2 | exact k3 | exact k4 | exact k5 | exact k6 | exact k7 | exact k8 | exact k9 | fail)) (Reads.row0 RowL.row hx (by rfl)) | exact QY.load_s rfl (Rd.own (by with_reducible first | exact k0 | exact k1 | exact k2 | exact k3 | exact k4 | exact k5 | exact k6 | exact k7 | exact k8 | exact k9 | fail)) (Reads.row0 RowL.row hy (by rfl)) | exact QY.load_s rfl (Rd.own (by with_reducible first | exact k0 | exact k1 | exact k2 | exact k3 | exact k4 | exact k5 | exact k6 | exact k7 | exact k8 | exact k9 | fail)) (Reads.row1 RowL.row hx (by rfl)) | exact QY.load_s rfl (Rd.own (by with_reducible first | exact k0 | exact k1 | exact k2 | exact k3 | exact k4 | exact k5 | exact k6 | exact k7 | exact k8 | exact k9 | fail)) (Reads.row1 RowL.row hy (by rfl)) | exact QY.load_s rfl (Rd.own (by with_reducible first | exact k0 | exact k1 | exact k2 | exact k3 | exact k4 | exact k5 | exact k6 | exact k7 | exact k8 | exact k9 | fail)) (Reads.row0 RowL.row hx (by rfl)) | exact QY.load_s rfl (Rd.own (by with_reducible first | exact k0 | exact k1 | exact k2 | exact k3 | exact k4 | exact k5 | exact k6 | exact k7 | exact k8 | exact k9 | fail)) (Reads.row1 RowL.row hx (by rfl)) | exact QK.lds) ?_ <;> refine DW.m 7 rfl QK.ia ?_ <;> refine DW.p 8 rfl (fun _ => QK.fa) ?_ <;> refine DW.m 9 rfl (by first | exact QY.load_s rfl (Rd.own (by with_reducible first | exact k0 | exact k1 | exact k2 | exact k3 | exact k4 | exact k5 | exact k6 | exact k7 | exact k8 | exact k9 | fail)) (Reads.row0 RowL.row hx (by rfl)) | exact QY.load_s rfl (Rd.own (by with_reducible first | exact k0 | exact k1 | exact k2 | exact k3 | exact k4 | exact k5 | exact k6 | exact k7 | exact k8 | exact k9 | fail)) (Reads.row0 RowL.row hy (by rfl)) | exact QY.load_s rfl (Rd.own (by with_reducible first | exact k0 | exact k1 | exact k2 | exact k3 | exact k4 | exact k5 | exact k6 | exact k7 | exact k8 | exact k9 | fail)) (Reads.row1 RowL.row hx (by rfl)) | exact QY.load_s rfl (Rd.own (by with_reducible first | exact k0 | exact k1 | exact k2 | exact k3 | exact k4 | exact k5 | exact k6 | exact k7 | exact k8 | exact k9 | fail)) (Reads.row1 RowL.row hy (by rfl)) | exact QY.load_s rfl (Rd.own (by with_reducible first | exact k0 | exact k1 | exact k2 | exact k3 | exact k4 | exact k5 | exact k6 | exact k7 | exact k8 | exact k9 | fail)) (Reads.row0 RowL.row hx (by rfl)) | exact QY.load_s rfl (Rd.own (by with_reducible first | exact k0 | exact k1 | exact k2 | exact k3 | exact k4 | exact k5 | exact k6 | exact k7 | exact k8 | exact k9 | fail)) (Reads.row1 RowL.row hx (by rfl)) | exact QK.lds) ?_ <;> refine DW.p 10 rfl (fun _ => QK.eqi) ?_ <;> refine DW.p 11 rfl (fun _ => QK.mv) ?_ <;> (first | refine DW.pn 12 rfl rfl rfl ?_ | refine DW.pu 12 rfl rfl rfl ?_ | refine DW.py 12 rfl rfl rfl (fun _ => QK.mv) ?_ | ((first | refine DW.sP (t := 149) ?_ ?_ | refine DW.s (t := 149) ?_ ?_) <;> intro _ <;> first | contradiction | refine DW.pn 12 rfl rfl rfl ?_ | refine DW.pu 12 rfl rfl rfl ?_ | refine DW.py 12 rfl rfl rfl (fun _ => QK.mv) ?_)) <;> (first | refine DW.pn 13 rfl rfl rfl ?_ | refine DW.pu 13 rfl rfl rfl ?_ | refine DW.py 13 rfl rfl rfl (fun _ => QK.mv) ?_) <;> (first | refine DW.pn 17 rfl rfl rfl ?_ | refine DW.pu 17 rfl rfl rfl ?_ | refine DW.py 17 rfl rfl rfl (fun _ => QK.mv) ?_) <;> (first | refine DW.pn 18 rfl rfl rfl ?_ | refine DW.pu 18 rfl rfl rfl ?_ | refine DW.py 18 rfl rfl rfl (fun _ => QK.mv) ?_) <;> (first | refine DW.mn 14 rfl rfl rfl ?_ | refine DW.mu 14 rfl rfl rfl ?_ | refine DW.my 14 rfl rfl rfl QK.ia ?_) <;> (first | refine DW.pn 15 rfl rfl rfl ?_ | refine DW.pu 15 rfl rfl rfl ?_ | refine DW.py 15 rfl rfl rfl (fun _ => QK.fa) ?_) <;> (first | refine DW.mn 16 rfl rfl rfl ?_ | refine DW.mu 16 rfl rfl rfl ?_ | refine DW.my 16 rfl rfl rfl (by first | exact QY.load_s rfl (Rd.own (by with_reducible first | exact k0 | exact k1 | exact k2 | exact k3 | exact k4 | exact k5 | exact k6 | exact k7 | exact k8 | exact k9 | fail)) (Reads.row0 RowL.row hx (by rfl)) | exact QY.load_s rfl (Rd.own (by with_reducible first | exact k0 | exact k1 | exact k2 | exact k3 | exact k4 | exact k5 | exact k6 | exact k7 | exact k8 | exact k9 | fail)) (Reads.row0 RowL.row hy (by rfl)) | exact QY.load_s rfl (Rd.own (by with_reducible first | exact k0 | exact k1 | exact k2 | exact k3 | exact k4 | exact k5 | exact k6 | exact k7 | exact k8 | exact k9 | fail)) (Reads.row1 RowL.row hx (by rfl)) | exact QY.load_s rfl (Rd.own (by with_reducible first | exact k0 | exact k1 | exact k2 | exact k3 | exact k4 | exact k5 | exact k6 | exact k7 | exact k8 | exact k9 | fail)) (Reads.row1 RowL.row hy (by rfl)) | exact QY.load_s rfl (Rd.own (by with_reducible first | exact k0 | exact k1 | exact k2 | exact k3 | exact k4 | exact k5 | exact k6 | exact k7 | exact k8 | exact k9 | fail)) (Reads.row0 RowL.row hx (by rfl)) | exact QY.load_s rfl (Rd.own (by with_reducible first | exact k0 | exact k1 | exact k2 | exact k3 | exact k4 | exact k5 | exact k6 | exact k7 | exact k8 | exact k9 | fail)) (Reads.row1 RowL.row hx (by rfl)) | exact QK.lds) ?_) <;> (first | refine DW.mn 19 rfl rfl rfl ?_ | refine DW.mu 19 rfl rfl rfl ?_ | refine DW.my 19 rfl rfl rfl QK.ia ?_) <;> (first | refine DW.pn 20 rfl rfl rfl ?_ | refine DW.pu 20 rfl rfl rfl ?_ | refine DW.py 20 rfl rfl rfl (fun _ => QK.fa) ?_) <;> (first | refine DW.mn 21 rfl rfl rfl ?_ | refine DW.mu 21 rfl rfl rfl ?_ | refine DW.my 21 rfl rfl rfl (by first | exact QY.load_s rfl (Rd.own (by with_reducible first | exact k0 | exact k1 | exact k2 | exact k3 | exact k4 | exact k5 | exact k6 | exact k7 | exact k8 | exact k9 | fail)) (Reads.row0 RowL.row hx (by rfl)) | exact QY.load_s rfl (Rd.own (by with_reducible first | exact k0 | exact k1 | exact k2 | exact k3 | exact k4 | exact k5 | exact k6 | exact k7 | exact k8 | exact k9 | fail)) (Reads.row0 RowL.row hy (by rfl)) | exact QY.load_s rfl (Rd.own (by with_reducible first | exact k0 | exact k1 | exact k2 | exact k3 | exact k4 | exact k5 | exact k6 | exact k7 | exact k8 | exact k9 | fail)) (Reads.row1 RowL.row hx (by rfl)) | exact QY.load_s rfl (Rd.own (by with_reducible first | exact k0 | exact k1 | exact k2 | exact k3 | exact k4 | exact k5 | exact k6 | exact k7 | exact k8 | exact k9 | fail)) (Reads.row1 RowL.row hy (by rfl)) | exact QY.load_s rfl (Rd.own (by with_reducible first | exact k0 | exact k1 | exact k2 | exact k3 | exact k4 | exact k5 | exact k6 | exact k7 | exact k8 | exact k9 | fail)) (Reads.row0 RowL.row hx (by rfl)) | exact QY.load_s rfl (Rd.own (by with_reducible first | exact k0 | exact k1 | exact k2 | exact k3 | exact k4 | exact k5 | exact k6 | exact k7 | exact k8 | exact k9 | fail)) (Reads.row1 RowL.row hx (by rfl)) | exact QK.lds) ?_) <;> (first | refine DW.pn 22 rfl rfl rfl ?_ | refine DW.pu 22 rfl rfl rfl ?_ | refine DW.py 22 rfl rfl rfl (fun _ => QK.eqi) ?_) <;> refine DW.p 23 rfl (fun _ => QK.pk) ?_ <;> refine DW.zz ?_)
    | (refine CW.region (i := 30) ?_ <;> refine KP.q QK.mv ?_ <;> refine KP.q QK.add ?_ <;> refine KP.q QK.as ?_ <;> refine KP.list_nil ?_)
    | ((with_reducible apply KP.fin1); (· rfl); (· rfl)))
            all_goals exact KA.round (j + 1) (by omega)
          · repeat' (first
    | (with_reducible refine CW.seq ?_)
    | (with_reducible refine KP.then_code ?_)
    | (with_reducible refine CW.skip ?_)
    | (with_reducible refine CW.ret ?_)
    | (with_reducible refine KP.then_ret ?_)
    | (with_reducible refine KP.block_ret ?_)
    | (with_reducible refine CW.block ?_)
    | (with_reducible refine KP.block_normal ?_)
    | (with_reducible refine CW.exit ?_)
    | (with_reducible refine KP.then_exit ?_)
    | (with_reducible refine KP.block_hit ?_)
    | refine KP.bm ?_
    | refine CW.ct ?_
    | refine CW.cf ?_
    | (refine CW.cP ?_ ?_ <;> intro _ <;> try contradiction)
    | (refine CW.cs ?_ ?_ <;> intro _ <;> try contradiction)
    | (refine CW.region (i := 29) ?_ <;> refine KP.q QK.mv ?_ <;> refine KP.q QK.mv ?_ <;> refine KP.q QK.lss ?_ <;> refine KP.list_nil ?_)
    | (refine CW.region (i := 27) ?_ <;> refine KP.q QK.mv ?_ <;> refine KP.q QK.add ?_ <;> refine KP.q QK.as ?_ <;> refine KP.list_nil ?_)
    | ((with_reducible apply KP.fin1); (· rfl); (· rfl)))
            exact KA.round (k + 1) (by omega)
        · repeat' (first
    | (with_reducible refine CW.seq ?_)
    | (with_reducible refine KP.then_code ?_)
    | (with_reducible refine CW.skip ?_)
    | (with_reducible refine CW.ret ?_)
    | (with_reducible refine KP.then_ret ?_)
    | (with_reducible refine KP.block_ret ?_)
    | (with_reducible refine CW.block ?_)
    | (with_reducible refine KP.block_normal ?_)
    | (with_reducible refine CW.exit ?_)
    | (with_reducible refine KP.then_exit ?_)
    | (with_reducible refine KP.block_hit ?_)
    | refine KP.bm ?_
    | refine CW.ct ?_
    | refine CW.cf ?_
    | (refine CW.cP ?_ ?_ <;> intro _ <;> try contradiction)
    | (refine CW.cs ?_ ?_ <;> intro _ <;> try contradiction)
    | (refine CW.region (i := 26) ?_ <;> refine KP.q QK.mv ?_ <;> refine KP.q QK.mv ?_ <;> refine KP.q QK.len ?_ <;> refine KP.q QK.lss ?_ <;> refine KP.list_nil ?_)
    | (refine CW.region (i := 33) ?_ <;> refine KP.q QK.mv ?_ <;> refine KP.q QK.len ?_ <;> refine KP.q QK.gtr ?_ <;> refine KP.list_nil ?_)
    | (refine CW.region (i := 8) ?_ <;> refine KP.q QK.mv ?_ <;> refine KP.q QK.add ?_ <;> refine KP.q QK.as ?_ <;> refine KP.list_nil ?_)
    | ((with_reducible apply KP.fin1); (· rfl); (· rfl)))
          exact KA.round (i + 1, l') (by simp only; omega)
    · repeat' (first
    | (with_reducible refine CW.seq ?_)
    | (with_reducible refine KP.then_code ?_)
    | (with_reducible refine CW.skip ?_)
    | (with_reducible refine CW.ret ?_)
    | (with_reducible refine KP.then_ret ?_)
    | (with_reducible refine KP.block_ret ?_)
    | (with_reducible refine CW.block ?_)
    | (with_reducible refine KP.block_normal ?_)
    | (with_reducible refine CW.exit ?_)
    | (with_reducible refine KP.then_exit ?_)
    | (with_reducible refine KP.block_hit ?_)
    | refine KP.bm ?_
    | refine CW.ct ?_
    | refine CW.cf ?_
    | (refine CW.cP ?_ ?_ <;> intro _ <;> try contradiction)
    | (refine CW.cs ?_ ?_ <;> intro _ <;> try contradiction)
    | (refine CW.region (i := 7) ?_ <;> refine KP.q QK.mv ?_ <;> refine KP.q QK.mv ?_ <;> refine KP.q QK.len ?_ <;> refine KP.q QK.lss ?_ <;> refine KP.list_nil ?_)
    | (refine CW.region (i := 35) ?_ <;> (refine KP.e ?_; ((refine EK.call (awake_spec) ?_); repeat' first | refine CP.r ?_ | refine CP.r0 ?_ | refine CP.exP fun e165 => ?_ | refine CP.puP fun h165 => ?_)) <;> refine KP.q QK.as ?_ <;> refine KP.list_nil ?_)
    | ((with_reducible apply KP.fin1); (· rfl); (· rfl)))
      exact FA.ret
  · repeat' (first
    | (with_reducible refine CW.seq ?_)
    | (with_reducible refine KP.then_code ?_)
    | (with_reducible refine CW.skip ?_)
    | (with_reducible refine CW.ret ?_)
    | (with_reducible refine KP.then_ret ?_)
    | (with_reducible refine KP.block_ret ?_)
    | (with_reducible refine CW.block ?_)
    | (with_reducible refine KP.block_normal ?_)
    | (with_reducible refine CW.exit ?_)
    | (with_reducible refine KP.then_exit ?_)
    | (with_reducible refine KP.block_hit ?_)
    | refine KP.bm ?_
    | refine CW.ct ?_
    | refine CW.cf ?_
    | (refine CW.cP ?_ ?_ <;> intro _ <;> try contradiction)
    | (refine CW.cs ?_ ?_ <;> intro _ <;> try contradiction)
    | (refine CW.region (i := 0) ?_ <;> refine KP.q QK.as ?_ <;> refine KP.list_nil ?_)
    | (refine CW.region (i := 1) ?_ <;> refine KP.q QK.mv ?_ <;> (refine KP.e ?_; ((first | refine EK.call (great_t hg) ?_ | refine EK.call (great_f hg) ?_); repeat' first | refine CP.r ?_ | refine CP.r0 ?_ | refine CP.exP fun e15 => ?_ | refine CP.puP fun h15 => ?_)) <;> refine KP.list_nil ?_)
    | (refine CW.region (i := 2) ?_ <;> (refine KP.e ?_; ((refine EK.call (awake_spec) ?_); repeat' first | refine CP.r ?_ | refine CP.r0 ?_ | refine CP.exP fun e16 => ?_ | refine CP.puP fun h16 => ?_)) <;> refine KP.q QK.as ?_ <;> refine KP.list_nil ?_)
    | ((with_reducible apply KP.fin1); (· rfl); (· rfl)))
    exact FA.ret

end Go.Proofs.Ytnnobondpimnpaa
