import Derived.Test.YtpmhelfdmhjnbaaUB
import Derived.Test.YtpmhelfdmhjnbaaMB
import Derived.Test.YtpmhelfdmhjnbaaTE
/- MergeSkips. -/
namespace Go.Proofs.Ytpmhelfdmhjnbaa
open Go Go.Ink Go.Plain
set_option linter.unusedVariables false
set_option linter.unusedSimpArgs false
attribute [local irreducible] KP QY EW CW DW QG CP Spc DK Fina wpList lessF

theorem all_pos {ts : List ByteArray} {q : ByteArray} {k : Int} {x : Item} (h : x ∈ allF ts q k) : 0 ≤ x.dist := by
  have h1 := all_mem.1 h
  unfold nearsF at h1
  obtain ⟨t, _, he⟩ := List.mem_filterMap.1 h1
  cases hn : nearF q t k with
  | none => rw [hn] at he; cases he
  | some d => rw [hn] at he; cases he; simp only; omega
theorem all_incr {ts : List ByteArray} {q : ByteArray} {k : Int} (h : Inc ts) : Incr (allF ts q k) := ⟨fun x hx => all_pos hx, all_strict h⟩
theorem incr_take {l : List Item} (h : Incr l) (n : Nat) : Incr (l.take n) := ⟨fun x hx => h.pos x (List.mem_of_mem_take hx), h.lt.take⟩
theorem nils {α : Type} {l : List α} : (l = []) ↔ l.length = 0 := List.length_eq_zero_iff.symm
theorem allE2 {v : Value} {ts : List ByteArray} {q : ByteArray} {k : Int} {l : List Item} (hq : q.size ≤ 1000000) (hl : ts.length ≤ 50000) (ht : ∀ t ∈ ts, t.size ≤ 1000000) (h : allF ts q k = l) : Spc Try.prog 24 #[v, .string q, iv k] [rrow 1 eS v ts] [] (exP fun v' => puP (v'.oneCell' = true) (ret v' [row 39 2 eI v' l])) := h ▸ all_spec hq hl ht

set_option maxHeartbeats 8000000 in
set_option maxRecDepth 4000 in
theorem mergeSkips_spec {many bits : Int} {v : Value} {ts : List ByteArray} {x : Qy} : Spc Try.prog 18 #[iv many, iv bits, v, .agg (eQ x).toArray] [rrow 1 eS v ts] [] (ret (.bool true) []) := by
  refine Spc.enter' (args := [iv many, iv bits, v, .agg (eQ x).toArray]) (T0 := [(0, iv many), (1, iv bits), (2, v), (3, .agg (eQ x).toArray)]) Try.func18 rfl Try.ntmps18 (Nat.le_of_ble_eq_true rfl) rfl ?_
  intro w0 own
  refine CW.roFact (List.Mem.head _) (fun _ h => rrow.le h) fun hxs => ?_
  cases hg : greatT ts
  rotate_left
  · 
    repeat' (first
    | (with_reducible refine CW.seq ?_)
    | (with_reducible refine KP.then_code ?_)
    | (with_reducible refine CW.skip ?_)
    | (with_reducible refine CW.ret ?_)
    | (with_reducible refine KP.then_ret ?_)
    | (with_reducible refine KP.block_ret ?_)
    | (with_reducible refine CW.block ?_)
    | (with_reducible refine KP.block_normal ?_)
    | (with_reducible refine CW.exit ?_)
    | (with_reducible refine KP.then_exit ?_)
    | (with_reducible refine KP.block_hit ?_)
    | refine KP.bm ?_
    | refine CW.ct ?_
    | refine CW.cf ?_
    | (refine CW.cP ?_ ?_ <;> intro _ <;> try contradiction)
    | (refine CW.cs ?_ ?_ <;> intro _ <;> try contradiction)
    | (refine CW.region (i := 0) ?_ <;> (refine KP.e ?_; (refine EK.box_a ?_; intro b7)) <;> refine KP.q QK.as ?_ <;> refine KP.list_nil ?_)
    | (refine CW.region (i := 1) ?_ <;> refine KP.q QK.mv ?_ <;> (refine KP.e ?_; ((refine EK.call (greatE hg) ?_); repeat' first | refine CP.r ?_ | refine CP.r0 ?_ | refine CP.exP fun e17 => ?_ | refine CP.puP fun h17 => ?_)) <;> refine KP.q QK.mv ?_ <;> (first | refine KP.gn ?_ | refine KP.gu ?_ | refine KP.qy QK.fa ?_ | ((first | refine KP.gsP (t := 18) ?_ ?_ | refine KP.gs (t := 18) ?_ ?_) <;> intro _ <;> first | contradiction | refine KP.gn ?_ | refine KP.qy QK.fa ?_)) <;> (first | refine KP.gn ?_ | refine KP.gu ?_ | refine KP.qy QK.lds ?_) <;> (first | refine KP.gn ?_ | refine KP.gu ?_ | refine KP.qy QK.len ?_) <;> (first | refine KP.gn ?_ | refine KP.gu ?_ | refine KP.qy QK.gtr ?_) <;> refine KP.q QK.pk ?_ <;> refine KP.q QK.mv ?_ <;> (first | refine KP.gn ?_ | refine KP.gu ?_ | refine KP.qy QK.lda ?_ | ((first | refine KP.gsP (t := 24) ?_ ?_ | refine KP.gs (t := 24) ?_ ?_) <;> intro _ <;> first | contradiction | refine KP.gn ?_ | refine KP.qy QK.lda ?_)) <;> (first | refine KP.gn ?_ | refine KP.gu ?_ | (refine KP.gy ?_; refine KP.e ?_; ((fail "no rule f25"); repeat' first | refine CP.r ?_ | refine CP.r0 ?_ | refine CP.exP fun e26 => ?_ | refine CP.puP fun h26 => ?_))) <;> (first | refine KP.gn ?_ | refine KP.gu ?_ | refine KP.qy QK.not ?_) <;> refine KP.q QK.pk ?_ <;> refine KP.q QK.mv ?_ <;> (first | refine KP.gn ?_ | refine KP.gu ?_ | refine KP.qy QK.mv ?_ | ((first | refine KP.gsP (t := 29) ?_ ?_ | refine KP.gs (t := 29) ?_ ?_) <;> intro _ <;> first | contradiction | refine KP.gn ?_ | refine KP.qy QK.mv ?_)) <;> (first | refine KP.gn ?_ | refine KP.gu ?_ | (refine KP.gy ?_; refine KP.e ?_; ((fail "no rule f50"); repeat' first | refine CP.r ?_ | refine CP.r0 ?_ | refine CP.exP fun e31 => ?_ | refine CP.puP fun h31 => ?_))) <;> (first | refine KP.gn ?_ | refine KP.gu ?_ | refine KP.qy QK.nei ?_) <;> refine KP.q QK.pk ?_ <;> refine KP.list_nil ?_)
    | (refine CW.region (i := 2) ?_ <;> (refine KP.e ?_; ((refine EK.call (awakeM) ?_); repeat' first | refine CP.r ?_ | refine CP.r0 ?_ | refine CP.exP fun e34 => ?_ | refine CP.puP fun h34 => ?_)) <;> refine KP.q QK.as ?_ <;> refine KP.list_nil ?_)
    | ((with_reducible apply KP.fin1); (· rfl); (· rfl)))
    exact FA.ret
  have hl := greatT_len hg
  have ht := greatT_size hg
  
  
  by_cases hq0 : 100 < (x.text.size : Int)
  · repeat' (first
    | (with_reducible refine CW.seq ?_)
    | (with_reducible refine KP.then_code ?_)
    | (with_reducible refine CW.skip ?_)
    | (with_reducible refine CW.ret ?_)
    | (with_reducible refine KP.then_ret ?_)
    | (with_reducible refine KP.block_ret ?_)
    | (with_reducible refine CW.block ?_)
    | (with_reducible refine KP.block_normal ?_)
    | (with_reducible refine CW.exit ?_)
    | (with_reducible refine KP.then_exit ?_)
    | (with_reducible refine KP.block_hit ?_)
    | refine KP.bm ?_
    | refine CW.ct ?_
    | refine CW.cf ?_
    | (refine CW.cP ?_ ?_ <;> intro _ <;> try contradiction)
    | (refine CW.cs ?_ ?_ <;> intro _ <;> try contradiction)
    | (refine CW.region (i := 0) ?_ <;> (refine KP.e ?_; (refine EK.box_a ?_; intro b7)) <;> refine KP.q QK.as ?_ <;> refine KP.list_nil ?_)
    | (refine CW.region (i := 1) ?_ <;> refine KP.q QK.mv ?_ <;> (refine KP.e ?_; ((refine EK.call (greatE hg) ?_); repeat' first | refine CP.r ?_ | refine CP.r0 ?_ | refine CP.exP fun e17 => ?_ | refine CP.puP fun h17 => ?_)) <;> refine KP.q QK.mv ?_ <;> (first | refine KP.gn ?_ | refine KP.gu ?_ | refine KP.qy QK.fa ?_ | ((first | refine KP.gsP (t := 18) ?_ ?_ | refine KP.gs (t := 18) ?_ ?_) <;> intro _ <;> first | contradiction | refine KP.gn ?_ | refine KP.qy QK.fa ?_)) <;> (first | refine KP.gn ?_ | refine KP.gu ?_ | refine KP.qy QK.lds ?_) <;> (first | refine KP.gn ?_ | refine KP.gu ?_ | refine KP.qy QK.len ?_) <;> (first | refine KP.gn ?_ | refine KP.gu ?_ | refine KP.qy QK.gtr ?_) <;> refine KP.q QK.pk ?_ <;> refine KP.q QK.mv ?_ <;> (first | refine KP.gn ?_ | refine KP.gu ?_ | refine KP.qy QK.lda ?_ | ((first | refine KP.gsP (t := 24) ?_ ?_ | refine KP.gs (t := 24) ?_ ?_) <;> intro _ <;> first | contradiction | refine KP.gn ?_ | refine KP.qy QK.lda ?_)) <;> (first | refine KP.gn ?_ | refine KP.gu ?_ | (refine KP.gy ?_; refine KP.e ?_; ((fail "no rule f25"); repeat' first | refine CP.r ?_ | refine CP.r0 ?_ | refine CP.exP fun e26 => ?_ | refine CP.puP fun h26 => ?_))) <;> (first | refine KP.gn ?_ | refine KP.gu ?_ | refine KP.qy QK.not ?_) <;> refine KP.q QK.pk ?_ <;> refine KP.q QK.mv ?_ <;> (first | refine KP.gn ?_ | refine KP.gu ?_ | refine KP.qy QK.mv ?_ | ((first | refine KP.gsP (t := 29) ?_ ?_ | refine KP.gs (t := 29) ?_ ?_) <;> intro _ <;> first | contradiction | refine KP.gn ?_ | refine KP.qy QK.mv ?_)) <;> (first | refine KP.gn ?_ | refine KP.gu ?_ | (refine KP.gy ?_; refine KP.e ?_; ((fail "no rule f50"); repeat' first | refine CP.r ?_ | refine CP.r0 ?_ | refine CP.exP fun e31 => ?_ | refine CP.puP fun h31 => ?_))) <;> (first | refine KP.gn ?_ | refine KP.gu ?_ | refine KP.qy QK.nei ?_) <;> refine KP.q QK.pk ?_ <;> refine KP.list_nil ?_)
    | (refine CW.region (i := 2) ?_ <;> (refine KP.e ?_; ((refine EK.call (awakeM) ?_); repeat' first | refine CP.r ?_ | refine CP.r0 ?_ | refine CP.exP fun e34 => ?_ | refine CP.puP fun h34 => ?_)) <;> refine KP.q QK.as ?_ <;> refine KP.list_nil ?_)
    | ((with_reducible apply KP.fin1); (· rfl); (· rfl)))
    exact FA.ret
  have hq : x.text.size ≤ 1000000 := by omega
  cases hm : mayF x
  · 
    repeat' (first
    | (with_reducible refine CW.seq ?_)
    | (with_reducible refine KP.then_code ?_)
    | (with_reducible refine CW.skip ?_)
    | (with_reducible refine CW.ret ?_)
    | (with_reducible refine KP.then_ret ?_)
    | (with_reducible refine KP.block_ret ?_)
    | (with_reducible refine CW.block ?_)
    | (with_reducible refine KP.block_normal ?_)
    | (with_reducible refine CW.exit ?_)
    | (with_reducible refine KP.then_exit ?_)
    | (with_reducible refine KP.block_hit ?_)
    | refine KP.bm ?_
    | refine CW.ct ?_
    | refine CW.cf ?_
    | (refine CW.cP ?_ ?_ <;> intro _ <;> try contradiction)
    | (refine CW.cs ?_ ?_ <;> intro _ <;> try contradiction)
    | (refine CW.region (i := 0) ?_ <;> (refine KP.e ?_; (refine EK.box_a ?_; intro b7)) <;> refine KP.q QK.as ?_ <;> refine KP.list_nil ?_)
    | (refine CW.region (i := 1) ?_ <;> refine KP.q QK.mv ?_ <;> (refine KP.e ?_; ((refine EK.call (greatE hg) ?_); repeat' first | refine CP.r ?_ | refine CP.r0 ?_ | refine CP.exP fun e17 => ?_ | refine CP.puP fun h17 => ?_)) <;> refine KP.q QK.mv ?_ <;> (first | refine KP.gn ?_ | refine KP.gu ?_ | refine KP.qy QK.fa ?_ | ((first | refine KP.gsP (t := 18) ?_ ?_ | refine KP.gs (t := 18) ?_ ?_) <;> intro _ <;> first | contradiction | refine KP.gn ?_ | refine KP.qy QK.fa ?_)) <;> (first | refine KP.gn ?_ | refine KP.gu ?_ | refine KP.qy QK.lds ?_) <;> (first | refine KP.gn ?_ | refine KP.gu ?_ | refine KP.qy QK.len ?_) <;> (first | refine KP.gn ?_ | refine KP.gu ?_ | refine KP.qy QK.gtr ?_) <;> refine KP.q QK.pk ?_ <;> refine KP.q QK.mv ?_ <;> (first | refine KP.gn ?_ | refine KP.gu ?_ | refine KP.qy QK.lda ?_ | ((first | refine KP.gsP (t := 24) ?_ ?_ | refine KP.gs (t := 24) ?_ ?_) <;> intro _ <;> first | contradiction | refine KP.gn ?_ | refine KP.qy QK.lda ?_)) <;> (first | refine KP.gn ?_ | refine KP.gu ?_ | (refine KP.gy ?_; refine KP.e ?_; ((refine EK.call (mayE hq hm) ?_); repeat' first | refine CP.r ?_ | refine CP.r0 ?_ | refine CP.exP fun e26 => ?_ | refine CP.puP fun h26 => ?_))) <;> (first | refine KP.gn ?_ | refine KP.gu ?_ | refine KP.qy QK.not ?_) <;> refine KP.q QK.pk ?_ <;> refine KP.q QK.mv ?_ <;> (first | refine KP.gn ?_ | refine KP.gu ?_ | refine KP.qy QK.mv ?_ | ((first | refine KP.gsP (t := 29) ?_ ?_ | refine KP.gs (t := 29) ?_ ?_) <;> intro _ <;> first | contradiction | refine KP.gn ?_ | refine KP.qy QK.mv ?_)) <;> (first | refine KP.gn ?_ | refine KP.gu ?_ | (refine KP.gy ?_; refine KP.e ?_; ((fail "no rule f50"); repeat' first | refine CP.r ?_ | refine CP.r0 ?_ | refine CP.exP fun e31 => ?_ | refine CP.puP fun h31 => ?_))) <;> (first | refine KP.gn ?_ | refine KP.gu ?_ | refine KP.qy QK.nei ?_) <;> refine KP.q QK.pk ?_ <;> refine KP.list_nil ?_)
    | (refine CW.region (i := 2) ?_ <;> (refine KP.e ?_; ((refine EK.call (awakeM) ?_); repeat' first | refine CP.r ?_ | refine CP.r0 ?_ | refine CP.exP fun e34 => ?_ | refine CP.puP fun h34 => ?_)) <;> refine KP.q QK.as ?_ <;> refine KP.list_nil ?_)
    | ((with_reducible apply KP.fin1); (· rfl); (· rfl)))
    exact FA.ret
  
  
  
  
  repeat' (first
    | (with_reducible refine CW.seq ?_)
    | (with_reducible refine KP.then_code ?_)
    | (with_reducible refine CW.skip ?_)
    | (with_reducible refine CW.ret ?_)
    | (with_reducible refine KP.then_ret ?_)
    | (with_reducible refine KP.block_ret ?_)
    | (with_reducible refine CW.block ?_)
    | (with_reducible refine KP.block_normal ?_)
    | (with_reducible refine CW.exit ?_)
    | (with_reducible refine KP.then_exit ?_)
    | (with_reducible refine KP.block_hit ?_)
    | refine KP.bm ?_
    | refine CW.ct ?_
    | refine CW.cf ?_
    | (refine CW.cP ?_ ?_ <;> intro _ <;> try contradiction)
    | (refine CW.cs ?_ ?_ <;> intro _ <;> try contradiction)
    | (refine CW.region (i := 0) ?_ <;> (refine KP.e ?_; (refine EK.box_a ?_; intro b7)) <;> refine KP.q QK.as ?_ <;> refine KP.list_nil ?_)
    | (refine CW.region (i := 1) ?_ <;> refine KP.q QK.mv ?_ <;> (refine KP.e ?_; ((refine EK.call (greatE hg) ?_); repeat' first | refine CP.r ?_ | refine CP.r0 ?_ | refine CP.exP fun e17 => ?_ | refine CP.puP fun h17 => ?_)) <;> refine KP.q QK.mv ?_ <;> (first | refine KP.gn ?_ | refine KP.gu ?_ | refine KP.qy QK.fa ?_ | ((first | refine KP.gsP (t := 18) ?_ ?_ | refine KP.gs (t := 18) ?_ ?_) <;> intro _ <;> first | contradiction | refine KP.gn ?_ | refine KP.qy QK.fa ?_)) <;> (first | refine KP.gn ?_ | refine KP.gu ?_ | refine KP.qy QK.lds ?_) <;> (first | refine KP.gn ?_ | refine KP.gu ?_ | refine KP.qy QK.len ?_) <;> (first | refine KP.gn ?_ | refine KP.gu ?_ | refine KP.qy QK.gtr ?_) <;> refine KP.q QK.pk ?_ <;> refine KP.q QK.mv ?_ <;> (first | refine KP.gn ?_ | refine KP.gu ?_ | refine KP.qy QK.lda ?_ | ((first | refine KP.gsP (t := 24) ?_ ?_ | refine KP.gs (t := 24) ?_ ?_) <;> intro _ <;> first | contradiction | refine KP.gn ?_ | refine KP.qy QK.lda ?_)) <;> (first | refine KP.gn ?_ | refine KP.gu ?_ | (refine KP.gy ?_; refine KP.e ?_; ((refine EK.call (mayE hq hm) ?_); repeat' first | refine CP.r ?_ | refine CP.r0 ?_ | refine CP.exP fun e26 => ?_ | refine CP.puP fun h26 => ?_))) <;> (first | refine KP.gn ?_ | refine KP.gu ?_ | refine KP.qy QK.not ?_) <;> refine KP.q QK.pk ?_ <;> refine KP.q QK.mv ?_ <;> (first | refine KP.gn ?_ | refine KP.gu ?_ | refine KP.qy QK.mv ?_ | ((first | refine KP.gsP (t := 29) ?_ ?_ | refine KP.gs (t := 29) ?_ ?_) <;> intro _ <;> first | contradiction | refine KP.gn ?_ | refine KP.qy QK.mv ?_)) <;> (first | refine KP.gn ?_ | refine KP.gu ?_ | (refine KP.gy ?_; refine KP.e ?_; ((refine EK.call (good_spec ht) ?_); repeat' first | refine CP.r ?_ | refine CP.r0 ?_ | refine CP.exP fun e31 => ?_ | refine CP.puP fun h31 => ?_))) <;> (first | refine KP.gn ?_ | refine KP.gu ?_ | refine KP.qy QK.nei ?_) <;> refine KP.q QK.pk ?_ <;> refine KP.list_nil ?_)
    | (refine CW.region (i := 2) ?_ <;> (refine KP.e ?_; ((refine EK.call (awakeM) ?_); repeat' first | refine CP.r ?_ | refine CP.r0 ?_ | refine CP.exP fun e34 => ?_ | refine CP.puP fun h34 => ?_)) <;> refine KP.q QK.as ?_ <;> refine KP.list_nil ?_)
    | ((with_reducible apply KP.fin1); (· rfl); (· rfl)))
  all_goals try exact FA.ret
  have hgood : Good ts := h31.1 (by omega)
  have hb : 1 ≤ x.many ∧ x.many ≤ 10 := by
    have := hm
    unfold mayF at this
    simp only [Bool.and_eq_true, decide_eq_true_eq] at this
    omega
  
  repeat' (first
    | (with_reducible refine CW.seq ?_)
    | (with_reducible refine KP.then_code ?_)
    | (with_reducible refine CW.skip ?_)
    | (with_reducible refine CW.ret ?_)
    | (with_reducible refine KP.then_ret ?_)
    | (with_reducible refine KP.block_ret ?_)
    | (with_reducible refine CW.block ?_)
    | (with_reducible refine KP.block_normal ?_)
    | (with_reducible refine CW.exit ?_)
    | (with_reducible refine KP.then_exit ?_)
    | (with_reducible refine KP.block_hit ?_)
    | refine KP.bm ?_
    | refine CW.ct ?_
    | refine CW.cf ?_
    | (refine CW.cP ?_ ?_ <;> intro _ <;> try contradiction)
    | (refine CW.cs ?_ ?_ <;> intro _ <;> try contradiction)
    | (refine CW.region (i := 3) ?_ <;> refine KP.q QK.mv ?_ <;> (refine KP.e ?_; ((refine EK.call (low2_spec (n := 6) (by omega) (by omega)) ?_); repeat' first | refine CP.r ?_ | refine CP.r0 ?_ | refine CP.exP fun e36 => ?_ | refine CP.puP fun h36 => ?_)) <;> refine KP.q (by first | exact QY.add1N rfl rfl (by omega) | exact QK.add) ?_ <;> refine KP.q QK.as ?_ <;> refine KP.list_nil ?_)
    | ((with_reducible apply KP.fin1); (· rfl); (· rfl)))
  obtain ⟨n, hn⟩ : ∃ n, 1 + e36 = n := ⟨_, rfl⟩
  rw [hn]
  
  repeat' (first
    | (with_reducible refine CW.seq ?_)
    | (with_reducible refine KP.then_code ?_)
    | (with_reducible refine CW.skip ?_)
    | (with_reducible refine CW.ret ?_)
    | (with_reducible refine KP.then_ret ?_)
    | (with_reducible refine KP.block_ret ?_)
    | (with_reducible refine CW.block ?_)
    | (with_reducible refine KP.block_normal ?_)
    | (with_reducible refine CW.exit ?_)
    | (with_reducible refine KP.then_exit ?_)
    | (with_reducible refine KP.block_hit ?_)
    | refine KP.bm ?_
    | refine CW.ct ?_
    | refine CW.cf ?_
    | (refine CW.cP ?_ ?_ <;> intro _ <;> try contradiction)
    | (refine CW.cs ?_ ?_ <;> intro _ <;> try contradiction)
    | (refine CW.region (i := 4) ?_ <;> refine KP.q QK.as ?_ <;> refine KP.q QK.as ?_ <;> refine KP.list_nil ?_)
    | (refine CW.region (i := 5) ?_ <;> refine KP.q QK.as ?_ <;> refine KP.list_nil ?_)
    | ((with_reducible apply KP.fin1); (· rfl); (· rfl)))
  refine CW.add (B := row 3 1 eN (.slice none 0 0) (leastF bits 0)) row.none ?_
  refine CW.add (B := row 3 1 eN (.slice none 0 0) (wantF bits 0)) row.none ?_
  refine CA.loop (X := Nat × (Value × Value)) (fun z => [(0, iv (n : Nat)), (1, iv bits), (2, v), (7, qp b7), (9, z.2.1), (10, z.2.2), (11, iv (z.1 : Nat))]) (fun z => [row 3 1 eN z.2.1 (leastF bits z.1), row 3 1 eN z.2.2 (wantF bits z.1), pt b7 24 (eQ x)]) (fun z => z.1 ≤ n ∧ z.2.1.oneCell' = true ∧ z.2.2.oneCell' = true) (fun z => n - z.1) (0, .slice none 0 0, .slice none 0 0) ⟨by simp, rfl, rfl⟩ ?_
  rintro ⟨i, lv, wv⟩ ⟨hi, hlv, hwv⟩
  try dsimp only at hi hlv hwv ⊢
  have hll := least_len bits i
  have hwl := want_len bits i
  
  
  rcases Nat.lt_or_ge i n with hlt | hge
  · have hls := least_step (bits := bits) (n := i)
    have hws := want_step (bits := bits) (n := i)
    by_cases hbit : bitV bits i = 1
    · rw [if_pos hbit] at hls hws
      
      repeat' (first
    | (with_reducible refine CW.seq ?_)
    | (with_reducible refine KP.then_code ?_)
    | (with_reducible refine CW.skip ?_)
    | (with_reducible refine CW.ret ?_)
    | (with_reducible refine KP.then_ret ?_)
    | (with_reducible refine KP.block_ret ?_)
    | (with_reducible refine CW.block ?_)
    | (with_reducible refine KP.block_normal ?_)
    | (with_reducible refine CW.exit ?_)
    | (with_reducible refine KP.then_exit ?_)
    | (with_reducible refine KP.block_hit ?_)
    | refine KP.bm ?_
    | refine CW.ct ?_
    | refine CW.cf ?_
    | (refine CW.cP ?_ ?_ <;> intro _ <;> try contradiction)
    | (refine CW.cs ?_ ?_ <;> intro _ <;> try contradiction)
    | (refine CW.region (i := 6) ?_ <;> refine KP.q QK.mv ?_ <;> refine KP.q QK.mv ?_ <;> refine KP.q QK.lss ?_ <;> refine KP.list_nil ?_)
    | (refine CW.region (i := 8) ?_ <;> refine KP.q QK.mv ?_ <;> refine KP.q QK.mv ?_ <;> refine KP.q (QY.shrN rfl rfl) ?_ <;> refine KP.q (QY.and1 rfl rfl) ?_ <;> refine KP.q QK.eqi ?_ <;> refine KP.list_nil ?_)
    | (refine CW.region (i := 9) ?_ <;> refine KP.q QK.mv ?_ <;> (refine KP.e ?_; ((first | refine EW.buildSlice1_s (by decide) rfl (by first | rfl | assumption) rfl ?_ | refine EW.buildSlice1_a (by decide) rfl (by rfl) (by rfl) (by decide) (by decide) ?_); intro b49)) <;> (refine KP.e ?_; (first | (refine EK.app1 (v := lv) (enc := eN) 0 ?_; intro w50 o50) | (refine EK.app1 _ ?_; intro w50 o50))) <;> refine KP.q QK.as ?_ <;> refine KP.list_nil ?_)
    | ((with_reducible apply KP.fin1); (· rfl); (· rfl)))
      
      
      repeat' (first
    | (with_reducible refine CW.seq ?_)
    | (with_reducible refine KP.then_code ?_)
    | (with_reducible refine CW.skip ?_)
    | (with_reducible refine CW.ret ?_)
    | (with_reducible refine KP.then_ret ?_)
    | (with_reducible refine KP.block_ret ?_)
    | (with_reducible refine CW.block ?_)
    | (with_reducible refine KP.block_normal ?_)
    | (with_reducible refine CW.exit ?_)
    | (with_reducible refine KP.then_exit ?_)
    | (with_reducible refine KP.block_hit ?_)
    | refine KP.bm ?_
    | refine CW.ct ?_
    | refine CW.cf ?_
    | (refine CW.cP ?_ ?_ <;> intro _ <;> try contradiction)
    | (refine CW.cs ?_ ?_ <;> intro _ <;> try contradiction)
    | (refine CW.region (i := 10) ?_ <;> refine KP.q QK.mv ?_ <;> refine KP.q QK.mv ?_ <;> (refine KP.e ?_; ((first | refine EW.buildSlice1_s (by decide) rfl (by first | rfl | assumption) rfl ?_ | refine EW.buildSlice1_a (by decide) rfl (by rfl) (by rfl) (by decide) (by decide) ?_); intro b53)) <;> (refine KP.e ?_; (first | (refine EK.app1 (v := wv) (enc := eN) (i : Int) ?_; intro w54 o54) | (refine EK.app1 _ ?_; intro w54 o54))) <;> refine KP.q QK.as ?_ <;> refine KP.list_nil ?_)
    | (refine CW.region (i := 7) ?_ <;> refine KP.q QK.mv ?_ <;> refine KP.q QK.add ?_ <;> refine KP.q QK.as ?_ <;> refine KP.list_nil ?_)
    | ((with_reducible apply KP.fin1); (· rfl); (· rfl)))
      rw [← hls, ← hws]
      exact KA.round (i + 1, w50, w54) ⟨by simp only; omega, by assumption, by assumption⟩
    · rw [if_neg hbit] at hls hws
      rw [List.append_nil] at hws
      
      
      repeat' (first
    | (with_reducible refine CW.seq ?_)
    | (with_reducible refine KP.then_code ?_)
    | (with_reducible refine CW.skip ?_)
    | (with_reducible refine CW.ret ?_)
    | (with_reducible refine KP.then_ret ?_)
    | (with_reducible refine KP.block_ret ?_)
    | (with_reducible refine CW.block ?_)
    | (with_reducible refine KP.block_normal ?_)
    | (with_reducible refine CW.exit ?_)
    | (with_reducible refine KP.then_exit ?_)
    | (with_reducible refine KP.block_hit ?_)
    | refine KP.bm ?_
    | refine CW.ct ?_
    | refine CW.cf ?_
    | (refine CW.cP ?_ ?_ <;> intro _ <;> try contradiction)
    | (refine CW.cs ?_ ?_ <;> intro _ <;> try contradiction)
    | (refine CW.region (i := 6) ?_ <;> refine KP.q QK.mv ?_ <;> refine KP.q QK.mv ?_ <;> refine KP.q QK.lss ?_ <;> refine KP.list_nil ?_)
    | (refine CW.region (i := 8) ?_ <;> refine KP.q QK.mv ?_ <;> refine KP.q QK.mv ?_ <;> refine KP.q (QY.shrN rfl rfl) ?_ <;> refine KP.q (QY.and1 rfl rfl) ?_ <;> refine KP.q QK.eqi ?_ <;> refine KP.list_nil ?_)
    | (refine CW.region (i := 11) ?_ <;> refine KP.q QK.mv ?_ <;> refine KP.q QK.mv ?_ <;> refine KP.q QK.sub ?_ <;> (refine KP.e ?_; ((first | refine EW.buildSlice1_s (by decide) rfl (by first | rfl | assumption) rfl ?_ | refine EW.buildSlice1_a (by decide) rfl (by rfl) (by rfl) (by decide) (by decide) ?_); intro b58)) <;> (refine KP.e ?_; (first | (refine EK.app1 (v := lv) (enc := eN) (-1 - (i : Int)) ?_; intro w59 o59) | (refine EK.app1 _ ?_; intro w59 o59))) <;> refine KP.q QK.as ?_ <;> refine KP.list_nil ?_)
    | (refine CW.region (i := 7) ?_ <;> refine KP.q QK.mv ?_ <;> refine KP.q QK.add ?_ <;> refine KP.q QK.as ?_ <;> refine KP.list_nil ?_)
    | ((with_reducible apply KP.fin1); (· rfl); (· rfl)))
      rw [← hls, ← hws]
      exact KA.round (i + 1, w59, wv) ⟨by simp only; omega, by assumption, hwv⟩
  obtain rfl : i = n := by omega
  
  have hn6 : 0 < (leastF bits i).length ∧ (leastF bits i).length ≤ 6 ∧ 1 ≤ x.many ∧ x.many ≤ 10 := ⟨by omega, by omega, hb.1, hb.2⟩
  
  repeat' (first
    | (with_reducible refine CW.seq ?_)
    | (with_reducible refine KP.then_code ?_)
    | (with_reducible refine CW.skip ?_)
    | (with_reducible refine CW.ret ?_)
    | (with_reducible refine KP.then_ret ?_)
    | (with_reducible refine KP.block_ret ?_)
    | (with_reducible refine CW.block ?_)
    | (with_reducible refine KP.block_normal ?_)
    | (with_reducible refine CW.exit ?_)
    | (with_reducible refine KP.then_exit ?_)
    | (with_reducible refine KP.block_hit ?_)
    | refine KP.bm ?_
    | refine CW.ct ?_
    | refine CW.cf ?_
    | (refine CW.cP ?_ ?_ <;> intro _ <;> try contradiction)
    | (refine CW.cs ?_ ?_ <;> intro _ <;> try contradiction)
    | (refine CW.region (i := 6) ?_ <;> refine KP.q QK.mv ?_ <;> refine KP.q QK.mv ?_ <;> refine KP.q QK.lss ?_ <;> refine KP.list_nil ?_)
    | (refine CW.region (i := 12) ?_ <;> refine KP.q QK.mv ?_ <;> refine KP.q QK.fa ?_ <;> refine KP.q QK.lds ?_ <;> (refine KP.e ?_; ((refine EK.call (newE (v := lv) (least := leastF bits i) (n := x.many) hn6) ?_); repeat' first | refine CP.r ?_ | refine CP.r0 ?_ | refine CP.exP fun e64 => ?_ | refine CP.puP fun h64 => ?_)) <;> refine KP.q QK.mv ?_ <;> refine KP.q QK.ex ?_ <;> refine KP.q QK.ex ?_ <;> refine KP.q QK.as ?_ <;> refine KP.q QK.as ?_ <;> refine KP.list_nil ?_)
    | ((with_reducible apply KP.fin1); (· rfl); (· rfl)))
  have hnw := new_wants (bits := bits) (n := i) hb.1
  have hnd := new_done (bits := bits) (n := i) hb.1
  have hsk := sk_new (bits := bits) (N := x.many) (n := i)
  generalize newF (leastF bits i) x.many = st at *
  
  
  obtain ⟨A, hA⟩ : ∃ A, allF ts x.text x.most = A := ⟨_, rfl⟩
  have hinc : Incr A := by rw [← hA]; exact all_incr hgood.inc
  have hAl : A.length ≤ 100 := by
    have h1 := nears_len x.text x.most ts
    have h2 : (allF ts x.text x.most).length = (nearsF x.text x.most ts).length := sortF_len _
    rw [← hA]; omega
  obtain ⟨p, hp⟩ : ∃ p, min A.length 5 = p := ⟨_, rfl⟩
  have hpv : iv (min (A.length : Int) 5) = iv (p : Nat) := by congr 1; omega
  have hpl : p ≤ A.length := by omega
  
  
  
  refine CW.mid (X := Unit) (fun _ => [(0, iv (i : Nat)), (1, iv bits), (2, v), (7, qp b7), (12, qp e64), (87, .bool false)]) (fun _ => [Mg e64 st, pt b7 24 (eQ x)]) (fun _ => True) ?_ ?_
  · by_cases hw0 : wantF bits i = []
    · rw [decide_eq_true hw0] at hnd
      have hw1 : (wantF bits i).length = 0 := by rw [hw0]; rfl
      
      repeat' (first
    | (with_reducible refine CW.seq ?_)
    | (with_reducible refine KP.then_code ?_)
    | (with_reducible refine CW.skip ?_)
    | (with_reducible refine CW.ret ?_)
    | (with_reducible refine KP.then_ret ?_)
    | (with_reducible refine KP.block_ret ?_)
    | (with_reducible refine CW.block ?_)
    | (with_reducible refine KP.block_normal ?_)
    | (with_reducible refine CW.exit ?_)
    | (with_reducible refine KP.then_exit ?_)
    | (with_reducible refine KP.block_hit ?_)
    | refine KP.bm ?_
    | refine CW.ct ?_
    | refine CW.cf ?_
    | (refine CW.cP ?_ ?_ <;> intro _ <;> try contradiction)
    | (refine CW.cs ?_ ?_ <;> intro _ <;> try contradiction)
    | (refine CW.region (i := 13) ?_ <;> refine KP.q QK.mv ?_ <;> refine KP.q QK.nei ?_ <;> refine KP.q QK.mv ?_ <;> (first | refine KP.gn ?_ | refine KP.gu ?_ | refine KP.qy QK.mv ?_ | ((first | refine KP.gsP (t := 69) ?_ ?_ | refine KP.gs (t := 69) ?_ ?_) <;> intro _ <;> first | contradiction | refine KP.gn ?_ | refine KP.qy QK.mv ?_)) <;> (first | refine KP.gn ?_ | refine KP.gu ?_ | refine KP.qy QK.eqp ?_) <;> refine KP.q QK.pk ?_ <;> refine KP.q QK.mv ?_ <;> (first | refine KP.gn ?_ | refine KP.gu ?_ | refine KP.qy QK.mv ?_ | ((first | refine KP.gsP (t := 73) ?_ ?_ | refine KP.gs (t := 73) ?_ ?_) <;> intro _ <;> first | contradiction | refine KP.gn ?_ | refine KP.qy QK.mv ?_)) <;> (first | refine KP.gn ?_ | refine KP.gu ?_ | (refine KP.gy ?_; refine KP.e ?_; ((refine EK.call (wantsE hnw) ?_); repeat' first | refine CP.r ?_ | refine CP.r0 ?_ | refine CP.exP fun e75 => ?_ | refine CP.puP fun h75 => ?_))) <;> (first | refine KP.gn ?_ | refine KP.gu ?_ | refine KP.qy QK.mv ?_) <;> (first | refine KP.gn ?_ | refine KP.gu ?_ | (refine KP.gy ?_; refine KP.e ?_; ((refine EK.call (sameNE (xs := wantF bits i)) ?_); repeat' first | refine CP.r ?_ | refine CP.r0 ?_ | refine CP.exP fun e77 => ?_ | refine CP.puP fun h77 => ?_))) <;> (first | refine KP.gn ?_ | refine KP.gu ?_ | refine KP.qy QK.not ?_) <;> refine KP.q QK.pk ?_ <;> refine KP.q QK.mv ?_ <;> (first | refine KP.gn ?_ | refine KP.gu ?_ | refine KP.qy QK.mv ?_ | ((first | refine KP.gsP (t := 80) ?_ ?_ | refine KP.gs (t := 80) ?_ ?_) <;> intro _ <;> first | contradiction | refine KP.gn ?_ | refine KP.qy QK.mv ?_)) <;> (first | refine KP.gn ?_ | refine KP.gu ?_ | (refine KP.gy ?_; refine KP.e ?_; ((refine EK.call (doneE hnd) ?_); repeat' first | refine CP.r ?_ | refine CP.r0 ?_ | refine CP.exP fun e82 => ?_ | refine CP.puP fun h82 => ?_))) <;> (first | refine KP.gn ?_ | refine KP.gu ?_ | refine KP.qy QK.mv ?_) <;> (first | refine KP.gn ?_ | refine KP.gu ?_ | refine KP.qy QK.len ?_) <;> (first | refine KP.gn ?_ | refine KP.gu ?_ | refine KP.qy QK.eqi ?_) <;> (first | refine KP.gn ?_ | refine KP.gu ?_ | refine KP.qy QK.neb ?_) <;> refine KP.q QK.pk ?_ <;> refine KP.list_nil ?_)
    | ((with_reducible apply KP.fin1); (· rfl); (· rfl)))
      exact KA.joint () trivial
    · rw [decide_eq_false hw0] at hnd
      have hw1 : (wantF bits i).length ≠ 0 := fun e => hw0 (nils.2 e)
      
      
      repeat' (first
    | (with_reducible refine CW.seq ?_)
    | (with_reducible refine KP.then_code ?_)
    | (with_reducible refine CW.skip ?_)
    | (with_reducible refine CW.ret ?_)
    | (with_reducible refine KP.then_ret ?_)
    | (with_reducible refine KP.block_ret ?_)
    | (with_reducible refine CW.block ?_)
    | (with_reducible refine KP.block_normal ?_)
    | (with_reducible refine CW.exit ?_)
    | (with_reducible refine KP.then_exit ?_)
    | (with_reducible refine KP.block_hit ?_)
    | refine KP.bm ?_
    | refine CW.ct ?_
    | refine CW.cf ?_
    | (refine CW.cP ?_ ?_ <;> intro _ <;> try contradiction)
    | (refine CW.cs ?_ ?_ <;> intro _ <;> try contradiction)
    | (refine CW.region (i := 13) ?_ <;> refine KP.q QK.mv ?_ <;> refine KP.q QK.nei ?_ <;> refine KP.q QK.mv ?_ <;> (first | refine KP.gn ?_ | refine KP.gu ?_ | refine KP.qy QK.mv ?_ | ((first | refine KP.gsP (t := 69) ?_ ?_ | refine KP.gs (t := 69) ?_ ?_) <;> intro _ <;> first | contradiction | refine KP.gn ?_ | refine KP.qy QK.mv ?_)) <;> (first | refine KP.gn ?_ | refine KP.gu ?_ | refine KP.qy QK.eqp ?_) <;> refine KP.q QK.pk ?_ <;> refine KP.q QK.mv ?_ <;> (first | refine KP.gn ?_ | refine KP.gu ?_ | refine KP.qy QK.mv ?_ | ((first | refine KP.gsP (t := 73) ?_ ?_ | refine KP.gs (t := 73) ?_ ?_) <;> intro _ <;> first | contradiction | refine KP.gn ?_ | refine KP.qy QK.mv ?_)) <;> (first | refine KP.gn ?_ | refine KP.gu ?_ | (refine KP.gy ?_; refine KP.e ?_; ((refine EK.call (wantsE hnw) ?_); repeat' first | refine CP.r ?_ | refine CP.r0 ?_ | refine CP.exP fun e75 => ?_ | refine CP.puP fun h75 => ?_))) <;> (first | refine KP.gn ?_ | refine KP.gu ?_ | refine KP.qy QK.mv ?_) <;> (first | refine KP.gn ?_ | refine KP.gu ?_ | (refine KP.gy ?_; refine KP.e ?_; ((refine EK.call (sameNE (xs := wantF bits i)) ?_); repeat' first | refine CP.r ?_ | refine CP.r0 ?_ | refine CP.exP fun e77 => ?_ | refine CP.puP fun h77 => ?_))) <;> (first | refine KP.gn ?_ | refine KP.gu ?_ | refine KP.qy QK.not ?_) <;> refine KP.q QK.pk ?_ <;> refine KP.q QK.mv ?_ <;> (first | refine KP.gn ?_ | refine KP.gu ?_ | refine KP.qy QK.mv ?_ | ((first | refine KP.gsP (t := 80) ?_ ?_ | refine KP.gs (t := 80) ?_ ?_) <;> intro _ <;> first | contradiction | refine KP.gn ?_ | refine KP.qy QK.mv ?_)) <;> (first | refine KP.gn ?_ | refine KP.gu ?_ | (refine KP.gy ?_; refine KP.e ?_; ((refine EK.call (doneE hnd) ?_); repeat' first | refine CP.r ?_ | refine CP.r0 ?_ | refine CP.exP fun e82 => ?_ | refine CP.puP fun h82 => ?_))) <;> (first | refine KP.gn ?_ | refine KP.gu ?_ | refine KP.qy QK.mv ?_) <;> (first | refine KP.gn ?_ | refine KP.gu ?_ | refine KP.qy QK.len ?_) <;> (first | refine KP.gn ?_ | refine KP.gu ?_ | refine KP.qy QK.eqi ?_) <;> (first | refine KP.gn ?_ | refine KP.gu ?_ | refine KP.qy QK.neb ?_) <;> refine KP.q QK.pk ?_ <;> refine KP.list_nil ?_)
    | ((with_reducible apply KP.fin1); (· rfl); (· rfl)))
      exact KA.joint () trivial
  rintro - -
  repeat' (first
    | (with_reducible refine CW.seq ?_)
    | (with_reducible refine KP.then_code ?_)
    | (with_reducible refine CW.skip ?_)
    | (with_reducible refine CW.ret ?_)
    | (with_reducible refine KP.then_ret ?_)
    | (with_reducible refine KP.block_ret ?_)
    | (with_reducible refine CW.block ?_)
    | (with_reducible refine KP.block_normal ?_)
    | (with_reducible refine CW.exit ?_)
    | (with_reducible refine KP.then_exit ?_)
    | (with_reducible refine KP.block_hit ?_)
    | refine KP.bm ?_
    | refine CW.ct ?_
    | refine CW.cf ?_
    | (refine CW.cP ?_ ?_ <;> intro _ <;> try contradiction)
    | (refine CW.cs ?_ ?_ <;> intro _ <;> try contradiction)
    | (refine CW.region (i := 14) ?_ <;> refine KP.q QK.as ?_ <;> refine KP.list_nil ?_)
    | (refine CW.region (i := 15) ?_ <;> refine KP.q QK.mv ?_ <;> refine KP.q QK.fa ?_ <;> refine KP.q QK.lds ?_ <;> refine KP.q QK.fa ?_ <;> refine KP.q QK.lds ?_ <;> (refine KP.e ?_; ((refine EK.call (allE2 (v := v) hq (by omega) ht hA) ?_); repeat' first | refine CP.r ?_ | refine CP.r0 ?_ | refine CP.exP fun e93 => ?_ | refine CP.puP fun h93 => ?_)) <;> refine KP.q QK.as ?_ <;> refine KP.list_nil ?_)
    | (refine CW.region (i := 16) ?_ <;> refine KP.q QK.mv ?_ <;> refine KP.q QK.mv ?_ <;> refine KP.q QK.len ?_ <;> refine KP.q (by first | exact QY.same (QY.min2 rfl rfl) hpv | exact QK.min) ?_ <;> refine KP.q (by first | exact QY.cut_hi (hi := p) rfl rfl (Rd.own (by with_reducible first | exact k0 | exact k1 | exact k2 | exact k3 | exact k4 | exact k5 | exact k6 | exact k7 | exact k8 | exact k9 | fail)) RowL.row hpl | exact QK.sl_hi) ?_ <;> refine KP.q QK.as ?_ <;> refine KP.list_nil ?_)
    | (refine CW.region (i := 17) ?_ <;> refine KP.q QK.as ?_ <;> refine KP.list_nil ?_)
    | ((with_reducible apply KP.fin1); (· rfl); (· rfl)))
  have hrow : RowL (row 39 2 eI e93 A) 2 eI (slv 2 e93 0 p) (A.take p) := by
    have := RowL.cut (Nat.zero_le p) hpl (RowL.row (t := 39) (enc := eI) (v := e93) (xs := A))
    rwa [List.drop_zero, Nat.sub_zero] at this
  have hpc : chainF Item.zero false 0 (A.take p) = true := chain_incr (incr_take hinc p) (fun h => by cases h)
  have hp5 : (A.take p).length ≤ 5 := by rw [List.length_take]; omega
  refine CA.loop (X := Nat × MS × Value × List Item) (fun z => [(0, iv (i : Nat)), (1, iv bits), (12, qp e64), (14, z.2.2.1), (15, iv (z.1 : Nat))]) (fun z => [row 39 2 eI e93 A, Mg e64 z.2.1]) (fun z => z.1 ≤ i ∧ SkS bits x.many i z.1 z.2.1 ∧ RowL (row 39 2 eI e93 A) 2 eI z.2.2.1 z.2.2.2 ∧ z.2.2.2.length ≤ 5 ∧ chainF Item.zero false 0 z.2.2.2 = true) (fun z => i - z.1) (0, st, slv 2 e93 0 p, A.take p) ⟨by simp, hsk, hrow, hp5, hpc⟩ ?_
  clear hrow hpc hp5 hsk hnw hnd
  rintro ⟨j, st, av, l⟩ ⟨hj, hsk, hrow, hl5, hlc⟩
  try dsimp only at hj hsk hrow hl5 hlc ⊢
  rcases Nat.lt_or_ge j i with hlt | hge2
  · obtain ⟨st', hput, hsk'⟩ := sk_put hsk hb.1 hlt hl5 hlc
    
    by_cases hbit : bitV bits j = 1
    · have hd : decide (bitV bits j = 1) = true := decide_eq_true hbit
      rw [hd] at hput
      repeat' (first
    | (with_reducible refine CW.seq ?_)
    | (with_reducible refine KP.then_code ?_)
    | (with_reducible refine CW.skip ?_)
    | (with_reducible refine CW.ret ?_)
    | (with_reducible refine KP.then_ret ?_)
    | (with_reducible refine KP.block_ret ?_)
    | (with_reducible refine CW.block ?_)
    | (with_reducible refine KP.block_normal ?_)
    | (with_reducible refine CW.exit ?_)
    | (with_reducible refine KP.then_exit ?_)
    | (with_reducible refine KP.block_hit ?_)
    | refine KP.bm ?_
    | refine CW.ct ?_
    | refine CW.cf ?_
    | (refine CW.cP ?_ ?_ <;> intro _ <;> try contradiction)
    | (refine CW.cs ?_ ?_ <;> intro _ <;> try contradiction)
    | (refine CW.region (i := 18) ?_ <;> refine KP.q QK.mv ?_ <;> refine KP.q QK.mv ?_ <;> refine KP.q QK.lss ?_ <;> refine KP.list_nil ?_)
    | (((with_reducible refine CW.draw (i := 20) ?_ [[], [], [], [0, 1, 2], [], [], [4, 5], [4, 5, 6], [4, 5, 6, 7], [0, 1, 2, 3, 4, 5, 6, 7, 8]] ?_ ?_ ?_ ?_); (· rfl); (· kernel_rfl); (· kernel_rfl); (· repeat (first | exact NoHang.post | refine NoHang.then ?_ | refine NoHang.block ?_))) <;> refine DW.p 0 rfl (fun _ => QK.mv) ?_ <;> refine DW.p 1 rfl (fun _ => QK.mv) ?_ <;> refine DW.p 2 rfl (fun _ => QK.mv) ?_ <;> refine DW.p 4 rfl (fun _ => QK.mv) ?_ <;> refine DW.p 5 rfl (fun _ => QK.mv) ?_ <;> refine DW.p 6 rfl (fun _ => (QY.shrN rfl rfl)) ?_ <;> refine DW.p 7 rfl (fun _ => (QY.and1 rfl rfl)) ?_ <;> refine DW.p 8 rfl (fun _ => QK.eqi) ?_ <;> (refine DW.ex 3 rfl ?_; intro hdk; ((refine EK.call (putE (v := av) hput) ?_ rfl (Split.cons (by with_reducible first | exact k0 | exact k1 | exact k2 | exact k3 | exact k4 | exact k5 | exact k6 | exact k7 | exact k8 | exact k9 | fail) Split.nil) (.cons (.via hrow (by with_reducible first | exact k0 | exact k1 | exact k2 | exact k3 | exact k4 | exact k5 | exact k6 | exact k7 | exact k8 | exact k9 | fail)) .nil)); repeat' first | refine CP.r ?_ | refine CP.r0 ?_ | refine CP.exP fun e107 => ?_ | refine CP.puP fun h107 => ?_); all_goals (refine DK.mk hdk .nil ?_; clear hdk)) <;> refine DW.p 9 rfl (fun _ => QK.neb) ?_ <;> refine DW.zz ?_)
    | (refine CW.region (i := 22) ?_ <;> refine KP.q QK.mv ?_ <;> refine KP.q QK.mv ?_ <;> refine KP.q (QY.shrN rfl rfl) ?_ <;> refine KP.q (QY.and1 rfl rfl) ?_ <;> refine KP.q QK.eqi ?_ <;> refine KP.list_nil ?_)
    | (refine CW.region (i := 23) ?_ <;> refine KP.q QK.as ?_ <;> refine KP.list_nil ?_)
    | (refine CW.region (i := 19) ?_ <;> refine KP.q QK.mv ?_ <;> refine KP.q QK.add ?_ <;> refine KP.q QK.as ?_ <;> refine KP.list_nil ?_)
    | ((with_reducible apply KP.fin1); (· rfl); (· rfl)))
      exact KA.round (j + 1, st', .slice none 0 0, []) ⟨by simp only; omega, hsk', RowL.nil, by simp, rfl⟩
    · have hd : decide (bitV bits j = 1) = false := decide_eq_false hbit
      rw [hd] at hput
      repeat' (first
    | (with_reducible refine CW.seq ?_)
    | (with_reducible refine KP.then_code ?_)
    | (with_reducible refine CW.skip ?_)
    | (with_reducible refine CW.ret ?_)
    | (with_reducible refine KP.then_ret ?_)
    | (with_reducible refine KP.block_ret ?_)
    | (with_reducible refine CW.block ?_)
    | (with_reducible refine KP.block_normal ?_)
    | (with_reducible refine CW.exit ?_)
    | (with_reducible refine KP.then_exit ?_)
    | (with_reducible refine KP.block_hit ?_)
    | refine KP.bm ?_
    | refine CW.ct ?_
    | refine CW.cf ?_
    | (refine CW.cP ?_ ?_ <;> intro _ <;> try contradiction)
    | (refine CW.cs ?_ ?_ <;> intro _ <;> try contradiction)
    | (refine CW.region (i := 18) ?_ <;> refine KP.q QK.mv ?_ <;> refine KP.q QK.mv ?_ <;> refine KP.q QK.lss ?_ <;> refine KP.list_nil ?_)
    | (((with_reducible refine CW.draw (i := 20) ?_ [[], [], [], [0, 1, 2], [], [], [4, 5], [4, 5, 6], [4, 5, 6, 7], [0, 1, 2, 3, 4, 5, 6, 7, 8]] ?_ ?_ ?_ ?_); (· rfl); (· kernel_rfl); (· kernel_rfl); (· repeat (first | exact NoHang.post | refine NoHang.then ?_ | refine NoHang.block ?_))) <;> refine DW.p 0 rfl (fun _ => QK.mv) ?_ <;> refine DW.p 1 rfl (fun _ => QK.mv) ?_ <;> refine DW.p 2 rfl (fun _ => QK.mv) ?_ <;> refine DW.p 4 rfl (fun _ => QK.mv) ?_ <;> refine DW.p 5 rfl (fun _ => QK.mv) ?_ <;> refine DW.p 6 rfl (fun _ => (QY.shrN rfl rfl)) ?_ <;> refine DW.p 7 rfl (fun _ => (QY.and1 rfl rfl)) ?_ <;> refine DW.p 8 rfl (fun _ => QK.eqi) ?_ <;> (refine DW.ex 3 rfl ?_; intro hdk; ((refine EK.call (putE (v := av) hput) ?_ rfl (Split.cons (by with_reducible first | exact k0 | exact k1 | exact k2 | exact k3 | exact k4 | exact k5 | exact k6 | exact k7 | exact k8 | exact k9 | fail) Split.nil) (.cons (.via hrow (by with_reducible first | exact k0 | exact k1 | exact k2 | exact k3 | exact k4 | exact k5 | exact k6 | exact k7 | exact k8 | exact k9 | fail)) .nil)); repeat' first | refine CP.r ?_ | refine CP.r0 ?_ | refine CP.exP fun e107 => ?_ | refine CP.puP fun h107 => ?_); all_goals (refine DK.mk hdk .nil ?_; clear hdk)) <;> refine DW.p 9 rfl (fun _ => QK.neb) ?_ <;> refine DW.zz ?_)
    | (refine CW.region (i := 22) ?_ <;> refine KP.q QK.mv ?_ <;> refine KP.q QK.mv ?_ <;> refine KP.q (QY.shrN rfl rfl) ?_ <;> refine KP.q (QY.and1 rfl rfl) ?_ <;> refine KP.q QK.eqi ?_ <;> refine KP.list_nil ?_)
    | (refine CW.region (i := 19) ?_ <;> refine KP.q QK.mv ?_ <;> refine KP.q QK.add ?_ <;> refine KP.q QK.as ?_ <;> refine KP.list_nil ?_)
    | ((with_reducible apply KP.fin1); (· rfl); (· rfl)))
      exact KA.round (j + 1, st', av, l) ⟨by simp only; omega, hsk', hrow, hl5, hlc⟩
  obtain rfl : j = i := by omega
  have hdn := sk_done hsk
  have hdw := done_wants hdn
  obtain ⟨T1, hT1⟩ : ∃ T1, st.tell = T1 := ⟨_, rfl⟩
  obtain ⟨tl, st2⟩ := T1
  rw [hT1] at hdn hdw
  
  
  
  
  have h00 : ([] : List Int).length = 0 := rfl
  repeat' (first
    | (with_reducible refine CW.seq ?_)
    | (with_reducible refine KP.then_code ?_)
    | (with_reducible refine CW.skip ?_)
    | (with_reducible refine CW.ret ?_)
    | (with_reducible refine KP.then_ret ?_)
    | (with_reducible refine KP.block_ret ?_)
    | (with_reducible refine CW.block ?_)
    | (with_reducible refine KP.block_normal ?_)
    | (with_reducible refine CW.exit ?_)
    | (with_reducible refine KP.then_exit ?_)
    | (with_reducible refine KP.block_hit ?_)
    | refine KP.bm ?_
    | refine CW.ct ?_
    | refine CW.cf ?_
    | (refine CW.cP ?_ ?_ <;> intro _ <;> try contradiction)
    | (refine CW.cs ?_ ?_ <;> intro _ <;> try contradiction)
    | (refine CW.region (i := 18) ?_ <;> refine KP.q QK.mv ?_ <;> refine KP.q QK.mv ?_ <;> refine KP.q QK.lss ?_ <;> refine KP.list_nil ?_)
    | (refine CW.region (i := 24) ?_ <;> refine KP.q QK.mv ?_ <;> (refine KP.e ?_; ((refine EK.call (tellE hT1) ?_); repeat' first | refine CP.r ?_ | refine CP.r0 ?_ | refine CP.exP fun e120 => ?_ | refine CP.puP fun h120 => ?_)) <;> refine KP.list_nil ?_)
    | (refine CW.region (i := 25) ?_ <;> refine KP.q QK.mv ?_ <;> (refine KP.e ?_; ((refine EK.call (doneE hdn) ?_); repeat' first | refine CP.r ?_ | refine CP.r0 ?_ | refine CP.exP fun e122 => ?_ | refine CP.puP fun h122 => ?_)) <;> refine KP.q QK.mv ?_ <;> (first | refine KP.gn ?_ | refine KP.gu ?_ | refine KP.qy QK.mv ?_ | ((first | refine KP.gsP (t := 123) ?_ ?_ | refine KP.gs (t := 123) ?_ ?_) <;> intro _ <;> first | contradiction | refine KP.gn ?_ | refine KP.qy QK.mv ?_)) <;> (first | refine KP.gn ?_ | refine KP.gu ?_ | (refine KP.gy ?_; refine KP.e ?_; ((refine EK.call (wantsE hdw) ?_); repeat' first | refine CP.r ?_ | refine CP.r0 ?_ | refine CP.exP fun e125 => ?_ | refine CP.puP fun h125 => ?_))) <;> (first | refine KP.gn ?_ | refine KP.gu ?_ | refine KP.qy QK.len ?_) <;> (first | refine KP.gn ?_ | refine KP.gu ?_ | refine KP.qy QK.eqi ?_) <;> refine KP.q QK.pk ?_ <;> refine KP.q QK.mv ?_ <;> (first | refine KP.gn ?_ | refine KP.gu ?_ | (refine KP.gy ?_; refine KP.e ?_; ((refine EK.call (awakeM) ?_); repeat' first | refine CP.r ?_ | refine CP.r0 ?_ | refine CP.exP fun e130 => ?_ | refine CP.puP fun h130 => ?_)) | ((first | refine KP.gsP (t := 129) ?_ ?_ | refine KP.gs (t := 129) ?_ ?_) <;> intro _ <;> first | contradiction | refine KP.gn ?_ | (refine KP.gy ?_; refine KP.e ?_; ((refine EK.call (awakeM) ?_); repeat' first | refine CP.r ?_ | refine CP.r0 ?_ | refine CP.exP fun e130 => ?_ | refine CP.puP fun h130 => ?_)))) <;> refine KP.q QK.pk ?_ <;> refine KP.q QK.as ?_ <;> refine KP.list_nil ?_)
    | ((with_reducible apply KP.fin1); (· rfl); (· rfl)))
  exact FA.ret

end Go.Proofs.Ytpmhelfdmhjnbaa
