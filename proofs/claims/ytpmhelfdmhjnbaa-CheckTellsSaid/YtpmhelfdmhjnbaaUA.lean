import Derived.Test.YtpmhelfdmhjnbaaU9
import Derived.Test.YtpmhelfdmhjnbaaTH
/- CheckTells. -/
namespace Go.Proofs.Ytpmhelfdmhjnbaa
open Go Go.Ink Go.Plain
set_option linter.unusedVariables false
set_option linter.unusedSimpArgs false
attribute [local irreducible] KP QY EW CW DW DX QG CP Spc DK Fina wpList lessF lent

theorem refBegins_spec {va vb : Value} {a b : List Item} : Spc Try.prog 83 #[va, vb] [rrow 2 eI va a, rrow 2 eI vb b] [] (ret (.bool (beginF a b)) []) := by
  refine Spc.enter' (args := [va, vb]) (T0 := [(0, va), (1, vb)]) Try.func83 rfl Try.ntmps83 (Nat.le_of_ble_eq_true rfl) rfl ?_
  intro w0 own
  refine CW.roFact (A := rrow 2 eI va a) (by simp) (fun _ h => rrow.le h) fun hxa => ?_
  refine CW.roFact (A := rrow 2 eI vb b) (by simp) (fun _ h => rrow.le h) fun hxb => ?_
  repeat' (first
    | (with_reducible refine CW.seq ?_)
    | (with_reducible refine KP.then_code ?_)
    | (with_reducible refine CW.skip ?_)
    | (with_reducible refine CW.ret ?_)
    | (with_reducible refine KP.then_ret ?_)
    | (with_reducible refine KP.block_ret ?_)
    | (with_reducible refine CW.block ?_)
    | (with_reducible refine KP.block_normal ?_)
    | (with_reducible refine CW.exit ?_)
    | (with_reducible refine KP.then_exit ?_)
    | (with_reducible refine KP.block_hit ?_)
    | refine KP.bm ?_
    | refine CW.ct ?_
    | refine CW.cf ?_
    | (refine CW.cP ?_ ?_ <;> intro _ <;> try contradiction)
    | (refine CW.cs ?_ ?_ <;> intro _ <;> try contradiction)
    | (refine CW.region (i := 0) ?_ <;> refine KP.q QK.as ?_ <;> refine KP.list_nil ?_)
    | (refine CW.region (i := 1) ?_ <;> refine KP.q QK.as ?_ <;> refine KP.list_nil ?_)
    | ((with_reducible apply KP.fin1); (· rfl); (· rfl)))
  refine CA.loop (X := Nat) (fun z => [(0, va), (1, vb), (5, iv (z : Nat))]) (fun _ => []) (fun z => z ≤ a.length ∧ z ≤ b.length ∧ b.take z = a.take z) (fun z => a.length - z) 0 ⟨by simp, by simp, by simp⟩ ?_
  rintro i ⟨hi, hib, he⟩
  try dsimp only at hi hib he ⊢
  rcases Nat.lt_or_ge i a.length with hlt | hge
  · obtain ⟨p, hp⟩ := at_lt hlt
    rcases Nat.lt_or_ge i b.length with hlb | hgb
    · obtain ⟨q, hq⟩ := at_lt hlb
      
      
      repeat' (first
    | (with_reducible refine CW.seq ?_)
    | (with_reducible refine KP.then_code ?_)
    | (with_reducible refine CW.skip ?_)
    | (with_reducible refine CW.ret ?_)
    | (with_reducible refine KP.then_ret ?_)
    | (with_reducible refine KP.block_ret ?_)
    | (with_reducible refine CW.block ?_)
    | (with_reducible refine KP.block_normal ?_)
    | (with_reducible refine CW.exit ?_)
    | (with_reducible refine KP.then_exit ?_)
    | (with_reducible refine KP.block_hit ?_)
    | refine KP.bm ?_
    | refine CW.ct ?_
    | refine CW.cf ?_
    | (refine CW.cP ?_ ?_ <;> intro _ <;> try contradiction)
    | (refine CW.cs ?_ ?_ <;> intro _ <;> try contradiction)
    | (refine CW.region (i := 2) ?_ <;> refine KP.q QK.mv ?_ <;> refine KP.q QK.mv ?_ <;> refine KP.q QK.len ?_ <;> refine KP.q QK.lss ?_ <;> refine KP.list_nil ?_)
    | (((with_reducible refine CW.draw (i := 4) ?_ [[], [], [1], [0, 1, 2], [0, 1, 2, 3], [0, 1, 2, 3, 4], [0, 1, 2, 3, 4], [0, 1, 2, 3, 4, 5, 6], [0, 1, 2, 3, 4, 5, 6, 7], [0, 1, 2, 3, 4], [0, 1, 2, 3, 4], [0, 1, 2, 3, 4, 9, 10], [0, 1, 2, 3, 4, 9, 10, 11], [0, 1, 2, 3, 4, 5, 6, 7, 8, 9, 10, 11, 12], [0, 1, 2, 3, 4, 5, 6, 7, 8, 9, 10, 11, 12, 13]] ?_ ?_ ?_ ?_); (· rfl); (· kernel_rfl); (· kernel_rfl); (· repeat (first | exact NoHang.post | refine NoHang.then ?_ | refine NoHang.block ?_))) <;> refine DW.p 0 rfl (fun _ => QK.mv) ?_ <;> refine DW.p 1 rfl (fun _ => QK.mv) ?_ <;> refine DW.m 2 rfl QK.len ?_ <;> refine DW.p 3 rfl (fun _ => QK.geq) ?_ <;> refine DW.p 4 rfl (fun _ => QK.mv) ?_ <;> (first | refine DW.pn 5 rfl rfl rfl ?_ | refine DW.pu 5 rfl rfl rfl ?_ | refine DW.py 5 rfl rfl rfl (fun _ => QK.mv) ?_ | ((first | refine DW.sP (t := 16) ?_ ?_ | refine DW.s (t := 16) ?_ ?_) <;> intro _ <;> first | contradiction | refine DW.pn 5 rfl rfl rfl ?_ | refine DW.pu 5 rfl rfl rfl ?_ | refine DW.py 5 rfl rfl rfl (fun _ => QK.mv) ?_)) <;> (first | refine DW.pn 6 rfl rfl rfl ?_ | refine DW.pu 6 rfl rfl rfl ?_ | refine DW.py 6 rfl rfl rfl (fun _ => QK.mv) ?_) <;> (first | refine DW.pn 9 rfl rfl rfl ?_ | refine DW.pu 9 rfl rfl rfl ?_ | refine DW.py 9 rfl rfl rfl (fun _ => QK.mv) ?_) <;> (first | refine DW.pn 10 rfl rfl rfl ?_ | refine DW.pu 10 rfl rfl rfl ?_ | refine DW.py 10 rfl rfl rfl (fun _ => QK.mv) ?_) <;> (first | refine DW.mn 7 rfl rfl rfl ?_ | refine DW.mu 7 rfl rfl rfl ?_ | refine DW.my 7 rfl rfl rfl QK.ia ?_) <;> (first | refine DW.mn 8 rfl rfl rfl ?_ | refine DW.mu 8 rfl rfl rfl ?_ | refine DW.my 8 rfl rfl rfl (by first | exact QY.load_a rfl (Rd.ro (by with_reducible first | exact m0 | exact m1 | exact m2 | exact m3 | exact m4 | exact m5 | fail)) (Reads.row RowL.rrow hp) rfl | exact QY.load_a rfl (Rd.ro (by with_reducible first | exact m0 | exact m1 | exact m2 | exact m3 | exact m4 | exact m5 | fail)) (Reads.row RowL.rrow hq) rfl | exact QK.lda) ?_) <;> (first | refine DW.mn 11 rfl rfl rfl ?_ | refine DW.mu 11 rfl rfl rfl ?_ | refine DW.my 11 rfl rfl rfl QK.ia ?_) <;> (first | refine DW.mn 12 rfl rfl rfl ?_ | refine DW.mu 12 rfl rfl rfl ?_ | refine DW.my 12 rfl rfl rfl (by first | exact QY.load_a rfl (Rd.ro (by with_reducible first | exact m0 | exact m1 | exact m2 | exact m3 | exact m4 | exact m5 | fail)) (Reads.row RowL.rrow hp) rfl | exact QY.load_a rfl (Rd.ro (by with_reducible first | exact m0 | exact m1 | exact m2 | exact m3 | exact m4 | exact m5 | fail)) (Reads.row RowL.rrow hq) rfl | exact QK.lda) ?_) <;> (first | refine DW.pn 13 rfl rfl rfl ?_ | refine DW.pu 13 rfl rfl rfl ?_ | refine DW.py 13 rfl rfl rfl (fun _ => (by first | exact QY.ne_agg (enc := eI) (p := p) (q := q) rfl rfl | exact QK.nea)) ?_) <;> refine DW.p 14 rfl (fun _ => QK.pk) ?_ <;> refine DW.zz ?_)
    | (refine CW.region (i := 5) ?_ <;> refine KP.q QK.as ?_ <;> refine KP.list_nil ?_)
    | (refine CW.region (i := 3) ?_ <;> refine KP.q QK.mv ?_ <;> refine KP.q QK.add ?_ <;> refine KP.q QK.as ?_ <;> refine KP.list_nil ?_)
    | ((with_reducible apply KP.fin1); (· rfl); (· rfl)))
      · rename_i hne
        have hb : beginF a b = false := by
          unfold beginF
          rw [decide_eq_false_iff_not]
          intro e
          have h1 : (b.take a.length)[i]? = b[i]? := List.getElem?_take_of_lt hlt
          rw [e, hp, hq] at h1
          exact hne (Option.some.inj h1)
        rw [hb]
        exact FA.ret
      · rename_i hne
        have hpq : p = q := Decidable.not_not.1 hne
        exact KA.round (i + 1) ⟨by omega, by omega, by rw [List.take_add_one, List.take_add_one, hp, hq, he, hpq]⟩
    · rw [begin_len (by omega)]
      repeat' (first
    | (with_reducible refine CW.seq ?_)
    | (with_reducible refine KP.then_code ?_)
    | (with_reducible refine CW.skip ?_)
    | (with_reducible refine CW.ret ?_)
    | (with_reducible refine KP.then_ret ?_)
    | (with_reducible refine KP.block_ret ?_)
    | (with_reducible refine CW.block ?_)
    | (with_reducible refine KP.block_normal ?_)
    | (with_reducible refine CW.exit ?_)
    | (with_reducible refine KP.then_exit ?_)
    | (with_reducible refine KP.block_hit ?_)
    | refine KP.bm ?_
    | refine CW.ct ?_
    | refine CW.cf ?_
    | (refine CW.cP ?_ ?_ <;> intro _ <;> try contradiction)
    | (refine CW.cs ?_ ?_ <;> intro _ <;> try contradiction)
    | (refine CW.region (i := 2) ?_ <;> refine KP.q QK.mv ?_ <;> refine KP.q QK.mv ?_ <;> refine KP.q QK.len ?_ <;> refine KP.q QK.lss ?_ <;> refine KP.list_nil ?_)
    | (((with_reducible refine CW.draw (i := 4) ?_ [[], [], [1], [0, 1, 2], [0, 1, 2, 3], [0, 1, 2, 3, 4], [0, 1, 2, 3, 4], [0, 1, 2, 3, 4, 5, 6], [0, 1, 2, 3, 4, 5, 6, 7], [0, 1, 2, 3, 4], [0, 1, 2, 3, 4], [0, 1, 2, 3, 4, 9, 10], [0, 1, 2, 3, 4, 9, 10, 11], [0, 1, 2, 3, 4, 5, 6, 7, 8, 9, 10, 11, 12], [0, 1, 2, 3, 4, 5, 6, 7, 8, 9, 10, 11, 12, 13]] ?_ ?_ ?_ ?_); (· rfl); (· kernel_rfl); (· kernel_rfl); (· repeat (first | exact NoHang.post | refine NoHang.then ?_ | refine NoHang.block ?_))) <;> refine DW.p 0 rfl (fun _ => QK.mv) ?_ <;> refine DW.p 1 rfl (fun _ => QK.mv) ?_ <;> refine DW.m 2 rfl QK.len ?_ <;> refine DW.p 3 rfl (fun _ => QK.geq) ?_ <;> refine DW.p 4 rfl (fun _ => QK.mv) ?_ <;> (first | refine DW.pn 5 rfl rfl rfl ?_ | refine DW.pu 5 rfl rfl rfl ?_ | refine DW.py 5 rfl rfl rfl (fun _ => QK.mv) ?_ | ((first | refine DW.sP (t := 16) ?_ ?_ | refine DW.s (t := 16) ?_ ?_) <;> intro _ <;> first | contradiction | refine DW.pn 5 rfl rfl rfl ?_ | refine DW.pu 5 rfl rfl rfl ?_ | refine DW.py 5 rfl rfl rfl (fun _ => QK.mv) ?_)) <;> (first | refine DW.pn 6 rfl rfl rfl ?_ | refine DW.pu 6 rfl rfl rfl ?_ | refine DW.py 6 rfl rfl rfl (fun _ => QK.mv) ?_) <;> (first | refine DW.pn 9 rfl rfl rfl ?_ | refine DW.pu 9 rfl rfl rfl ?_ | refine DW.py 9 rfl rfl rfl (fun _ => QK.mv) ?_) <;> (first | refine DW.pn 10 rfl rfl rfl ?_ | refine DW.pu 10 rfl rfl rfl ?_ | refine DW.py 10 rfl rfl rfl (fun _ => QK.mv) ?_) <;> (first | refine DW.mn 7 rfl rfl rfl ?_ | refine DW.mu 7 rfl rfl rfl ?_ | refine DW.my 7 rfl rfl rfl QK.ia ?_) <;> (first | refine DW.mn 8 rfl rfl rfl ?_ | refine DW.mu 8 rfl rfl rfl ?_ | refine DW.my 8 rfl rfl rfl (by first | exact QY.load_a rfl (Rd.ro (by with_reducible first | exact m0 | exact m1 | exact m2 | exact m3 | exact m4 | exact m5 | fail)) (Reads.row RowL.rrow hp) rfl | exact QY.load_a rfl (Rd.ro (by with_reducible first | exact m0 | exact m1 | exact m2 | exact m3 | exact m4 | exact m5 | fail)) (Reads.row RowL.rrow hq) rfl | exact QK.lda) ?_) <;> (first | refine DW.mn 11 rfl rfl rfl ?_ | refine DW.mu 11 rfl rfl rfl ?_ | refine DW.my 11 rfl rfl rfl QK.ia ?_) <;> (first | refine DW.mn 12 rfl rfl rfl ?_ | refine DW.mu 12 rfl rfl rfl ?_ | refine DW.my 12 rfl rfl rfl (by first | exact QY.load_a rfl (Rd.ro (by with_reducible first | exact m0 | exact m1 | exact m2 | exact m3 | exact m4 | exact m5 | fail)) (Reads.row RowL.rrow hp) rfl | exact QY.load_a rfl (Rd.ro (by with_reducible first | exact m0 | exact m1 | exact m2 | exact m3 | exact m4 | exact m5 | fail)) (Reads.row RowL.rrow hq) rfl | exact QK.lda) ?_) <;> (first | refine DW.pn 13 rfl rfl rfl ?_ | refine DW.pu 13 rfl rfl rfl ?_ | refine DW.py 13 rfl rfl rfl (fun _ => (by first | exact QY.ne_agg (enc := eI) (p := p) (q := q) rfl rfl | exact QK.nea)) ?_) <;> refine DW.p 14 rfl (fun _ => QK.pk) ?_ <;> refine DW.zz ?_)
    | (refine CW.region (i := 5) ?_ <;> refine KP.q QK.as ?_ <;> refine KP.list_nil ?_)
    | ((with_reducible apply KP.fin1); (· rfl); (· rfl)))
      exact FA.ret
  · obtain rfl : i = a.length := by omega
    rw [List.take_length] at he
    have hb : beginF a b = true := by unfold beginF; rw [he]; simp
    rw [hb]
    repeat' (first
    | (with_reducible refine CW.seq ?_)
    | (with_reducible refine KP.then_code ?_)
    | (with_reducible refine CW.skip ?_)
    | (with_reducible refine CW.ret ?_)
    | (with_reducible refine KP.then_ret ?_)
    | (with_reducible refine KP.block_ret ?_)
    | (with_reducible refine CW.block ?_)
    | (with_reducible refine KP.block_normal ?_)
    | (with_reducible refine CW.exit ?_)
    | (with_reducible refine KP.then_exit ?_)
    | (with_reducible refine KP.block_hit ?_)
    | refine KP.bm ?_
    | refine CW.ct ?_
    | refine CW.cf ?_
    | (refine CW.cP ?_ ?_ <;> intro _ <;> try contradiction)
    | (refine CW.cs ?_ ?_ <;> intro _ <;> try contradiction)
    | (refine CW.region (i := 2) ?_ <;> refine KP.q QK.mv ?_ <;> refine KP.q QK.mv ?_ <;> refine KP.q QK.len ?_ <;> refine KP.q QK.lss ?_ <;> refine KP.list_nil ?_)
    | (refine CW.region (i := 6) ?_ <;> refine KP.q QK.as ?_ <;> refine KP.list_nil ?_)
    | ((with_reducible apply KP.fin1); (· rfl); (· rfl)))
    exact FA.ret

attribute [local irreducible] beginF prefixF

section
variable {v : Value} {ts : List ByteArray} {t : Td}
theorem refPrefix_spec (hq : t.q.text.size ≤ 10000) (hl : ts.length ≤ 40000) (ht : ∀ t ∈ ts, t.size ≤ 10000) : Spc Try.prog 43 #[v, .agg (eT t).toArray] [rrow 1 eS v ts, tdA t] [] (ret (.bool (prefixF ts t)) []) := by
  refine Spc.enter' (args := [v, .agg (eT t).toArray]) (T0 := [(0, v), (1, .agg (eT t).toArray)]) Try.func43 rfl Try.ntmps43 (Nat.le_of_ble_eq_true rfl) rfl ?_
  intro w0 own
  
  
  repeat' (first
    | (with_reducible refine CW.seq ?_)
    | (with_reducible refine KP.then_code ?_)
    | (with_reducible refine CW.skip ?_)
    | (with_reducible refine CW.ret ?_)
    | (with_reducible refine KP.then_ret ?_)
    | (with_reducible refine KP.block_ret ?_)
    | (with_reducible refine CW.block ?_)
    | (with_reducible refine KP.block_normal ?_)
    | (with_reducible refine CW.exit ?_)
    | (with_reducible refine KP.then_exit ?_)
    | (with_reducible refine KP.block_hit ?_)
    | refine KP.bm ?_
    | refine CW.ct ?_
    | refine CW.cf ?_
    | (refine CW.cP ?_ ?_ <;> intro _ <;> try contradiction)
    | (refine CW.cs ?_ ?_ <;> intro _ <;> try contradiction)
    | (refine CW.region (i := 0) ?_ <;> (refine KP.e ?_; (refine EK.box_a ?_; intro b3)) <;> refine KP.q QK.as ?_ <;> refine KP.list_nil ?_)
    | (((with_reducible refine CW.draw (i := 1) ?_ [[], [0], [], [], [3], [2, 3, 4], [0, 1, 2, 3, 4, 5], [0, 1, 2, 3, 4, 5, 6]] ?_ ?_ ?_ ?_); (· rfl); (· kernel_rfl); (· kernel_rfl); (· repeat (first | exact NoHang.post | refine NoHang.then ?_ | refine NoHang.block ?_))) <;> refine DW.p 0 rfl (fun _ => QK.fa) ?_ <;> refine DW.p 2 rfl (fun _ => QK.mv) ?_ <;> refine DW.p 3 rfl (fun _ => QK.fa) ?_ <;> refine DW.m 1 rfl QK.lds ?_ <;> refine DW.m 4 rfl (by first | exact QY.load_a rfl (Rd.own (by with_reducible first | exact k0 | exact k1 | exact k2 | exact k3 | exact k4 | exact k5 | exact k6 | exact k7 | exact k8 | exact k9 | fail)) (Reads.pt_part (off := 1) (n := 3)) (by rfl) | exact QK.lda) ?_ <;> (refine DW.ex 5 rfl ?_; intro hdk; ((refine EK.call (refTopE (x := t.q) hq hl ht rfl) ?_); repeat' first | refine CP.r ?_ | refine CP.r0 ?_ | refine CP.exP fun e10 => ?_ | refine CP.puP fun h10 => ?_); all_goals (refine DK.mk hdk (by refine Ob.ap rfl QK.lds ?_; exact .nil) ?_; clear hdk)) <;> (refine DW.ex 6 rfl ?_; intro hdk; ((refine EK.call (refBegins_spec (a := t.items) (b := topF ts t.q)) ?_); repeat' first | refine CP.r ?_ | refine CP.r0 ?_ | refine CP.exP fun e11 => ?_ | refine CP.puP fun h11 => ?_); all_goals (refine DK.mk hdk .nil ?_; clear hdk)) <;> refine DW.p 7 rfl (fun _ => QK.as) ?_ <;> refine DW.zz ?_)
    | ((with_reducible apply KP.fin1); (· rfl); (· rfl)))
  unfold prefixF
  exact FA.ret
theorem refComplete_spec (hq : t.q.text.size ≤ 10000) (hl : ts.length ≤ 40000) (ht : ∀ t ∈ ts, t.size ≤ 10000) : Spc Try.prog 45 #[v, .agg (eT t).toArray] [rrow 1 eS v ts, tdA t] [] (ret (.bool (completeF ts t)) []) := by
  refine Spc.enter' (args := [v, .agg (eT t).toArray]) (T0 := [(0, v), (1, .agg (eT t).toArray)]) Try.func45 rfl Try.ntmps45 (Nat.le_of_ble_eq_true rfl) rfl ?_
  intro w0 own
  
  
  repeat' (first
    | (with_reducible refine CW.seq ?_)
    | (with_reducible refine KP.then_code ?_)
    | (with_reducible refine CW.skip ?_)
    | (with_reducible refine CW.ret ?_)
    | (with_reducible refine KP.then_ret ?_)
    | (with_reducible refine KP.block_ret ?_)
    | (with_reducible refine CW.block ?_)
    | (with_reducible refine KP.block_normal ?_)
    | (with_reducible refine CW.exit ?_)
    | (with_reducible refine KP.then_exit ?_)
    | (with_reducible refine KP.block_hit ?_)
    | refine KP.bm ?_
    | refine CW.ct ?_
    | refine CW.cf ?_
    | (refine CW.cP ?_ ?_ <;> intro _ <;> try contradiction)
    | (refine CW.cs ?_ ?_ <;> intro _ <;> try contradiction)
    | (refine CW.region (i := 0) ?_ <;> (refine KP.e ?_; (refine EK.box_a ?_; intro b3)) <;> refine KP.q QK.as ?_ <;> refine KP.list_nil ?_)
    | (refine CW.region (i := 1) ?_ <;> refine KP.q QK.mv ?_ <;> refine KP.q QK.fa ?_ <;> refine KP.q (by first | exact QY.load_a rfl (Rd.own (by with_reducible first | exact k0 | exact k1 | exact k2 | exact k3 | exact k4 | exact k5 | exact k6 | exact k7 | exact k8 | exact k9 | fail)) (Reads.pt_part (off := 1) (n := 3)) (by rfl) | exact QK.lda) ?_ <;> (refine KP.e ?_; ((first | refine EK.call (refTopE (x := t.q) hq hl ht rfl) ?_ | refine EK.call (refTopE (x := t.q) hq hl ht rfl) ?_); repeat' first | refine CP.r ?_ | refine CP.r0 ?_ | refine CP.exP fun e9 => ?_ | refine CP.puP fun h9 => ?_)) <;> refine KP.q QK.as ?_ <;> refine KP.list_nil ?_)
    | (refine CW.region (i := 2) ?_ <;> refine KP.q QK.fa ?_ <;> refine KP.q QK.lds ?_ <;> refine KP.q QK.mv ?_ <;> (refine KP.e ?_; ((first | refine EK.call (refBegins_spec (a := t.items) (b := topF ts t.q)) ?_ | refine EK.call (refBegins_spec (a := t.items) (b := topF ts t.q)) ?_); repeat' first | refine CP.r ?_ | refine CP.r0 ?_ | refine CP.exP fun e13 => ?_ | refine CP.puP fun h13 => ?_)) <;> refine KP.q QK.mv ?_ <;> (first | refine KP.gn ?_ | refine KP.gu ?_ | refine KP.qy QK.fa ?_ | ((first | refine KP.gsP (t := 14) ?_ ?_ | refine KP.gs (t := 14) ?_ ?_) <;> intro _ <;> first | contradiction | refine KP.gn ?_ | refine KP.qy QK.fa ?_)) <;> (first | refine KP.gn ?_ | refine KP.gu ?_ | refine KP.qy QK.lds ?_) <;> (first | refine KP.gn ?_ | refine KP.gu ?_ | refine KP.qy QK.len ?_) <;> (first | refine KP.gn ?_ | refine KP.gu ?_ | refine KP.qy QK.mv ?_) <;> (first | refine KP.gn ?_ | refine KP.gu ?_ | refine KP.qy QK.len ?_) <;> (first | refine KP.gn ?_ | refine KP.gu ?_ | refine KP.qy QK.eqi ?_) <;> refine KP.q QK.pk ?_ <;> refine KP.q QK.as ?_ <;> refine KP.list_nil ?_)
    | ((with_reducible apply KP.fin1); (· rfl); (· rfl)))
  all_goals exact FA.ret' (by first | (simp_all [completeF, prefixF]; done) | (simp_all [completeF, prefixF]; omega))

attribute [local irreducible] completeF


theorem refRight_spec (hq : t.q.text.size ≤ 10000) (hl : ts.length ≤ 40000) (ht : ∀ t ∈ ts, t.size ≤ 10000) : Spc Try.prog 47 #[v, .agg (eT t).toArray] [rrow 1 eS v ts, tdA t] [] (ret (.bool (rightF ts t)) []) := by
  refine Spc.enter' (args := [v, .agg (eT t).toArray]) (T0 := [(0, v), (1, .agg (eT t).toArray)]) Try.func47 rfl Try.ntmps47 (Nat.le_of_ble_eq_true rfl) rfl ?_
  intro w0 own
  repeat' (first
    | (with_reducible refine CW.seq ?_)
    | (with_reducible refine KP.then_code ?_)
    | (with_reducible refine CW.skip ?_)
    | (with_reducible refine CW.ret ?_)
    | (with_reducible refine KP.then_ret ?_)
    | (with_reducible refine KP.block_ret ?_)
    | (with_reducible refine CW.block ?_)
    | (with_reducible refine KP.block_normal ?_)
    | (with_reducible refine CW.exit ?_)
    | (with_reducible refine KP.then_exit ?_)
    | (with_reducible refine KP.block_hit ?_)
    | refine KP.bm ?_
    | refine CW.ct ?_
    | refine CW.cf ?_
    | (refine CW.cP ?_ ?_ <;> intro _ <;> try contradiction)
    | (refine CW.cs ?_ ?_ <;> intro _ <;> try contradiction)
    | (refine CW.region (i := 0) ?_ <;> (refine KP.e ?_; (refine EK.box_a ?_; intro b3)) <;> refine KP.q QK.as ?_ <;> refine KP.list_nil ?_)
    | (refine CW.region (i := 1) ?_ <;> refine KP.q QK.mv ?_ <;> refine KP.q QK.lda ?_ <;> (refine KP.e ?_; ((refine EK.call (refPrefix_spec hq hl ht) ?_); repeat' first | refine CP.r ?_ | refine CP.r0 ?_ | refine CP.exP fun e7 => ?_ | refine CP.puP fun h7 => ?_)) <;> refine KP.q QK.mv ?_ <;> (first | refine KP.gn ?_ | refine KP.gu ?_ | refine KP.qy QK.fa ?_ | ((first | refine KP.gsP (t := 8) ?_ ?_ | refine KP.gs (t := 8) ?_ ?_) <;> intro _ <;> first | contradiction | refine KP.gn ?_ | refine KP.qy QK.fa ?_)) <;> (first | refine KP.gn ?_ | refine KP.gu ?_ | refine KP.qy QK.lds ?_) <;> (first | refine KP.gn ?_ | refine KP.gu ?_ | refine KP.qy QK.not ?_) <;> (first | refine KP.gn ?_ | refine KP.gu ?_ | refine KP.qy QK.mv ?_) <;> (first | refine KP.gn ?_ | refine KP.gu ?_ | refine KP.qy QK.mv ?_ | ((first | refine KP.gsP (t := 12) ?_ ?_ | refine KP.gs (t := 12) ?_ ?_) <;> intro _ <;> first | contradiction | refine KP.gn ?_ | refine KP.qy QK.mv ?_)) <;> (first | refine KP.gn ?_ | refine KP.gu ?_ | refine KP.qy QK.lda ?_) <;> (first | refine KP.gn ?_ | refine KP.gu ?_ | (refine KP.gy ?_; refine KP.e ?_; ((refine EK.call (refComplete_spec hq hl ht) ?_); repeat' first | refine CP.r ?_ | refine CP.r0 ?_ | refine CP.exP fun e15 => ?_ | refine CP.puP fun h15 => ?_))) <;> (first | refine KP.gn ?_ | refine KP.gu ?_ | refine KP.qy QK.mv ?_) <;> (first | refine KP.gn ?_ | refine KP.gu ?_ | refine KP.qy QK.fa ?_ | ((first | refine KP.gsP (t := 16) ?_ ?_ | refine KP.gs (t := 16) ?_ ?_) <;> intro _ <;> first | contradiction | refine KP.gn ?_ | refine KP.qy QK.fa ?_)) <;> (first | refine KP.gn ?_ | refine KP.gu ?_ | refine KP.qy QK.lds ?_) <;> (first | refine KP.gn ?_ | refine KP.gu ?_ | refine KP.qy QK.not ?_) <;> (first | refine KP.gn ?_ | refine KP.gu ?_ | refine KP.qy QK.pk ?_) <;> (first | refine KP.gn ?_ | refine KP.gu ?_ | refine KP.qy QK.pk ?_) <;> refine KP.q QK.pk ?_ <;> refine KP.q QK.as ?_ <;> refine KP.list_nil ?_)
    | ((with_reducible apply KP.fin1); (· rfl); (· rfl)))
  all_goals exact FA.ret' (by first | (simp_all [rightF]; done) | (simp_all [rightF]; omega))
end

theorem refLater_spec {a b : Td} : Spc Try.prog 49 #[.agg (eT a).toArray, .agg (eT b).toArray] [tdA a, tdA b] [] (ret (.bool (laterF a b)) []) := by
  refine Spc.enter' (args := [.agg (eT a).toArray, .agg (eT b).toArray]) (T0 := [(0, .agg (eT a).toArray), (1, .agg (eT b).toArray)]) Try.func49 rfl Try.ntmps49 (Nat.le_of_ble_eq_true rfl) rfl ?_
  intro w0 own
  
  
  
  repeat' (first
    | (with_reducible refine CW.seq ?_)
    | (with_reducible refine KP.then_code ?_)
    | (with_reducible refine CW.skip ?_)
    | (with_reducible refine CW.ret ?_)
    | (with_reducible refine KP.then_ret ?_)
    | (with_reducible refine KP.block_ret ?_)
    | (with_reducible refine CW.block ?_)
    | (with_reducible refine KP.block_normal ?_)
    | (with_reducible refine CW.exit ?_)
    | (with_reducible refine KP.then_exit ?_)
    | (with_reducible refine KP.block_hit ?_)
    | refine KP.bm ?_
    | refine CW.ct ?_
    | refine CW.cf ?_
    | (refine CW.cP ?_ ?_ <;> intro _ <;> try contradiction)
    | (refine CW.cs ?_ ?_ <;> intro _ <;> try contradiction)
    | (refine CW.region (i := 0) ?_ <;> (refine KP.e ?_; (refine EK.box_a ?_; intro b2)) <;> (refine KP.e ?_; (refine EK.box_a ?_; intro b3)) <;> refine KP.q QK.as ?_ <;> refine KP.list_nil ?_)
    | (refine CW.region (i := 1) ?_ <;> refine KP.q QK.fa ?_ <;> refine KP.q QK.lds ?_ <;> refine KP.q QK.fa ?_ <;> refine KP.q QK.lds ?_ <;> refine KP.q QK.nei ?_ <;> refine KP.q QK.mv ?_ <;> (first | refine KP.gn ?_ | refine KP.gu ?_ | refine KP.qy QK.fa ?_ | ((first | refine KP.gsP (t := 10) ?_ ?_ | refine KP.gs (t := 10) ?_ ?_) <;> intro _ <;> first | contradiction | refine KP.gn ?_ | refine KP.qy QK.fa ?_)) <;> (first | refine KP.gn ?_ | refine KP.gu ?_ | refine KP.qy (by first | exact QY.load_a rfl (Rd.own (by with_reducible first | exact k0 | exact k1 | exact k2 | exact k3 | exact k4 | exact k5 | exact k6 | exact k7 | exact k8 | exact k9 | fail)) (Reads.pt_part (off := 1) (n := 3)) (by rfl) | exact QK.lda) ?_) <;> (first | refine KP.gn ?_ | refine KP.gu ?_ | refine KP.qy QK.fa ?_) <;> (first | refine KP.gn ?_ | refine KP.gu ?_ | refine KP.qy (by first | exact QY.load_a rfl (Rd.own (by with_reducible first | exact k0 | exact k1 | exact k2 | exact k3 | exact k4 | exact k5 | exact k6 | exact k7 | exact k8 | exact k9 | fail)) (Reads.pt_part (off := 1) (n := 3)) (by rfl) | exact QK.lda) ?_) <;> (first | refine KP.gn ?_ | refine KP.gu ?_ | refine KP.qy (by first | exact QY.ne_agg (enc := eQ) (p := a.q) (q := b.q) rfl rfl | exact QK.nea) ?_) <;> refine KP.q QK.pk ?_ <;> refine KP.q QK.mv ?_ <;> (first | refine KP.gn ?_ | refine KP.gu ?_ | refine KP.qy QK.fa ?_ | ((first | refine KP.gsP (t := 17) ?_ ?_ | refine KP.gs (t := 17) ?_ ?_) <;> intro _ <;> first | contradiction | refine KP.gn ?_ | refine KP.qy QK.fa ?_)) <;> (first | refine KP.gn ?_ | refine KP.gu ?_ | refine KP.qy QK.lds ?_) <;> (first | refine KP.gn ?_ | refine KP.gu ?_ | refine KP.qy QK.fa ?_) <;> (first | refine KP.gn ?_ | refine KP.gu ?_ | refine KP.qy QK.lds ?_) <;> (first | refine KP.gn ?_ | refine KP.gu ?_ | (refine KP.gy ?_; refine KP.e ?_; ((refine EK.call (refBegins_spec (a := a.items) (b := b.items)) ?_); repeat' first | refine CP.r ?_ | refine CP.r0 ?_ | refine CP.exP fun e22 => ?_ | refine CP.puP fun h22 => ?_))) <;> (first | refine KP.gn ?_ | refine KP.gu ?_ | refine KP.qy QK.not ?_) <;> refine KP.q QK.pk ?_ <;> refine KP.list_nil ?_)
    | (refine CW.region (i := 2) ?_ <;> refine KP.q QK.as ?_ <;> refine KP.list_nil ?_)
    | (refine CW.region (i := 3) ?_ <;> refine KP.q QK.fa ?_ <;> refine KP.q QK.lds ?_ <;> refine KP.q QK.not ?_ <;> refine KP.q QK.mv ?_ <;> (first | refine KP.gn ?_ | refine KP.gu ?_ | refine KP.qy QK.fa ?_ | ((first | refine KP.gsP (t := 28) ?_ ?_ | refine KP.gs (t := 28) ?_ ?_) <;> intro _ <;> first | contradiction | refine KP.gn ?_ | refine KP.qy QK.fa ?_)) <;> (first | refine KP.gn ?_ | refine KP.gu ?_ | refine KP.qy QK.lds ?_) <;> (first | refine KP.gn ?_ | refine KP.gu ?_ | refine KP.qy QK.not ?_) <;> refine KP.q QK.pk ?_ <;> refine KP.q QK.mv ?_ <;> (first | refine KP.gn ?_ | refine KP.gu ?_ | refine KP.qy QK.fa ?_ | ((first | refine KP.gsP (t := 33) ?_ ?_ | refine KP.gs (t := 33) ?_ ?_) <;> intro _ <;> first | contradiction | refine KP.gn ?_ | refine KP.qy QK.fa ?_)) <;> (first | refine KP.gn ?_ | refine KP.gu ?_ | refine KP.qy QK.lds ?_) <;> (first | refine KP.gn ?_ | refine KP.gu ?_ | refine KP.qy QK.fa ?_) <;> (first | refine KP.gn ?_ | refine KP.gu ?_ | refine KP.qy QK.lds ?_) <;> (first | refine KP.gn ?_ | refine KP.gu ?_ | refine KP.qy QK.eqb ?_) <;> (first | refine KP.gn ?_ | refine KP.gu ?_ | refine KP.qy QK.mv ?_) <;> (first | refine KP.gn ?_ | refine KP.gu ?_ | refine KP.qy QK.fa ?_ | ((first | refine KP.gsP (t := 39) ?_ ?_ | refine KP.gs (t := 39) ?_ ?_) <;> intro _ <;> first | contradiction | refine KP.gn ?_ | refine KP.qy QK.fa ?_)) <;> (first | refine KP.gn ?_ | refine KP.gu ?_ | refine KP.qy QK.lds ?_) <;> (first | refine KP.gn ?_ | refine KP.gu ?_ | refine KP.qy QK.fa ?_) <;> (first | refine KP.gn ?_ | refine KP.gu ?_ | refine KP.qy QK.lds ?_) <;> (first | refine KP.gn ?_ | refine KP.gu ?_ | refine KP.qy QK.eqb ?_) <;> (first | refine KP.gn ?_ | refine KP.gu ?_ | refine KP.qy QK.pk ?_) <;> (first | refine KP.gn ?_ | refine KP.gu ?_ | refine KP.qy QK.mv ?_) <;> (first | refine KP.gn ?_ | refine KP.gu ?_ | refine KP.qy QK.fa ?_ | ((first | refine KP.gsP (t := 46) ?_ ?_ | refine KP.gs (t := 46) ?_ ?_) <;> intro _ <;> first | contradiction | refine KP.gn ?_ | refine KP.qy QK.fa ?_)) <;> (first | refine KP.gn ?_ | refine KP.gu ?_ | refine KP.qy QK.lds ?_) <;> (first | refine KP.gn ?_ | refine KP.gu ?_ | refine KP.qy QK.len ?_) <;> (first | refine KP.gn ?_ | refine KP.gu ?_ | refine KP.qy QK.fa ?_) <;> (first | refine KP.gn ?_ | refine KP.gu ?_ | refine KP.qy QK.lds ?_) <;> (first | refine KP.gn ?_ | refine KP.gu ?_ | refine KP.qy QK.len ?_) <;> (first | refine KP.gn ?_ | refine KP.gu ?_ | refine KP.qy QK.eqi ?_) <;> (first | refine KP.gn ?_ | refine KP.gu ?_ | refine KP.qy QK.pk ?_) <;> refine KP.q QK.pk ?_ <;> refine KP.q QK.as ?_ <;> refine KP.list_nil ?_)
    | ((with_reducible apply KP.fin1); (· rfl); (· rfl)))
  all_goals exact FA.ret' (by first | (simp_all [laterF]; done) | (simp_all [laterF]; omega))

def greatC (ts : List ByteArray) (a b : Td) : Bool := greatT ts || greatI a.items || greatI b.items || decide (100 < (a.q.text.size : Int)) || decide (100 < (b.q.text.size : Int))
attribute [local irreducible] greatT greatI
theorem greatC_spec {v : Value} {ts : List ByteArray} {a b : Td} : Spc Try.prog 40 #[v, .agg (eT a).toArray, .agg (eT b).toArray] [rrow 1 eS v ts, tdA a, tdA b] [] (ret (.bool (greatC ts a b)) []) := by
  refine Spc.enter' (args := [v, .agg (eT a).toArray, .agg (eT b).toArray]) (T0 := [(0, v), (1, .agg (eT a).toArray), (2, .agg (eT b).toArray)]) Try.func40 rfl Try.ntmps40 (Nat.le_of_ble_eq_true rfl) rfl ?_
  intro w0 own
  
  
  repeat' (first
    | (with_reducible refine CW.seq ?_)
    | (with_reducible refine KP.then_code ?_)
    | (with_reducible refine CW.skip ?_)
    | (with_reducible refine CW.ret ?_)
    | (with_reducible refine KP.then_ret ?_)
    | (with_reducible refine KP.block_ret ?_)
    | (with_reducible refine CW.block ?_)
    | (with_reducible refine KP.block_normal ?_)
    | (with_reducible refine CW.exit ?_)
    | (with_reducible refine KP.then_exit ?_)
    | (with_reducible refine KP.block_hit ?_)
    | refine KP.bm ?_
    | refine CW.ct ?_
    | refine CW.cf ?_
    | (refine CW.cP ?_ ?_ <;> intro _ <;> try contradiction)
    | (refine CW.cs ?_ ?_ <;> intro _ <;> try contradiction)
    | (refine CW.region (i := 0) ?_ <;> (refine KP.e ?_; (refine EK.box_a ?_; intro b4)) <;> (refine KP.e ?_; (refine EK.box_a ?_; intro b5)) <;> refine KP.q QK.as ?_ <;> refine KP.list_nil ?_)
    | (refine CW.region (i := 1) ?_ <;> refine KP.q QK.mv ?_ <;> (refine KP.e ?_; ((refine EK.call (greatT_spec) ?_); repeat' first | refine CP.r ?_ | refine CP.r0 ?_ | refine CP.exP fun e8 => ?_ | refine CP.puP fun h8 => ?_)) <;> refine KP.q QK.mv ?_ <;> (first | refine KP.gn ?_ | refine KP.gu ?_ | refine KP.qy QK.fa ?_ | ((first | refine KP.gsP (t := 9) ?_ ?_ | refine KP.gs (t := 9) ?_ ?_) <;> intro _ <;> first | contradiction | refine KP.gn ?_ | refine KP.qy QK.fa ?_)) <;> (first | refine KP.gn ?_ | refine KP.gu ?_ | refine KP.qy QK.lds ?_) <;> (first | refine KP.gn ?_ | refine KP.gu ?_ | (refine KP.gy ?_; refine KP.e ?_; ((first | refine EK.call (greatI_spec (v := a.wv) (xs := a.items)) ?_ | refine EK.call (greatI_spec (v := b.wv) (xs := b.items)) ?_); repeat' first | refine CP.r ?_ | refine CP.r0 ?_ | refine CP.exP fun e12 => ?_ | refine CP.puP fun h12 => ?_))) <;> refine KP.q QK.pk ?_ <;> refine KP.q QK.mv ?_ <;> (first | refine KP.gn ?_ | refine KP.gu ?_ | refine KP.qy QK.fa ?_ | ((first | refine KP.gsP (t := 14) ?_ ?_ | refine KP.gs (t := 14) ?_ ?_) <;> intro _ <;> first | contradiction | refine KP.gn ?_ | refine KP.qy QK.fa ?_)) <;> (first | refine KP.gn ?_ | refine KP.gu ?_ | refine KP.qy QK.lds ?_) <;> (first | refine KP.gn ?_ | refine KP.gu ?_ | (refine KP.gy ?_; refine KP.e ?_; ((first | refine EK.call (greatI_spec (v := a.wv) (xs := a.items)) ?_ | refine EK.call (greatI_spec (v := b.wv) (xs := b.items)) ?_); repeat' first | refine CP.r ?_ | refine CP.r0 ?_ | refine CP.exP fun e17 => ?_ | refine CP.puP fun h17 => ?_))) <;> refine KP.q QK.pk ?_ <;> refine KP.q QK.mv ?_ <;> (first | refine KP.gn ?_ | refine KP.gu ?_ | refine KP.qy QK.fa ?_ | ((first | refine KP.gsP (t := 19) ?_ ?_ | refine KP.gs (t := 19) ?_ ?_) <;> intro _ <;> first | contradiction | refine KP.gn ?_ | refine KP.qy QK.fa ?_)) <;> (first | refine KP.gn ?_ | refine KP.gu ?_ | refine KP.qy QK.fa ?_) <;> (first | refine KP.gn ?_ | refine KP.gu ?_ | refine KP.qy QK.lds ?_) <;> (first | refine KP.gn ?_ | refine KP.gu ?_ | refine KP.qy QK.len ?_) <;> (first | refine KP.gn ?_ | refine KP.gu ?_ | refine KP.qy QK.gtr ?_) <;> refine KP.q QK.pk ?_ <;> refine KP.q QK.mv ?_ <;> (first | refine KP.gn ?_ | refine KP.gu ?_ | refine KP.qy QK.fa ?_ | ((first | refine KP.gsP (t := 26) ?_ ?_ | refine KP.gs (t := 26) ?_ ?_) <;> intro _ <;> first | contradiction | refine KP.gn ?_ | refine KP.qy QK.fa ?_)) <;> (first | refine KP.gn ?_ | refine KP.gu ?_ | refine KP.qy QK.fa ?_) <;> (first | refine KP.gn ?_ | refine KP.gu ?_ | refine KP.qy QK.lds ?_) <;> (first | refine KP.gn ?_ | refine KP.gu ?_ | refine KP.qy QK.len ?_) <;> (first | refine KP.gn ?_ | refine KP.gu ?_ | refine KP.qy QK.gtr ?_) <;> refine KP.q QK.pk ?_ <;> refine KP.q QK.as ?_ <;> refine KP.list_nil ?_)
    | ((with_reducible apply KP.fin1); (· rfl); (· rfl)))
  all_goals exact FA.ret' (by first | (simp_all [greatC]; done) | (simp_all [greatC]; omega))

theorem greatCE {v : Value} {ts : List ByteArray} {a b : Td} {r : Bool} (h : greatC ts a b = r) : Spc Try.prog 40 #[v, .agg (eT a).toArray, .agg (eT b).toArray] [rrow 1 eS v ts, tdA a, tdA b] [] (ret (.bool r) []) := h ▸ greatC_spec
theorem bself {p : Bool} : Value.bool (p == p) = .bool true := by cases p <;> rfl
attribute [local irreducible] rightF laterF
set_option maxHeartbeats 4000000 in
theorem checkTells_spec {v : Value} {ts : List ByteArray} {a b : Td} : Spc Try.prog 8 #[v, .agg (eT a).toArray, .agg (eT b).toArray] [rrow 1 eS v ts, tdA a, tdA b] [] (ret (.bool true) []) := by
  refine Spc.enter' (args := [v, .agg (eT a).toArray, .agg (eT b).toArray]) (T0 := [(0, v), (1, .agg (eT a).toArray), (2, .agg (eT b).toArray)]) Try.func8 rfl Try.ntmps8 (Nat.le_of_ble_eq_true rfl) rfl ?_
  intro w0 own
  
  cases hg : greatC ts a b
  rotate_left
  · 
    repeat' (first
    | (with_reducible refine CW.seq ?_)
    | (with_reducible refine KP.then_code ?_)
    | (with_reducible refine CW.skip ?_)
    | (with_reducible refine CW.ret ?_)
    | (with_reducible refine KP.then_ret ?_)
    | (with_reducible refine KP.block_ret ?_)
    | (with_reducible refine CW.block ?_)
    | (with_reducible refine KP.block_normal ?_)
    | (with_reducible refine CW.exit ?_)
    | (with_reducible refine KP.then_exit ?_)
    | (with_reducible refine KP.block_hit ?_)
    | refine KP.bm ?_
    | refine CW.ct ?_
    | refine CW.cf ?_
    | (refine CW.cP ?_ ?_ <;> intro _ <;> try contradiction)
    | (refine CW.cs ?_ ?_ <;> intro _ <;> try contradiction)
    | (refine CW.region (i := 0) ?_ <;> (refine KP.e ?_; (refine EK.box_a ?_; intro b4)) <;> (refine KP.e ?_; (refine EK.box_a ?_; intro b5)) <;> refine KP.q QK.as ?_ <;> refine KP.list_nil ?_)
    | (refine CW.region (i := 1) ?_ <;> refine KP.q QK.mv ?_ <;> refine KP.q QK.lda ?_ <;> refine KP.q QK.lda ?_ <;> (refine KP.e ?_; ((refine EK.call (greatCE hg) ?_); repeat' first | refine CP.r ?_ | refine CP.r0 ?_ | refine CP.exP fun e10 => ?_ | refine CP.puP fun h10 => ?_)) <;> refine KP.list_nil ?_)
    | (refine CW.region (i := 2) ?_ <;> (refine KP.e ?_; ((refine EK.call (awakeC) ?_); repeat' first | refine CP.r ?_ | refine CP.r0 ?_ | refine CP.exP fun e11 => ?_ | refine CP.puP fun h11 => ?_)) <;> refine KP.q QK.as ?_ <;> refine KP.list_nil ?_)
    | (((with_reducible refine CW.draw (i := 3) ?_ [[], [], [0, 1], [], [], [0, 1, 2, 3, 4], [0, 1, 2, 3, 4, 5], [0, 1, 2, 3, 4, 5, 6], [0, 1, 2, 3, 4, 5, 6, 7], [0, 1, 2, 3, 4, 5, 6, 7], [0, 1, 2, 3, 4, 5, 6, 7, 8, 9], [0, 1, 2, 3, 4, 5, 6, 7], [0, 1, 2, 3, 4, 5, 6, 7], [0, 1, 2, 3, 4, 5, 6, 7, 8, 9, 10, 11, 12], [0, 1, 2, 3, 4, 5, 6, 7, 8, 9, 10, 11, 12, 13], [0, 1, 2, 3, 4, 5, 6, 7, 8, 9, 10, 11, 12, 13, 14], [0, 1, 2, 3, 4, 5, 6, 7, 8, 9, 10, 11, 12, 13, 14, 15], [0, 1, 2, 3, 4, 5, 6, 7, 8, 9, 10, 11, 12, 13, 14, 15, 16], [0, 1, 2, 3, 4, 5, 6, 7, 8, 9, 10, 11, 12, 13, 14, 15, 16], [0, 1, 2, 3, 4, 5, 6, 7, 8, 9, 10, 11, 12, 13, 14, 15, 16, 17, 18], [0, 1, 2, 3, 4, 5, 6, 7, 8, 9, 10, 11, 12, 13, 14, 15, 16], [0, 1, 2, 3, 4, 5, 6, 7, 8, 9, 10, 11, 12, 13, 14, 15, 16], [0, 1, 2, 3, 4, 5, 6, 7, 8, 9, 10, 11, 12, 13, 14, 15, 16, 17, 18, 19, 20, 21], [0, 1, 2, 3, 4, 5, 6, 7, 8, 9, 10, 11, 12, 13, 14, 15, 16, 17, 18, 19, 20, 21, 22], [0, 1, 2, 3, 4, 5, 6, 7, 8, 9, 10, 11, 12, 13, 14, 15, 16, 17, 18, 19, 20, 21, 22, 23], [0, 1, 2, 3, 4, 5, 6, 7, 8, 9, 10, 11, 12, 13, 14, 15, 16, 17, 18, 19, 20, 21, 22, 23, 24], [0, 1, 2, 3, 4, 5, 6, 7, 8, 9, 10, 11, 12, 13, 14, 15, 16, 17, 18, 19, 20, 21, 22, 23, 24, 25], [0, 1, 2, 3, 4, 5, 6, 7, 8, 9, 10, 11, 12, 13, 14, 15, 16, 17, 18, 19, 20, 21, 22, 23, 24, 25], [0, 1, 2, 3, 4, 5, 6, 7, 8, 9, 10, 11, 12, 13, 14, 15, 16, 17, 18, 19, 20, 21, 22, 23, 24, 25, 26, 27], [0, 1, 2, 3, 4, 5, 6, 7, 8, 9, 10, 11, 12, 13, 14, 15, 16, 17, 18, 19, 20, 21, 22, 23, 24, 25], [0, 1, 2, 3, 4, 5, 6, 7, 8, 9, 10, 11, 12, 13, 14, 15, 16, 17, 18, 19, 20, 21, 22, 23, 24, 25], [0, 1, 2, 3, 4, 5, 6, 7, 8, 9, 10, 11, 12, 13, 14, 15, 16, 17, 18, 19, 20, 21, 22, 23, 24, 25, 26, 27, 28, 29, 30], [0, 1, 2, 3, 4, 5, 6, 7, 8, 9, 10, 11, 12, 13, 14, 15, 16, 17, 18, 19, 20, 21, 22, 23, 24, 25, 26, 27, 28, 29, 30, 31], [0, 1, 2, 3, 4, 5, 6, 7, 8, 9, 10, 11, 12, 13, 14, 15, 16, 17, 18, 19, 20, 21, 22, 23, 24, 25, 26, 27, 28, 29, 30, 31, 32], [0, 1, 2, 3, 4, 5, 6, 7, 8, 9, 10, 11, 12, 13, 14, 15, 16, 17, 18, 19, 20, 21, 22, 23, 24, 25, 26, 27, 28, 29, 30, 31, 32, 33], [0, 1, 2, 3, 4, 5, 6, 7, 8, 9, 10, 11, 12, 13, 14, 15, 16, 17, 18, 19, 20, 21, 22, 23, 24, 25, 26, 27, 28, 29, 30, 31, 32, 33, 34], [0, 1, 2, 3, 4, 5, 6, 7, 8, 9, 10, 11, 12, 13, 14, 15, 16, 17, 18, 19, 20, 21, 22, 23, 24, 25, 26, 27, 28, 29, 30, 31, 32, 33, 34, 35], [0, 1, 2, 3, 4, 5, 6, 7, 8, 9, 10, 11, 12, 13, 14, 15, 16, 17, 18, 19, 20, 21, 22, 23, 24, 25, 26, 27, 28, 29, 30, 31, 32, 33, 34, 35, 36]] ?_ ?_ ?_ ?_); (· rfl); (· kernel_rfl); (· kernel_rfl); (· repeat (first | exact NoHang.post | refine NoHang.then ?_ | refine NoHang.block ?_))) <;> refine DW.p 0 rfl (fun _ => QK.mv) ?_ <;> refine DW.p 3 rfl (fun _ => QK.mv) ?_ <;> refine DW.m 1 rfl QK.lda ?_ <;> refine DW.m 4 rfl QK.lda ?_ <;> (refine DW.ex 2 rfl ?_; intro hdk; ((fail "no rule f42"); repeat' first | refine CP.r ?_ | refine CP.r0 ?_ | refine CP.exP fun e14 => ?_ | refine CP.puP fun h14 => ?_); all_goals (refine DK.mk hdk (by refine Ob.ap rfl QK.lda ?_; exact .nil) ?_; clear hdk)) <;> (refine DW.ex 5 rfl ?_; intro hdk; ((fail "no rule f43"); repeat' first | refine CP.r ?_ | refine CP.r0 ?_ | refine CP.exP fun e17 => ?_ | refine CP.puP fun h17 => ?_); all_goals (refine DK.mk hdk .nil ?_; clear hdk)) <;> refine DW.p 6 rfl (fun _ => QK.eqb) ?_ <;> refine DW.p 7 rfl (fun _ => QK.mv) ?_ <;> (first | refine DW.pn 8 rfl rfl rfl ?_ | refine DW.pu 8 rfl rfl rfl ?_ | refine DW.py 8 rfl rfl rfl (fun _ => QK.mv) ?_ | ((first | refine DW.sP (t := 19) ?_ ?_ | refine DW.s (t := 19) ?_ ?_) <;> intro _ <;> first | contradiction | refine DW.pn 8 rfl rfl rfl ?_ | refine DW.pu 8 rfl rfl rfl ?_ | refine DW.py 8 rfl rfl rfl (fun _ => QK.mv) ?_)) <;> (first | refine DW.pn 11 rfl rfl rfl ?_ | refine DW.pu 11 rfl rfl rfl ?_ | refine DW.py 11 rfl rfl rfl (fun _ => QK.mv) ?_) <;> (first | refine DW.mn 9 rfl rfl rfl ?_ | refine DW.mu 9 rfl rfl rfl ?_ | refine DW.my 9 rfl rfl rfl QK.lda ?_) <;> (first | refine DW.mn 12 rfl rfl rfl ?_ | refine DW.mu 12 rfl rfl rfl ?_ | refine DW.my 12 rfl rfl rfl QK.lda ?_) <;> (first | (refine DW.exn 10 rfl rfl rfl ?_; intro hdk; refine DK.mk hdk (by (first | refine Ob.an rfl rfl rfl ?_ | refine Ob.au rfl rfl rfl ?_ | refine Ob.ay rfl rfl rfl QK.lda ?_); exact .nil) ?_; clear hdk) | (refine DW.exy 10 rfl rfl rfl ?_; intro hdk; ((fail "no rule f44"); repeat' first | refine CP.r ?_ | refine CP.r0 ?_ | refine CP.exP fun e22 => ?_ | refine CP.puP fun h22 => ?_); all_goals (refine DK.mk hdk (by (first | refine Ob.an rfl rfl rfl ?_ | refine Ob.au rfl rfl rfl ?_ | refine Ob.ay rfl rfl rfl QK.lda ?_); exact .nil) ?_; clear hdk))) <;> (first | (refine DW.exn 13 rfl rfl rfl ?_; intro hdk; refine DK.mk hdk .nil ?_; clear hdk) | (refine DW.exy 13 rfl rfl rfl ?_; intro hdk; ((fail "no rule f45"); repeat' first | refine CP.r ?_ | refine CP.r0 ?_ | refine CP.exP fun e25 => ?_ | refine CP.puP fun h25 => ?_); all_goals (refine DK.mk hdk .nil ?_; clear hdk))) <;> (first | refine DW.pn 14 rfl rfl rfl ?_ | refine DW.pu 14 rfl rfl rfl ?_ | refine DW.py 14 rfl rfl rfl (fun _ => QK.eqb) ?_) <;> refine DW.p 15 rfl (fun _ => QK.pk) ?_ <;> refine DW.p 16 rfl (fun _ => QK.mv) ?_ <;> (first | refine DW.pn 17 rfl rfl rfl ?_ | refine DW.pu 17 rfl rfl rfl ?_ | refine DW.py 17 rfl rfl rfl (fun _ => QK.mv) ?_ | ((first | refine DW.sP (t := 28) ?_ ?_ | refine DW.s (t := 28) ?_ ?_) <;> intro _ <;> first | contradiction | refine DW.pn 17 rfl rfl rfl ?_ | refine DW.pu 17 rfl rfl rfl ?_ | refine DW.py 17 rfl rfl rfl (fun _ => QK.mv) ?_)) <;> (first | refine DW.pn 20 rfl rfl rfl ?_ | refine DW.pu 20 rfl rfl rfl ?_ | refine DW.py 20 rfl rfl rfl (fun _ => QK.mv) ?_) <;> (first | refine DW.mn 18 rfl rfl rfl ?_ | refine DW.mu 18 rfl rfl rfl ?_ | refine DW.my 18 rfl rfl rfl QK.lda ?_) <;> (first | refine DW.mn 21 rfl rfl rfl ?_ | refine DW.mu 21 rfl rfl rfl ?_ | refine DW.my 21 rfl rfl rfl QK.lda ?_) <;> (first | (refine DW.exn 19 rfl rfl rfl ?_; intro hdk; refine DK.mk hdk (by (first | refine Ob.an rfl rfl rfl ?_ | refine Ob.au rfl rfl rfl ?_ | refine Ob.ay rfl rfl rfl QK.lda ?_); exact .nil) ?_; clear hdk) | (refine DW.exy 19 rfl rfl rfl ?_; intro hdk; ((fail "no rule f46"); repeat' first | refine CP.r ?_ | refine CP.r0 ?_ | refine CP.exP fun e31 => ?_ | refine CP.puP fun h31 => ?_); all_goals (refine DK.mk hdk (by (first | refine Ob.an rfl rfl rfl ?_ | refine Ob.au rfl rfl rfl ?_ | refine Ob.ay rfl rfl rfl QK.lda ?_); exact .nil) ?_; clear hdk))) <;> (first | (refine DW.exn 22 rfl rfl rfl ?_; intro hdk; refine DK.mk hdk .nil ?_; clear hdk) | (refine DW.exy 22 rfl rfl rfl ?_; intro hdk; ((fail "no rule f47"); repeat' first | refine CP.r ?_ | refine CP.r0 ?_ | refine CP.exP fun e34 => ?_ | refine CP.puP fun h34 => ?_); all_goals (refine DK.mk hdk .nil ?_; clear hdk))) <;> (first | refine DW.pn 23 rfl rfl rfl ?_ | refine DW.pu 23 rfl rfl rfl ?_ | refine DW.py 23 rfl rfl rfl (fun _ => QK.eqb) ?_) <;> refine DW.p 24 rfl (fun _ => QK.pk) ?_ <;> refine DW.p 25 rfl (fun _ => QK.mv) ?_ <;> (first | refine DW.mn 26 rfl rfl rfl ?_ | refine DW.mu 26 rfl rfl rfl ?_ | refine DW.my 26 rfl rfl rfl QK.lda ?_ | ((first | refine DW.sP (t := 37) ?_ ?_ | refine DW.s (t := 37) ?_ ?_) <;> intro _ <;> first | contradiction | refine DW.mn 26 rfl rfl rfl ?_ | refine DW.mu 26 rfl rfl rfl ?_ | refine DW.my 26 rfl rfl rfl QK.lda ?_)) <;> (first | refine DW.mn 27 rfl rfl rfl ?_ | refine DW.mu 27 rfl rfl rfl ?_ | refine DW.my 27 rfl rfl rfl QK.lda ?_) <;> (first | refine DW.mn 29 rfl rfl rfl ?_ | refine DW.mu 29 rfl rfl rfl ?_ | refine DW.my 29 rfl rfl rfl QK.lda ?_) <;> (first | refine DW.mn 30 rfl rfl rfl ?_ | refine DW.mu 30 rfl rfl rfl ?_ | refine DW.my 30 rfl rfl rfl QK.lda ?_) <;> (first | (refine DW.exn 28 rfl rfl rfl ?_; intro hdk; refine DK.mk hdk (by (first | refine Ob.an rfl rfl rfl ?_ | refine Ob.au rfl rfl rfl ?_ | refine Ob.ay rfl rfl rfl QK.lda ?_); (first | refine Ob.an rfl rfl rfl ?_ | refine Ob.au rfl rfl rfl ?_ | refine Ob.ay rfl rfl rfl QK.lda ?_); exact .nil) ?_; clear hdk) | (refine DW.exy 28 rfl rfl rfl ?_; intro hdk; ((fail "no rule f48"); repeat' first | refine CP.r ?_ | refine CP.r0 ?_ | refine CP.exP fun e40 => ?_ | refine CP.puP fun h40 => ?_); all_goals (refine DK.mk hdk (by (first | refine Ob.an rfl rfl rfl ?_ | refine Ob.au rfl rfl rfl ?_ | refine Ob.ay rfl rfl rfl QK.lda ?_); (first | refine Ob.an rfl rfl rfl ?_ | refine Ob.au rfl rfl rfl ?_ | refine Ob.ay rfl rfl rfl QK.lda ?_); exact .nil) ?_; clear hdk))) <;> (first | (refine DW.exn 31 rfl rfl rfl ?_; intro hdk; refine DK.mk hdk .nil ?_; clear hdk) | (refine DW.exy 31 rfl rfl rfl ?_; intro hdk; ((fail "no rule f49"); repeat' first | refine CP.r ?_ | refine CP.r0 ?_ | refine CP.exP fun e43 => ?_ | refine CP.puP fun h43 => ?_); all_goals (refine DK.mk hdk .nil ?_; clear hdk))) <;> (first | refine DW.pn 32 rfl rfl rfl ?_ | refine DW.pu 32 rfl rfl rfl ?_ | refine DW.py 32 rfl rfl rfl (fun _ => QK.eqb) ?_) <;> refine DW.p 33 rfl (fun _ => QK.pk) ?_ <;> refine DW.p 34 rfl (fun _ => QK.mv) ?_ <;> (first | (refine DW.exn 35 rfl rfl rfl ?_; intro hdk; refine DK.mk hdk .nil ?_; clear hdk) | (refine DW.exy 35 rfl rfl rfl ?_; intro hdk; ((refine EK.call (awakeC) ?_); repeat' first | refine CP.r ?_ | refine CP.r0 ?_ | refine CP.exP fun e47 => ?_ | refine CP.puP fun h47 => ?_); all_goals (refine DK.mk hdk .nil ?_; clear hdk)) | ((first | refine DW.sP (t := 46) ?_ ?_ | refine DW.s (t := 46) ?_ ?_) <;> intro _ <;> first | contradiction | (refine DW.exn 35 rfl rfl rfl ?_; intro hdk; refine DK.mk hdk .nil ?_; clear hdk) | (refine DW.exy 35 rfl rfl rfl ?_; intro hdk; ((refine EK.call (awakeC) ?_); repeat' first | refine CP.r ?_ | refine CP.r0 ?_ | refine CP.exP fun e47 => ?_ | refine CP.puP fun h47 => ?_); all_goals (refine DK.mk hdk .nil ?_; clear hdk)))) <;> refine DW.p 36 rfl (fun _ => QK.pk) ?_ <;> refine DW.p 37 rfl (fun _ => QK.as) ?_ <;> refine DW.zz ?_)
    | ((with_reducible apply KP.fin1); (· rfl); (· rfl)))
    exact FA.ret
  have h1 : greatT ts = false := by unfold greatC at hg; simp at hg; exact hg.1.1.1.1
  have h2 : a.q.text.size ≤ 100 := by unfold greatC at hg; simp at hg; omega
  have hl := greatT_len h1
  have ht := greatT_size h1
  have ht2 := greatT_small h1
  
  
  
  
  
  
  
  
  
  
  
  repeat' (first
    | (with_reducible refine CW.seq ?_)
    | (with_reducible refine KP.then_code ?_)
    | (with_reducible refine CW.skip ?_)
    | (with_reducible refine CW.ret ?_)
    | (with_reducible refine KP.then_ret ?_)
    | (with_reducible refine KP.block_ret ?_)
    | (with_reducible refine CW.block ?_)
    | (with_reducible refine KP.block_normal ?_)
    | (with_reducible refine CW.exit ?_)
    | (with_reducible refine KP.then_exit ?_)
    | (with_reducible refine KP.block_hit ?_)
    | refine KP.bm ?_
    | refine CW.ct ?_
    | refine CW.cf ?_
    | (refine CW.cP ?_ ?_ <;> intro _ <;> try contradiction)
    | (refine CW.cs ?_ ?_ <;> intro _ <;> try contradiction)
    | (refine CW.region (i := 0) ?_ <;> (refine KP.e ?_; (refine EK.box_a ?_; intro b4)) <;> (refine KP.e ?_; (refine EK.box_a ?_; intro b5)) <;> refine KP.q QK.as ?_ <;> refine KP.list_nil ?_)
    | (refine CW.region (i := 1) ?_ <;> refine KP.q QK.mv ?_ <;> refine KP.q QK.lda ?_ <;> refine KP.q QK.lda ?_ <;> (refine KP.e ?_; ((refine EK.call (greatCE hg) ?_); repeat' first | refine CP.r ?_ | refine CP.r0 ?_ | refine CP.exP fun e10 => ?_ | refine CP.puP fun h10 => ?_)) <;> refine KP.list_nil ?_)
    | (refine CW.region (i := 2) ?_ <;> (refine KP.e ?_; ((refine EK.call (awakeC) ?_); repeat' first | refine CP.r ?_ | refine CP.r0 ?_ | refine CP.exP fun e11 => ?_ | refine CP.puP fun h11 => ?_)) <;> refine KP.q QK.as ?_ <;> refine KP.list_nil ?_)
    | (((with_reducible refine CW.draw (i := 3) ?_ [[], [], [0, 1], [], [], [0, 1, 2, 3, 4], [0, 1, 2, 3, 4, 5], [0, 1, 2, 3, 4, 5, 6], [0, 1, 2, 3, 4, 5, 6, 7], [0, 1, 2, 3, 4, 5, 6, 7], [0, 1, 2, 3, 4, 5, 6, 7, 8, 9], [0, 1, 2, 3, 4, 5, 6, 7], [0, 1, 2, 3, 4, 5, 6, 7], [0, 1, 2, 3, 4, 5, 6, 7, 8, 9, 10, 11, 12], [0, 1, 2, 3, 4, 5, 6, 7, 8, 9, 10, 11, 12, 13], [0, 1, 2, 3, 4, 5, 6, 7, 8, 9, 10, 11, 12, 13, 14], [0, 1, 2, 3, 4, 5, 6, 7, 8, 9, 10, 11, 12, 13, 14, 15], [0, 1, 2, 3, 4, 5, 6, 7, 8, 9, 10, 11, 12, 13, 14, 15, 16], [0, 1, 2, 3, 4, 5, 6, 7, 8, 9, 10, 11, 12, 13, 14, 15, 16], [0, 1, 2, 3, 4, 5, 6, 7, 8, 9, 10, 11, 12, 13, 14, 15, 16, 17, 18], [0, 1, 2, 3, 4, 5, 6, 7, 8, 9, 10, 11, 12, 13, 14, 15, 16], [0, 1, 2, 3, 4, 5, 6, 7, 8, 9, 10, 11, 12, 13, 14, 15, 16], [0, 1, 2, 3, 4, 5, 6, 7, 8, 9, 10, 11, 12, 13, 14, 15, 16, 17, 18, 19, 20, 21], [0, 1, 2, 3, 4, 5, 6, 7, 8, 9, 10, 11, 12, 13, 14, 15, 16, 17, 18, 19, 20, 21, 22], [0, 1, 2, 3, 4, 5, 6, 7, 8, 9, 10, 11, 12, 13, 14, 15, 16, 17, 18, 19, 20, 21, 22, 23], [0, 1, 2, 3, 4, 5, 6, 7, 8, 9, 10, 11, 12, 13, 14, 15, 16, 17, 18, 19, 20, 21, 22, 23, 24], [0, 1, 2, 3, 4, 5, 6, 7, 8, 9, 10, 11, 12, 13, 14, 15, 16, 17, 18, 19, 20, 21, 22, 23, 24, 25], [0, 1, 2, 3, 4, 5, 6, 7, 8, 9, 10, 11, 12, 13, 14, 15, 16, 17, 18, 19, 20, 21, 22, 23, 24, 25], [0, 1, 2, 3, 4, 5, 6, 7, 8, 9, 10, 11, 12, 13, 14, 15, 16, 17, 18, 19, 20, 21, 22, 23, 24, 25, 26, 27], [0, 1, 2, 3, 4, 5, 6, 7, 8, 9, 10, 11, 12, 13, 14, 15, 16, 17, 18, 19, 20, 21, 22, 23, 24, 25], [0, 1, 2, 3, 4, 5, 6, 7, 8, 9, 10, 11, 12, 13, 14, 15, 16, 17, 18, 19, 20, 21, 22, 23, 24, 25], [0, 1, 2, 3, 4, 5, 6, 7, 8, 9, 10, 11, 12, 13, 14, 15, 16, 17, 18, 19, 20, 21, 22, 23, 24, 25, 26, 27, 28, 29, 30], [0, 1, 2, 3, 4, 5, 6, 7, 8, 9, 10, 11, 12, 13, 14, 15, 16, 17, 18, 19, 20, 21, 22, 23, 24, 25, 26, 27, 28, 29, 30, 31], [0, 1, 2, 3, 4, 5, 6, 7, 8, 9, 10, 11, 12, 13, 14, 15, 16, 17, 18, 19, 20, 21, 22, 23, 24, 25, 26, 27, 28, 29, 30, 31, 32], [0, 1, 2, 3, 4, 5, 6, 7, 8, 9, 10, 11, 12, 13, 14, 15, 16, 17, 18, 19, 20, 21, 22, 23, 24, 25, 26, 27, 28, 29, 30, 31, 32, 33], [0, 1, 2, 3, 4, 5, 6, 7, 8, 9, 10, 11, 12, 13, 14, 15, 16, 17, 18, 19, 20, 21, 22, 23, 24, 25, 26, 27, 28, 29, 30, 31, 32, 33, 34], [0, 1, 2, 3, 4, 5, 6, 7, 8, 9, 10, 11, 12, 13, 14, 15, 16, 17, 18, 19, 20, 21, 22, 23, 24, 25, 26, 27, 28, 29, 30, 31, 32, 33, 34, 35], [0, 1, 2, 3, 4, 5, 6, 7, 8, 9, 10, 11, 12, 13, 14, 15, 16, 17, 18, 19, 20, 21, 22, 23, 24, 25, 26, 27, 28, 29, 30, 31, 32, 33, 34, 35, 36]] ?_ ?_ ?_ ?_); (· rfl); (· kernel_rfl); (· kernel_rfl); (· repeat (first | exact NoHang.post | refine NoHang.then ?_ | refine NoHang.block ?_))) <;> refine DW.p 0 rfl (fun _ => QK.mv) ?_ <;> refine DW.p 3 rfl (fun _ => QK.mv) ?_ <;> refine DW.m 1 rfl QK.lda ?_ <;> refine DW.m 4 rfl QK.lda ?_ <;> (refine DW.ex 2 rfl ?_; intro hdk; ((refine EK.call (prefix_spec (t := a) (by omega) (by omega) ht) ?_); repeat' first | refine CP.r ?_ | refine CP.r0 ?_ | refine CP.exP fun e14 => ?_ | refine CP.puP fun h14 => ?_); all_goals (refine DK.mk hdk (by refine Ob.ap rfl QK.lda ?_; exact .nil) ?_; clear hdk)) <;> (refine DW.ex 5 rfl ?_; intro hdk; ((refine EK.call (refPrefix_spec (t := a) (by omega) (by omega) ht2) ?_); repeat' first | refine CP.r ?_ | refine CP.r0 ?_ | refine CP.exP fun e17 => ?_ | refine CP.puP fun h17 => ?_); all_goals (refine DK.mk hdk .nil ?_; clear hdk)) <;> refine DW.p 6 rfl (fun _ => (by first | exact QY.same (QY.eq_bool rfl rfl) bself | exact QK.eqb)) ?_ <;> refine DW.p 7 rfl (fun _ => QK.mv) ?_ <;> (first | refine DW.pn 8 rfl rfl rfl ?_ | refine DW.pu 8 rfl rfl rfl ?_ | refine DW.py 8 rfl rfl rfl (fun _ => QK.mv) ?_ | ((first | refine DW.sP (t := 19) ?_ ?_ | refine DW.s (t := 19) ?_ ?_) <;> intro _ <;> first | contradiction | refine DW.pn 8 rfl rfl rfl ?_ | refine DW.pu 8 rfl rfl rfl ?_ | refine DW.py 8 rfl rfl rfl (fun _ => QK.mv) ?_)) <;> (first | refine DW.pn 11 rfl rfl rfl ?_ | refine DW.pu 11 rfl rfl rfl ?_ | refine DW.py 11 rfl rfl rfl (fun _ => QK.mv) ?_) <;> (first | refine DW.mn 9 rfl rfl rfl ?_ | refine DW.mu 9 rfl rfl rfl ?_ | refine DW.my 9 rfl rfl rfl QK.lda ?_) <;> (first | refine DW.mn 12 rfl rfl rfl ?_ | refine DW.mu 12 rfl rfl rfl ?_ | refine DW.my 12 rfl rfl rfl QK.lda ?_) <;> (first | (refine DW.exn 10 rfl rfl rfl ?_; intro hdk; refine DK.mk hdk (by (first | refine Ob.an rfl rfl rfl ?_ | refine Ob.au rfl rfl rfl ?_ | refine Ob.ay rfl rfl rfl QK.lda ?_); exact .nil) ?_; clear hdk) | (refine DW.exy 10 rfl rfl rfl ?_; intro hdk; ((refine EK.call (complete_spec (t := a) (by omega) (by omega) ht) ?_); repeat' first | refine CP.r ?_ | refine CP.r0 ?_ | refine CP.exP fun e22 => ?_ | refine CP.puP fun h22 => ?_); all_goals (refine DK.mk hdk (by (first | refine Ob.an rfl rfl rfl ?_ | refine Ob.au rfl rfl rfl ?_ | refine Ob.ay rfl rfl rfl QK.lda ?_); exact .nil) ?_; clear hdk))) <;> (first | (refine DW.exn 13 rfl rfl rfl ?_; intro hdk; refine DK.mk hdk .nil ?_; clear hdk) | (refine DW.exy 13 rfl rfl rfl ?_; intro hdk; ((refine EK.call (refComplete_spec (t := a) (by omega) (by omega) ht2) ?_); repeat' first | refine CP.r ?_ | refine CP.r0 ?_ | refine CP.exP fun e25 => ?_ | refine CP.puP fun h25 => ?_); all_goals (refine DK.mk hdk .nil ?_; clear hdk))) <;> (first | refine DW.pn 14 rfl rfl rfl ?_ | refine DW.pu 14 rfl rfl rfl ?_ | refine DW.py 14 rfl rfl rfl (fun _ => (by first | exact QY.same (QY.eq_bool rfl rfl) bself | exact QK.eqb)) ?_) <;> refine DW.p 15 rfl (fun _ => QK.pk) ?_ <;> refine DW.p 16 rfl (fun _ => QK.mv) ?_ <;> (first | refine DW.pn 17 rfl rfl rfl ?_ | refine DW.pu 17 rfl rfl rfl ?_ | refine DW.py 17 rfl rfl rfl (fun _ => QK.mv) ?_ | ((first | refine DW.sP (t := 28) ?_ ?_ | refine DW.s (t := 28) ?_ ?_) <;> intro _ <;> first | contradiction | refine DW.pn 17 rfl rfl rfl ?_ | refine DW.pu 17 rfl rfl rfl ?_ | refine DW.py 17 rfl rfl rfl (fun _ => QK.mv) ?_)) <;> (first | refine DW.pn 20 rfl rfl rfl ?_ | refine DW.pu 20 rfl rfl rfl ?_ | refine DW.py 20 rfl rfl rfl (fun _ => QK.mv) ?_) <;> (first | refine DW.mn 18 rfl rfl rfl ?_ | refine DW.mu 18 rfl rfl rfl ?_ | refine DW.my 18 rfl rfl rfl QK.lda ?_) <;> (first | refine DW.mn 21 rfl rfl rfl ?_ | refine DW.mu 21 rfl rfl rfl ?_ | refine DW.my 21 rfl rfl rfl QK.lda ?_) <;> (first | (refine DW.exn 19 rfl rfl rfl ?_; intro hdk; refine DK.mk hdk (by (first | refine Ob.an rfl rfl rfl ?_ | refine Ob.au rfl rfl rfl ?_ | refine Ob.ay rfl rfl rfl QK.lda ?_); exact .nil) ?_; clear hdk) | (refine DW.exy 19 rfl rfl rfl ?_; intro hdk; ((refine EK.call (right_spec (t := a) (by omega) (by omega) ht) ?_); repeat' first | refine CP.r ?_ | refine CP.r0 ?_ | refine CP.exP fun e31 => ?_ | refine CP.puP fun h31 => ?_); all_goals (refine DK.mk hdk (by (first | refine Ob.an rfl rfl rfl ?_ | refine Ob.au rfl rfl rfl ?_ | refine Ob.ay rfl rfl rfl QK.lda ?_); exact .nil) ?_; clear hdk))) <;> (first | (refine DW.exn 22 rfl rfl rfl ?_; intro hdk; refine DK.mk hdk .nil ?_; clear hdk) | (refine DW.exy 22 rfl rfl rfl ?_; intro hdk; ((refine EK.call (refRight_spec (t := a) (by omega) (by omega) ht2) ?_); repeat' first | refine CP.r ?_ | refine CP.r0 ?_ | refine CP.exP fun e34 => ?_ | refine CP.puP fun h34 => ?_); all_goals (refine DK.mk hdk .nil ?_; clear hdk))) <;> (first | refine DW.pn 23 rfl rfl rfl ?_ | refine DW.pu 23 rfl rfl rfl ?_ | refine DW.py 23 rfl rfl rfl (fun _ => (by first | exact QY.same (QY.eq_bool rfl rfl) bself | exact QK.eqb)) ?_) <;> refine DW.p 24 rfl (fun _ => QK.pk) ?_ <;> refine DW.p 25 rfl (fun _ => QK.mv) ?_ <;> (first | refine DW.mn 26 rfl rfl rfl ?_ | refine DW.mu 26 rfl rfl rfl ?_ | refine DW.my 26 rfl rfl rfl QK.lda ?_ | ((first | refine DW.sP (t := 37) ?_ ?_ | refine DW.s (t := 37) ?_ ?_) <;> intro _ <;> first | contradiction | refine DW.mn 26 rfl rfl rfl ?_ | refine DW.mu 26 rfl rfl rfl ?_ | refine DW.my 26 rfl rfl rfl QK.lda ?_)) <;> (first | refine DW.mn 27 rfl rfl rfl ?_ | refine DW.mu 27 rfl rfl rfl ?_ | refine DW.my 27 rfl rfl rfl QK.lda ?_) <;> (first | refine DW.mn 29 rfl rfl rfl ?_ | refine DW.mu 29 rfl rfl rfl ?_ | refine DW.my 29 rfl rfl rfl QK.lda ?_) <;> (first | refine DW.mn 30 rfl rfl rfl ?_ | refine DW.mu 30 rfl rfl rfl ?_ | refine DW.my 30 rfl rfl rfl QK.lda ?_) <;> (first | (refine DW.exn 28 rfl rfl rfl ?_; intro hdk; refine DK.mk hdk (by (first | refine Ob.an rfl rfl rfl ?_ | refine Ob.au rfl rfl rfl ?_ | refine Ob.ay rfl rfl rfl QK.lda ?_); (first | refine Ob.an rfl rfl rfl ?_ | refine Ob.au rfl rfl rfl ?_ | refine Ob.ay rfl rfl rfl QK.lda ?_); exact .nil) ?_; clear hdk) | (refine DW.exy 28 rfl rfl rfl ?_; intro hdk; ((refine EK.call (later_spec (a := a) (b := b)) ?_); repeat' first | refine CP.r ?_ | refine CP.r0 ?_ | refine CP.exP fun e40 => ?_ | refine CP.puP fun h40 => ?_); all_goals (refine DK.mk hdk (by (first | refine Ob.an rfl rfl rfl ?_ | refine Ob.au rfl rfl rfl ?_ | refine Ob.ay rfl rfl rfl QK.lda ?_); (first | refine Ob.an rfl rfl rfl ?_ | refine Ob.au rfl rfl rfl ?_ | refine Ob.ay rfl rfl rfl QK.lda ?_); exact .nil) ?_; clear hdk))) <;> (first | (refine DW.exn 31 rfl rfl rfl ?_; intro hdk; refine DK.mk hdk .nil ?_; clear hdk) | (refine DW.exy 31 rfl rfl rfl ?_; intro hdk; ((refine EK.call (refLater_spec (a := a) (b := b)) ?_); repeat' first | refine CP.r ?_ | refine CP.r0 ?_ | refine CP.exP fun e43 => ?_ | refine CP.puP fun h43 => ?_); all_goals (refine DK.mk hdk .nil ?_; clear hdk))) <;> (first | refine DW.pn 32 rfl rfl rfl ?_ | refine DW.pu 32 rfl rfl rfl ?_ | refine DW.py 32 rfl rfl rfl (fun _ => (by first | exact QY.same (QY.eq_bool rfl rfl) bself | exact QK.eqb)) ?_) <;> refine DW.p 33 rfl (fun _ => QK.pk) ?_ <;> refine DW.p 34 rfl (fun _ => QK.mv) ?_ <;> (first | (refine DW.exn 35 rfl rfl rfl ?_; intro hdk; refine DK.mk hdk .nil ?_; clear hdk) | (refine DW.exy 35 rfl rfl rfl ?_; intro hdk; ((refine EK.call (awakeC) ?_); repeat' first | refine CP.r ?_ | refine CP.r0 ?_ | refine CP.exP fun e47 => ?_ | refine CP.puP fun h47 => ?_); all_goals (refine DK.mk hdk .nil ?_; clear hdk)) | ((first | refine DW.sP (t := 46) ?_ ?_ | refine DW.s (t := 46) ?_ ?_) <;> intro _ <;> first | contradiction | (refine DW.exn 35 rfl rfl rfl ?_; intro hdk; refine DK.mk hdk .nil ?_; clear hdk) | (refine DW.exy 35 rfl rfl rfl ?_; intro hdk; ((refine EK.call (awakeC) ?_); repeat' first | refine CP.r ?_ | refine CP.r0 ?_ | refine CP.exP fun e47 => ?_ | refine CP.puP fun h47 => ?_); all_goals (refine DK.mk hdk .nil ?_; clear hdk)))) <;> refine DW.p 36 rfl (fun _ => QK.pk) ?_ <;> refine DW.p 37 rfl (fun _ => QK.as) ?_ <;> refine DW.zz ?_)
    | ((with_reducible apply KP.fin1); (· rfl); (· rfl)))
  exact FA.ret

end Go.Proofs.Ytpmhelfdmhjnbaa
