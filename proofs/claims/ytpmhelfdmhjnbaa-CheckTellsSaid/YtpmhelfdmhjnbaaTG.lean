import Derived.Test.YtpmhelfdmhjnbaaR3
import Derived.Test.YtpmhelfdmhjnbaaMD
/- What was told: begins, Prefix, Complete, Right, Later. -/
namespace Go.Proofs.Ytpmhelfdmhjnbaa
open Go Go.Ink Go.Plain
set_option linter.unusedVariables false
set_option linter.unusedSimpArgs false
attribute [local irreducible] KP QY EW CW DW QG CP Spc DK Fina wpList lessF

/-- What was told, by value. -/
structure Td where
  id : Int
  q : Qy
  wv : Value
  ow : wv.oneCell' = true
  items : List Item
  fin : Bool
  canc : Bool
def eT (t : Td) : List Value := [iv t.id, .string t.q.text, iv t.q.most, iv t.q.many, t.wv, .bool t.fin, .bool t.canc]
abbrev tdA (t : Td) : Asrt := rrow 2 eI t.wv t.items
instance eqE_query : EqE Try.prog 24 eQ where
  guard := by kernel_rfl
  eq w x y := by
    rw [run_equalIn_F (P := Try.prog) (t := 24) 9999]
    rw [eqF_str (d := 9998) rfl rfl (eqF_int (d := 9998) rfl rfl (eqF_int (d := 9998) rfl rfl eqF_nil))]
    congr 1
    obtain ⟨a, b, c⟩ := x; obtain ⟨a', b', c'⟩ := y
    simp
def beginF (a b : List Item) : Bool := decide (b.take a.length = a)
theorem begin_len {a b : List Item} (h : b.length < a.length) : beginF a b = false := by
  unfold beginF
  rw [decide_eq_false_iff_not]
  intro e
  have := congrArg List.length e
  rw [List.length_take] at this
  omega
theorem begins_spec {va vb : Value} {a b : List Item} : Spc Try.prog 82 #[va, vb] [rrow 2 eI va a, rrow 2 eI vb b] [] (ret (.bool (beginF a b)) []) := by
  refine Spc.enter' (args := [va, vb]) (T0 := [(0, va), (1, vb)]) Try.func82 rfl Try.ntmps82 (Nat.le_of_ble_eq_true rfl) rfl ?_
  intro w0 own
  refine CW.roFact (A := rrow 2 eI va a) (by simp) (fun _ h => rrow.le h) fun hxa => ?_
  refine CW.roFact (A := rrow 2 eI vb b) (by simp) (fun _ h => rrow.le h) fun hxb => ?_
  by_cases hl : b.length < a.length
  · rw [begin_len hl]
    repeat' (first
    | (with_reducible refine CW.seq ?_)
    | (with_reducible refine KP.then_code ?_)
    | (with_reducible refine CW.skip ?_)
    | (with_reducible refine CW.ret ?_)
    | (with_reducible refine KP.then_ret ?_)
    | (with_reducible refine KP.block_ret ?_)
    | (with_reducible refine CW.block ?_)
    | (with_reducible refine KP.block_normal ?_)
    | (with_reducible refine CW.exit ?_)
    | (with_reducible refine KP.then_exit ?_)
    | (with_reducible refine KP.block_hit ?_)
    | refine KP.bm ?_
    | refine CW.ct ?_
    | refine CW.cf ?_
    | (refine CW.cP ?_ ?_ <;> intro _ <;> try contradiction)
    | (refine CW.cs ?_ ?_ <;> intro _ <;> try contradiction)
    | (refine CW.region (i := 0) ?_ <;> refine KP.q QK.as ?_ <;> refine KP.list_nil ?_)
    | (refine CW.region (i := 1) ?_ <;> refine KP.q QK.mv ?_ <;> refine KP.q QK.len ?_ <;> refine KP.q QK.mv ?_ <;> refine KP.q QK.len ?_ <;> refine KP.q QK.gtr ?_ <;> refine KP.list_nil ?_)
    | (refine CW.region (i := 2) ?_ <;> refine KP.q QK.as ?_ <;> refine KP.list_nil ?_)
    | ((with_reducible apply KP.fin1); (· rfl); (· rfl)))
    exact FA.ret
  repeat' (first
    | (with_reducible refine CW.seq ?_)
    | (with_reducible refine KP.then_code ?_)
    | (with_reducible refine CW.skip ?_)
    | (with_reducible refine CW.ret ?_)
    | (with_reducible refine KP.then_ret ?_)
    | (with_reducible refine KP.block_ret ?_)
    | (with_reducible refine CW.block ?_)
    | (with_reducible refine KP.block_normal ?_)
    | (with_reducible refine CW.exit ?_)
    | (with_reducible refine KP.then_exit ?_)
    | (with_reducible refine KP.block_hit ?_)
    | refine KP.bm ?_
    | refine CW.ct ?_
    | refine CW.cf ?_
    | (refine CW.cP ?_ ?_ <;> intro _ <;> try contradiction)
    | (refine CW.cs ?_ ?_ <;> intro _ <;> try contradiction)
    | (refine CW.region (i := 0) ?_ <;> refine KP.q QK.as ?_ <;> refine KP.list_nil ?_)
    | (refine CW.region (i := 1) ?_ <;> refine KP.q QK.mv ?_ <;> refine KP.q QK.len ?_ <;> refine KP.q QK.mv ?_ <;> refine KP.q QK.len ?_ <;> refine KP.q QK.gtr ?_ <;> refine KP.list_nil ?_)
    | (refine CW.region (i := 3) ?_ <;> refine KP.q QK.mv ?_ <;> refine KP.q QK.len ?_ <;> refine KP.q QK.mv ?_ <;> refine KP.list_nil ?_)
    | ((with_reducible apply KP.fin1); (· rfl); (· rfl)))
  refine CA.loop (X := Nat) (fun z => [(0, va), (1, vb), (12, va), (13, iv (a.length : Nat)), (14, iv (z : Nat))]) (fun _ => []) (fun z => z ≤ a.length ∧ b.take z = a.take z) (fun z => a.length - z) 0 ⟨by simp, by simp⟩ ?_
  rintro i ⟨hi, he⟩
  try dsimp only at hi he ⊢
  rcases Nat.lt_or_ge i a.length with hlt | hge
  · obtain ⟨p, hp⟩ := at_lt hlt
    obtain ⟨q, hq⟩ := at_lt (xs := b) (i := i) (by omega)
    
    
    repeat' (first
    | (with_reducible refine CW.seq ?_)
    | (with_reducible refine KP.then_code ?_)
    | (with_reducible refine CW.skip ?_)
    | (with_reducible refine CW.ret ?_)
    | (with_reducible refine KP.then_ret ?_)
    | (with_reducible refine KP.block_ret ?_)
    | (with_reducible refine CW.block ?_)
    | (with_reducible refine KP.block_normal ?_)
    | (with_reducible refine CW.exit ?_)
    | (with_reducible refine KP.then_exit ?_)
    | (with_reducible refine KP.block_hit ?_)
    | refine KP.bm ?_
    | refine CW.ct ?_
    | refine CW.cf ?_
    | (refine CW.cP ?_ ?_ <;> intro _ <;> try contradiction)
    | (refine CW.cs ?_ ?_ <;> intro _ <;> try contradiction)
    | (refine CW.region (i := 4) ?_ <;> refine KP.q QK.lss ?_ <;> refine KP.list_nil ?_)
    | (refine CW.region (i := 5) ?_ <;> refine KP.q QK.mv ?_ <;> refine KP.q QK.ia ?_ <;> refine KP.q (by first | exact QY.load_a rfl (Rd.ro (by with_reducible first | exact m0 | exact m1 | exact m2 | exact m3 | exact m4 | exact m5 | fail)) (Reads.row RowL.rrow hp) rfl | exact QY.load_a rfl (Rd.ro (by with_reducible first | exact m0 | exact m1 | exact m2 | exact m3 | exact m4 | exact m5 | fail)) (Reads.row RowL.rrow hq) rfl | exact QK.lda) ?_ <;> (refine KP.e ?_; (refine EK.alloc ?_; intro b6)) <;> refine KP.q QK.as ?_ <;> (refine KP.e ?_; (first | refine EK.st_a ?_ | refine EK.st_ra ?_ | refine EK.st_p ?_)) <;> refine KP.list_nil ?_)
    | (((with_reducible refine CW.draw (i := 6) ?_ [[], [], [], [1, 2], [1, 2, 3], [0, 1, 2, 3, 4]] ?_ ?_ ?_ ?_); (· rfl); (· kernel_rfl); (· kernel_rfl); (· repeat (first | exact NoHang.post | refine NoHang.then ?_ | refine NoHang.block ?_))) <;> refine DW.p 1 rfl (fun _ => QK.mv) ?_ <;> refine DW.p 2 rfl (fun _ => QK.mv) ?_ <;> refine DW.m 0 rfl (by first | exact QY.load_a rfl (Rd.ro (by with_reducible first | exact m0 | exact m1 | exact m2 | exact m3 | exact m4 | exact m5 | fail)) (Reads.row RowL.rrow hp) rfl | exact QY.load_a rfl (Rd.ro (by with_reducible first | exact m0 | exact m1 | exact m2 | exact m3 | exact m4 | exact m5 | fail)) (Reads.row RowL.rrow hq) rfl | exact QK.lda) ?_ <;> refine DW.m 3 rfl QK.ia ?_ <;> refine DW.m 4 rfl (by first | exact QY.load_a rfl (Rd.ro (by with_reducible first | exact m0 | exact m1 | exact m2 | exact m3 | exact m4 | exact m5 | fail)) (Reads.row RowL.rrow hp) rfl | exact QY.load_a rfl (Rd.ro (by with_reducible first | exact m0 | exact m1 | exact m2 | exact m3 | exact m4 | exact m5 | fail)) (Reads.row RowL.rrow hq) rfl | exact QK.lda) ?_ <;> refine DW.p 5 rfl (fun _ => (by first | exact QY.ne_agg (enc := eI) (p := p) (q := q) rfl rfl | exact QK.nea)) ?_ <;> refine DW.zz ?_)
    | (refine CW.region (i := 7) ?_ <;> refine KP.q QK.as ?_ <;> refine KP.list_nil ?_)
    | (refine CW.region (i := 8) ?_ <;> refine KP.q QK.add ?_ <;> refine KP.q QK.mv ?_ <;> refine KP.list_nil ?_)
    | ((with_reducible apply KP.fin1); (· rfl); (· rfl)))
    · rename_i hne
      have hb : beginF a b = false := by
        unfold beginF
        rw [decide_eq_false_iff_not]
        intro e
        have h1 : (b.take a.length)[i]? = b[i]? := List.getElem?_take_of_lt hlt
        rw [e, hp, hq] at h1
        exact hne (Option.some.inj h1)
      rw [hb]
      exact FA.ret
    · rename_i hne
      have hpq : p = q := Decidable.not_not.1 hne
      exact KA.round (i + 1) ⟨by omega, by rw [List.take_add_one, List.take_add_one, hp, hq, he, hpq]⟩
  · obtain rfl : i = a.length := by omega
    rw [List.take_length] at he
    have hb : beginF a b = true := by unfold beginF; rw [he]; simp
    rw [hb]
    repeat' (first
    | (with_reducible refine CW.seq ?_)
    | (with_reducible refine KP.then_code ?_)
    | (with_reducible refine CW.skip ?_)
    | (with_reducible refine CW.ret ?_)
    | (with_reducible refine KP.then_ret ?_)
    | (with_reducible refine KP.block_ret ?_)
    | (with_reducible refine CW.block ?_)
    | (with_reducible refine KP.block_normal ?_)
    | (with_reducible refine CW.exit ?_)
    | (with_reducible refine KP.then_exit ?_)
    | (with_reducible refine KP.block_hit ?_)
    | refine KP.bm ?_
    | refine CW.ct ?_
    | refine CW.cf ?_
    | (refine CW.cP ?_ ?_ <;> intro _ <;> try contradiction)
    | (refine CW.cs ?_ ?_ <;> intro _ <;> try contradiction)
    | (refine CW.region (i := 4) ?_ <;> refine KP.q QK.lss ?_ <;> refine KP.list_nil ?_)
    | (refine CW.region (i := 9) ?_ <;> refine KP.q QK.as ?_ <;> refine KP.list_nil ?_)
    | ((with_reducible apply KP.fin1); (· rfl); (· rfl)))
    exact FA.ret

attribute [local irreducible] beginF
def prefixF (ts : List ByteArray) (t : Td) : Bool := beginF t.items (topF ts t.q)
def completeF (ts : List ByteArray) (t : Td) : Bool := prefixF ts t && decide (t.items.length = (topF ts t.q).length)
def rightF (ts : List ByteArray) (t : Td) : Bool := prefixF ts t && (!t.fin || (completeF ts t && !t.canc))
def laterF (a b : Td) : Bool := decide (a.id = b.id) && decide (a.q = b.q) && beginF a.items b.items && ((!a.fin && !a.canc) || (decide (a.items.length = b.items.length) && (a.fin == b.fin) && (a.canc == b.canc)))

section
variable {v : Value} {ts : List ByteArray} {t : Td}
theorem prefix_spec (hq : t.q.text.size ≤ 1000000) (hl : ts.length ≤ 50000) (ht : ∀ t ∈ ts, t.size ≤ 1000000) : Spc Try.prog 42 #[v, .agg (eT t).toArray] [rrow 1 eS v ts, tdA t] [] (ret (.bool (prefixF ts t)) []) := by
  refine Spc.enter' (args := [v, .agg (eT t).toArray]) (T0 := [(0, v), (1, .agg (eT t).toArray)]) Try.func42 rfl Try.ntmps42 (Nat.le_of_ble_eq_true rfl) rfl ?_
  intro w0 own
  
  
  repeat' (first
    | (with_reducible refine CW.seq ?_)
    | (with_reducible refine KP.then_code ?_)
    | (with_reducible refine CW.skip ?_)
    | (with_reducible refine CW.ret ?_)
    | (with_reducible refine KP.then_ret ?_)
    | (with_reducible refine KP.block_ret ?_)
    | (with_reducible refine CW.block ?_)
    | (with_reducible refine KP.block_normal ?_)
    | (with_reducible refine CW.exit ?_)
    | (with_reducible refine KP.then_exit ?_)
    | (with_reducible refine KP.block_hit ?_)
    | refine KP.bm ?_
    | refine CW.ct ?_
    | refine CW.cf ?_
    | (refine CW.cP ?_ ?_ <;> intro _ <;> try contradiction)
    | (refine CW.cs ?_ ?_ <;> intro _ <;> try contradiction)
    | (refine CW.region (i := 0) ?_ <;> (refine KP.e ?_; (refine EK.box_a ?_; intro b3)) <;> refine KP.q QK.as ?_ <;> refine KP.list_nil ?_)
    | (((with_reducible refine CW.draw (i := 1) ?_ [[], [0], [], [], [3], [2, 3, 4], [0, 1, 2, 3, 4, 5], [0, 1, 2, 3, 4, 5, 6]] ?_ ?_ ?_ ?_); (· rfl); (· kernel_rfl); (· kernel_rfl); (· repeat (first | exact NoHang.post | refine NoHang.then ?_ | refine NoHang.block ?_))) <;> refine DW.p 0 rfl (fun _ => QK.fa) ?_ <;> refine DW.p 2 rfl (fun _ => QK.mv) ?_ <;> refine DW.p 3 rfl (fun _ => QK.fa) ?_ <;> refine DW.m 1 rfl QK.lds ?_ <;> refine DW.m 4 rfl (by first | exact QY.load_a rfl (Rd.own (by with_reducible first | exact k0 | exact k1 | exact k2 | exact k3 | exact k4 | exact k5 | exact k6 | exact k7 | exact k8 | exact k9 | fail)) (Reads.pt_part (off := 1) (n := 3)) (by rfl) | exact QK.lda) ?_ <;> (refine DW.ex 5 rfl ?_; intro hdk; ((refine EK.call (topE (x := t.q) hq hl ht rfl) ?_); repeat' first | refine CP.r ?_ | refine CP.r0 ?_ | refine CP.exP fun e10 => ?_ | refine CP.puP fun h10 => ?_); all_goals (refine DK.mk hdk (by refine Ob.ap rfl QK.lds ?_; exact .nil) ?_; clear hdk)) <;> (refine DW.ex 6 rfl ?_; intro hdk; ((refine EK.call (begins_spec (a := t.items) (b := topF ts t.q)) ?_); repeat' first | refine CP.r ?_ | refine CP.r0 ?_ | refine CP.exP fun e11 => ?_ | refine CP.puP fun h11 => ?_); all_goals (refine DK.mk hdk .nil ?_; clear hdk)) <;> refine DW.p 7 rfl (fun _ => QK.as) ?_ <;> refine DW.zz ?_)
    | ((with_reducible apply KP.fin1); (· rfl); (· rfl)))
  exact FA.ret

attribute [local irreducible] prefixF

theorem complete_spec (hq : t.q.text.size ≤ 1000000) (hl : ts.length ≤ 50000) (ht : ∀ t ∈ ts, t.size ≤ 1000000) : Spc Try.prog 44 #[v, .agg (eT t).toArray] [rrow 1 eS v ts, tdA t] [] (ret (.bool (completeF ts t)) []) := by
  refine Spc.enter' (args := [v, .agg (eT t).toArray]) (T0 := [(0, v), (1, .agg (eT t).toArray)]) Try.func44 rfl Try.ntmps44 (Nat.le_of_ble_eq_true rfl) rfl ?_
  intro w0 own
  
  cases hp : prefixF ts t
  · 
    repeat' (first
    | (with_reducible refine CW.seq ?_)
    | (with_reducible refine KP.then_code ?_)
    | (with_reducible refine CW.skip ?_)
    | (with_reducible refine CW.ret ?_)
    | (with_reducible refine KP.then_ret ?_)
    | (with_reducible refine KP.block_ret ?_)
    | (with_reducible refine CW.block ?_)
    | (with_reducible refine KP.block_normal ?_)
    | (with_reducible refine CW.exit ?_)
    | (with_reducible refine KP.then_exit ?_)
    | (with_reducible refine KP.block_hit ?_)
    | refine KP.bm ?_
    | refine CW.ct ?_
    | refine CW.cf ?_
    | (refine CW.cP ?_ ?_ <;> intro _ <;> try contradiction)
    | (refine CW.cs ?_ ?_ <;> intro _ <;> try contradiction)
    | (refine CW.region (i := 0) ?_ <;> (refine KP.e ?_; (refine EK.box_a ?_; intro b3)) <;> refine KP.q QK.as ?_ <;> refine KP.list_nil ?_)
    | (((with_reducible refine CW.draw (i := 1) ?_ [[], [], [0, 1], [0, 1, 2], [0, 1, 2, 3], [0, 1, 2, 3, 4], [0, 1, 2, 3, 4, 5], [0, 1, 2, 3], [0, 1, 2, 3], [0, 1, 2, 3, 8], [0, 1, 2, 3, 7, 8, 9], [0, 1, 2, 3, 7, 8, 9, 10], [0, 1, 2, 3, 4, 5, 6, 7, 8, 9, 10, 11], [0, 1, 2, 3, 4, 5, 6, 7, 8, 9, 10, 11, 12], [0, 1, 2, 3, 4, 5, 6, 7, 8, 9, 10, 11, 12, 13]] ?_ ?_ ?_ ?_); (· rfl); (· kernel_rfl); (· kernel_rfl); (· repeat (first | exact NoHang.post | refine NoHang.then ?_ | refine NoHang.block ?_))) <;> refine DW.p 0 rfl (fun _ => QK.mv) ?_ <;> refine DW.m 1 rfl (by first | exact QY.load_a rfl (Rd.own (by with_reducible first | exact k0 | exact k1 | exact k2 | exact k3 | exact k4 | exact k5 | exact k6 | exact k7 | exact k8 | exact k9 | fail)) (Reads.pt_part (off := 1) (n := 3)) (by rfl) | exact QK.lda) ?_ <;> (refine DW.ex 2 rfl ?_; intro hdk; ((first | refine EK.call ((show Spc Try.prog 42 #[v, .agg (eT t).toArray] [rrow 1 eS v ts, tdA t] [] (ret (.bool false) []) from hp ▸ prefix_spec hq hl ht)) ?_ | refine EK.call (prefix_spec hq hl ht) ?_); repeat' first | refine CP.r ?_ | refine CP.r0 ?_ | refine CP.exP fun e7 => ?_ | refine CP.puP fun h7 => ?_); all_goals (refine DK.mk hdk .nil ?_; clear hdk)) <;> refine DW.p 3 rfl (fun _ => QK.mv) ?_ <;> (first | refine DW.pn 4 rfl rfl rfl ?_ | refine DW.pu 4 rfl rfl rfl ?_ | refine DW.py 4 rfl rfl rfl (fun _ => QK.fa) ?_ | ((first | refine DW.sP (t := 8) ?_ ?_ | refine DW.s (t := 8) ?_ ?_) <;> intro _ <;> first | contradiction | refine DW.pn 4 rfl rfl rfl ?_ | refine DW.pu 4 rfl rfl rfl ?_ | refine DW.py 4 rfl rfl rfl (fun _ => QK.fa) ?_)) <;> (first | refine DW.pn 7 rfl rfl rfl ?_ | refine DW.pu 7 rfl rfl rfl ?_ | refine DW.py 7 rfl rfl rfl (fun _ => QK.mv) ?_) <;> (first | refine DW.pn 8 rfl rfl rfl ?_ | refine DW.pu 8 rfl rfl rfl ?_ | refine DW.py 8 rfl rfl rfl (fun _ => QK.fa) ?_) <;> (first | refine DW.mn 5 rfl rfl rfl ?_ | refine DW.mu 5 rfl rfl rfl ?_ | refine DW.my 5 rfl rfl rfl QK.lds ?_) <;> (first | refine DW.mn 6 rfl rfl rfl ?_ | refine DW.mu 6 rfl rfl rfl ?_ | refine DW.my 6 rfl rfl rfl QK.len ?_) <;> (first | refine DW.mn 9 rfl rfl rfl ?_ | refine DW.mu 9 rfl rfl rfl ?_ | refine DW.my 9 rfl rfl rfl (by first | exact QY.load_a rfl (Rd.own (by with_reducible first | exact k0 | exact k1 | exact k2 | exact k3 | exact k4 | exact k5 | exact k6 | exact k7 | exact k8 | exact k9 | fail)) (Reads.pt_part (off := 1) (n := 3)) (by rfl) | exact QK.lda) ?_) <;> (first | (refine DW.exn 10 rfl rfl rfl ?_; intro hdk; refine DK.mk hdk (by (first | refine Ob.an rfl rfl rfl ?_ | refine Ob.au rfl rfl rfl ?_ | refine Ob.ay rfl rfl rfl QK.len ?_); (first | refine Ob.an rfl rfl rfl ?_ | refine Ob.au rfl rfl rfl ?_ | refine Ob.ay rfl rfl rfl QK.lds ?_); exact .nil) ?_; clear hdk) | (refine DW.exy 10 rfl rfl rfl ?_; intro hdk; ((first | refine EK.call (topE (x := t.q) hq hl ht rfl) ?_ | refine EK.call (topE (x := t.q) hq hl ht rfl) ?_); repeat' first | refine CP.r ?_ | refine CP.r0 ?_ | refine CP.exP fun e15 => ?_ | refine CP.puP fun h15 => ?_); all_goals (refine DK.mk hdk (by (first | refine Ob.an rfl rfl rfl ?_ | refine Ob.au rfl rfl rfl ?_ | refine Ob.ay rfl rfl rfl QK.len ?_); (first | refine Ob.an rfl rfl rfl ?_ | refine Ob.au rfl rfl rfl ?_ | refine Ob.ay rfl rfl rfl QK.lds ?_); exact .nil) ?_; clear hdk))) <;> (first | refine DW.mn 11 rfl rfl rfl ?_ | refine DW.mu 11 rfl rfl rfl ?_ | refine DW.my 11 rfl rfl rfl QK.len ?_) <;> (first | refine DW.pn 12 rfl rfl rfl ?_ | refine DW.pu 12 rfl rfl rfl ?_ | refine DW.py 12 rfl rfl rfl (fun _ => QK.eqi) ?_) <;> refine DW.p 13 rfl (fun _ => QK.pk) ?_ <;> refine DW.p 14 rfl (fun _ => QK.as) ?_ <;> refine DW.zz ?_)
    | ((with_reducible apply KP.fin1); (· rfl); (· rfl)))
    exact FA.ret' (by simp [completeF, hp])
  · 
    
    repeat' (first
    | (with_reducible refine CW.seq ?_)
    | (with_reducible refine KP.then_code ?_)
    | (with_reducible refine CW.skip ?_)
    | (with_reducible refine CW.ret ?_)
    | (with_reducible refine KP.then_ret ?_)
    | (with_reducible refine KP.block_ret ?_)
    | (with_reducible refine CW.block ?_)
    | (with_reducible refine KP.block_normal ?_)
    | (with_reducible refine CW.exit ?_)
    | (with_reducible refine KP.then_exit ?_)
    | (with_reducible refine KP.block_hit ?_)
    | refine KP.bm ?_
    | refine CW.ct ?_
    | refine CW.cf ?_
    | (refine CW.cP ?_ ?_ <;> intro _ <;> try contradiction)
    | (refine CW.cs ?_ ?_ <;> intro _ <;> try contradiction)
    | (refine CW.region (i := 0) ?_ <;> (refine KP.e ?_; (refine EK.box_a ?_; intro b3)) <;> refine KP.q QK.as ?_ <;> refine KP.list_nil ?_)
    | (((with_reducible refine CW.draw (i := 1) ?_ [[], [], [0, 1], [0, 1, 2], [0, 1, 2, 3], [0, 1, 2, 3, 4], [0, 1, 2, 3, 4, 5], [0, 1, 2, 3], [0, 1, 2, 3], [0, 1, 2, 3, 8], [0, 1, 2, 3, 7, 8, 9], [0, 1, 2, 3, 7, 8, 9, 10], [0, 1, 2, 3, 4, 5, 6, 7, 8, 9, 10, 11], [0, 1, 2, 3, 4, 5, 6, 7, 8, 9, 10, 11, 12], [0, 1, 2, 3, 4, 5, 6, 7, 8, 9, 10, 11, 12, 13]] ?_ ?_ ?_ ?_); (· rfl); (· kernel_rfl); (· kernel_rfl); (· repeat (first | exact NoHang.post | refine NoHang.then ?_ | refine NoHang.block ?_))) <;> refine DW.p 0 rfl (fun _ => QK.mv) ?_ <;> refine DW.m 1 rfl (by first | exact QY.load_a rfl (Rd.own (by with_reducible first | exact k0 | exact k1 | exact k2 | exact k3 | exact k4 | exact k5 | exact k6 | exact k7 | exact k8 | exact k9 | fail)) (Reads.pt_part (off := 1) (n := 3)) (by rfl) | exact QK.lda) ?_ <;> (refine DW.ex 2 rfl ?_; intro hdk; ((refine EK.call ((show Spc Try.prog 42 #[v, .agg (eT t).toArray] [rrow 1 eS v ts, tdA t] [] (ret (.bool true) []) from hp ▸ prefix_spec hq hl ht)) ?_); repeat' first | refine CP.r ?_ | refine CP.r0 ?_ | refine CP.exP fun e7 => ?_ | refine CP.puP fun h7 => ?_); all_goals (refine DK.mk hdk .nil ?_; clear hdk)) <;> refine DW.p 3 rfl (fun _ => QK.mv) ?_ <;> (first | refine DW.pn 4 rfl rfl rfl ?_ | refine DW.pu 4 rfl rfl rfl ?_ | refine DW.py 4 rfl rfl rfl (fun _ => QK.fa) ?_ | ((first | refine DW.sP (t := 8) ?_ ?_ | refine DW.s (t := 8) ?_ ?_) <;> intro _ <;> first | contradiction | refine DW.pn 4 rfl rfl rfl ?_ | refine DW.pu 4 rfl rfl rfl ?_ | refine DW.py 4 rfl rfl rfl (fun _ => QK.fa) ?_)) <;> (first | refine DW.pn 7 rfl rfl rfl ?_ | refine DW.pu 7 rfl rfl rfl ?_ | refine DW.py 7 rfl rfl rfl (fun _ => QK.mv) ?_) <;> (first | refine DW.pn 8 rfl rfl rfl ?_ | refine DW.pu 8 rfl rfl rfl ?_ | refine DW.py 8 rfl rfl rfl (fun _ => QK.fa) ?_) <;> (first | refine DW.mn 5 rfl rfl rfl ?_ | refine DW.mu 5 rfl rfl rfl ?_ | refine DW.my 5 rfl rfl rfl QK.lds ?_) <;> (first | refine DW.mn 6 rfl rfl rfl ?_ | refine DW.mu 6 rfl rfl rfl ?_ | refine DW.my 6 rfl rfl rfl QK.len ?_) <;> (first | refine DW.mn 9 rfl rfl rfl ?_ | refine DW.mu 9 rfl rfl rfl ?_ | refine DW.my 9 rfl rfl rfl (by first | exact QY.load_a rfl (Rd.own (by with_reducible first | exact k0 | exact k1 | exact k2 | exact k3 | exact k4 | exact k5 | exact k6 | exact k7 | exact k8 | exact k9 | fail)) (Reads.pt_part (off := 1) (n := 3)) (by rfl) | exact QK.lda) ?_) <;> (first | (refine DW.exn 10 rfl rfl rfl ?_; intro hdk; refine DK.mk hdk (by (first | refine Ob.an rfl rfl rfl ?_ | refine Ob.au rfl rfl rfl ?_ | refine Ob.ay rfl rfl rfl QK.len ?_); (first | refine Ob.an rfl rfl rfl ?_ | refine Ob.au rfl rfl rfl ?_ | refine Ob.ay rfl rfl rfl QK.lds ?_); exact .nil) ?_; clear hdk) | (refine DW.exy 10 rfl rfl rfl ?_; intro hdk; ((first | refine EK.call (topE (x := t.q) hq hl ht rfl) ?_ | refine EK.call (topE (x := t.q) hq hl ht rfl) ?_); repeat' first | refine CP.r ?_ | refine CP.r0 ?_ | refine CP.exP fun e15 => ?_ | refine CP.puP fun h15 => ?_); all_goals (refine DK.mk hdk (by (first | refine Ob.an rfl rfl rfl ?_ | refine Ob.au rfl rfl rfl ?_ | refine Ob.ay rfl rfl rfl QK.len ?_); (first | refine Ob.an rfl rfl rfl ?_ | refine Ob.au rfl rfl rfl ?_ | refine Ob.ay rfl rfl rfl QK.lds ?_); exact .nil) ?_; clear hdk))) <;> (first | refine DW.mn 11 rfl rfl rfl ?_ | refine DW.mu 11 rfl rfl rfl ?_ | refine DW.my 11 rfl rfl rfl QK.len ?_) <;> (first | refine DW.pn 12 rfl rfl rfl ?_ | refine DW.pu 12 rfl rfl rfl ?_ | refine DW.py 12 rfl rfl rfl (fun _ => QK.eqi) ?_) <;> refine DW.p 13 rfl (fun _ => QK.pk) ?_ <;> refine DW.p 14 rfl (fun _ => QK.as) ?_ <;> refine DW.zz ?_)
    | ((with_reducible apply KP.fin1); (· rfl); (· rfl)))
    exact FA.ret' (by simp [completeF, hp]; omega)

attribute [local irreducible] completeF


theorem right_spec (hq : t.q.text.size ≤ 1000000) (hl : ts.length ≤ 50000) (ht : ∀ t ∈ ts, t.size ≤ 1000000) : Spc Try.prog 46 #[v, .agg (eT t).toArray] [rrow 1 eS v ts, tdA t] [] (ret (.bool (rightF ts t)) []) := by
  refine Spc.enter' (args := [v, .agg (eT t).toArray]) (T0 := [(0, v), (1, .agg (eT t).toArray)]) Try.func46 rfl Try.ntmps46 (Nat.le_of_ble_eq_true rfl) rfl ?_
  intro w0 own
  repeat' (first
    | (with_reducible refine CW.seq ?_)
    | (with_reducible refine KP.then_code ?_)
    | (with_reducible refine CW.skip ?_)
    | (with_reducible refine CW.ret ?_)
    | (with_reducible refine KP.then_ret ?_)
    | (with_reducible refine KP.block_ret ?_)
    | (with_reducible refine CW.block ?_)
    | (with_reducible refine KP.block_normal ?_)
    | (with_reducible refine CW.exit ?_)
    | (with_reducible refine KP.then_exit ?_)
    | (with_reducible refine KP.block_hit ?_)
    | refine KP.bm ?_
    | refine CW.ct ?_
    | refine CW.cf ?_
    | (refine CW.cP ?_ ?_ <;> intro _ <;> try contradiction)
    | (refine CW.cs ?_ ?_ <;> intro _ <;> try contradiction)
    | (refine CW.region (i := 0) ?_ <;> (refine KP.e ?_; (refine EK.box_a ?_; intro b3)) <;> refine KP.q QK.as ?_ <;> refine KP.list_nil ?_)
    | (refine CW.region (i := 1) ?_ <;> refine KP.q QK.mv ?_ <;> refine KP.q QK.lda ?_ <;> (refine KP.e ?_; ((refine EK.call (prefix_spec hq hl ht) ?_); repeat' first | refine CP.r ?_ | refine CP.r0 ?_ | refine CP.exP fun e7 => ?_ | refine CP.puP fun h7 => ?_)) <;> refine KP.q QK.mv ?_ <;> (first | refine KP.gn ?_ | refine KP.gu ?_ | refine KP.qy QK.fa ?_ | ((first | refine KP.gsP (t := 8) ?_ ?_ | refine KP.gs (t := 8) ?_ ?_) <;> intro _ <;> first | contradiction | refine KP.gn ?_ | refine KP.qy QK.fa ?_)) <;> (first | refine KP.gn ?_ | refine KP.gu ?_ | refine KP.qy QK.lds ?_) <;> (first | refine KP.gn ?_ | refine KP.gu ?_ | refine KP.qy QK.not ?_) <;> (first | refine KP.gn ?_ | refine KP.gu ?_ | refine KP.qy QK.mv ?_) <;> (first | refine KP.gn ?_ | refine KP.gu ?_ | refine KP.qy QK.mv ?_ | ((first | refine KP.gsP (t := 12) ?_ ?_ | refine KP.gs (t := 12) ?_ ?_) <;> intro _ <;> first | contradiction | refine KP.gn ?_ | refine KP.qy QK.mv ?_)) <;> (first | refine KP.gn ?_ | refine KP.gu ?_ | refine KP.qy QK.lda ?_) <;> (first | refine KP.gn ?_ | refine KP.gu ?_ | (refine KP.gy ?_; refine KP.e ?_; ((refine EK.call (complete_spec hq hl ht) ?_); repeat' first | refine CP.r ?_ | refine CP.r0 ?_ | refine CP.exP fun e15 => ?_ | refine CP.puP fun h15 => ?_))) <;> (first | refine KP.gn ?_ | refine KP.gu ?_ | refine KP.qy QK.mv ?_) <;> (first | refine KP.gn ?_ | refine KP.gu ?_ | refine KP.qy QK.fa ?_ | ((first | refine KP.gsP (t := 16) ?_ ?_ | refine KP.gs (t := 16) ?_ ?_) <;> intro _ <;> first | contradiction | refine KP.gn ?_ | refine KP.qy QK.fa ?_)) <;> (first | refine KP.gn ?_ | refine KP.gu ?_ | refine KP.qy QK.lds ?_) <;> (first | refine KP.gn ?_ | refine KP.gu ?_ | refine KP.qy QK.not ?_) <;> (first | refine KP.gn ?_ | refine KP.gu ?_ | refine KP.qy QK.pk ?_) <;> (first | refine KP.gn ?_ | refine KP.gu ?_ | refine KP.qy QK.pk ?_) <;> refine KP.q QK.pk ?_ <;> refine KP.q QK.as ?_ <;> refine KP.list_nil ?_)
    | ((with_reducible apply KP.fin1); (· rfl); (· rfl)))
  all_goals exact FA.ret' (by first | (simp_all [rightF]; done) | (simp_all [rightF]; omega))
end

theorem later_spec {a b : Td} : Spc Try.prog 48 #[.agg (eT a).toArray, .agg (eT b).toArray] [tdA a, tdA b] [] (ret (.bool (laterF a b)) []) := by
  refine Spc.enter' (args := [.agg (eT a).toArray, .agg (eT b).toArray]) (T0 := [(0, .agg (eT a).toArray), (1, .agg (eT b).toArray)]) Try.func48 rfl Try.ntmps48 (Nat.le_of_ble_eq_true rfl) rfl ?_
  intro w0 own
  
  
  
  repeat' (first
    | (with_reducible refine CW.seq ?_)
    | (with_reducible refine KP.then_code ?_)
    | (with_reducible refine CW.skip ?_)
    | (with_reducible refine CW.ret ?_)
    | (with_reducible refine KP.then_ret ?_)
    | (with_reducible refine KP.block_ret ?_)
    | (with_reducible refine CW.block ?_)
    | (with_reducible refine KP.block_normal ?_)
    | (with_reducible refine CW.exit ?_)
    | (with_reducible refine KP.then_exit ?_)
    | (with_reducible refine KP.block_hit ?_)
    | refine KP.bm ?_
    | refine CW.ct ?_
    | refine CW.cf ?_
    | (refine CW.cP ?_ ?_ <;> intro _ <;> try contradiction)
    | (refine CW.cs ?_ ?_ <;> intro _ <;> try contradiction)
    | (refine CW.region (i := 0) ?_ <;> (refine KP.e ?_; (refine EK.box_a ?_; intro b2)) <;> (refine KP.e ?_; (refine EK.box_a ?_; intro b3)) <;> refine KP.q QK.as ?_ <;> refine KP.list_nil ?_)
    | (refine CW.region (i := 1) ?_ <;> refine KP.q QK.fa ?_ <;> refine KP.q QK.lds ?_ <;> refine KP.q QK.fa ?_ <;> refine KP.q QK.lds ?_ <;> refine KP.q QK.nei ?_ <;> refine KP.q QK.mv ?_ <;> (first | refine KP.gn ?_ | refine KP.gu ?_ | refine KP.qy QK.fa ?_ | ((first | refine KP.gsP (t := 10) ?_ ?_ | refine KP.gs (t := 10) ?_ ?_) <;> intro _ <;> first | contradiction | refine KP.gn ?_ | refine KP.qy QK.fa ?_)) <;> (first | refine KP.gn ?_ | refine KP.gu ?_ | refine KP.qy (by first | exact QY.load_a rfl (Rd.own (by with_reducible first | exact k0 | exact k1 | exact k2 | exact k3 | exact k4 | exact k5 | exact k6 | exact k7 | exact k8 | exact k9 | fail)) (Reads.pt_part (off := 1) (n := 3)) (by rfl) | exact QK.lda) ?_) <;> (first | refine KP.gn ?_ | refine KP.gu ?_ | refine KP.qy QK.fa ?_) <;> (first | refine KP.gn ?_ | refine KP.gu ?_ | refine KP.qy (by first | exact QY.load_a rfl (Rd.own (by with_reducible first | exact k0 | exact k1 | exact k2 | exact k3 | exact k4 | exact k5 | exact k6 | exact k7 | exact k8 | exact k9 | fail)) (Reads.pt_part (off := 1) (n := 3)) (by rfl) | exact QK.lda) ?_) <;> (first | refine KP.gn ?_ | refine KP.gu ?_ | refine KP.qy (by first | exact QY.ne_agg (enc := eQ) (p := a.q) (q := b.q) rfl rfl | exact QK.nea) ?_) <;> refine KP.q QK.pk ?_ <;> refine KP.q QK.mv ?_ <;> (first | refine KP.gn ?_ | refine KP.gu ?_ | refine KP.qy QK.fa ?_ | ((first | refine KP.gsP (t := 17) ?_ ?_ | refine KP.gs (t := 17) ?_ ?_) <;> intro _ <;> first | contradiction | refine KP.gn ?_ | refine KP.qy QK.fa ?_)) <;> (first | refine KP.gn ?_ | refine KP.gu ?_ | refine KP.qy QK.lds ?_) <;> (first | refine KP.gn ?_ | refine KP.gu ?_ | refine KP.qy QK.fa ?_) <;> (first | refine KP.gn ?_ | refine KP.gu ?_ | refine KP.qy QK.lds ?_) <;> (first | refine KP.gn ?_ | refine KP.gu ?_ | (refine KP.gy ?_; refine KP.e ?_; ((refine EK.call (begins_spec (a := a.items) (b := b.items)) ?_); repeat' first | refine CP.r ?_ | refine CP.r0 ?_ | refine CP.exP fun e22 => ?_ | refine CP.puP fun h22 => ?_))) <;> (first | refine KP.gn ?_ | refine KP.gu ?_ | refine KP.qy QK.not ?_) <;> refine KP.q QK.pk ?_ <;> refine KP.list_nil ?_)
    | (refine CW.region (i := 2) ?_ <;> refine KP.q QK.as ?_ <;> refine KP.list_nil ?_)
    | (refine CW.region (i := 3) ?_ <;> refine KP.q QK.fa ?_ <;> refine KP.q QK.lds ?_ <;> refine KP.q QK.not ?_ <;> refine KP.q QK.mv ?_ <;> (first | refine KP.gn ?_ | refine KP.gu ?_ | refine KP.qy QK.fa ?_ | ((first | refine KP.gsP (t := 28) ?_ ?_ | refine KP.gs (t := 28) ?_ ?_) <;> intro _ <;> first | contradiction | refine KP.gn ?_ | refine KP.qy QK.fa ?_)) <;> (first | refine KP.gn ?_ | refine KP.gu ?_ | refine KP.qy QK.lds ?_) <;> (first | refine KP.gn ?_ | refine KP.gu ?_ | refine KP.qy QK.not ?_) <;> refine KP.q QK.pk ?_ <;> refine KP.list_nil ?_)
    | (refine CW.region (i := 4) ?_ <;> refine KP.q QK.as ?_ <;> refine KP.list_nil ?_)
    | (refine CW.region (i := 5) ?_ <;> refine KP.q QK.fa ?_ <;> refine KP.q QK.lds ?_ <;> refine KP.q QK.len ?_ <;> refine KP.q QK.fa ?_ <;> refine KP.q QK.lds ?_ <;> refine KP.q QK.len ?_ <;> refine KP.q QK.eqi ?_ <;> refine KP.q QK.mv ?_ <;> (first | refine KP.gn ?_ | refine KP.gu ?_ | refine KP.qy QK.fa ?_ | ((first | refine KP.gsP (t := 40) ?_ ?_ | refine KP.gs (t := 40) ?_ ?_) <;> intro _ <;> first | contradiction | refine KP.gn ?_ | refine KP.qy QK.fa ?_)) <;> (first | refine KP.gn ?_ | refine KP.gu ?_ | refine KP.qy QK.lds ?_) <;> (first | refine KP.gn ?_ | refine KP.gu ?_ | refine KP.qy QK.fa ?_) <;> (first | refine KP.gn ?_ | refine KP.gu ?_ | refine KP.qy QK.lds ?_) <;> (first | refine KP.gn ?_ | refine KP.gu ?_ | refine KP.qy QK.eqb ?_) <;> refine KP.q QK.pk ?_ <;> refine KP.q QK.mv ?_ <;> (first | refine KP.gn ?_ | refine KP.gu ?_ | refine KP.qy QK.fa ?_ | ((first | refine KP.gsP (t := 47) ?_ ?_ | refine KP.gs (t := 47) ?_ ?_) <;> intro _ <;> first | contradiction | refine KP.gn ?_ | refine KP.qy QK.fa ?_)) <;> (first | refine KP.gn ?_ | refine KP.gu ?_ | refine KP.qy QK.lds ?_) <;> (first | refine KP.gn ?_ | refine KP.gu ?_ | refine KP.qy QK.fa ?_) <;> (first | refine KP.gn ?_ | refine KP.gu ?_ | refine KP.qy QK.lds ?_) <;> (first | refine KP.gn ?_ | refine KP.gu ?_ | refine KP.qy QK.eqb ?_) <;> refine KP.q QK.pk ?_ <;> refine KP.q QK.as ?_ <;> refine KP.list_nil ?_)
    | ((with_reducible apply KP.fin1); (· rfl); (· rfl)))
  all_goals exact FA.ret' (by first | (simp_all [laterF]; done) | (simp_all [laterF]; omega))

end Go.Proofs.Ytpmhelfdmhjnbaa
