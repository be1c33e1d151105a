import Derived.Test.YtpmhelfdmhjnbaaTH
import Derived.Test.YtpmhelfdmhjnbaaInkF
/- CheckChain. -/
namespace Go.Proofs.Ytpmhelfdmhjnbaa
open Go Go.Ink Go.Plain
set_option linter.unusedVariables false
set_option linter.unusedSimpArgs false
attribute [local irreducible] KP QY EW CW DW DX QG CP Spc DK Fina wpList lessF prefixF completeF rightF laterF

theorem rowl_take {α : Type _} {enc : α → List Value} {n : Nat} [E : Enc enc n] {A : Asrt} {v : Value} {xs : List α} {hi : Nat} (r : RowL A n enc v xs) (h : hi ≤ xs.length) : RowL A n enc (slv n v 0 hi) (xs.take hi) := by
  have := RowL.cut (Nat.zero_le hi) h r
  rwa [List.drop_zero, Nat.sub_zero] at this
theorem begin_take {l : List Item} {m n : Nat} (h : m ≤ n) : beginF (l.take m) (l.take n) = true := by
  unfold beginF
  rw [decide_eq_true_eq]
  exact take_more h
theorem begin_all {l : List Item} {m : Nat} : beginF (l.take m) l = true := by
  unfold beginF
  rw [decide_eq_true_eq, List.length_take]
  rcases Nat.le_total m l.length with h | h
  · rw [Nat.min_eq_left h]
  · rw [Nat.min_eq_right h, List.take_length, List.take_of_length_le h]
theorem begin_self {l : List Item} : beginF l l = true := by unfold beginF; simp
theorem begin_less {l : List Item} {n : Nat} (h : n < l.length) : beginF l (l.take n) = false := begin_len (by rw [List.length_take]; omega)
variable {id : Int} {q : Qy} {v w : Value} {ov : v.oneCell' = true} {ow : w.oneCell' = true} {l m : List Item} {c : Bool}
theorem later_open (h : beginF l m = true) : laterF ⟨id, q, v, ov, l, false, false⟩ ⟨id, q, w, ow, m, false, c⟩ = true := by unfold laterF; simp [h]
theorem later_not (h : beginF l m = false) : laterF ⟨id, q, v, ov, l, false, false⟩ ⟨id, q, w, ow, m, false, c⟩ = false := by unfold laterF; simp [h]
theorem later_over : laterF ⟨id, q, v, ov, l, false, true⟩ ⟨id, q, w, ow, m, false, false⟩ = false := by unfold laterF; simp
theorem later_same : laterF ⟨id, q, v, ov, l, false, true⟩ ⟨id, q, v, ov, l, false, true⟩ = true := by unfold laterF; simp [begin_self]

set_option maxHeartbeats 8000000 in
set_option maxRecDepth 4000 in
theorem checkChain_spec {a : Td} {n m : Int} : Spc Try.prog 10 #[.agg (eT a).toArray, iv n, iv m] [tdA a] [] (ret (.bool true) []) := by
  obtain ⟨id, q, wv, ov, items, fin, canc⟩ := a
  show Spc Try.prog 10 #[.agg (eT ⟨id, q, wv, ov, items, fin, canc⟩).toArray, iv n, iv m] [rrow 2 eI wv items] [] (ret (.bool true) [])
  refine Spc.enter' (args := [.agg [iv id, .string q.text, iv q.most, iv q.many, wv, .bool fin, .bool canc].toArray, iv n, iv m]) (T0 := [(0, .agg [iv id, .string q.text, iv q.most, iv q.many, wv, .bool fin, .bool canc].toArray), (1, iv n), (2, iv m)]) Try.func10 rfl Try.ntmps10 (Nat.le_of_ble_eq_true rfl) rfl ?_
  intro w0 own
  refine CW.roFact (List.Mem.head _) (fun _ h => rrow.le h) fun hxs => ?_
  cases hg : greatI items
  rotate_left
  · 
    repeat' (first
    | (with_reducible refine CW.seq ?_)
    | (with_reducible refine KP.then_code ?_)
    | (with_reducible refine CW.skip ?_)
    | (with_reducible refine CW.ret ?_)
    | (with_reducible refine KP.then_ret ?_)
    | (with_reducible refine KP.block_ret ?_)
    | (with_reducible refine CW.block ?_)
    | (with_reducible refine KP.block_normal ?_)
    | (with_reducible refine CW.exit ?_)
    | (with_reducible refine KP.then_exit ?_)
    | (with_reducible refine KP.block_hit ?_)
    | refine KP.bm ?_
    | refine CW.ct ?_
    | refine CW.cf ?_
    | (refine CW.cP ?_ ?_ <;> intro _ <;> try contradiction)
    | (refine CW.cs ?_ ?_ <;> intro _ <;> try contradiction)
    | (refine CW.region (i := 0) ?_ <;> (refine KP.e ?_; (refine EK.box_a ?_; intro b3)) <;> refine KP.q QK.as ?_ <;> refine KP.list_nil ?_)
    | (refine CW.region (i := 1) ?_ <;> refine KP.q QK.fa ?_ <;> refine KP.q QK.lds ?_ <;> (refine KP.e ?_; ((refine EK.call (greatIE hg) ?_); repeat' first | refine CP.r ?_ | refine CP.r0 ?_ | refine CP.exP fun e12 => ?_ | refine CP.puP fun h12 => ?_)) <;> refine KP.q QK.mv ?_ <;> (first | refine KP.gn ?_ | refine KP.gu ?_ | refine KP.qy QK.fa ?_ | ((first | refine KP.gsP (t := 13) ?_ ?_ | refine KP.gs (t := 13) ?_ ?_) <;> intro _ <;> first | contradiction | refine KP.gn ?_ | refine KP.qy QK.fa ?_)) <;> (first | refine KP.gn ?_ | refine KP.gu ?_ | refine KP.qy QK.fa ?_) <;> (first | refine KP.gn ?_ | refine KP.gu ?_ | refine KP.qy QK.lds ?_) <;> (first | refine KP.gn ?_ | refine KP.gu ?_ | refine KP.qy QK.len ?_) <;> (first | refine KP.gn ?_ | refine KP.gu ?_ | refine KP.qy QK.gtr ?_) <;> refine KP.q QK.pk ?_ <;> refine KP.list_nil ?_)
    | (refine CW.region (i := 2) ?_ <;> (refine KP.e ?_; ((refine EK.call (awakeC) ?_); repeat' first | refine CP.r ?_ | refine CP.r0 ?_ | refine CP.exP fun e20 => ?_ | refine CP.puP fun h20 => ?_)) <;> refine KP.q QK.as ?_ <;> refine KP.list_nil ?_)
    | ((with_reducible apply KP.fin1); (· rfl); (· rfl)))
    exact FA.ret
  have hl := greatI_len hg
  
  
  by_cases hq0 : 100 < (q.text.size : Int)
  · repeat' (first
    | (with_reducible refine CW.seq ?_)
    | (with_reducible refine KP.then_code ?_)
    | (with_reducible refine CW.skip ?_)
    | (with_reducible refine CW.ret ?_)
    | (with_reducible refine KP.then_ret ?_)
    | (with_reducible refine KP.block_ret ?_)
    | (with_reducible refine CW.block ?_)
    | (with_reducible refine KP.block_normal ?_)
    | (with_reducible refine CW.exit ?_)
    | (with_reducible refine KP.then_exit ?_)
    | (with_reducible refine KP.block_hit ?_)
    | refine KP.bm ?_
    | refine CW.ct ?_
    | refine CW.cf ?_
    | (refine CW.cP ?_ ?_ <;> intro _ <;> try contradiction)
    | (refine CW.cs ?_ ?_ <;> intro _ <;> try contradiction)
    | (refine CW.region (i := 0) ?_ <;> (refine KP.e ?_; (refine EK.box_a ?_; intro b3)) <;> refine KP.q QK.as ?_ <;> refine KP.list_nil ?_)
    | (refine CW.region (i := 1) ?_ <;> refine KP.q QK.fa ?_ <;> refine KP.q QK.lds ?_ <;> (refine KP.e ?_; ((refine EK.call (greatIE hg) ?_); repeat' first | refine CP.r ?_ | refine CP.r0 ?_ | refine CP.exP fun e12 => ?_ | refine CP.puP fun h12 => ?_)) <;> refine KP.q QK.mv ?_ <;> (first | refine KP.gn ?_ | refine KP.gu ?_ | refine KP.qy QK.fa ?_ | ((first | refine KP.gsP (t := 13) ?_ ?_ | refine KP.gs (t := 13) ?_ ?_) <;> intro _ <;> first | contradiction | refine KP.gn ?_ | refine KP.qy QK.fa ?_)) <;> (first | refine KP.gn ?_ | refine KP.gu ?_ | refine KP.qy QK.fa ?_) <;> (first | refine KP.gn ?_ | refine KP.gu ?_ | refine KP.qy QK.lds ?_) <;> (first | refine KP.gn ?_ | refine KP.gu ?_ | refine KP.qy QK.len ?_) <;> (first | refine KP.gn ?_ | refine KP.gu ?_ | refine KP.qy QK.gtr ?_) <;> refine KP.q QK.pk ?_ <;> refine KP.list_nil ?_)
    | (refine CW.region (i := 2) ?_ <;> (refine KP.e ?_; ((refine EK.call (awakeC) ?_); repeat' first | refine CP.r ?_ | refine CP.r0 ?_ | refine CP.exP fun e20 => ?_ | refine CP.puP fun h20 => ?_)) <;> refine KP.q QK.as ?_ <;> refine KP.list_nil ?_)
    | ((with_reducible apply KP.fin1); (· rfl); (· rfl)))
    exact FA.ret
  
  
  repeat' (first
    | (with_reducible refine CW.seq ?_)
    | (with_reducible refine KP.then_code ?_)
    | (with_reducible refine CW.skip ?_)
    | (with_reducible refine CW.ret ?_)
    | (with_reducible refine KP.then_ret ?_)
    | (with_reducible refine KP.block_ret ?_)
    | (with_reducible refine CW.block ?_)
    | (with_reducible refine KP.block_normal ?_)
    | (with_reducible refine CW.exit ?_)
    | (with_reducible refine KP.then_exit ?_)
    | (with_reducible refine KP.block_hit ?_)
    | refine KP.bm ?_
    | refine CW.ct ?_
    | refine CW.cf ?_
    | (refine CW.cP ?_ ?_ <;> intro _ <;> try contradiction)
    | (refine CW.cs ?_ ?_ <;> intro _ <;> try contradiction)
    | (refine CW.region (i := 0) ?_ <;> (refine KP.e ?_; (refine EK.box_a ?_; intro b3)) <;> refine KP.q QK.as ?_ <;> refine KP.list_nil ?_)
    | (refine CW.region (i := 1) ?_ <;> refine KP.q QK.fa ?_ <;> refine KP.q QK.lds ?_ <;> (refine KP.e ?_; ((refine EK.call (greatIE hg) ?_); repeat' first | refine CP.r ?_ | refine CP.r0 ?_ | refine CP.exP fun e12 => ?_ | refine CP.puP fun h12 => ?_)) <;> refine KP.q QK.mv ?_ <;> (first | refine KP.gn ?_ | refine KP.gu ?_ | refine KP.qy QK.fa ?_ | ((first | refine KP.gsP (t := 13) ?_ ?_ | refine KP.gs (t := 13) ?_ ?_) <;> intro _ <;> first | contradiction | refine KP.gn ?_ | refine KP.qy QK.fa ?_)) <;> (first | refine KP.gn ?_ | refine KP.gu ?_ | refine KP.qy QK.fa ?_) <;> (first | refine KP.gn ?_ | refine KP.gu ?_ | refine KP.qy QK.lds ?_) <;> (first | refine KP.gn ?_ | refine KP.gu ?_ | refine KP.qy QK.len ?_) <;> (first | refine KP.gn ?_ | refine KP.gu ?_ | refine KP.qy QK.gtr ?_) <;> refine KP.q QK.pk ?_ <;> refine KP.list_nil ?_)
    | (refine CW.region (i := 3) ?_ <;> refine KP.q QK.fa ?_ <;> (refine KP.e ?_; (first | refine EK.st_s ?_ | refine EK.st_rf ?_ | refine EK.st_rf0 ?_)) <;> refine KP.q QK.fa ?_ <;> (refine KP.e ?_; (first | refine EK.st_s ?_ | refine EK.st_rf ?_ | refine EK.st_rf0 ?_)) <;> refine KP.list_nil ?_)
    | (refine CW.region (i := 4) ?_ <;> refine KP.q QK.mv ?_ <;> refine KP.q QK.fa ?_ <;> refine KP.q QK.lds ?_ <;> refine KP.q QK.len ?_ <;> refine KP.q (by first | exact QY.addN rfl rfl (by omega) | exact QK.add) ?_ <;> (refine KP.e ?_; ((refine EK.call (low2_spec (n := items.length + 1) (by omega) (by omega)) ?_); repeat' first | refine CP.r ?_ | refine CP.r0 ?_ | refine CP.exP fun e28 => ?_ | refine CP.puP fun h28 => ?_)) <;> refine KP.q QK.as ?_ <;> refine KP.list_nil ?_)
    | ((with_reducible apply KP.fin1); (· rfl); (· rfl)))
  
  
  repeat' (first
    | (with_reducible refine CW.seq ?_)
    | (with_reducible refine KP.then_code ?_)
    | (with_reducible refine CW.skip ?_)
    | (with_reducible refine CW.ret ?_)
    | (with_reducible refine KP.then_ret ?_)
    | (with_reducible refine KP.block_ret ?_)
    | (with_reducible refine CW.block ?_)
    | (with_reducible refine KP.block_normal ?_)
    | (with_reducible refine CW.exit ?_)
    | (with_reducible refine KP.then_exit ?_)
    | (with_reducible refine KP.block_hit ?_)
    | refine KP.bm ?_
    | refine CW.ct ?_
    | refine CW.cf ?_
    | (refine CW.cP ?_ ?_ <;> intro _ <;> try contradiction)
    | (refine CW.cs ?_ ?_ <;> intro _ <;> try contradiction)
    | (refine CW.region (i := 5) ?_ <;> refine KP.q QK.mv ?_ <;> refine KP.q QK.mv ?_ <;> refine KP.q (by first | exact QY.addN rfl rfl (by omega) | exact QK.add) ?_ <;> (refine KP.e ?_; ((refine EK.call (low2_spec (n := e28 + 1) (by omega) (by omega)) ?_); repeat' first | refine CP.r ?_ | refine CP.r0 ?_ | refine CP.exP fun e32 => ?_ | refine CP.puP fun h32 => ?_)) <;> refine KP.q QK.as ?_ <;> refine KP.list_nil ?_)
    | ((with_reducible apply KP.fin1); (· rfl); (· rfl)))
  have hone : [iv id, .string q.text, iv q.most, iv q.many, wv, .bool false, .bool false].all Value.oneCell' = true := by
    show (true && (true && (true && (true && (wv.oneCell' && (true && (true && true))))))) = true
    rw [ov]; rfl
  
  refine CW.mid (X := Nat × Nat × Nat) (fun z => [(1, iv (e28 : Nat)), (2, iv (e32 : Nat)), (3, qp b3), (7, qp z.1), (8, qp z.2.1), (9, qp z.2.2)]) (fun z => [pt z.1 46 (eT ⟨id, q, wv, ov, items, false, false⟩), pt z.2.1 46 (eT ⟨id, q, wv, ov, items, false, false⟩), pt z.2.2 46 (eT ⟨id, q, wv, ov, items, false, false⟩), pt b3 46 (eT ⟨id, q, wv, ov, items, false, false⟩)]) (fun _ => True) ?_ ?_
  · repeat' (first
    | (with_reducible refine CW.seq ?_)
    | (with_reducible refine KP.then_code ?_)
    | (with_reducible refine CW.skip ?_)
    | (with_reducible refine CW.ret ?_)
    | (with_reducible refine KP.then_ret ?_)
    | (with_reducible refine KP.block_ret ?_)
    | (with_reducible refine CW.block ?_)
    | (with_reducible refine KP.block_normal ?_)
    | (with_reducible refine CW.exit ?_)
    | (with_reducible refine KP.then_exit ?_)
    | (with_reducible refine KP.block_hit ?_)
    | refine KP.bm ?_
    | refine CW.ct ?_
    | refine CW.cf ?_
    | (refine CW.cP ?_ ?_ <;> intro _ <;> try contradiction)
    | (refine CW.cs ?_ ?_ <;> intro _ <;> try contradiction)
    | (((with_reducible refine CW.draw (i := 6) ?_ [[], [], [], [], [], [], [0, 3, 4, 5], [0, 1, 3, 4, 5, 6], [0, 1, 2, 3, 4, 5, 6, 7]] ?_ ?_ ?_ ?_); (· rfl); (· kernel_rfl); (· kernel_rfl); (· repeat (first | exact NoHang.post | refine NoHang.then ?_ | refine NoHang.block ?_))) <;> refine DW.m 0 rfl QK.lda ?_ <;> refine DW.m 1 rfl QK.lda ?_ <;> refine DW.m 2 rfl QK.lda ?_ <;> refine DW.three 3 4 5 ?_ ?_ ?_ <;> (first | ((refine DX.ex 3 rfl ?_; intro hdk; (refine EK.alloc ?_; intro b7); all_goals (refine DK.mk hdk (by refine Ob.ap rfl QK.lda ?_; refine Ob.ap rfl QK.lda ?_; refine Ob.ap rfl QK.lda ?_; exact .nil) ?_; clear hdk)) <;> refine DW.two 4 5 ?_ ?_ <;> (first | ((refine DX.ex 4 rfl ?_; intro hdk; (refine EK.alloc ?_; intro b8); all_goals (refine DK.mk hdk (by refine Ob.ap rfl QK.lda ?_; refine Ob.ap rfl QK.lda ?_; refine Ob.ap rfl QK.lda ?_; exact .nil) ?_; clear hdk)) <;> (refine DW.ex 5 rfl ?_; intro hdk; (refine EK.alloc ?_; intro b9); all_goals (refine DK.mk hdk (by refine Ob.ap rfl QK.lda ?_; refine Ob.ap rfl QK.lda ?_; refine Ob.ap rfl QK.lda ?_; exact .nil) ?_; clear hdk)) <;> (refine DW.ex 6 rfl ?_; intro hdk; (first | refine EK.st_a ?_ (h1 := hone) | refine EK.st_a ?_ | refine EK.st_ra ?_ | refine EK.st_p ?_); all_goals (refine DK.mk hdk (by refine Ob.ap rfl QK.lda ?_; refine Ob.ap rfl QK.lda ?_; exact .nil) ?_; clear hdk)) <;> (refine DW.ex 7 rfl ?_; intro hdk; (first | refine EK.st_a ?_ (h1 := hone) | refine EK.st_a ?_ | refine EK.st_ra ?_ | refine EK.st_p ?_); all_goals (refine DK.mk hdk (by refine Ob.ap rfl QK.lda ?_; exact .nil) ?_; clear hdk)) <;> (refine DW.ex 8 rfl ?_; intro hdk; (first | refine EK.st_a ?_ (h1 := hone) | refine EK.st_a ?_ | refine EK.st_ra ?_ | refine EK.st_p ?_); all_goals (refine DK.mk hdk .nil ?_; clear hdk)) <;> refine DW.zz ?_) | ((refine DX.ex 5 rfl ?_; intro hdk; (refine EK.alloc ?_; intro b9); all_goals (refine DK.mk hdk (by refine Ob.ap rfl QK.lda ?_; refine Ob.ap rfl QK.lda ?_; refine Ob.ap rfl QK.lda ?_; exact .nil) ?_; clear hdk)) <;> (refine DW.ex 4 rfl ?_; intro hdk; (refine EK.alloc ?_; intro b8); all_goals (refine DK.mk hdk (by refine Ob.ap rfl QK.lda ?_; refine Ob.ap rfl QK.lda ?_; refine Ob.ap rfl QK.lda ?_; exact .nil) ?_; clear hdk)) <;> (refine DW.ex 6 rfl ?_; intro hdk; (first | refine EK.st_a ?_ (h1 := hone) | refine EK.st_a ?_ | refine EK.st_ra ?_ | refine EK.st_p ?_); all_goals (refine DK.mk hdk (by refine Ob.ap rfl QK.lda ?_; refine Ob.ap rfl QK.lda ?_; exact .nil) ?_; clear hdk)) <;> (refine DW.ex 7 rfl ?_; intro hdk; (first | refine EK.st_a ?_ (h1 := hone) | refine EK.st_a ?_ | refine EK.st_ra ?_ | refine EK.st_p ?_); all_goals (refine DK.mk hdk (by refine Ob.ap rfl QK.lda ?_; exact .nil) ?_; clear hdk)) <;> (refine DW.ex 8 rfl ?_; intro hdk; (first | refine EK.st_a ?_ (h1 := hone) | refine EK.st_a ?_ | refine EK.st_ra ?_ | refine EK.st_p ?_); all_goals (refine DK.mk hdk .nil ?_; clear hdk)) <;> refine DW.zz ?_))) | ((refine DX.ex 4 rfl ?_; intro hdk; (refine EK.alloc ?_; intro b8); all_goals (refine DK.mk hdk (by refine Ob.ap rfl QK.lda ?_; refine Ob.ap rfl QK.lda ?_; refine Ob.ap rfl QK.lda ?_; exact .nil) ?_; clear hdk)) <;> refine DW.two 3 5 ?_ ?_ <;> (first | ((refine DX.ex 3 rfl ?_; intro hdk; (refine EK.alloc ?_; intro b7); all_goals (refine DK.mk hdk (by refine Ob.ap rfl QK.lda ?_; refine Ob.ap rfl QK.lda ?_; refine Ob.ap rfl QK.lda ?_; exact .nil) ?_; clear hdk)) <;> (refine DW.ex 5 rfl ?_; intro hdk; (refine EK.alloc ?_; intro b9); all_goals (refine DK.mk hdk (by refine Ob.ap rfl QK.lda ?_; refine Ob.ap rfl QK.lda ?_; refine Ob.ap rfl QK.lda ?_; exact .nil) ?_; clear hdk)) <;> (refine DW.ex 6 rfl ?_; intro hdk; (first | refine EK.st_a ?_ (h1 := hone) | refine EK.st_a ?_ | refine EK.st_ra ?_ | refine EK.st_p ?_); all_goals (refine DK.mk hdk (by refine Ob.ap rfl QK.lda ?_; refine Ob.ap rfl QK.lda ?_; exact .nil) ?_; clear hdk)) <;> (refine DW.ex 7 rfl ?_; intro hdk; (first | refine EK.st_a ?_ (h1 := hone) | refine EK.st_a ?_ | refine EK.st_ra ?_ | refine EK.st_p ?_); all_goals (refine DK.mk hdk (by refine Ob.ap rfl QK.lda ?_; exact .nil) ?_; clear hdk)) <;> (refine DW.ex 8 rfl ?_; intro hdk; (first | refine EK.st_a ?_ (h1 := hone) | refine EK.st_a ?_ | refine EK.st_ra ?_ | refine EK.st_p ?_); all_goals (refine DK.mk hdk .nil ?_; clear hdk)) <;> refine DW.zz ?_) | ((refine DX.ex 5 rfl ?_; intro hdk; (refine EK.alloc ?_; intro b9); all_goals (refine DK.mk hdk (by refine Ob.ap rfl QK.lda ?_; refine Ob.ap rfl QK.lda ?_; refine Ob.ap rfl QK.lda ?_; exact .nil) ?_; clear hdk)) <;> (refine DW.ex 3 rfl ?_; intro hdk; (refine EK.alloc ?_; intro b7); all_goals (refine DK.mk hdk (by refine Ob.ap rfl QK.lda ?_; refine Ob.ap rfl QK.lda ?_; refine Ob.ap rfl QK.lda ?_; exact .nil) ?_; clear hdk)) <;> (refine DW.ex 6 rfl ?_; intro hdk; (first | refine EK.st_a ?_ (h1 := hone) | refine EK.st_a ?_ | refine EK.st_ra ?_ | refine EK.st_p ?_); all_goals (refine DK.mk hdk (by refine Ob.ap rfl QK.lda ?_; refine Ob.ap rfl QK.lda ?_; exact .nil) ?_; clear hdk)) <;> (refine DW.ex 7 rfl ?_; intro hdk; (first | refine EK.st_a ?_ (h1 := hone) | refine EK.st_a ?_ | refine EK.st_ra ?_ | refine EK.st_p ?_); all_goals (refine DK.mk hdk (by refine Ob.ap rfl QK.lda ?_; exact .nil) ?_; clear hdk)) <;> (refine DW.ex 8 rfl ?_; intro hdk; (first | refine EK.st_a ?_ (h1 := hone) | refine EK.st_a ?_ | refine EK.st_ra ?_ | refine EK.st_p ?_); all_goals (refine DK.mk hdk .nil ?_; clear hdk)) <;> refine DW.zz ?_))) | ((refine DX.ex 5 rfl ?_; intro hdk; (refine EK.alloc ?_; intro b9); all_goals (refine DK.mk hdk (by refine Ob.ap rfl QK.lda ?_; refine Ob.ap rfl QK.lda ?_; refine Ob.ap rfl QK.lda ?_; exact .nil) ?_; clear hdk)) <;> refine DW.two 3 4 ?_ ?_ <;> (first | ((refine DX.ex 3 rfl ?_; intro hdk; (refine EK.alloc ?_; intro b7); all_goals (refine DK.mk hdk (by refine Ob.ap rfl QK.lda ?_; refine Ob.ap rfl QK.lda ?_; refine Ob.ap rfl QK.lda ?_; exact .nil) ?_; clear hdk)) <;> (refine DW.ex 4 rfl ?_; intro hdk; (refine EK.alloc ?_; intro b8); all_goals (refine DK.mk hdk (by refine Ob.ap rfl QK.lda ?_; refine Ob.ap rfl QK.lda ?_; refine Ob.ap rfl QK.lda ?_; exact .nil) ?_; clear hdk)) <;> (refine DW.ex 6 rfl ?_; intro hdk; (first | refine EK.st_a ?_ (h1 := hone) | refine EK.st_a ?_ | refine EK.st_ra ?_ | refine EK.st_p ?_); all_goals (refine DK.mk hdk (by refine Ob.ap rfl QK.lda ?_; refine Ob.ap rfl QK.lda ?_; exact .nil) ?_; clear hdk)) <;> (refine DW.ex 7 rfl ?_; intro hdk; (first | refine EK.st_a ?_ (h1 := hone) | refine EK.st_a ?_ | refine EK.st_ra ?_ | refine EK.st_p ?_); all_goals (refine DK.mk hdk (by refine Ob.ap rfl QK.lda ?_; exact .nil) ?_; clear hdk)) <;> (refine DW.ex 8 rfl ?_; intro hdk; (first | refine EK.st_a ?_ (h1 := hone) | refine EK.st_a ?_ | refine EK.st_ra ?_ | refine EK.st_p ?_); all_goals (refine DK.mk hdk .nil ?_; clear hdk)) <;> refine DW.zz ?_) | ((refine DX.ex 4 rfl ?_; intro hdk; (refine EK.alloc ?_; intro b8); all_goals (refine DK.mk hdk (by refine Ob.ap rfl QK.lda ?_; refine Ob.ap rfl QK.lda ?_; refine Ob.ap rfl QK.lda ?_; exact .nil) ?_; clear hdk)) <;> (refine DW.ex 3 rfl ?_; intro hdk; (refine EK.alloc ?_; intro b7); all_goals (refine DK.mk hdk (by refine Ob.ap rfl QK.lda ?_; refine Ob.ap rfl QK.lda ?_; refine Ob.ap rfl QK.lda ?_; exact .nil) ?_; clear hdk)) <;> (refine DW.ex 6 rfl ?_; intro hdk; (first | refine EK.st_a ?_ (h1 := hone) | refine EK.st_a ?_ | refine EK.st_ra ?_ | refine EK.st_p ?_); all_goals (refine DK.mk hdk (by refine Ob.ap rfl QK.lda ?_; refine Ob.ap rfl QK.lda ?_; exact .nil) ?_; clear hdk)) <;> (refine DW.ex 7 rfl ?_; intro hdk; (first | refine EK.st_a ?_ (h1 := hone) | refine EK.st_a ?_ | refine EK.st_ra ?_ | refine EK.st_p ?_); all_goals (refine DK.mk hdk (by refine Ob.ap rfl QK.lda ?_; exact .nil) ?_; clear hdk)) <;> (refine DW.ex 8 rfl ?_; intro hdk; (first | refine EK.st_a ?_ (h1 := hone) | refine EK.st_a ?_ | refine EK.st_ra ?_ | refine EK.st_p ?_); all_goals (refine DK.mk hdk .nil ?_; clear hdk)) <;> refine DW.zz ?_)))))
    | ((with_reducible apply KP.fin1); (· rfl); (· rfl)))
    all_goals rw [show [iv id, .string q.text, iv q.most, iv q.many, wv, .bool false, .bool false] = eT ⟨id, q, wv, ov, items, false, false⟩ from rfl]
    all_goals exact KA.joint (b7, b8, b9) trivial
  rintro ⟨b7, b8, b9⟩ -
  try dsimp only
  rw [show eT ⟨id, q, wv, ov, items, false, false⟩ = [iv id, .string q.text, iv q.most, iv q.many, wv, .bool false, .bool false] from rfl]
  
  refine CW.add (B := row 39 2 eI (.slice none 0 0) []) row.none ?_
  
  
  repeat' (first
    | (with_reducible refine CW.seq ?_)
    | (with_reducible refine KP.then_code ?_)
    | (with_reducible refine CW.skip ?_)
    | (with_reducible refine CW.ret ?_)
    | (with_reducible refine KP.then_ret ?_)
    | (with_reducible refine KP.block_ret ?_)
    | (with_reducible refine CW.block ?_)
    | (with_reducible refine KP.block_normal ?_)
    | (with_reducible refine CW.exit ?_)
    | (with_reducible refine KP.then_exit ?_)
    | (with_reducible refine KP.block_hit ?_)
    | refine KP.bm ?_
    | refine CW.ct ?_
    | refine CW.cf ?_
    | (refine CW.cP ?_ ?_ <;> intro _ <;> try contradiction)
    | (refine CW.cs ?_ ?_ <;> intro _ <;> try contradiction)
    | (refine CW.region (i := 7) ?_ <;> refine KP.q QK.fa ?_ <;> refine KP.q QK.lds ?_ <;> refine KP.q QK.mv ?_ <;> refine KP.q (by first | exact QY.cut_hi (hi := e28) rfl rfl (Rd.ro (by with_reducible first | exact m0 | exact m1 | exact m2 | exact m3 | exact m4 | exact m5 | fail)) RowL.rrow (by omega) | exact QK.sl_hi) ?_ <;> (refine KP.e ?_; (first | (refine EK.app2 (enc := eI) (xs := ([] : List Item)) (ys := items.take e28) ?_ (r := RdRow.mk' (Rd.ro (by with_reducible first | exact m0 | exact m1 | exact m2 | exact m3 | exact m4 | exact m5 | fail)) (rowl_take RowL.rrow (by omega))) (hb := by simp only [List.length_nil, List.length_take]; omega); intro w40 o40) | (refine EK.app1 _ ?_; intro w40 o40))) <;> refine KP.q QK.fa ?_ <;> (refine KP.e ?_; (first | refine EK.st_s ?_ | refine EK.st_rf ?_ | refine EK.st_rf0 ?_)) <;> refine KP.list_nil ?_)
    | ((with_reducible apply KP.fin1); (· rfl); (· rfl)))
  rw [List.nil_append]
  refine CW.add (B := row 39 2 eI (.slice none 0 0) []) row.none ?_
  
  
  
  repeat' (first
    | (with_reducible refine CW.seq ?_)
    | (with_reducible refine KP.then_code ?_)
    | (with_reducible refine CW.skip ?_)
    | (with_reducible refine CW.ret ?_)
    | (with_reducible refine KP.then_ret ?_)
    | (with_reducible refine KP.block_ret ?_)
    | (with_reducible refine CW.block ?_)
    | (with_reducible refine KP.block_normal ?_)
    | (with_reducible refine CW.exit ?_)
    | (with_reducible refine KP.then_exit ?_)
    | (with_reducible refine KP.block_hit ?_)
    | refine KP.bm ?_
    | refine CW.ct ?_
    | refine CW.cf ?_
    | (refine CW.cP ?_ ?_ <;> intro _ <;> try contradiction)
    | (refine CW.cs ?_ ?_ <;> intro _ <;> try contradiction)
    | (refine CW.region (i := 8) ?_ <;> refine KP.q QK.fa ?_ <;> refine KP.q QK.lds ?_ <;> refine KP.q QK.mv ?_ <;> refine KP.q (by first | exact QY.cut_hi (hi := e32) rfl rfl (Rd.ro (by with_reducible first | exact m0 | exact m1 | exact m2 | exact m3 | exact m4 | exact m5 | fail)) RowL.rrow (by omega) | exact QK.sl_hi) ?_ <;> (refine KP.e ?_; (first | (refine EK.app2 (enc := eI) (xs := ([] : List Item)) (ys := items.take e32) ?_ (r := RdRow.mk' (Rd.ro (by with_reducible first | exact m0 | exact m1 | exact m2 | exact m3 | exact m4 | exact m5 | fail)) (rowl_take RowL.rrow (by omega))) (hb := by simp only [List.length_nil, List.length_take]; omega); intro w46 o46) | (refine EK.app1 _ ?_; intro w46 o46))) <;> refine KP.q QK.fa ?_ <;> (refine KP.e ?_; (first | refine EK.st_s ?_ | refine EK.st_rf ?_ | refine EK.st_rf0 ?_)) <;> refine KP.list_nil ?_)
    | (refine CW.region (i := 9) ?_ <;> refine KP.q QK.fa ?_ <;> (refine KP.e ?_; (first | refine EK.st_s ?_ | refine EK.st_rf ?_ | refine EK.st_rf0 ?_)) <;> refine KP.list_nil ?_)
    | ((with_reducible apply KP.fin1); (· rfl); (· rfl)))
  rw [List.nil_append]
  have hcb := begin_take (l := items) (m := e32) (n := e28) (by omega)
  have hba := begin_all (l := items) (m := e28)
  have hca := begin_all (l := items) (m := e32)
  have haa := begin_self (l := items)
  
  repeat' (first
    | (with_reducible refine CW.seq ?_)
    | (with_reducible refine KP.then_code ?_)
    | (with_reducible refine CW.skip ?_)
    | (with_reducible refine CW.ret ?_)
    | (with_reducible refine KP.then_ret ?_)
    | (with_reducible refine KP.block_ret ?_)
    | (with_reducible refine CW.block ?_)
    | (with_reducible refine KP.block_normal ?_)
    | (with_reducible refine CW.exit ?_)
    | (with_reducible refine KP.then_exit ?_)
    | (with_reducible refine KP.block_hit ?_)
    | refine KP.bm ?_
    | refine CW.ct ?_
    | refine CW.cf ?_
    | (refine CW.cP ?_ ?_ <;> intro _ <;> try contradiction)
    | (refine CW.cs ?_ ?_ <;> intro _ <;> try contradiction)
    | (refine CW.region (i := 10) ?_ <;> refine KP.q QK.lda ?_ <;> refine KP.q QK.lda ?_ <;> (refine KP.e ?_; ((first | refine EK.call (laterE (a := ⟨id, q, w46, o46, items.take e32, false, false⟩) (b := ⟨id, q, w40, o40, items.take e28, false, false⟩) (later_open hcb)) ?_ | refine EK.call (laterE (a := ⟨id, q, w40, o40, items.take e28, false, false⟩) (b := ⟨id, q, wv, ov, items, false, false⟩) (later_open hba)) ?_ | refine EK.call (laterE (a := ⟨id, q, w46, o46, items.take e32, false, false⟩) (b := ⟨id, q, wv, ov, items, false, false⟩) (later_open hca)) ?_ | refine EK.call (laterE (a := ⟨id, q, wv, ov, items, false, false⟩) (b := ⟨id, q, wv, ov, items, false, true⟩) (later_open haa)) ?_ | refine EK.call (laterE (a := ⟨id, q, wv, ov, items, false, true⟩) (b := ⟨id, q, wv, ov, items, false, false⟩) later_over) ?_ | refine EK.call (laterE (a := ⟨id, q, wv, ov, items, false, true⟩) (b := ⟨id, q, wv, ov, items, false, true⟩) later_same) ?_); repeat' first | refine CP.r ?_ | refine CP.r0 ?_ | refine CP.exP fun e51 => ?_ | refine CP.puP fun h51 => ?_)) <;> refine KP.q QK.not ?_ <;> refine KP.q QK.mv ?_ <;> (first | refine KP.gn ?_ | refine KP.gu ?_ | refine KP.qy QK.lda ?_ | ((first | refine KP.gsP (t := 53) ?_ ?_ | refine KP.gs (t := 53) ?_ ?_) <;> intro _ <;> first | contradiction | refine KP.gn ?_ | refine KP.qy QK.lda ?_)) <;> (first | refine KP.gn ?_ | refine KP.gu ?_ | refine KP.qy QK.lda ?_) <;> (first | refine KP.gn ?_ | refine KP.gu ?_ | (refine KP.gy ?_; refine KP.e ?_; ((first | refine EK.call (laterE (a := ⟨id, q, w46, o46, items.take e32, false, false⟩) (b := ⟨id, q, w40, o40, items.take e28, false, false⟩) (later_open hcb)) ?_ | refine EK.call (laterE (a := ⟨id, q, w40, o40, items.take e28, false, false⟩) (b := ⟨id, q, wv, ov, items, false, false⟩) (later_open hba)) ?_ | refine EK.call (laterE (a := ⟨id, q, w46, o46, items.take e32, false, false⟩) (b := ⟨id, q, wv, ov, items, false, false⟩) (later_open hca)) ?_ | refine EK.call (laterE (a := ⟨id, q, wv, ov, items, false, false⟩) (b := ⟨id, q, wv, ov, items, false, true⟩) (later_open haa)) ?_ | refine EK.call (laterE (a := ⟨id, q, wv, ov, items, false, true⟩) (b := ⟨id, q, wv, ov, items, false, false⟩) later_over) ?_ | refine EK.call (laterE (a := ⟨id, q, wv, ov, items, false, true⟩) (b := ⟨id, q, wv, ov, items, false, true⟩) later_same) ?_); repeat' first | refine CP.r ?_ | refine CP.r0 ?_ | refine CP.exP fun e56 => ?_ | refine CP.puP fun h56 => ?_))) <;> (first | refine KP.gn ?_ | refine KP.gu ?_ | refine KP.qy QK.not ?_) <;> refine KP.q QK.pk ?_ <;> refine KP.q QK.mv ?_ <;> (first | refine KP.gn ?_ | refine KP.gu ?_ | refine KP.qy QK.lda ?_ | ((first | refine KP.gsP (t := 59) ?_ ?_ | refine KP.gs (t := 59) ?_ ?_) <;> intro _ <;> first | contradiction | refine KP.gn ?_ | refine KP.qy QK.lda ?_)) <;> (first | refine KP.gn ?_ | refine KP.gu ?_ | refine KP.qy QK.lda ?_) <;> (first | refine KP.gn ?_ | refine KP.gu ?_ | (refine KP.gy ?_; refine KP.e ?_; ((first | refine EK.call (laterE (a := ⟨id, q, w46, o46, items.take e32, false, false⟩) (b := ⟨id, q, w40, o40, items.take e28, false, false⟩) (later_open hcb)) ?_ | refine EK.call (laterE (a := ⟨id, q, w40, o40, items.take e28, false, false⟩) (b := ⟨id, q, wv, ov, items, false, false⟩) (later_open hba)) ?_ | refine EK.call (laterE (a := ⟨id, q, w46, o46, items.take e32, false, false⟩) (b := ⟨id, q, wv, ov, items, false, false⟩) (later_open hca)) ?_ | refine EK.call (laterE (a := ⟨id, q, wv, ov, items, false, false⟩) (b := ⟨id, q, wv, ov, items, false, true⟩) (later_open haa)) ?_ | refine EK.call (laterE (a := ⟨id, q, wv, ov, items, false, true⟩) (b := ⟨id, q, wv, ov, items, false, false⟩) later_over) ?_ | refine EK.call (laterE (a := ⟨id, q, wv, ov, items, false, true⟩) (b := ⟨id, q, wv, ov, items, false, true⟩) later_same) ?_); repeat' first | refine CP.r ?_ | refine CP.r0 ?_ | refine CP.exP fun e62 => ?_ | refine CP.puP fun h62 => ?_))) <;> (first | refine KP.gn ?_ | refine KP.gu ?_ | refine KP.qy QK.not ?_) <;> refine KP.q QK.pk ?_ <;> refine KP.q QK.mv ?_ <;> (first | refine KP.gn ?_ | refine KP.gu ?_ | refine KP.qy QK.lda ?_ | ((first | refine KP.gsP (t := 65) ?_ ?_ | refine KP.gs (t := 65) ?_ ?_) <;> intro _ <;> first | contradiction | refine KP.gn ?_ | refine KP.qy QK.lda ?_)) <;> (first | refine KP.gn ?_ | refine KP.gu ?_ | refine KP.qy QK.lda ?_) <;> (first | refine KP.gn ?_ | refine KP.gu ?_ | (refine KP.gy ?_; refine KP.e ?_; ((first | refine EK.call (laterE (a := ⟨id, q, w46, o46, items.take e32, false, false⟩) (b := ⟨id, q, w40, o40, items.take e28, false, false⟩) (later_open hcb)) ?_ | refine EK.call (laterE (a := ⟨id, q, w40, o40, items.take e28, false, false⟩) (b := ⟨id, q, wv, ov, items, false, false⟩) (later_open hba)) ?_ | refine EK.call (laterE (a := ⟨id, q, w46, o46, items.take e32, false, false⟩) (b := ⟨id, q, wv, ov, items, false, false⟩) (later_open hca)) ?_ | refine EK.call (laterE (a := ⟨id, q, wv, ov, items, false, false⟩) (b := ⟨id, q, wv, ov, items, false, true⟩) (later_open haa)) ?_ | refine EK.call (laterE (a := ⟨id, q, wv, ov, items, false, true⟩) (b := ⟨id, q, wv, ov, items, false, false⟩) later_over) ?_ | refine EK.call (laterE (a := ⟨id, q, wv, ov, items, false, true⟩) (b := ⟨id, q, wv, ov, items, false, true⟩) later_same) ?_); repeat' first | refine CP.r ?_ | refine CP.r0 ?_ | refine CP.exP fun e68 => ?_ | refine CP.puP fun h68 => ?_))) <;> (first | refine KP.gn ?_ | refine KP.gu ?_ | refine KP.qy QK.not ?_) <;> refine KP.q QK.pk ?_ <;> refine KP.q QK.mv ?_ <;> (first | refine KP.gn ?_ | refine KP.gu ?_ | refine KP.qy QK.lda ?_ | ((first | refine KP.gsP (t := 71) ?_ ?_ | refine KP.gs (t := 71) ?_ ?_) <;> intro _ <;> first | contradiction | refine KP.gn ?_ | refine KP.qy QK.lda ?_)) <;> (first | refine KP.gn ?_ | refine KP.gu ?_ | refine KP.qy QK.lda ?_) <;> (first | refine KP.gn ?_ | refine KP.gu ?_ | (refine KP.gy ?_; refine KP.e ?_; ((first | refine EK.call (laterE (a := ⟨id, q, w46, o46, items.take e32, false, false⟩) (b := ⟨id, q, w40, o40, items.take e28, false, false⟩) (later_open hcb)) ?_ | refine EK.call (laterE (a := ⟨id, q, w40, o40, items.take e28, false, false⟩) (b := ⟨id, q, wv, ov, items, false, false⟩) (later_open hba)) ?_ | refine EK.call (laterE (a := ⟨id, q, w46, o46, items.take e32, false, false⟩) (b := ⟨id, q, wv, ov, items, false, false⟩) (later_open hca)) ?_ | refine EK.call (laterE (a := ⟨id, q, wv, ov, items, false, false⟩) (b := ⟨id, q, wv, ov, items, false, true⟩) (later_open haa)) ?_ | refine EK.call (laterE (a := ⟨id, q, wv, ov, items, false, true⟩) (b := ⟨id, q, wv, ov, items, false, false⟩) later_over) ?_ | refine EK.call (laterE (a := ⟨id, q, wv, ov, items, false, true⟩) (b := ⟨id, q, wv, ov, items, false, true⟩) later_same) ?_); repeat' first | refine CP.r ?_ | refine CP.r0 ?_ | refine CP.exP fun e74 => ?_ | refine CP.puP fun h74 => ?_))) <;> refine KP.q QK.pk ?_ <;> refine KP.list_nil ?_)
    | ((with_reducible apply KP.fin1); (· rfl); (· rfl)))
  rcases Nat.lt_or_ge e28 items.length with hlt | hge
  · have hab := begin_less (l := items) hlt
    
    repeat' (first
    | (with_reducible refine CW.seq ?_)
    | (with_reducible refine KP.then_code ?_)
    | (with_reducible refine CW.skip ?_)
    | (with_reducible refine CW.ret ?_)
    | (with_reducible refine KP.then_ret ?_)
    | (with_reducible refine KP.block_ret ?_)
    | (with_reducible refine CW.block ?_)
    | (with_reducible refine KP.block_normal ?_)
    | (with_reducible refine CW.exit ?_)
    | (with_reducible refine KP.then_exit ?_)
    | (with_reducible refine KP.block_hit ?_)
    | refine KP.bm ?_
    | refine CW.ct ?_
    | refine CW.cf ?_
    | (refine CW.cP ?_ ?_ <;> intro _ <;> try contradiction)
    | (refine CW.cs ?_ ?_ <;> intro _ <;> try contradiction)
    | (((with_reducible refine CW.draw (i := 12) ?_ [[], [], [0, 1], [], [], [4], [4, 5], [3, 4, 5, 6], [0, 1, 2, 3, 4, 5, 6, 7], [0, 1, 2, 3, 4, 5, 6, 7, 8], [0, 1, 2, 3, 4, 5, 6, 7, 8, 9], [0, 1, 2, 3, 4, 5, 6, 7, 8, 9], [0, 1, 2, 3, 4, 5, 6, 7, 8, 9, 10, 11], [0, 1, 2, 3, 4, 5, 6, 7, 8, 9, 10, 11, 12], [0, 1, 2, 3, 4, 5, 6, 7, 8, 9, 10, 11, 12, 13], [0, 1, 2, 3, 4, 5, 6, 7, 8, 9, 10, 11, 12, 13, 14], [0, 1, 2, 3, 4, 5, 6, 7, 8, 9, 10, 11, 12, 13, 14, 15], [0, 1, 2, 3, 4, 5, 6, 7, 8, 9, 10, 11, 12, 13, 14, 15, 16]] ?_ ?_ ?_ ?_); (· rfl); (· kernel_rfl); (· kernel_rfl); (· repeat (first | exact NoHang.post | refine NoHang.then ?_ | refine NoHang.block ?_))) <;> refine DW.p 3 rfl (fun _ => QK.mv) ?_ <;> refine DW.p 4 rfl (fun _ => QK.fa) ?_ <;> refine DW.m 0 rfl QK.lda ?_ <;> refine DW.m 1 rfl QK.lda ?_ <;> refine DW.m 5 rfl QK.lds ?_ <;> refine DW.m 6 rfl QK.len ?_ <;> refine DW.p 7 rfl (fun _ => QK.eqi) ?_ <;> (refine DW.ex 2 rfl ?_; intro hdk; ((first | refine EK.call (laterE (a := ⟨id, q, wv, ov, items, false, false⟩) (b := ⟨id, q, w40, o40, items.take e28, false, false⟩) (later_not hab)) ?_ | refine EK.call (laterE (a := ⟨id, q, w46, o46, items.take e32, false, false⟩) (b := ⟨id, q, w40, o40, items.take e28, false, false⟩) (later_open hcb)) ?_ | refine EK.call (laterE (a := ⟨id, q, w40, o40, items.take e28, false, false⟩) (b := ⟨id, q, wv, ov, items, false, false⟩) (later_open hba)) ?_ | refine EK.call (laterE (a := ⟨id, q, w46, o46, items.take e32, false, false⟩) (b := ⟨id, q, wv, ov, items, false, false⟩) (later_open hca)) ?_ | refine EK.call (laterE (a := ⟨id, q, wv, ov, items, false, false⟩) (b := ⟨id, q, wv, ov, items, false, true⟩) (later_open haa)) ?_ | refine EK.call (laterE (a := ⟨id, q, wv, ov, items, false, true⟩) (b := ⟨id, q, wv, ov, items, false, false⟩) later_over) ?_ | refine EK.call (laterE (a := ⟨id, q, wv, ov, items, false, true⟩) (b := ⟨id, q, wv, ov, items, false, true⟩) later_same) ?_); repeat' first | refine CP.r ?_ | refine CP.r0 ?_ | refine CP.exP fun e78 => ?_ | refine CP.puP fun h78 => ?_); all_goals (refine DK.mk hdk (by refine Ob.ap rfl QK.len ?_; refine Ob.ap rfl QK.lds ?_; exact .nil) ?_; clear hdk)) <;> refine DW.p 8 rfl (fun _ => QK.eqb) ?_ <;> refine DW.p 9 rfl (fun _ => QK.mv) ?_ <;> (first | refine DW.mn 10 rfl rfl rfl ?_ | refine DW.mu 10 rfl rfl rfl ?_ | refine DW.my 10 rfl rfl rfl QK.lda ?_ | ((first | refine DW.sP (t := 85) ?_ ?_ | refine DW.s (t := 85) ?_ ?_) <;> intro _ <;> first | contradiction | refine DW.mn 10 rfl rfl rfl ?_ | refine DW.mu 10 rfl rfl rfl ?_ | refine DW.my 10 rfl rfl rfl QK.lda ?_)) <;> (first | refine DW.mn 11 rfl rfl rfl ?_ | refine DW.mu 11 rfl rfl rfl ?_ | refine DW.my 11 rfl rfl rfl QK.lda ?_) <;> (first | (refine DW.exn 12 rfl rfl rfl ?_; intro hdk; refine DK.mk hdk .nil ?_; clear hdk) | (refine DW.exy 12 rfl rfl rfl ?_; intro hdk; ((first | refine EK.call (laterE (a := ⟨id, q, wv, ov, items, false, false⟩) (b := ⟨id, q, w40, o40, items.take e28, false, false⟩) (later_not hab)) ?_ | refine EK.call (laterE (a := ⟨id, q, w46, o46, items.take e32, false, false⟩) (b := ⟨id, q, w40, o40, items.take e28, false, false⟩) (later_open hcb)) ?_ | refine EK.call (laterE (a := ⟨id, q, w40, o40, items.take e28, false, false⟩) (b := ⟨id, q, wv, ov, items, false, false⟩) (later_open hba)) ?_ | refine EK.call (laterE (a := ⟨id, q, w46, o46, items.take e32, false, false⟩) (b := ⟨id, q, wv, ov, items, false, false⟩) (later_open hca)) ?_ | refine EK.call (laterE (a := ⟨id, q, wv, ov, items, false, false⟩) (b := ⟨id, q, wv, ov, items, false, true⟩) (later_open haa)) ?_ | refine EK.call (laterE (a := ⟨id, q, wv, ov, items, false, true⟩) (b := ⟨id, q, wv, ov, items, false, false⟩) later_over) ?_ | refine EK.call (laterE (a := ⟨id, q, wv, ov, items, false, true⟩) (b := ⟨id, q, wv, ov, items, false, true⟩) later_same) ?_); repeat' first | refine CP.r ?_ | refine CP.r0 ?_ | refine CP.exP fun e88 => ?_ | refine CP.puP fun h88 => ?_); all_goals (refine DK.mk hdk .nil ?_; clear hdk))) <;> refine DW.p 13 rfl (fun _ => QK.pk) ?_ <;> refine DW.p 14 rfl (fun _ => QK.mv) ?_ <;> (first | (refine DW.exn 15 rfl rfl rfl ?_; intro hdk; refine DK.mk hdk .nil ?_; clear hdk) | (refine DW.exy 15 rfl rfl rfl ?_; intro hdk; ((refine EK.call (awakeC) ?_); repeat' first | refine CP.r ?_ | refine CP.r0 ?_ | refine CP.exP fun e91 => ?_ | refine CP.puP fun h91 => ?_); all_goals (refine DK.mk hdk .nil ?_; clear hdk)) | ((first | refine DW.sP (t := 90) ?_ ?_ | refine DW.s (t := 90) ?_ ?_) <;> intro _ <;> first | contradiction | (refine DW.exn 15 rfl rfl rfl ?_; intro hdk; refine DK.mk hdk .nil ?_; clear hdk) | (refine DW.exy 15 rfl rfl rfl ?_; intro hdk; ((refine EK.call (awakeC) ?_); repeat' first | refine CP.r ?_ | refine CP.r0 ?_ | refine CP.exP fun e91 => ?_ | refine CP.puP fun h91 => ?_); all_goals (refine DK.mk hdk .nil ?_; clear hdk)))) <;> refine DW.p 16 rfl (fun _ => QK.pk) ?_ <;> refine DW.p 17 rfl (fun _ => QK.as) ?_ <;> refine DW.zz ?_)
    | ((with_reducible apply KP.fin1); (· rfl); (· rfl)))
    exact FA.ret
  · have hab : beginF items (items.take e28) = true := by rw [List.take_of_length_le hge]; exact begin_self
    
    repeat' (first
    | (with_reducible refine CW.seq ?_)
    | (with_reducible refine KP.then_code ?_)
    | (with_reducible refine CW.skip ?_)
    | (with_reducible refine CW.ret ?_)
    | (with_reducible refine KP.then_ret ?_)
    | (with_reducible refine KP.block_ret ?_)
    | (with_reducible refine CW.block ?_)
    | (with_reducible refine KP.block_normal ?_)
    | (with_reducible refine CW.exit ?_)
    | (with_reducible refine KP.then_exit ?_)
    | (with_reducible refine KP.block_hit ?_)
    | refine KP.bm ?_
    | refine CW.ct ?_
    | refine CW.cf ?_
    | (refine CW.cP ?_ ?_ <;> intro _ <;> try contradiction)
    | (refine CW.cs ?_ ?_ <;> intro _ <;> try contradiction)
    | (((with_reducible refine CW.draw (i := 12) ?_ [[], [], [0, 1], [], [], [4], [4, 5], [3, 4, 5, 6], [0, 1, 2, 3, 4, 5, 6, 7], [0, 1, 2, 3, 4, 5, 6, 7, 8], [0, 1, 2, 3, 4, 5, 6, 7, 8, 9], [0, 1, 2, 3, 4, 5, 6, 7, 8, 9], [0, 1, 2, 3, 4, 5, 6, 7, 8, 9, 10, 11], [0, 1, 2, 3, 4, 5, 6, 7, 8, 9, 10, 11, 12], [0, 1, 2, 3, 4, 5, 6, 7, 8, 9, 10, 11, 12, 13], [0, 1, 2, 3, 4, 5, 6, 7, 8, 9, 10, 11, 12, 13, 14], [0, 1, 2, 3, 4, 5, 6, 7, 8, 9, 10, 11, 12, 13, 14, 15], [0, 1, 2, 3, 4, 5, 6, 7, 8, 9, 10, 11, 12, 13, 14, 15, 16]] ?_ ?_ ?_ ?_); (· rfl); (· kernel_rfl); (· kernel_rfl); (· repeat (first | exact NoHang.post | refine NoHang.then ?_ | refine NoHang.block ?_))) <;> refine DW.p 3 rfl (fun _ => QK.mv) ?_ <;> refine DW.p 4 rfl (fun _ => QK.fa) ?_ <;> refine DW.m 0 rfl QK.lda ?_ <;> refine DW.m 1 rfl QK.lda ?_ <;> refine DW.m 5 rfl QK.lds ?_ <;> refine DW.m 6 rfl QK.len ?_ <;> refine DW.p 7 rfl (fun _ => QK.eqi) ?_ <;> (refine DW.ex 2 rfl ?_; intro hdk; ((first | refine EK.call (laterE (a := ⟨id, q, wv, ov, items, false, false⟩) (b := ⟨id, q, w40, o40, items.take e28, false, false⟩) (later_open hab)) ?_ | refine EK.call (laterE (a := ⟨id, q, wv, ov, items, false, false⟩) (b := ⟨id, q, w40, o40, items.take e28, false, false⟩) (later_not hab)) ?_ | refine EK.call (laterE (a := ⟨id, q, w46, o46, items.take e32, false, false⟩) (b := ⟨id, q, w40, o40, items.take e28, false, false⟩) (later_open hcb)) ?_ | refine EK.call (laterE (a := ⟨id, q, w40, o40, items.take e28, false, false⟩) (b := ⟨id, q, wv, ov, items, false, false⟩) (later_open hba)) ?_ | refine EK.call (laterE (a := ⟨id, q, w46, o46, items.take e32, false, false⟩) (b := ⟨id, q, wv, ov, items, false, false⟩) (later_open hca)) ?_ | refine EK.call (laterE (a := ⟨id, q, wv, ov, items, false, false⟩) (b := ⟨id, q, wv, ov, items, false, true⟩) (later_open haa)) ?_ | refine EK.call (laterE (a := ⟨id, q, wv, ov, items, false, true⟩) (b := ⟨id, q, wv, ov, items, false, false⟩) later_over) ?_ | refine EK.call (laterE (a := ⟨id, q, wv, ov, items, false, true⟩) (b := ⟨id, q, wv, ov, items, false, true⟩) later_same) ?_); repeat' first | refine CP.r ?_ | refine CP.r0 ?_ | refine CP.exP fun e78 => ?_ | refine CP.puP fun h78 => ?_); all_goals (refine DK.mk hdk (by refine Ob.ap rfl QK.len ?_; refine Ob.ap rfl QK.lds ?_; exact .nil) ?_; clear hdk)) <;> refine DW.p 8 rfl (fun _ => QK.eqb) ?_ <;> refine DW.p 9 rfl (fun _ => QK.mv) ?_ <;> (first | refine DW.mn 10 rfl rfl rfl ?_ | refine DW.mu 10 rfl rfl rfl ?_ | refine DW.my 10 rfl rfl rfl QK.lda ?_ | ((first | refine DW.sP (t := 85) ?_ ?_ | refine DW.s (t := 85) ?_ ?_) <;> intro _ <;> first | contradiction | refine DW.mn 10 rfl rfl rfl ?_ | refine DW.mu 10 rfl rfl rfl ?_ | refine DW.my 10 rfl rfl rfl QK.lda ?_)) <;> (first | refine DW.mn 11 rfl rfl rfl ?_ | refine DW.mu 11 rfl rfl rfl ?_ | refine DW.my 11 rfl rfl rfl QK.lda ?_) <;> (first | (refine DW.exn 12 rfl rfl rfl ?_; intro hdk; refine DK.mk hdk .nil ?_; clear hdk) | (refine DW.exy 12 rfl rfl rfl ?_; intro hdk; ((first | refine EK.call (laterE (a := ⟨id, q, wv, ov, items, false, false⟩) (b := ⟨id, q, w40, o40, items.take e28, false, false⟩) (later_open hab)) ?_ | refine EK.call (laterE (a := ⟨id, q, wv, ov, items, false, false⟩) (b := ⟨id, q, w40, o40, items.take e28, false, false⟩) (later_not hab)) ?_ | refine EK.call (laterE (a := ⟨id, q, w46, o46, items.take e32, false, false⟩) (b := ⟨id, q, w40, o40, items.take e28, false, false⟩) (later_open hcb)) ?_ | refine EK.call (laterE (a := ⟨id, q, w40, o40, items.take e28, false, false⟩) (b := ⟨id, q, wv, ov, items, false, false⟩) (later_open hba)) ?_ | refine EK.call (laterE (a := ⟨id, q, w46, o46, items.take e32, false, false⟩) (b := ⟨id, q, wv, ov, items, false, false⟩) (later_open hca)) ?_ | refine EK.call (laterE (a := ⟨id, q, wv, ov, items, false, false⟩) (b := ⟨id, q, wv, ov, items, false, true⟩) (later_open haa)) ?_ | refine EK.call (laterE (a := ⟨id, q, wv, ov, items, false, true⟩) (b := ⟨id, q, wv, ov, items, false, false⟩) later_over) ?_ | refine EK.call (laterE (a := ⟨id, q, wv, ov, items, false, true⟩) (b := ⟨id, q, wv, ov, items, false, true⟩) later_same) ?_); repeat' first | refine CP.r ?_ | refine CP.r0 ?_ | refine CP.exP fun e88 => ?_ | refine CP.puP fun h88 => ?_); all_goals (refine DK.mk hdk .nil ?_; clear hdk))) <;> refine DW.p 13 rfl (fun _ => QK.pk) ?_ <;> refine DW.p 14 rfl (fun _ => QK.mv) ?_ <;> (first | (refine DW.exn 15 rfl rfl rfl ?_; intro hdk; refine DK.mk hdk .nil ?_; clear hdk) | (refine DW.exy 15 rfl rfl rfl ?_; intro hdk; ((refine EK.call (awakeC) ?_); repeat' first | refine CP.r ?_ | refine CP.r0 ?_ | refine CP.exP fun e91 => ?_ | refine CP.puP fun h91 => ?_); all_goals (refine DK.mk hdk .nil ?_; clear hdk)) | ((first | refine DW.sP (t := 90) ?_ ?_ | refine DW.s (t := 90) ?_ ?_) <;> intro _ <;> first | contradiction | (refine DW.exn 15 rfl rfl rfl ?_; intro hdk; refine DK.mk hdk .nil ?_; clear hdk) | (refine DW.exy 15 rfl rfl rfl ?_; intro hdk; ((refine EK.call (awakeC) ?_); repeat' first | refine CP.r ?_ | refine CP.r0 ?_ | refine CP.exP fun e91 => ?_ | refine CP.puP fun h91 => ?_); all_goals (refine DK.mk hdk .nil ?_; clear hdk)))) <;> refine DW.p 16 rfl (fun _ => QK.pk) ?_ <;> refine DW.p 17 rfl (fun _ => QK.as) ?_ <;> refine DW.zz ?_)
    | ((with_reducible apply KP.fin1); (· rfl); (· rfl)))
    exact FA.ret

end Go.Proofs.Ytpmhelfdmhjnbaa
