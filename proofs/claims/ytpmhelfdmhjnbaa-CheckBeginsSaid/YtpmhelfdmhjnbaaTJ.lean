import Derived.Test.YtpmhelfdmhjnbaaTI
/- CheckBegins. -/
namespace Go.Proofs.Ytpmhelfdmhjnbaa
open Go Go.Ink Go.Plain
set_option linter.unusedVariables false
set_option linter.unusedSimpArgs false
attribute [local irreducible] KP QY EW CW DW DX QG CP Spc DK Fina wpList lessF prefixF completeF rightF laterF topF

theorem topC_few (ts : List ByteArray) (x : Qy) : (topF ts x).length ≤ ts.length := by
  have := nears_len x.text x.most ts
  have h2 : (allF ts x.text x.most).length = (nearsF x.text x.most ts).length := sortF_len _
  unfold topF
  split
  · rw [List.length_take]; omega
  · simp
theorem later_fin {id : Int} {q : Qy} {v w : Value} {ov : v.oneCell' = true} {ow : w.oneCell' = true} {l m : List Item} : laterF ⟨id, q, v, ov, l, true, false⟩ ⟨id, q, w, ow, m, false, false⟩ = false := by unfold laterF; simp
theorem later_opn {id : Int} {q : Qy} {v w : Value} {ov : v.oneCell' = true} {ow : w.oneCell' = true} {l m : List Item} {f c : Bool} (h : beginF l m = true) : laterF ⟨id, q, v, ov, l, false, false⟩ ⟨id, q, w, ow, m, f, c⟩ = true := by unfold laterF; simp [h]
/-- A list with one place that is another. -/
theorem begin_other {l : List Item} {n : Nat} {y z : Item} (h : l[n]? = some y) (hne : z ≠ y) : beginF ((l.take (n + 1)).set n z) l = false := by
  have hl := (List.getElem?_eq_some_iff.1 h).1
  unfold beginF
  rw [decide_eq_false_iff_not]
  intro e
  have h1 : ((l.take (n + 1)).set n z)[n]? = some z := List.getElem?_set_self (by rw [List.length_take]; omega)
  rw [← e, List.getElem?_take_of_lt (by rw [List.length_set, List.length_take]; omega), h] at h1
  exact hne (Option.some.inj h1).symm
theorem top_dist {ts : List ByteArray} {x : Qy} {y : Item} (hx : mayF x = true) (hy : y ∈ topF ts x) : 0 ≤ y.dist ∧ y.dist ≤ 4 := by
  unfold topF at hy
  rw [if_pos hx] at hy
  have h1 := all_mem.1 (List.mem_of_mem_take hy)
  unfold nearsF at h1
  obtain ⟨t, _, he⟩ := List.mem_filterMap.1 h1
  have hm : x.most ≤ 4 := by
    unfold mayF at hx
    simp only [Bool.and_eq_true, decide_eq_true_eq] at hx
    omega
  unfold nearF at he
  split at he
  · rename_i h
    simp only [Option.map_some, Option.some.injEq] at he
    subst he
    simp only
    omega
  · simp at he
theorem top_may {ts : List ByteArray} {x : Qy} {y : Item} (hy : y ∈ topF ts x) : mayF x = true := by
  unfold topF at hy
  split at hy
  · assumption
  · simp at hy

set_option maxHeartbeats 8000000 in
set_option maxRecDepth 4000 in
theorem checkBegins_spec {v : Value} {ts : List ByteArray} {x : Qy} {n : Int} : Spc Try.prog 9 #[v, .agg (eQ x).toArray, iv n] [rrow 1 eS v ts] [] (ret (.bool true) []) := by
  refine Spc.enter' (args := [v, .agg (eQ x).toArray, iv n]) (T0 := [(0, v), (1, .agg (eQ x).toArray), (2, iv n)]) Try.func9 rfl Try.ntmps9 (Nat.le_of_ble_eq_true rfl) rfl ?_
  intro w0 own
  refine CW.roFact (List.Mem.head _) (fun _ h => rrow.le h) fun hxs => ?_
  cases hg : greatT ts
  rotate_left
  · 
    repeat' (first
    | (with_reducible refine CW.seq ?_)
    | (with_reducible refine KP.then_code ?_)
    | (with_reducible refine CW.skip ?_)
    | (with_reducible refine CW.ret ?_)
    | (with_reducible refine KP.then_ret ?_)
    | (with_reducible refine KP.block_ret ?_)
    | (with_reducible refine CW.block ?_)
    | (with_reducible refine KP.block_normal ?_)
    | (with_reducible refine CW.exit ?_)
    | (with_reducible refine KP.then_exit ?_)
    | (with_reducible refine KP.block_hit ?_)
    | refine KP.bm ?_
    | refine CW.ct ?_
    | refine CW.cf ?_
    | (refine CW.cP ?_ ?_ <;> intro _ <;> try contradiction)
    | (refine CW.cs ?_ ?_ <;> intro _ <;> try contradiction)
    | (refine CW.region (i := 0) ?_ <;> (refine KP.e ?_; (refine EK.box_a ?_; intro b4)) <;> refine KP.q QK.as ?_ <;> refine KP.list_nil ?_)
    | (refine CW.region (i := 1) ?_ <;> refine KP.q QK.mv ?_ <;> (refine KP.e ?_; ((refine EK.call (greatE hg) ?_); repeat' first | refine CP.r ?_ | refine CP.r0 ?_ | refine CP.exP fun e11 => ?_ | refine CP.puP fun h11 => ?_)) <;> refine KP.q QK.mv ?_ <;> (first | refine KP.gn ?_ | refine KP.gu ?_ | refine KP.qy QK.fa ?_ | ((first | refine KP.gsP (t := 12) ?_ ?_ | refine KP.gs (t := 12) ?_ ?_) <;> intro _ <;> first | contradiction | refine KP.gn ?_ | refine KP.qy QK.fa ?_)) <;> (first | refine KP.gn ?_ | refine KP.gu ?_ | refine KP.qy QK.lds ?_) <;> (first | refine KP.gn ?_ | refine KP.gu ?_ | refine KP.qy QK.len ?_) <;> (first | refine KP.gn ?_ | refine KP.gu ?_ | refine KP.qy QK.gtr ?_) <;> refine KP.q QK.pk ?_ <;> refine KP.list_nil ?_)
    | (refine CW.region (i := 2) ?_ <;> (refine KP.e ?_; ((refine EK.call (awakeC) ?_); repeat' first | refine CP.r ?_ | refine CP.r0 ?_ | refine CP.exP fun e18 => ?_ | refine CP.puP fun h18 => ?_)) <;> refine KP.q QK.as ?_ <;> refine KP.list_nil ?_)
    | ((with_reducible apply KP.fin1); (· rfl); (· rfl)))
    exact FA.ret
  have hl := greatT_len hg
  have ht := greatT_size hg
  
  
  by_cases hq0 : 100 < (x.text.size : Int)
  · repeat' (first
    | (with_reducible refine CW.seq ?_)
    | (with_reducible refine KP.then_code ?_)
    | (with_reducible refine CW.skip ?_)
    | (with_reducible refine CW.ret ?_)
    | (with_reducible refine KP.then_ret ?_)
    | (with_reducible refine KP.block_ret ?_)
    | (with_reducible refine CW.block ?_)
    | (with_reducible refine KP.block_normal ?_)
    | (with_reducible refine CW.exit ?_)
    | (with_reducible refine KP.then_exit ?_)
    | (with_reducible refine KP.block_hit ?_)
    | refine KP.bm ?_
    | refine CW.ct ?_
    | refine CW.cf ?_
    | (refine CW.cP ?_ ?_ <;> intro _ <;> try contradiction)
    | (refine CW.cs ?_ ?_ <;> intro _ <;> try contradiction)
    | (refine CW.region (i := 0) ?_ <;> (refine KP.e ?_; (refine EK.box_a ?_; intro b4)) <;> refine KP.q QK.as ?_ <;> refine KP.list_nil ?_)
    | (refine CW.region (i := 1) ?_ <;> refine KP.q QK.mv ?_ <;> (refine KP.e ?_; ((refine EK.call (greatE hg) ?_); repeat' first | refine CP.r ?_ | refine CP.r0 ?_ | refine CP.exP fun e11 => ?_ | refine CP.puP fun h11 => ?_)) <;> refine KP.q QK.mv ?_ <;> (first | refine KP.gn ?_ | refine KP.gu ?_ | refine KP.qy QK.fa ?_ | ((first | refine KP.gsP (t := 12) ?_ ?_ | refine KP.gs (t := 12) ?_ ?_) <;> intro _ <;> first | contradiction | refine KP.gn ?_ | refine KP.qy QK.fa ?_)) <;> (first | refine KP.gn ?_ | refine KP.gu ?_ | refine KP.qy QK.lds ?_) <;> (first | refine KP.gn ?_ | refine KP.gu ?_ | refine KP.qy QK.len ?_) <;> (first | refine KP.gn ?_ | refine KP.gu ?_ | refine KP.qy QK.gtr ?_) <;> refine KP.q QK.pk ?_ <;> refine KP.list_nil ?_)
    | (refine CW.region (i := 2) ?_ <;> (refine KP.e ?_; ((refine EK.call (awakeC) ?_); repeat' first | refine CP.r ?_ | refine CP.r0 ?_ | refine CP.exP fun e18 => ?_ | refine CP.puP fun h18 => ?_)) <;> refine KP.q QK.as ?_ <;> refine KP.list_nil ?_)
    | ((with_reducible apply KP.fin1); (· rfl); (· rfl)))
    exact FA.ret
  have hq : x.text.size ≤ 1000000 := by omega
  have hfew := topC_few ts x
  obtain ⟨l, hl1⟩ : ∃ l, topF ts x = l := ⟨_, rfl⟩
  rw [hl1] at hfew
  
  
  
  repeat' (first
    | (with_reducible refine CW.seq ?_)
    | (with_reducible refine KP.then_code ?_)
    | (with_reducible refine CW.skip ?_)
    | (with_reducible refine CW.ret ?_)
    | (with_reducible refine KP.then_ret ?_)
    | (with_reducible refine KP.block_ret ?_)
    | (with_reducible refine CW.block ?_)
    | (with_reducible refine KP.block_normal ?_)
    | (with_reducible refine CW.exit ?_)
    | (with_reducible refine KP.then_exit ?_)
    | (with_reducible refine KP.block_hit ?_)
    | refine KP.bm ?_
    | refine CW.ct ?_
    | refine CW.cf ?_
    | (refine CW.cP ?_ ?_ <;> intro _ <;> try contradiction)
    | (refine CW.cs ?_ ?_ <;> intro _ <;> try contradiction)
    | (refine CW.region (i := 0) ?_ <;> (refine KP.e ?_; (refine EK.box_a ?_; intro b4)) <;> refine KP.q QK.as ?_ <;> refine KP.list_nil ?_)
    | (refine CW.region (i := 1) ?_ <;> refine KP.q QK.mv ?_ <;> (refine KP.e ?_; ((refine EK.call (greatE hg) ?_); repeat' first | refine CP.r ?_ | refine CP.r0 ?_ | refine CP.exP fun e11 => ?_ | refine CP.puP fun h11 => ?_)) <;> refine KP.q QK.mv ?_ <;> (first | refine KP.gn ?_ | refine KP.gu ?_ | refine KP.qy QK.fa ?_ | ((first | refine KP.gsP (t := 12) ?_ ?_ | refine KP.gs (t := 12) ?_ ?_) <;> intro _ <;> first | contradiction | refine KP.gn ?_ | refine KP.qy QK.fa ?_)) <;> (first | refine KP.gn ?_ | refine KP.gu ?_ | refine KP.qy QK.lds ?_) <;> (first | refine KP.gn ?_ | refine KP.gu ?_ | refine KP.qy QK.len ?_) <;> (first | refine KP.gn ?_ | refine KP.gu ?_ | refine KP.qy QK.gtr ?_) <;> refine KP.q QK.pk ?_ <;> refine KP.list_nil ?_)
    | (refine CW.region (i := 3) ?_ <;> refine KP.q QK.mv ?_ <;> refine KP.q QK.lda ?_ <;> (refine KP.e ?_; ((refine EK.call (topE (v := v) hq (by omega) ht hl1) ?_); repeat' first | refine CP.r ?_ | refine CP.r0 ?_ | refine CP.exP fun e21 => ?_ | refine CP.puP fun h21 => ?_)) <;> refine KP.q QK.as ?_ <;> refine KP.list_nil ?_)
    | (refine CW.region (i := 4) ?_ <;> refine KP.q QK.mv ?_ <;> refine KP.q QK.mv ?_ <;> refine KP.q QK.len ?_ <;> refine KP.q (by first | exact QY.addN rfl rfl (by omega) | exact QK.add) ?_ <;> (refine KP.e ?_; ((refine EK.call (low2_spec (n := l.length + 1) (by omega) (by omega)) ?_); repeat' first | refine CP.r ?_ | refine CP.r0 ?_ | refine CP.exP fun e26 => ?_ | refine CP.puP fun h26 => ?_)) <;> refine KP.q QK.as ?_ <;> refine KP.list_nil ?_)
    | ((with_reducible apply KP.fin1); (· rfl); (· rfl)))
  refine CW.add (B := row 39 2 eI (.slice none 0 0) []) row.none ?_
  
  
  have hone : ∀ (w : Value) (b : Bool), w.oneCell' = true → [iv 3, .string x.text, iv x.most, iv x.many, w, .bool b, .bool false].all Value.oneCell' = true := fun w b ow => by
    show (true && (true && (true && (true && (w.oneCell' && (true && (true && true))))))) = true
    rw [ow]; rfl
  refine CW.mid (X := (w : Value) ×' (_ : w.oneCell' = true) ×' Nat) (fun z => [(0, v), (4, qp b4), (2, iv (e26 : Nat)), (7, e21), (8, qp z.2.2)]) (fun z => [pt z.2.2 46 (eT ⟨3, x, z.1, z.2.1, l.take e26, false, false⟩), row 39 2 eI z.1 (l.take e26), row 39 2 eI e21 l, pt b4 24 (eQ x)]) (fun _ => True) ?_ ?_
  · 
    repeat' (first
    | (with_reducible refine CW.seq ?_)
    | (with_reducible refine KP.then_code ?_)
    | (with_reducible refine CW.skip ?_)
    | (with_reducible refine CW.ret ?_)
    | (with_reducible refine KP.then_ret ?_)
    | (with_reducible refine KP.block_ret ?_)
    | (with_reducible refine CW.block ?_)
    | (with_reducible refine KP.block_normal ?_)
    | (with_reducible refine CW.exit ?_)
    | (with_reducible refine KP.then_exit ?_)
    | (with_reducible refine KP.block_hit ?_)
    | refine KP.bm ?_
    | refine CW.ct ?_
    | refine CW.cf ?_
    | (refine CW.cP ?_ ?_ <;> intro _ <;> try contradiction)
    | (refine CW.cs ?_ ?_ <;> intro _ <;> try contradiction)
    | (((with_reducible refine CW.draw (i := 5) ?_ [[], [], [], [1, 2], [1, 2, 3], [0, 1, 2, 3, 4], [], [0, 1, 2, 3, 4, 5, 6]] ?_ ?_ ?_ ?_); (· rfl); (· kernel_rfl); (· kernel_rfl); (· repeat (first | exact NoHang.post | refine NoHang.then ?_ | refine NoHang.block ?_))) <;> refine DW.p 1 rfl (fun _ => QK.mv) ?_ <;> refine DW.p 2 rfl (fun _ => QK.mv) ?_ <;> refine DW.m 0 rfl QK.lda ?_ <;> refine DW.m 3 rfl (by first | exact QY.cut_hi (hi := e26) rfl rfl (Rd.own (by with_reducible first | exact k0 | exact k1 | exact k2 | exact k3 | exact k4 | exact k5 | exact k6 | exact k7 | exact k8 | exact k9 | fail)) RowL.row (by omega) | exact QK.sl_hi) ?_ <;> refine DW.two 4 6 ?_ ?_ <;> (first | ((refine DX.ex 4 rfl ?_; intro hdk; (first | (refine EK.app2 (enc := eI) (xs := ([] : List Item)) (ys := l.take e26) ?_ (r := RdRow.mk' (Rd.own (by with_reducible first | exact k0 | exact k1 | exact k2 | exact k3 | exact k4 | exact k5 | exact k6 | exact k7 | exact k8 | exact k9 | fail)) (rowl_take RowL.row (by omega))) (hb := by simp only [List.length_nil, List.length_take]; omega); intro w31 o31) | (refine EK.app1 _ ?_; intro w31 o31)); all_goals (refine DK.mk hdk (by refine Ob.ap rfl QK.lda ?_; exact .nil) ?_; clear hdk)) <;> refine DW.p 5 rfl (fun _ => QK.bd) ?_ <;> (refine DW.ex 6 rfl ?_; intro hdk; (refine EK.alloc ?_; intro b8); all_goals (refine DK.mk hdk (by refine Ob.ap rfl QK.lda ?_; exact .nil) ?_; clear hdk)) <;> (refine DW.ex 7 rfl ?_; intro hdk; (first | refine EK.st_a ?_ (h1 := hone w31 false o31) | refine EK.st_a ?_ | refine EK.st_ra ?_ | refine EK.st_p ?_); all_goals (refine DK.mk hdk .nil ?_; clear hdk)) <;> refine DW.zz ?_) | ((refine DX.ex 6 rfl ?_; intro hdk; (refine EK.alloc ?_; intro b8); all_goals (refine DK.mk hdk (by refine Ob.ap rfl (by first | exact QY.cut_hi (hi := e26) rfl rfl (Rd.own (by with_reducible first | exact k0 | exact k1 | exact k2 | exact k3 | exact k4 | exact k5 | exact k6 | exact k7 | exact k8 | exact k9 | fail)) RowL.row (by omega) | exact QK.sl_hi) ?_; refine Ob.ap rfl QK.lda ?_; exact .nil) ?_; clear hdk)) <;> (refine DW.ex 4 rfl ?_; intro hdk; (first | (refine EK.app2 (enc := eI) (xs := ([] : List Item)) (ys := l.take e26) ?_ (r := RdRow.mk' (Rd.own (by with_reducible first | exact k0 | exact k1 | exact k2 | exact k3 | exact k4 | exact k5 | exact k6 | exact k7 | exact k8 | exact k9 | fail)) (rowl_take RowL.row (by omega))) (hb := by simp only [List.length_nil, List.length_take]; omega); intro w31 o31) | (refine EK.app1 _ ?_; intro w31 o31)); all_goals (refine DK.mk hdk (by refine Ob.ap rfl QK.lda ?_; exact .nil) ?_; clear hdk)) <;> refine DW.p 5 rfl (fun _ => QK.bd) ?_ <;> (refine DW.ex 7 rfl ?_; intro hdk; (first | refine EK.st_a ?_ (h1 := hone w31 false o31) | refine EK.st_a ?_ | refine EK.st_ra ?_ | refine EK.st_p ?_); all_goals (refine DK.mk hdk .nil ?_; clear hdk)) <;> refine DW.zz ?_)))
    | ((with_reducible apply KP.fin1); (· rfl); (· rfl)))
    all_goals rw [List.nil_append, show [iv 3, .string x.text, iv x.most, iv x.many, w31, .bool false, .bool false] = eT ⟨3, x, w31, o31, l.take e26, false, false⟩ from rfl]
    all_goals exact KA.joint ⟨w31, o31, b8⟩ trivial
  rintro ⟨w, ow, b8⟩ -
  try dsimp only
  
  
  have hle : e26 ≤ l.length := by omega
  have hp1 : prefixF ts ⟨3, x, w, ow, l.take e26, false, false⟩ = true := by unfold prefixF; rw [hl1]; exact begin_all
  have hp2 : prefixF ts ⟨3, x, e21, h21, l, true, false⟩ = true := by unfold prefixF; rw [hl1]; exact begin_self
  have hc1 : completeF ts ⟨3, x, w, ow, l.take e26, false, false⟩ = decide (e26 = l.length) := by
    unfold completeF
    rw [hp1, hl1, List.length_take, Nat.min_eq_left hle]; rfl
  have hr2 : rightF ts ⟨3, x, e21, h21, l, true, false⟩ = true := by
    unfold rightF completeF
    rw [hp2, hl1]; simp
  have hab := later_opn (id := 3) (q := x) (ov := ow) (ow := h21) (f := true) (c := false) (begin_all (l := l) (m := e26))
  have haa := later_opn (id := 3) (q := x) (ov := ow) (ow := ow) (f := false) (c := false) (begin_self (l := l.take e26))
  have hba := later_fin (id := 3) (q := x) (ov := h21) (ow := ow) (l := l) (m := l.take e26)
  
  
  
  
  have hne : ∀ b : Bool, (b != b) = false := fun b => by cases b <;> rfl
  repeat' (first
    | (with_reducible refine CW.seq ?_)
    | (with_reducible refine KP.then_code ?_)
    | (with_reducible refine CW.skip ?_)
    | (with_reducible refine CW.ret ?_)
    | (with_reducible refine KP.then_ret ?_)
    | (with_reducible refine KP.block_ret ?_)
    | (with_reducible refine CW.block ?_)
    | (with_reducible refine KP.block_normal ?_)
    | (with_reducible refine CW.exit ?_)
    | (with_reducible refine KP.then_exit ?_)
    | (with_reducible refine KP.block_hit ?_)
    | refine KP.bm ?_
    | refine CW.ct ?_
    | refine CW.cf ?_
    | (refine CW.cP ?_ ?_ <;> intro _ <;> try contradiction)
    | (refine CW.cs ?_ ?_ <;> intro _ <;> try contradiction)
    | (refine CW.region (i := 6) ?_ <;> refine KP.q QK.lda ?_ <;> refine KP.q QK.mv ?_ <;> refine KP.q QK.bd ?_ <;> (refine KP.e ?_; (refine EK.alloc ?_; intro b9)) <;> (refine KP.e ?_; (first | refine EK.st_a ?_ (h1 := hone e21 true h21) | refine EK.st_a ?_ | refine EK.st_ra ?_ | refine EK.st_p ?_)) <;> refine KP.list_nil ?_)
    | ((with_reducible apply KP.fin1); (· rfl); (· rfl)))
  refine CW.mid (X := Unit) (fun _ => [(0, v), (4, qp b4), (2, iv (e26 : Nat)), (7, e21), (8, qp b8), (9, qp b9), (72, .bool false)]) (fun _ => [pt b9 46 (eT ⟨3, x, e21, h21, l, true, false⟩), pt b8 46 (eT ⟨3, x, w, ow, l.take e26, false, false⟩), row 39 2 eI w (l.take e26), row 39 2 eI e21 l, pt b4 24 (eQ x)]) (fun _ => True) ?_ ?_
  · rw [show [iv 3, .string x.text, iv x.most, iv x.many, e21, .bool true, .bool false] = eT ⟨3, x, e21, h21, l, true, false⟩ from rfl]
    rcases Nat.lt_or_ge e26 l.length with hlt | hge
    · rw [decide_eq_false (by omega)] at hc1
      repeat' (first
    | (with_reducible refine CW.seq ?_)
    | (with_reducible refine KP.then_code ?_)
    | (with_reducible refine CW.skip ?_)
    | (with_reducible refine CW.ret ?_)
    | (with_reducible refine KP.then_ret ?_)
    | (with_reducible refine KP.block_ret ?_)
    | (with_reducible refine CW.block ?_)
    | (with_reducible refine KP.block_normal ?_)
    | (with_reducible refine CW.exit ?_)
    | (with_reducible refine KP.then_exit ?_)
    | (with_reducible refine KP.block_hit ?_)
    | refine KP.bm ?_
    | refine CW.ct ?_
    | refine CW.cf ?_
    | (refine CW.cP ?_ ?_ <;> intro _ <;> try contradiction)
    | (refine CW.cs ?_ ?_ <;> intro _ <;> try contradiction)
    | (refine CW.region (i := 7) ?_ <;> refine KP.q QK.mv ?_ <;> refine KP.q QK.lda ?_ <;> (refine KP.e ?_; ((refine EK.call (prefixE (t := ⟨3, x, w, ow, l.take e26, false, false⟩) hq (by omega) ht hp1) ?_); repeat' first | refine CP.r ?_ | refine CP.r0 ?_ | refine CP.exP fun e38 => ?_ | refine CP.puP fun h38 => ?_)) <;> refine KP.q QK.not ?_ <;> refine KP.q QK.mv ?_ <;> (first | refine KP.gn ?_ | refine KP.gu ?_ | refine KP.qy QK.mv ?_ | ((first | refine KP.gsP (t := 40) ?_ ?_ | refine KP.gs (t := 40) ?_ ?_) <;> intro _ <;> first | contradiction | refine KP.gn ?_ | refine KP.qy QK.mv ?_)) <;> (first | refine KP.gn ?_ | refine KP.gu ?_ | refine KP.qy QK.lda ?_) <;> (first | refine KP.gn ?_ | refine KP.gu ?_ | (refine KP.gy ?_; refine KP.e ?_; ((refine EK.call (completeE (t := ⟨3, x, w, ow, l.take e26, false, false⟩) hq (by omega) ht hc1) ?_); repeat' first | refine CP.r ?_ | refine CP.r0 ?_ | refine CP.exP fun e43 => ?_ | refine CP.puP fun h43 => ?_))) <;> (first | refine KP.gn ?_ | refine KP.gu ?_ | refine KP.qy QK.mv ?_) <;> (first | refine KP.gn ?_ | refine KP.gu ?_ | refine KP.qy QK.mv ?_) <;> (first | refine KP.gn ?_ | refine KP.gu ?_ | refine KP.qy QK.len ?_) <;> (first | refine KP.gn ?_ | refine KP.gu ?_ | refine KP.qy QK.eqi ?_) <;> (first | refine KP.gn ?_ | refine KP.gu ?_ | refine KP.qy QK.neb ?_) <;> refine KP.q QK.pk ?_ <;> refine KP.q QK.mv ?_ <;> (first | refine KP.gn ?_ | refine KP.gu ?_ | refine KP.qy QK.mv ?_ | ((first | refine KP.gsP (t := 50) ?_ ?_ | refine KP.gs (t := 50) ?_ ?_) <;> intro _ <;> first | contradiction | refine KP.gn ?_ | refine KP.qy QK.mv ?_)) <;> (first | refine KP.gn ?_ | refine KP.gu ?_ | refine KP.qy QK.lda ?_) <;> (first | refine KP.gn ?_ | refine KP.gu ?_ | (refine KP.gy ?_; refine KP.e ?_; ((refine EK.call (rightE (t := ⟨3, x, e21, h21, l, true, false⟩) hq (by omega) ht hr2) ?_); repeat' first | refine CP.r ?_ | refine CP.r0 ?_ | refine CP.exP fun e53 => ?_ | refine CP.puP fun h53 => ?_))) <;> (first | refine KP.gn ?_ | refine KP.gu ?_ | refine KP.qy QK.not ?_) <;> refine KP.q QK.pk ?_ <;> refine KP.q QK.mv ?_ <;> (first | refine KP.gn ?_ | refine KP.gu ?_ | refine KP.qy QK.lda ?_ | ((first | refine KP.gsP (t := 56) ?_ ?_ | refine KP.gs (t := 56) ?_ ?_) <;> intro _ <;> first | contradiction | refine KP.gn ?_ | refine KP.qy QK.lda ?_)) <;> (first | refine KP.gn ?_ | refine KP.gu ?_ | refine KP.qy QK.lda ?_) <;> (first | refine KP.gn ?_ | refine KP.gu ?_ | (refine KP.gy ?_; refine KP.e ?_; ((first | refine EK.call (laterE hab) ?_ | refine EK.call (laterE haa) ?_ | refine EK.call (laterE hba) ?_); repeat' first | refine CP.r ?_ | refine CP.r0 ?_ | refine CP.exP fun e59 => ?_ | refine CP.puP fun h59 => ?_))) <;> (first | refine KP.gn ?_ | refine KP.gu ?_ | refine KP.qy QK.not ?_) <;> refine KP.q QK.pk ?_ <;> refine KP.q QK.mv ?_ <;> (first | refine KP.gn ?_ | refine KP.gu ?_ | refine KP.qy QK.lda ?_ | ((first | refine KP.gsP (t := 62) ?_ ?_ | refine KP.gs (t := 62) ?_ ?_) <;> intro _ <;> first | contradiction | refine KP.gn ?_ | refine KP.qy QK.lda ?_)) <;> (first | refine KP.gn ?_ | refine KP.gu ?_ | refine KP.qy QK.lda ?_) <;> (first | refine KP.gn ?_ | refine KP.gu ?_ | (refine KP.gy ?_; refine KP.e ?_; ((first | refine EK.call (laterE hab) ?_ | refine EK.call (laterE haa) ?_ | refine EK.call (laterE hba) ?_); repeat' first | refine CP.r ?_ | refine CP.r0 ?_ | refine CP.exP fun e65 => ?_ | refine CP.puP fun h65 => ?_))) <;> (first | refine KP.gn ?_ | refine KP.gu ?_ | refine KP.qy QK.not ?_) <;> refine KP.q QK.pk ?_ <;> refine KP.q QK.mv ?_ <;> (first | refine KP.gn ?_ | refine KP.gu ?_ | refine KP.qy QK.lda ?_ | ((first | refine KP.gsP (t := 68) ?_ ?_ | refine KP.gs (t := 68) ?_ ?_) <;> intro _ <;> first | contradiction | refine KP.gn ?_ | refine KP.qy QK.lda ?_)) <;> (first | refine KP.gn ?_ | refine KP.gu ?_ | refine KP.qy QK.lda ?_) <;> (first | refine KP.gn ?_ | refine KP.gu ?_ | (refine KP.gy ?_; refine KP.e ?_; ((first | refine EK.call (laterE hab) ?_ | refine EK.call (laterE haa) ?_ | refine EK.call (laterE hba) ?_); repeat' first | refine CP.r ?_ | refine CP.r0 ?_ | refine CP.exP fun e71 => ?_ | refine CP.puP fun h71 => ?_))) <;> refine KP.q QK.pk ?_ <;> refine KP.list_nil ?_)
    | ((with_reducible apply KP.fin1); (· rfl); (· rfl)))
      exact KA.joint () trivial
    · rw [decide_eq_true (by omega)] at hc1
      repeat' (first
    | (with_reducible refine CW.seq ?_)
    | (with_reducible refine KP.then_code ?_)
    | (with_reducible refine CW.skip ?_)
    | (with_reducible refine CW.ret ?_)
    | (with_reducible refine KP.then_ret ?_)
    | (with_reducible refine KP.block_ret ?_)
    | (with_reducible refine CW.block ?_)
    | (with_reducible refine KP.block_normal ?_)
    | (with_reducible refine CW.exit ?_)
    | (with_reducible refine KP.then_exit ?_)
    | (with_reducible refine KP.block_hit ?_)
    | refine KP.bm ?_
    | refine CW.ct ?_
    | refine CW.cf ?_
    | (refine CW.cP ?_ ?_ <;> intro _ <;> try contradiction)
    | (refine CW.cs ?_ ?_ <;> intro _ <;> try contradiction)
    | (refine CW.region (i := 7) ?_ <;> refine KP.q QK.mv ?_ <;> refine KP.q QK.lda ?_ <;> (refine KP.e ?_; ((refine EK.call (prefixE (t := ⟨3, x, w, ow, l.take e26, false, false⟩) hq (by omega) ht hp1) ?_); repeat' first | refine CP.r ?_ | refine CP.r0 ?_ | refine CP.exP fun e38 => ?_ | refine CP.puP fun h38 => ?_)) <;> refine KP.q QK.not ?_ <;> refine KP.q QK.mv ?_ <;> (first | refine KP.gn ?_ | refine KP.gu ?_ | refine KP.qy QK.mv ?_ | ((first | refine KP.gsP (t := 40) ?_ ?_ | refine KP.gs (t := 40) ?_ ?_) <;> intro _ <;> first | contradiction | refine KP.gn ?_ | refine KP.qy QK.mv ?_)) <;> (first | refine KP.gn ?_ | refine KP.gu ?_ | refine KP.qy QK.lda ?_) <;> (first | refine KP.gn ?_ | refine KP.gu ?_ | (refine KP.gy ?_; refine KP.e ?_; ((refine EK.call (completeE (t := ⟨3, x, w, ow, l.take e26, false, false⟩) hq (by omega) ht hc1) ?_); repeat' first | refine CP.r ?_ | refine CP.r0 ?_ | refine CP.exP fun e43 => ?_ | refine CP.puP fun h43 => ?_))) <;> (first | refine KP.gn ?_ | refine KP.gu ?_ | refine KP.qy QK.mv ?_) <;> (first | refine KP.gn ?_ | refine KP.gu ?_ | refine KP.qy QK.mv ?_) <;> (first | refine KP.gn ?_ | refine KP.gu ?_ | refine KP.qy QK.len ?_) <;> (first | refine KP.gn ?_ | refine KP.gu ?_ | refine KP.qy QK.eqi ?_) <;> (first | refine KP.gn ?_ | refine KP.gu ?_ | refine KP.qy QK.neb ?_) <;> refine KP.q QK.pk ?_ <;> refine KP.q QK.mv ?_ <;> (first | refine KP.gn ?_ | refine KP.gu ?_ | refine KP.qy QK.mv ?_ | ((first | refine KP.gsP (t := 50) ?_ ?_ | refine KP.gs (t := 50) ?_ ?_) <;> intro _ <;> first | contradiction | refine KP.gn ?_ | refine KP.qy QK.mv ?_)) <;> (first | refine KP.gn ?_ | refine KP.gu ?_ | refine KP.qy QK.lda ?_) <;> (first | refine KP.gn ?_ | refine KP.gu ?_ | (refine KP.gy ?_; refine KP.e ?_; ((refine EK.call (rightE (t := ⟨3, x, e21, h21, l, true, false⟩) hq (by omega) ht hr2) ?_); repeat' first | refine CP.r ?_ | refine CP.r0 ?_ | refine CP.exP fun e53 => ?_ | refine CP.puP fun h53 => ?_))) <;> (first | refine KP.gn ?_ | refine KP.gu ?_ | refine KP.qy QK.not ?_) <;> refine KP.q QK.pk ?_ <;> refine KP.q QK.mv ?_ <;> (first | refine KP.gn ?_ | refine KP.gu ?_ | refine KP.qy QK.lda ?_ | ((first | refine KP.gsP (t := 56) ?_ ?_ | refine KP.gs (t := 56) ?_ ?_) <;> intro _ <;> first | contradiction | refine KP.gn ?_ | refine KP.qy QK.lda ?_)) <;> (first | refine KP.gn ?_ | refine KP.gu ?_ | refine KP.qy QK.lda ?_) <;> (first | refine KP.gn ?_ | refine KP.gu ?_ | (refine KP.gy ?_; refine KP.e ?_; ((first | refine EK.call (laterE hab) ?_ | refine EK.call (laterE haa) ?_ | refine EK.call (laterE hba) ?_); repeat' first | refine CP.r ?_ | refine CP.r0 ?_ | refine CP.exP fun e59 => ?_ | refine CP.puP fun h59 => ?_))) <;> (first | refine KP.gn ?_ | refine KP.gu ?_ | refine KP.qy QK.not ?_) <;> refine KP.q QK.pk ?_ <;> refine KP.q QK.mv ?_ <;> (first | refine KP.gn ?_ | refine KP.gu ?_ | refine KP.qy QK.lda ?_ | ((first | refine KP.gsP (t := 62) ?_ ?_ | refine KP.gs (t := 62) ?_ ?_) <;> intro _ <;> first | contradiction | refine KP.gn ?_ | refine KP.qy QK.lda ?_)) <;> (first | refine KP.gn ?_ | refine KP.gu ?_ | refine KP.qy QK.lda ?_) <;> (first | refine KP.gn ?_ | refine KP.gu ?_ | (refine KP.gy ?_; refine KP.e ?_; ((first | refine EK.call (laterE hab) ?_ | refine EK.call (laterE haa) ?_ | refine EK.call (laterE hba) ?_); repeat' first | refine CP.r ?_ | refine CP.r0 ?_ | refine CP.exP fun e65 => ?_ | refine CP.puP fun h65 => ?_))) <;> (first | refine KP.gn ?_ | refine KP.gu ?_ | refine KP.qy QK.not ?_) <;> refine KP.q QK.pk ?_ <;> refine KP.q QK.mv ?_ <;> (first | refine KP.gn ?_ | refine KP.gu ?_ | refine KP.qy QK.lda ?_ | ((first | refine KP.gsP (t := 68) ?_ ?_ | refine KP.gs (t := 68) ?_ ?_) <;> intro _ <;> first | contradiction | refine KP.gn ?_ | refine KP.qy QK.lda ?_)) <;> (first | refine KP.gn ?_ | refine KP.gu ?_ | refine KP.qy QK.lda ?_) <;> (first | refine KP.gn ?_ | refine KP.gu ?_ | (refine KP.gy ?_; refine KP.e ?_; ((first | refine EK.call (laterE hab) ?_ | refine EK.call (laterE haa) ?_ | refine EK.call (laterE hba) ?_); repeat' first | refine CP.r ?_ | refine CP.r0 ?_ | refine CP.exP fun e71 => ?_ | refine CP.puP fun h71 => ?_))) <;> refine KP.q QK.pk ?_ <;> refine KP.list_nil ?_)
    | ((with_reducible apply KP.fin1); (· rfl); (· rfl)))
      exact KA.joint () trivial
  rintro - -
  clear hp1 hc1 hab haa hba
  obtain _ | k := e26
  · repeat' (first
    | (with_reducible refine CW.seq ?_)
    | (with_reducible refine KP.then_code ?_)
    | (with_reducible refine CW.skip ?_)
    | (with_reducible refine CW.ret ?_)
    | (with_reducible refine KP.then_ret ?_)
    | (with_reducible refine KP.block_ret ?_)
    | (with_reducible refine CW.block ?_)
    | (with_reducible refine KP.block_normal ?_)
    | (with_reducible refine CW.exit ?_)
    | (with_reducible refine KP.then_exit ?_)
    | (with_reducible refine KP.block_hit ?_)
    | refine KP.bm ?_
    | refine CW.ct ?_
    | refine CW.cf ?_
    | (refine CW.cP ?_ ?_ <;> intro _ <;> try contradiction)
    | (refine CW.cs ?_ ?_ <;> intro _ <;> try contradiction)
    | (refine CW.region (i := 8) ?_ <;> refine KP.q QK.as ?_ <;> refine KP.list_nil ?_)
    | (refine CW.region (i := 9) ?_ <;> refine KP.q QK.mv ?_ <;> refine KP.q QK.eqi ?_ <;> refine KP.list_nil ?_)
    | (refine CW.region (i := 10) ?_ <;> (refine KP.e ?_; ((refine EK.call (awakeC) ?_); repeat' first | refine CP.r ?_ | refine CP.r0 ?_ | refine CP.exP fun e75 => ?_ | refine CP.puP fun h75 => ?_)) <;> refine KP.q QK.as ?_ <;> refine KP.list_nil ?_)
    | ((with_reducible apply KP.fin1); (· rfl); (· rfl)))
    exact FA.ret
  have hk : k < l.length := by omega
  obtain ⟨y, hy⟩ := at_lt hk
  have hd := top_dist (ts := ts) (x := x) (top_may (by rw [hl1]; exact List.mem_of_getElem? hy)) (by rw [hl1]; exact List.mem_of_getElem? hy)
  have hy2 : (l.take (k + 1))[k]? = some y := by rw [List.getElem?_take_of_lt (by omega)]; exact hy
  have hkl : k < (l.take (k + 1)).length := by rw [List.length_take]; omega
  obtain ⟨z, hz⟩ : ∃ z : Item, z = ⟨y.dist + 1, y.word⟩ := ⟨_, rfl⟩
  have hzy : z ≠ y := fun e => by
    have := congrArg Item.dist (hz.symm.trans e)
    simp only at this
    omega
  have hbo := begin_other hy hzy
  have hsub : Value.int .i64 (((k + 1 : Nat) : Int) - 1) = iv k := by simp
  have hset : (eI y).set 0 (.int .i64 (y.dist + 1)) = eI z := by rw [hz]; rfl
  
  
  
  
  
  
  repeat' (first
    | (with_reducible refine CW.seq ?_)
    | (with_reducible refine KP.then_code ?_)
    | (with_reducible refine CW.skip ?_)
    | (with_reducible refine CW.ret ?_)
    | (with_reducible refine KP.then_ret ?_)
    | (with_reducible refine KP.block_ret ?_)
    | (with_reducible refine CW.block ?_)
    | (with_reducible refine KP.block_normal ?_)
    | (with_reducible refine CW.exit ?_)
    | (with_reducible refine KP.then_exit ?_)
    | (with_reducible refine KP.block_hit ?_)
    | refine KP.bm ?_
    | refine CW.ct ?_
    | refine CW.cf ?_
    | (refine CW.cP ?_ ?_ <;> intro _ <;> try contradiction)
    | (refine CW.cs ?_ ?_ <;> intro _ <;> try contradiction)
    | (refine CW.region (i := 8) ?_ <;> refine KP.q QK.as ?_ <;> refine KP.list_nil ?_)
    | (refine CW.region (i := 9) ?_ <;> refine KP.q QK.mv ?_ <;> refine KP.q QK.eqi ?_ <;> refine KP.list_nil ?_)
    | (refine CW.region (i := 11) ?_ <;> refine KP.q QK.fa ?_ <;> refine KP.q (by first | exact QY.load_s rfl (Rd.own (by with_reducible first | exact k0 | exact k1 | exact k2 | exact k3 | exact k4 | exact k5 | exact k6 | exact k7 | exact k8 | exact k9 | fail)) (Reads.row0 RowL.row hy2 rfl) | exact QK.lds) ?_ <;> refine KP.q QK.mv ?_ <;> refine KP.q (by first | exact QY.same (QY.sub64 rfl rfl (by omega)) hsub | exact QK.sub) ?_ <;> refine KP.q (by first | exact QY.index rfl rfl (Rd.own (by with_reducible first | exact k0 | exact k1 | exact k2 | exact k3 | exact k4 | exact k5 | exact k6 | exact k7 | exact k8 | exact k9 | fail)) RowL.row hkl | exact QK.ia) ?_ <;> refine KP.q QK.fa ?_ <;> refine KP.q (by first | exact QY.load_s rfl (Rd.own (by with_reducible first | exact k0 | exact k1 | exact k2 | exact k3 | exact k4 | exact k5 | exact k6 | exact k7 | exact k8 | exact k9 | fail)) (Reads.row0 RowL.row hy2 rfl) | exact QK.lds) ?_ <;> refine KP.q (by first | exact QY.add64 rfl rfl (by omega) | exact QK.add) ?_ <;> refine KP.q (by first | exact QY.index rfl rfl (Rd.own (by with_reducible first | exact k0 | exact k1 | exact k2 | exact k3 | exact k4 | exact k5 | exact k6 | exact k7 | exact k8 | exact k9 | fail)) RowL.row hkl | exact QK.ia) ?_ <;> refine KP.q QK.fa ?_ <;> (refine KP.e ?_; (first | refine EK.st_rf0 (enc := eI) (x' := y) (y' := z) ?_ (hi := hy2) (hu := hset) | refine EK.st_s ?_ | refine EK.st_rf ?_ | refine EK.st_rf0 ?_)) <;> refine KP.list_nil ?_)
    | ((with_reducible apply KP.fin1); (· rfl); (· rfl)))
  have hp3 : prefixF ts ⟨3, x, w, ow, (l.take (k + 1)).set k z, false, false⟩ = false := by unfold prefixF; rw [hl1]; exact hbo
  have hr3 : rightF ts ⟨3, x, w, ow, (l.take (k + 1)).set k z, false, false⟩ = false := by unfold rightF; rw [hp3]; rfl
  have hl3 : laterF ⟨3, x, w, ow, (l.take (k + 1)).set k z, false, false⟩ ⟨3, x, e21, h21, l, true, false⟩ = false := by
    unfold laterF
    rw [hbo]; simp
  
  
  
  
  repeat' (first
    | (with_reducible refine CW.seq ?_)
    | (with_reducible refine KP.then_code ?_)
    | (with_reducible refine CW.skip ?_)
    | (with_reducible refine CW.ret ?_)
    | (with_reducible refine KP.then_ret ?_)
    | (with_reducible refine KP.block_ret ?_)
    | (with_reducible refine CW.block ?_)
    | (with_reducible refine KP.block_normal ?_)
    | (with_reducible refine CW.exit ?_)
    | (with_reducible refine KP.then_exit ?_)
    | (with_reducible refine KP.block_hit ?_)
    | refine KP.bm ?_
    | refine CW.ct ?_
    | refine CW.cf ?_
    | (refine CW.cP ?_ ?_ <;> intro _ <;> try contradiction)
    | (refine CW.cs ?_ ?_ <;> intro _ <;> try contradiction)
    | (refine CW.region (i := 12) ?_ <;> refine KP.q QK.mv ?_ <;> refine KP.q QK.lda ?_ <;> (refine KP.e ?_; ((refine EK.call (prefixE (t := ⟨3, x, w, ow, (l.take (k + 1)).set k z, false, false⟩) hq (by omega) ht hp3) ?_); repeat' first | refine CP.r ?_ | refine CP.r0 ?_ | refine CP.exP fun e88 => ?_ | refine CP.puP fun h88 => ?_)) <;> refine KP.q QK.not ?_ <;> refine KP.q QK.mv ?_ <;> (first | refine KP.gn ?_ | refine KP.gu ?_ | refine KP.qy QK.mv ?_ | ((first | refine KP.gsP (t := 90) ?_ ?_ | refine KP.gs (t := 90) ?_ ?_) <;> intro _ <;> first | contradiction | refine KP.gn ?_ | refine KP.qy QK.mv ?_)) <;> (first | refine KP.gn ?_ | refine KP.gu ?_ | refine KP.qy QK.lda ?_) <;> (first | refine KP.gn ?_ | refine KP.gu ?_ | (refine KP.gy ?_; refine KP.e ?_; ((refine EK.call (rightE (t := ⟨3, x, w, ow, (l.take (k + 1)).set k z, false, false⟩) hq (by omega) ht hr3) ?_); repeat' first | refine CP.r ?_ | refine CP.r0 ?_ | refine CP.exP fun e93 => ?_ | refine CP.puP fun h93 => ?_))) <;> (first | refine KP.gn ?_ | refine KP.gu ?_ | refine KP.qy QK.not ?_) <;> refine KP.q QK.pk ?_ <;> refine KP.q QK.mv ?_ <;> (first | refine KP.gn ?_ | refine KP.gu ?_ | refine KP.qy QK.lda ?_ | ((first | refine KP.gsP (t := 96) ?_ ?_ | refine KP.gs (t := 96) ?_ ?_) <;> intro _ <;> first | contradiction | refine KP.gn ?_ | refine KP.qy QK.lda ?_)) <;> (first | refine KP.gn ?_ | refine KP.gu ?_ | refine KP.qy QK.lda ?_) <;> (first | refine KP.gn ?_ | refine KP.gu ?_ | (refine KP.gy ?_; refine KP.e ?_; ((refine EK.call (laterE hl3) ?_); repeat' first | refine CP.r ?_ | refine CP.r0 ?_ | refine CP.exP fun e99 => ?_ | refine CP.puP fun h99 => ?_))) <;> (first | refine KP.gn ?_ | refine KP.gu ?_ | refine KP.qy QK.not ?_) <;> refine KP.q QK.pk ?_ <;> refine KP.q QK.mv ?_ <;> (first | refine KP.gn ?_ | refine KP.gu ?_ | (refine KP.gy ?_; refine KP.e ?_; ((refine EK.call (awakeC) ?_); repeat' first | refine CP.r ?_ | refine CP.r0 ?_ | refine CP.exP fun e103 => ?_ | refine CP.puP fun h103 => ?_)) | ((first | refine KP.gsP (t := 102) ?_ ?_ | refine KP.gs (t := 102) ?_ ?_) <;> intro _ <;> first | contradiction | refine KP.gn ?_ | (refine KP.gy ?_; refine KP.e ?_; ((refine EK.call (awakeC) ?_); repeat' first | refine CP.r ?_ | refine CP.r0 ?_ | refine CP.exP fun e103 => ?_ | refine CP.puP fun h103 => ?_)))) <;> refine KP.q QK.pk ?_ <;> refine KP.q QK.as ?_ <;> refine KP.list_nil ?_)
    | ((with_reducible apply KP.fin1); (· rfl); (· rfl)))
  exact FA.ret

end Go.Proofs.Ytpmhelfdmhjnbaa
