import Derived.Test.YtpmhelfdmhjnbaaTE
/- RankFirst: the walk. -/
namespace Go.Proofs.Ytpmhelfdmhjnbaa
open Go Go.Ink Go.Plain
set_option linter.unusedVariables false
set_option linter.unusedSimpArgs false
attribute [local irreducible] KP QY EW CW DW QG CP Spc DK Fina wpList lessF

theorem editE {q t : ByteArray} {d : Int} (hq : q.size ≤ 1000000) (ht : t.size ≤ 1000000) (h : editF q t = d) : Spc Try.prog 53 #[.string q, .string t] [] [] (ret (iv d) []) := h ▸ edit_spec hq ht
theorem told_step {l : List Item} {k : Nat} {y z : Item} (h : l[k]? = some y) : decide (z ∈ l.take (k + 1)) = (decide (z ∈ l.take k) || decide (y = z)) := by
  have e : l.take (k + 1) = l.take k ++ [y] := by rw [List.take_add_one, h]; rfl
  rw [e, Bool.eq_iff_iff]
  simp only [Bool.or_eq_true, decide_eq_true_eq, List.mem_append, List.mem_singleton]
  exact ⟨fun h => h.imp id Eq.symm, fun h => h.imp id Eq.symm⟩

set_option maxHeartbeats 8000000 in
set_option maxRecDepth 4000 in
theorem rankFirst_spec {v : Value} {ts : List ByteArray} {x : Qy} : Spc Try.prog 12 #[v, .agg (eQ x).toArray] [rrow 1 eS v ts] [] (ret (.bool true) []) := by
  refine Spc.enter' (args := [v, .agg (eQ x).toArray]) (T0 := [(0, v), (1, .agg (eQ x).toArray)]) Try.func12 rfl Try.ntmps12 (Nat.le_of_ble_eq_true rfl) rfl ?_
  intro w0 own
  refine CW.roFact (List.Mem.head _) (fun _ h => rrow.le h) fun hxs => ?_
  cases hg : greatT ts
  rotate_left
  · 
    repeat' (first
    | (with_reducible refine CW.seq ?_)
    | (with_reducible refine KP.then_code ?_)
    | (with_reducible refine CW.skip ?_)
    | (with_reducible refine CW.ret ?_)
    | (with_reducible refine KP.then_ret ?_)
    | (with_reducible refine KP.block_ret ?_)
    | (with_reducible refine CW.block ?_)
    | (with_reducible refine KP.block_normal ?_)
    | (with_reducible refine CW.exit ?_)
    | (with_reducible refine KP.then_exit ?_)
    | (with_reducible refine KP.block_hit ?_)
    | refine KP.bm ?_
    | refine CW.ct ?_
    | refine CW.cf ?_
    | (refine CW.cP ?_ ?_ <;> intro _ <;> try contradiction)
    | (refine CW.cs ?_ ?_ <;> intro _ <;> try contradiction)
    | (refine CW.region (i := 0) ?_ <;> (refine KP.e ?_; (refine EK.box_a ?_; intro b3)) <;> refine KP.q QK.as ?_ <;> refine KP.list_nil ?_)
    | (refine CW.region (i := 1) ?_ <;> refine KP.q QK.mv ?_ <;> (refine KP.e ?_; ((refine EK.call (greatE hg) ?_); repeat' first | refine CP.r ?_ | refine CP.r0 ?_ | refine CP.exP fun e16 => ?_ | refine CP.puP fun h16 => ?_)) <;> refine KP.q QK.mv ?_ <;> (first | refine KP.gn ?_ | refine KP.gu ?_ | refine KP.qy QK.mv ?_ | ((first | refine KP.gsP (t := 17) ?_ ?_ | refine KP.gs (t := 17) ?_ ?_) <;> intro _ <;> first | contradiction | refine KP.gn ?_ | refine KP.qy QK.mv ?_)) <;> (first | refine KP.gn ?_ | refine KP.gu ?_ | refine KP.qy QK.len ?_) <;> (first | refine KP.gn ?_ | refine KP.gu ?_ | refine KP.qy QK.gtr ?_) <;> refine KP.q QK.pk ?_ <;> refine KP.q QK.mv ?_ <;> (first | refine KP.gn ?_ | refine KP.gu ?_ | refine KP.qy QK.fa ?_ | ((first | refine KP.gsP (t := 22) ?_ ?_ | refine KP.gs (t := 22) ?_ ?_) <;> intro _ <;> first | contradiction | refine KP.gn ?_ | refine KP.qy QK.fa ?_)) <;> (first | refine KP.gn ?_ | refine KP.gu ?_ | refine KP.qy QK.lds ?_) <;> (first | refine KP.gn ?_ | refine KP.gu ?_ | refine KP.qy QK.len ?_) <;> (first | refine KP.gn ?_ | refine KP.gu ?_ | refine KP.qy QK.gtr ?_) <;> refine KP.q QK.pk ?_ <;> refine KP.q QK.mv ?_ <;> (first | refine KP.gn ?_ | refine KP.gu ?_ | refine KP.qy QK.mv ?_ | ((first | refine KP.gsP (t := 28) ?_ ?_ | refine KP.gs (t := 28) ?_ ?_) <;> intro _ <;> first | contradiction | refine KP.gn ?_ | refine KP.qy QK.mv ?_)) <;> (first | refine KP.gn ?_ | refine KP.gu ?_ | (refine KP.gy ?_; refine KP.e ?_; ((fail "no rule f50"); repeat' first | refine CP.r ?_ | refine CP.r0 ?_ | refine CP.exP fun e30 => ?_ | refine CP.puP fun h30 => ?_))) <;> (first | refine KP.gn ?_ | refine KP.gu ?_ | refine KP.qy QK.nei ?_) <;> refine KP.q QK.pk ?_ <;> refine KP.list_nil ?_)
    | (refine CW.region (i := 2) ?_ <;> (refine KP.e ?_; ((refine EK.call (awakeR) ?_); repeat' first | refine CP.r ?_ | refine CP.r0 ?_ | refine CP.exP fun e33 => ?_ | refine CP.puP fun h33 => ?_)) <;> refine KP.q QK.as ?_ <;> refine KP.list_nil ?_)
    | ((with_reducible apply KP.fin1); (· rfl); (· rfl)))
    exact FA.ret
  have hl := greatT_len hg
  have ht := greatT_size hg
  
  by_cases h40 : 40 < (ts.length : Int)
  · repeat' (first
    | (with_reducible refine CW.seq ?_)
    | (with_reducible refine KP.then_code ?_)
    | (with_reducible refine CW.skip ?_)
    | (with_reducible refine CW.ret ?_)
    | (with_reducible refine KP.then_ret ?_)
    | (with_reducible refine KP.block_ret ?_)
    | (with_reducible refine CW.block ?_)
    | (with_reducible refine KP.block_normal ?_)
    | (with_reducible refine CW.exit ?_)
    | (with_reducible refine KP.then_exit ?_)
    | (with_reducible refine KP.block_hit ?_)
    | refine KP.bm ?_
    | refine CW.ct ?_
    | refine CW.cf ?_
    | (refine CW.cP ?_ ?_ <;> intro _ <;> try contradiction)
    | (refine CW.cs ?_ ?_ <;> intro _ <;> try contradiction)
    | (refine CW.region (i := 0) ?_ <;> (refine KP.e ?_; (refine EK.box_a ?_; intro b3)) <;> refine KP.q QK.as ?_ <;> refine KP.list_nil ?_)
    | (refine CW.region (i := 1) ?_ <;> refine KP.q QK.mv ?_ <;> (refine KP.e ?_; ((first | refine EK.call (greatE hg) ?_ | refine EK.call (greatE hg) ?_); repeat' first | refine CP.r ?_ | refine CP.r0 ?_ | refine CP.exP fun e16 => ?_ | refine CP.puP fun h16 => ?_)) <;> refine KP.q QK.mv ?_ <;> (first | refine KP.gn ?_ | refine KP.gu ?_ | refine KP.qy QK.mv ?_ | ((first | refine KP.gsP (t := 17) ?_ ?_ | refine KP.gs (t := 17) ?_ ?_) <;> intro _ <;> first | contradiction | refine KP.gn ?_ | refine KP.qy QK.mv ?_)) <;> (first | refine KP.gn ?_ | refine KP.gu ?_ | refine KP.qy QK.len ?_) <;> (first | refine KP.gn ?_ | refine KP.gu ?_ | refine KP.qy QK.gtr ?_) <;> refine KP.q QK.pk ?_ <;> refine KP.q QK.mv ?_ <;> (first | refine KP.gn ?_ | refine KP.gu ?_ | refine KP.qy QK.fa ?_ | ((first | refine KP.gsP (t := 22) ?_ ?_ | refine KP.gs (t := 22) ?_ ?_) <;> intro _ <;> first | contradiction | refine KP.gn ?_ | refine KP.qy QK.fa ?_)) <;> (first | refine KP.gn ?_ | refine KP.gu ?_ | refine KP.qy QK.lds ?_) <;> (first | refine KP.gn ?_ | refine KP.gu ?_ | refine KP.qy QK.len ?_) <;> (first | refine KP.gn ?_ | refine KP.gu ?_ | refine KP.qy QK.gtr ?_) <;> refine KP.q QK.pk ?_ <;> refine KP.q QK.mv ?_ <;> (first | refine KP.gn ?_ | refine KP.gu ?_ | refine KP.qy QK.mv ?_ | ((first | refine KP.gsP (t := 28) ?_ ?_ | refine KP.gs (t := 28) ?_ ?_) <;> intro _ <;> first | contradiction | refine KP.gn ?_ | refine KP.qy QK.mv ?_)) <;> (first | refine KP.gn ?_ | refine KP.gu ?_ | (refine KP.gy ?_; refine KP.e ?_; ((fail "no rule f50"); repeat' first | refine CP.r ?_ | refine CP.r0 ?_ | refine CP.exP fun e30 => ?_ | refine CP.puP fun h30 => ?_))) <;> (first | refine KP.gn ?_ | refine KP.gu ?_ | refine KP.qy QK.nei ?_) <;> refine KP.q QK.pk ?_ <;> refine KP.list_nil ?_)
    | (refine CW.region (i := 2) ?_ <;> (refine KP.e ?_; ((refine EK.call (awakeR) ?_); repeat' first | refine CP.r ?_ | refine CP.r0 ?_ | refine CP.exP fun e33 => ?_ | refine CP.puP fun h33 => ?_)) <;> refine KP.q QK.as ?_ <;> refine KP.list_nil ?_)
    | ((with_reducible apply KP.fin1); (· rfl); (· rfl)))
    exact FA.ret
  by_cases hq0 : 100 < (x.text.size : Int)
  · repeat' (first
    | (with_reducible refine CW.seq ?_)
    | (with_reducible refine KP.then_code ?_)
    | (with_reducible refine CW.skip ?_)
    | (with_reducible refine CW.ret ?_)
    | (with_reducible refine KP.then_ret ?_)
    | (with_reducible refine KP.block_ret ?_)
    | (with_reducible refine CW.block ?_)
    | (with_reducible refine KP.block_normal ?_)
    | (with_reducible refine CW.exit ?_)
    | (with_reducible refine KP.then_exit ?_)
    | (with_reducible refine KP.block_hit ?_)
    | refine KP.bm ?_
    | refine CW.ct ?_
    | refine CW.cf ?_
    | (refine CW.cP ?_ ?_ <;> intro _ <;> try contradiction)
    | (refine CW.cs ?_ ?_ <;> intro _ <;> try contradiction)
    | (refine CW.region (i := 0) ?_ <;> (refine KP.e ?_; (refine EK.box_a ?_; intro b3)) <;> refine KP.q QK.as ?_ <;> refine KP.list_nil ?_)
    | (refine CW.region (i := 1) ?_ <;> refine KP.q QK.mv ?_ <;> (refine KP.e ?_; ((first | refine EK.call (greatE hg) ?_ | refine EK.call (greatE hg) ?_); repeat' first | refine CP.r ?_ | refine CP.r0 ?_ | refine CP.exP fun e16 => ?_ | refine CP.puP fun h16 => ?_)) <;> refine KP.q QK.mv ?_ <;> (first | refine KP.gn ?_ | refine KP.gu ?_ | refine KP.qy QK.mv ?_ | ((first | refine KP.gsP (t := 17) ?_ ?_ | refine KP.gs (t := 17) ?_ ?_) <;> intro _ <;> first | contradiction | refine KP.gn ?_ | refine KP.qy QK.mv ?_)) <;> (first | refine KP.gn ?_ | refine KP.gu ?_ | refine KP.qy QK.len ?_) <;> (first | refine KP.gn ?_ | refine KP.gu ?_ | refine KP.qy QK.gtr ?_) <;> refine KP.q QK.pk ?_ <;> refine KP.q QK.mv ?_ <;> (first | refine KP.gn ?_ | refine KP.gu ?_ | refine KP.qy QK.fa ?_ | ((first | refine KP.gsP (t := 22) ?_ ?_ | refine KP.gs (t := 22) ?_ ?_) <;> intro _ <;> first | contradiction | refine KP.gn ?_ | refine KP.qy QK.fa ?_)) <;> (first | refine KP.gn ?_ | refine KP.gu ?_ | refine KP.qy QK.lds ?_) <;> (first | refine KP.gn ?_ | refine KP.gu ?_ | refine KP.qy QK.len ?_) <;> (first | refine KP.gn ?_ | refine KP.gu ?_ | refine KP.qy QK.gtr ?_) <;> refine KP.q QK.pk ?_ <;> refine KP.q QK.mv ?_ <;> (first | refine KP.gn ?_ | refine KP.gu ?_ | refine KP.qy QK.mv ?_ | ((first | refine KP.gsP (t := 28) ?_ ?_ | refine KP.gs (t := 28) ?_ ?_) <;> intro _ <;> first | contradiction | refine KP.gn ?_ | refine KP.qy QK.mv ?_)) <;> (first | refine KP.gn ?_ | refine KP.gu ?_ | (refine KP.gy ?_; refine KP.e ?_; ((fail "no rule f50"); repeat' first | refine CP.r ?_ | refine CP.r0 ?_ | refine CP.exP fun e30 => ?_ | refine CP.puP fun h30 => ?_))) <;> (first | refine KP.gn ?_ | refine KP.gu ?_ | refine KP.qy QK.nei ?_) <;> refine KP.q QK.pk ?_ <;> refine KP.list_nil ?_)
    | (refine CW.region (i := 2) ?_ <;> (refine KP.e ?_; ((refine EK.call (awakeR) ?_); repeat' first | refine CP.r ?_ | refine CP.r0 ?_ | refine CP.exP fun e33 => ?_ | refine CP.puP fun h33 => ?_)) <;> refine KP.q QK.as ?_ <;> refine KP.list_nil ?_)
    | ((with_reducible apply KP.fin1); (· rfl); (· rfl)))
    exact FA.ret
  have hq : x.text.size ≤ 1000000 := by omega
  
  repeat' (first
    | (with_reducible refine CW.seq ?_)
    | (with_reducible refine KP.then_code ?_)
    | (with_reducible refine CW.skip ?_)
    | (with_reducible refine CW.ret ?_)
    | (with_reducible refine KP.then_ret ?_)
    | (with_reducible refine KP.block_ret ?_)
    | (with_reducible refine CW.block ?_)
    | (with_reducible refine KP.block_normal ?_)
    | (with_reducible refine CW.exit ?_)
    | (with_reducible refine KP.then_exit ?_)
    | (with_reducible refine KP.block_hit ?_)
    | refine KP.bm ?_
    | refine CW.ct ?_
    | refine CW.cf ?_
    | (refine CW.cP ?_ ?_ <;> intro _ <;> try contradiction)
    | (refine CW.cs ?_ ?_ <;> intro _ <;> try contradiction)
    | (refine CW.region (i := 0) ?_ <;> (refine KP.e ?_; (refine EK.box_a ?_; intro b3)) <;> refine KP.q QK.as ?_ <;> refine KP.list_nil ?_)
    | (refine CW.region (i := 1) ?_ <;> refine KP.q QK.mv ?_ <;> (refine KP.e ?_; ((first | refine EK.call (greatE hg) ?_ | refine EK.call (greatE hg) ?_); repeat' first | refine CP.r ?_ | refine CP.r0 ?_ | refine CP.exP fun e16 => ?_ | refine CP.puP fun h16 => ?_)) <;> refine KP.q QK.mv ?_ <;> (first | refine KP.gn ?_ | refine KP.gu ?_ | refine KP.qy QK.mv ?_ | ((first | refine KP.gsP (t := 17) ?_ ?_ | refine KP.gs (t := 17) ?_ ?_) <;> intro _ <;> first | contradiction | refine KP.gn ?_ | refine KP.qy QK.mv ?_)) <;> (first | refine KP.gn ?_ | refine KP.gu ?_ | refine KP.qy QK.len ?_) <;> (first | refine KP.gn ?_ | refine KP.gu ?_ | refine KP.qy QK.gtr ?_) <;> refine KP.q QK.pk ?_ <;> refine KP.q QK.mv ?_ <;> (first | refine KP.gn ?_ | refine KP.gu ?_ | refine KP.qy QK.fa ?_ | ((first | refine KP.gsP (t := 22) ?_ ?_ | refine KP.gs (t := 22) ?_ ?_) <;> intro _ <;> first | contradiction | refine KP.gn ?_ | refine KP.qy QK.fa ?_)) <;> (first | refine KP.gn ?_ | refine KP.gu ?_ | refine KP.qy QK.lds ?_) <;> (first | refine KP.gn ?_ | refine KP.gu ?_ | refine KP.qy QK.len ?_) <;> (first | refine KP.gn ?_ | refine KP.gu ?_ | refine KP.qy QK.gtr ?_) <;> refine KP.q QK.pk ?_ <;> refine KP.q QK.mv ?_ <;> (first | refine KP.gn ?_ | refine KP.gu ?_ | refine KP.qy QK.mv ?_ | ((first | refine KP.gsP (t := 28) ?_ ?_ | refine KP.gs (t := 28) ?_ ?_) <;> intro _ <;> first | contradiction | refine KP.gn ?_ | refine KP.qy QK.mv ?_)) <;> (first | refine KP.gn ?_ | refine KP.gu ?_ | (refine KP.gy ?_; refine KP.e ?_; ((refine EK.call (good_spec ht) ?_); repeat' first | refine CP.r ?_ | refine CP.r0 ?_ | refine CP.exP fun e30 => ?_ | refine CP.puP fun h30 => ?_))) <;> (first | refine KP.gn ?_ | refine KP.gu ?_ | refine KP.qy QK.nei ?_) <;> refine KP.q QK.pk ?_ <;> refine KP.list_nil ?_)
    | (refine CW.region (i := 2) ?_ <;> (refine KP.e ?_; ((refine EK.call (awakeR) ?_); repeat' first | refine CP.r ?_ | refine CP.r0 ?_ | refine CP.exP fun e33 => ?_ | refine CP.puP fun h33 => ?_)) <;> refine KP.q QK.as ?_ <;> refine KP.list_nil ?_)
    | ((with_reducible apply KP.fin1); (· rfl); (· rfl)))
  all_goals try exact FA.ret
  have hgood : Good ts := h30.1 (by omega)
  obtain ⟨l, hl1⟩ : ∃ l, topF ts x = l := ⟨_, rfl⟩
  
  cases hm : mayF x
  · 
    have hl0 : l = [] := by rw [← hl1, topF, hm, if_neg (by decide)]
    subst hl0
    have hl00 : ([] : List Item).length = 0 := rfl
    repeat' (first
    | (with_reducible refine CW.seq ?_)
    | (with_reducible refine KP.then_code ?_)
    | (with_reducible refine CW.skip ?_)
    | (with_reducible refine CW.ret ?_)
    | (with_reducible refine KP.then_ret ?_)
    | (with_reducible refine KP.block_ret ?_)
    | (with_reducible refine CW.block ?_)
    | (with_reducible refine KP.block_normal ?_)
    | (with_reducible refine CW.exit ?_)
    | (with_reducible refine KP.then_exit ?_)
    | (with_reducible refine KP.block_hit ?_)
    | refine KP.bm ?_
    | refine CW.ct ?_
    | refine CW.cf ?_
    | (refine CW.cP ?_ ?_ <;> intro _ <;> try contradiction)
    | (refine CW.cs ?_ ?_ <;> intro _ <;> try contradiction)
    | (refine CW.region (i := 3) ?_ <;> refine KP.q QK.mv ?_ <;> refine KP.q QK.lda ?_ <;> (refine KP.e ?_; ((refine EK.call (topE (v := v) hq (by omega) ht hl1) ?_); repeat' first | refine CP.r ?_ | refine CP.r0 ?_ | refine CP.exP fun e36 => ?_ | refine CP.puP fun h36 => ?_)) <;> refine KP.q QK.as ?_ <;> refine KP.list_nil ?_)
    | (refine CW.region (i := 4) ?_ <;> refine KP.q QK.lda ?_ <;> (refine KP.e ?_; ((refine EK.call (mayE hq hm) ?_); repeat' first | refine CP.r ?_ | refine CP.r0 ?_ | refine CP.exP fun e38 => ?_ | refine CP.puP fun h38 => ?_)) <;> refine KP.q QK.not ?_ <;> refine KP.list_nil ?_)
    | (refine CW.region (i := 5) ?_ <;> refine KP.q QK.mv ?_ <;> refine KP.q QK.len ?_ <;> refine KP.q QK.eqi ?_ <;> refine KP.q QK.mv ?_ <;> (first | refine KP.gn ?_ | refine KP.gu ?_ | (refine KP.gy ?_; refine KP.e ?_; ((refine EK.call (awakeR) ?_); repeat' first | refine CP.r ?_ | refine CP.r0 ?_ | refine CP.exP fun e44 => ?_ | refine CP.puP fun h44 => ?_)) | ((first | refine KP.gsP (t := 43) ?_ ?_ | refine KP.gs (t := 43) ?_ ?_) <;> intro _ <;> first | contradiction | refine KP.gn ?_ | (refine KP.gy ?_; refine KP.e ?_; ((refine EK.call (awakeR) ?_); repeat' first | refine CP.r ?_ | refine CP.r0 ?_ | refine CP.exP fun e44 => ?_ | refine CP.puP fun h44 => ?_)))) <;> refine KP.q QK.pk ?_ <;> refine KP.q QK.as ?_ <;> refine KP.list_nil ?_)
    | ((with_reducible apply KP.fin1); (· rfl); (· rfl)))
    exact FA.ret
  
  
  have hqf := may_fine hm
  have htf : ∀ t ∈ ts, fine t = true := fun t h => word_fine (hgood.word t h)
  have hb : (0 ≤ x.most ∧ x.most ≤ 4) ∧ 1 ≤ x.many ∧ x.many ≤ 10 := by
    have := hm
    unfold mayF at this
    simp only [Bool.and_eq_true, decide_eq_true_eq] at this
    omega
  obtain ⟨m, hmm⟩ : ∃ m : Nat, x.many = m := ⟨x.many.toNat, by omega⟩
  have hlt1 : l = (allF ts x.text x.most).take m := by rw [← hl1, topF, hm, if_pos rfl, hmm]; rfl
  have hll : l.length = min m (nearsF x.text x.most ts).length := by rw [hlt1, List.length_take, all_len]
  have hnn := nears_len x.text x.most ts
  have hrest : ∀ z, z ∈ allF ts x.text x.most → z ∉ l → l.length = m ∧ ∀ (i : Nat) (y : Item), l[i]? = some y → lessF z y = false := fun z hz hn => by
    rw [hlt1] at hn ⊢
    exact first_rest (sortF_sorted _) hz hn
  have hmem : ∀ y ∈ l, y.word ∈ ts ∧ y.dist = editF y.word x.text ∧ y.dist ≤ x.most := fun y hy => by
    rw [hlt1] at hy
    exact near_mem htf hqf (all_mem.1 (List.mem_of_mem_take hy))
  have hstr : ∀ (i : Nat) (y z : Item), l[i]? = some y → l[i + 1]? = some z → lessF y z = true := fun i y z hy hz => by
    rw [hlt1] at hy hz
    exact strict_at (all_strict hgood.inc) hy hz
  repeat' (first
    | (with_reducible refine CW.seq ?_)
    | (with_reducible refine KP.then_code ?_)
    | (with_reducible refine CW.skip ?_)
    | (with_reducible refine CW.ret ?_)
    | (with_reducible refine KP.then_ret ?_)
    | (with_reducible refine KP.block_ret ?_)
    | (with_reducible refine CW.block ?_)
    | (with_reducible refine KP.block_normal ?_)
    | (with_reducible refine CW.exit ?_)
    | (with_reducible refine KP.then_exit ?_)
    | (with_reducible refine KP.block_hit ?_)
    | refine KP.bm ?_
    | refine CW.ct ?_
    | refine CW.cf ?_
    | (refine CW.cP ?_ ?_ <;> intro _ <;> try contradiction)
    | (refine CW.cs ?_ ?_ <;> intro _ <;> try contradiction)
    | (refine CW.region (i := 3) ?_ <;> refine KP.q QK.mv ?_ <;> refine KP.q QK.lda ?_ <;> (refine KP.e ?_; ((refine EK.call (topE (v := v) hq (by omega) ht hl1) ?_); repeat' first | refine CP.r ?_ | refine CP.r0 ?_ | refine CP.exP fun e36 => ?_ | refine CP.puP fun h36 => ?_)) <;> refine KP.q QK.as ?_ <;> refine KP.list_nil ?_)
    | (refine CW.region (i := 4) ?_ <;> refine KP.q QK.lda ?_ <;> (refine KP.e ?_; ((refine EK.call (mayE hq hm) ?_); repeat' first | refine CP.r ?_ | refine CP.r0 ?_ | refine CP.exP fun e38 => ?_ | refine CP.puP fun h38 => ?_)) <;> refine KP.q QK.not ?_ <;> refine KP.list_nil ?_)
    | (refine CW.region (i := 6) ?_ <;> refine KP.q QK.mv ?_ <;> refine KP.q QK.len ?_ <;> refine KP.q QK.fa ?_ <;> refine KP.q QK.lds ?_ <;> refine KP.q QK.gtr ?_ <;> refine KP.list_nil ?_)
    | (refine CW.region (i := 8) ?_ <;> refine KP.q QK.as ?_ <;> refine KP.list_nil ?_)
    | (refine CW.region (i := 9) ?_ <;> refine KP.q QK.as ?_ <;> refine KP.list_nil ?_)
    | ((with_reducible apply KP.fin1); (· rfl); (· rfl)))
  refine CA.loop (X := Nat) (fun z => [(0, v), (3, qp b3), (5, e36), (6, iv ((nearsF x.text x.most (ts.take z)).length : Nat)), (7, iv (z : Nat))]) (fun _ => [pt b3 24 (eQ x), row 39 2 eI e36 l]) (fun z => z ≤ ts.length) (fun z => ts.length - z) 0 (by simp) ?_
  rintro i hi
  try dsimp only at hi ⊢
  rcases Nat.lt_or_ge i ts.length with hlt | hge
  · obtain ⟨t, htt⟩ := at_lt hlt
    have hmt := List.mem_of_getElem? htt
    have hts := ht t hmt
    have hst := nears_more (k := x.most) htt (htf t hmt) hqf
    have hni := nears_len x.text x.most (ts.take i)
    rw [List.length_take] at hni
    obtain ⟨d, hd⟩ : ∃ d, editF t x.text = d := ⟨_, rfl⟩
    have hin : d ≤ x.most → (⟨d, t⟩ : Item) ∈ allF ts x.text x.most := fun h => all_mem.2 (by rw [← hd]; exact mem_near hmt (htf t hmt) hqf (by rw [hd]; exact h))
    rw [hd] at hst
    
    
    repeat' (first
    | (with_reducible refine CW.seq ?_)
    | (with_reducible refine KP.then_code ?_)
    | (with_reducible refine CW.skip ?_)
    | (with_reducible refine CW.ret ?_)
    | (with_reducible refine KP.then_ret ?_)
    | (with_reducible refine KP.block_ret ?_)
    | (with_reducible refine CW.block ?_)
    | (with_reducible refine KP.block_normal ?_)
    | (with_reducible refine CW.exit ?_)
    | (with_reducible refine KP.then_exit ?_)
    | (with_reducible refine KP.block_hit ?_)
    | refine KP.bm ?_
    | refine CW.ct ?_
    | refine CW.cf ?_
    | (refine CW.cP ?_ ?_ <;> intro _ <;> try contradiction)
    | (refine CW.cs ?_ ?_ <;> intro _ <;> try contradiction)
    | (refine CW.region (i := 10) ?_ <;> refine KP.q QK.mv ?_ <;> refine KP.q QK.mv ?_ <;> refine KP.q QK.len ?_ <;> refine KP.q QK.lss ?_ <;> refine KP.list_nil ?_)
    | ((with_reducible apply KP.fin1); (· rfl); (· rfl)))
    repeat' (first
    | (with_reducible refine CW.seq ?_)
    | (with_reducible refine KP.then_code ?_)
    | (with_reducible refine CW.skip ?_)
    | (with_reducible refine CW.ret ?_)
    | (with_reducible refine KP.then_ret ?_)
    | (with_reducible refine KP.block_ret ?_)
    | (with_reducible refine CW.block ?_)
    | (with_reducible refine KP.block_normal ?_)
    | (with_reducible refine CW.exit ?_)
    | (with_reducible refine KP.then_exit ?_)
    | (with_reducible refine KP.block_hit ?_)
    | refine KP.bm ?_
    | (((with_reducible refine CW.draw (i := 12) ?_ [[], [], [0, 1], [0, 1, 2], [], [4], [0, 1, 2, 3, 4, 5], [0, 1, 2, 3, 4, 5, 6]] ?_ ?_ ?_ ?_); (· rfl); (· kernel_rfl); (· kernel_rfl); (· repeat (first | exact NoHang.post | refine NoHang.then ?_ | refine NoHang.block ?_))) <;> refine DW.p 0 rfl (fun _ => QK.mv) ?_ <;> refine DW.p 1 rfl (fun _ => QK.mv) ?_ <;> refine DW.p 4 rfl (fun _ => QK.fa) ?_ <;> refine DW.m 2 rfl QK.ia ?_ <;> refine DW.m 3 rfl (by first | exact QY.load_s rfl (Rd.ro (by with_reducible first | exact m0 | exact m1 | exact m2 | exact m3 | exact m4 | exact m5 | fail)) (Reads.row0 RowL.rrow htt rfl) | exact QK.lds) ?_ <;> refine DW.m 5 rfl (by first | exact QY.load_s rfl (Rd.ro (by with_reducible first | exact m0 | exact m1 | exact m2 | exact m3 | exact m4 | exact m5 | fail)) (Reads.row0 RowL.rrow htt rfl) | exact QK.lds) ?_ <;> (refine DW.ex 6 rfl ?_; intro hdk; ((refine EK.call (editE (q := t) (t := x.text) hts hq hd) ?_); repeat' first | refine CP.r ?_ | refine CP.r0 ?_ | refine CP.exP fun e63 => ?_ | refine CP.puP fun h63 => ?_); all_goals (refine DK.mk hdk .nil ?_; clear hdk)) <;> refine DW.p 7 rfl (fun _ => QK.as) ?_ <;> refine DW.zz ?_)
    | (refine CW.region (i := 13) ?_ <;> refine KP.q QK.mv ?_ <;> refine KP.q QK.mv ?_ <;> refine KP.q QK.mv ?_ <;> refine KP.q QK.ia ?_ <;> refine KP.q (by first | exact QY.load_s rfl (Rd.ro (by with_reducible first | exact m0 | exact m1 | exact m2 | exact m3 | exact m4 | exact m5 | fail)) (Reads.row0 RowL.rrow htt rfl) | exact QK.lds) ?_ <;> refine KP.q QK.bd ?_ <;> (refine KP.e ?_; (refine EK.alloc ?_; intro b9)) <;> (refine KP.e ?_; (first | refine EK.st_a ?_ | refine EK.st_ra ?_ | refine EK.st_p ?_)) <;> refine KP.list_nil ?_)
    | (refine CW.region (i := 14) ?_ <;> refine KP.q QK.mv ?_ <;> refine KP.q QK.fa ?_ <;> refine KP.q (by first | exact QY.load_s rfl (Rd.ro (by with_reducible first | exact m0 | exact m1 | exact m2 | exact m3 | exact m4 | exact m5 | fail)) (Reads.row0 RowL.rrow htt rfl) | exact QK.lds) ?_ <;> refine KP.q QK.gtr ?_ <;> refine KP.list_nil ?_)
    | ((with_reducible apply KP.fin1); (· rfl); (· rfl)))
    refine CW.mid (X := Item × Nat) (fun z => [(0, v), (3, qp b3), (5, e36), (6, iv (z.2 : Nat)), (7, iv (i : Nat)), (9, qp b9)]) (fun z => [pt b9 39 (eI z.1), pt b3 24 (eQ x), row 39 2 eI e36 l]) (fun z => z.2 = (nearsF x.text x.most (ts.take (i + 1))).length ∧ (z.1.word = ⟨#[]⟩ ∨ z.1 ∈ allF ts x.text x.most)) ?_ ?_
    · repeat' (first
    | (with_reducible refine CW.seq ?_)
    | (with_reducible refine KP.then_code ?_)
    | (with_reducible refine CW.skip ?_)
    | (with_reducible refine CW.ret ?_)
    | (with_reducible refine KP.then_ret ?_)
    | (with_reducible refine KP.block_ret ?_)
    | (with_reducible refine CW.block ?_)
    | (with_reducible refine KP.block_normal ?_)
    | (with_reducible refine CW.exit ?_)
    | (with_reducible refine KP.then_exit ?_)
    | (with_reducible refine KP.block_hit ?_)
    | refine KP.bm ?_
    | refine CW.ct ?_
    | refine CW.cf ?_
    | (refine CW.cP ?_ ?_ <;> intro _ <;> try contradiction)
    | (refine CW.cs ?_ ?_ <;> intro _ <;> try contradiction)
    | (refine CW.region (i := 15) ?_ <;> refine KP.q QK.fa ?_ <;> (refine KP.e ?_; (first | refine EK.st_s ?_ | refine EK.st_rf ?_ | refine EK.st_rf0 ?_)) <;> refine KP.list_nil ?_)
    | (refine CW.region (i := 16) ?_ <;> refine KP.q QK.mv ?_ <;> refine KP.q QK.add ?_ <;> refine KP.q QK.as ?_ <;> refine KP.list_nil ?_)
    | ((with_reducible apply KP.fin1); (· rfl); (· rfl)))
      · rename_i hdk
        rw [if_neg (by omega)] at hst
        rw [show [iv d, Value.string ⟨#[]⟩] = eI ⟨d, ⟨#[]⟩⟩ from rfl]
        exact KA.joint (⟨d, ⟨#[]⟩⟩, (nearsF x.text x.most (ts.take i)).length) ⟨by simp only; omega, .inl rfl⟩
      · rename_i hdk
        rw [if_pos (by omega)] at hst
        rw [show [iv d, Value.string t] = eI ⟨d, t⟩ from rfl]
        exact KA.joint (⟨d, t⟩, (nearsF x.text x.most (ts.take i)).length + 1) ⟨by simp only; omega, .inr (hin (by omega))⟩
    clear hin hst hni hd
    rintro ⟨z, n⟩ ⟨hn, hz⟩
    try dsimp only at hn hz ⊢
    repeat' (first
    | (with_reducible refine CW.seq ?_)
    | (with_reducible refine KP.then_code ?_)
    | (with_reducible refine CW.skip ?_)
    | (with_reducible refine CW.ret ?_)
    | (with_reducible refine KP.then_ret ?_)
    | (with_reducible refine KP.block_ret ?_)
    | (with_reducible refine CW.block ?_)
    | (with_reducible refine KP.block_normal ?_)
    | (with_reducible refine CW.exit ?_)
    | (with_reducible refine KP.then_exit ?_)
    | (with_reducible refine KP.block_hit ?_)
    | refine KP.bm ?_
    | refine CW.ct ?_
    | refine CW.cf ?_
    | (refine CW.cP ?_ ?_ <;> intro _ <;> try contradiction)
    | (refine CW.cs ?_ ?_ <;> intro _ <;> try contradiction)
    | (refine CW.region (i := 17) ?_ <;> refine KP.q QK.as ?_ <;> refine KP.list_nil ?_)
    | (refine CW.region (i := 18) ?_ <;> refine KP.q QK.as ?_ <;> refine KP.list_nil ?_)
    | ((with_reducible apply KP.fin1); (· rfl); (· rfl)))
    refine CA.loop (X := Nat × Bool) (fun u => [(0, v), (3, qp b3), (5, e36), (6, iv (n : Nat)), (7, iv (i : Nat)), (9, qp b9), (10, .bool u.2), (11, iv (u.1 : Nat))]) (fun _ => [pt b9 39 (eI z), pt b3 24 (eQ x), row 39 2 eI e36 l]) (fun u => u.1 ≤ l.length ∧ u.2 = decide (z ∈ l.take u.1)) (fun u => l.length - u.1) (0, false) ⟨by simp, by simp⟩ ?_
    rintro ⟨k, told⟩ ⟨hk, htold⟩
    try dsimp only at hk htold ⊢
    rcases Nat.lt_or_ge k l.length with hlk | hgk
    · obtain ⟨y, hy⟩ := at_lt hlk
      have hts2 := told_step (z := z) hy
      rw [← htold] at hts2
      
      
      cases told
      · repeat' (first
    | (with_reducible refine CW.seq ?_)
    | (with_reducible refine KP.then_code ?_)
    | (with_reducible refine CW.skip ?_)
    | (with_reducible refine CW.ret ?_)
    | (with_reducible refine KP.then_ret ?_)
    | (with_reducible refine KP.block_ret ?_)
    | (with_reducible refine CW.block ?_)
    | (with_reducible refine KP.block_normal ?_)
    | (with_reducible refine CW.exit ?_)
    | (with_reducible refine KP.then_exit ?_)
    | (with_reducible refine KP.block_hit ?_)
    | refine KP.bm ?_
    | refine CW.ct ?_
    | refine CW.cf ?_
    | (refine CW.cP ?_ ?_ <;> intro _ <;> try contradiction)
    | (refine CW.cs ?_ ?_ <;> intro _ <;> try contradiction)
    | (refine CW.region (i := 19) ?_ <;> refine KP.q QK.mv ?_ <;> refine KP.q QK.mv ?_ <;> refine KP.q QK.len ?_ <;> refine KP.q QK.lss ?_ <;> refine KP.list_nil ?_)
    | (((with_reducible refine CW.draw (i := 21) ?_ [[], [0], [0, 1], [0, 1], [0, 1, 2, 3], [0, 1, 2, 3, 4], [0, 1], [0, 1, 2, 3, 4, 5, 6], [0, 1, 2, 3, 4, 5, 6, 7], [0, 1, 2, 3, 4, 5, 6, 7, 8]] ?_ ?_ ?_ ?_); (· rfl); (· kernel_rfl); (· kernel_rfl); (· repeat (first | exact NoHang.post | refine NoHang.then ?_ | refine NoHang.block ?_))) <;> refine DW.p 0 rfl (fun _ => QK.mv) ?_ <;> refine DW.p 1 rfl (fun _ => QK.mv) ?_ <;> (first | refine DW.pn 2 rfl rfl rfl ?_ | refine DW.pu 2 rfl rfl rfl ?_ | refine DW.py 2 rfl rfl rfl (fun _ => QK.mv) ?_ | ((first | refine DW.sP (t := 84) ?_ ?_ | refine DW.s (t := 84) ?_ ?_) <;> intro _ <;> first | contradiction | refine DW.pn 2 rfl rfl rfl ?_ | refine DW.pu 2 rfl rfl rfl ?_ | refine DW.py 2 rfl rfl rfl (fun _ => QK.mv) ?_)) <;> (first | refine DW.pn 3 rfl rfl rfl ?_ | refine DW.pu 3 rfl rfl rfl ?_ | refine DW.py 3 rfl rfl rfl (fun _ => QK.mv) ?_) <;> (first | refine DW.mn 4 rfl rfl rfl ?_ | refine DW.mu 4 rfl rfl rfl ?_ | refine DW.my 4 rfl rfl rfl QK.ia ?_) <;> (first | refine DW.mn 5 rfl rfl rfl ?_ | refine DW.mu 5 rfl rfl rfl ?_ | refine DW.my 5 rfl rfl rfl (by first | exact QY.load_a rfl (Rd.own (by with_reducible first | exact k0 | exact k1 | exact k2 | exact k3 | exact k4 | exact k5 | exact k6 | exact k7 | exact k8 | exact k9 | fail)) (Reads.row RowL.row hy) rfl | exact QK.lda) ?_) <;> (first | refine DW.mn 6 rfl rfl rfl ?_ | refine DW.mu 6 rfl rfl rfl ?_ | refine DW.my 6 rfl rfl rfl (by first | exact QY.load_a rfl (Rd.own (by with_reducible first | exact k0 | exact k1 | exact k2 | exact k3 | exact k4 | exact k5 | exact k6 | exact k7 | exact k8 | exact k9 | fail)) (Reads.row RowL.row hy) rfl | exact QK.lda) ?_) <;> (first | refine DW.pn 7 rfl rfl rfl ?_ | refine DW.pu 7 rfl rfl rfl ?_ | refine DW.py 7 rfl rfl rfl (fun _ => (by first | exact QY.eq_agg (enc := eI) (p := y) (q := z) rfl rfl | exact QK.eqa)) ?_) <;> refine DW.p 8 rfl (fun _ => QK.pk) ?_ <;> refine DW.p 9 rfl (fun _ => QK.as) ?_ <;> refine DW.zz ?_)
    | (refine CW.region (i := 20) ?_ <;> refine KP.q QK.mv ?_ <;> refine KP.q QK.add ?_ <;> refine KP.q QK.as ?_ <;> refine KP.list_nil ?_)
    | ((with_reducible apply KP.fin1); (· rfl); (· rfl)))
        exact KA.round (k + 1, decide (y = z)) ⟨by simp only; omega, by rw [hts2]; simp⟩
      · repeat' (first
    | (with_reducible refine CW.seq ?_)
    | (with_reducible refine KP.then_code ?_)
    | (with_reducible refine CW.skip ?_)
    | (with_reducible refine CW.ret ?_)
    | (with_reducible refine KP.then_ret ?_)
    | (with_reducible refine KP.block_ret ?_)
    | (with_reducible refine CW.block ?_)
    | (with_reducible refine KP.block_normal ?_)
    | (with_reducible refine CW.exit ?_)
    | (with_reducible refine KP.then_exit ?_)
    | (with_reducible refine KP.block_hit ?_)
    | refine KP.bm ?_
    | refine CW.ct ?_
    | refine CW.cf ?_
    | (refine CW.cP ?_ ?_ <;> intro _ <;> try contradiction)
    | (refine CW.cs ?_ ?_ <;> intro _ <;> try contradiction)
    | (refine CW.region (i := 19) ?_ <;> refine KP.q QK.mv ?_ <;> refine KP.q QK.mv ?_ <;> refine KP.q QK.len ?_ <;> refine KP.q QK.lss ?_ <;> refine KP.list_nil ?_)
    | (((with_reducible refine CW.draw (i := 21) ?_ [[], [0], [0, 1], [0, 1], [0, 1, 2, 3], [0, 1, 2, 3, 4], [0, 1], [0, 1, 2, 3, 4, 5, 6], [0, 1, 2, 3, 4, 5, 6, 7], [0, 1, 2, 3, 4, 5, 6, 7, 8]] ?_ ?_ ?_ ?_); (· rfl); (· kernel_rfl); (· kernel_rfl); (· repeat (first | exact NoHang.post | refine NoHang.then ?_ | refine NoHang.block ?_))) <;> refine DW.p 0 rfl (fun _ => QK.mv) ?_ <;> refine DW.p 1 rfl (fun _ => QK.mv) ?_ <;> (first | refine DW.pn 2 rfl rfl rfl ?_ | refine DW.pu 2 rfl rfl rfl ?_ | refine DW.py 2 rfl rfl rfl (fun _ => QK.mv) ?_ | ((first | refine DW.sP (t := 84) ?_ ?_ | refine DW.s (t := 84) ?_ ?_) <;> intro _ <;> first | contradiction | refine DW.pn 2 rfl rfl rfl ?_ | refine DW.pu 2 rfl rfl rfl ?_ | refine DW.py 2 rfl rfl rfl (fun _ => QK.mv) ?_)) <;> (first | refine DW.pn 3 rfl rfl rfl ?_ | refine DW.pu 3 rfl rfl rfl ?_ | refine DW.py 3 rfl rfl rfl (fun _ => QK.mv) ?_) <;> (first | refine DW.mn 4 rfl rfl rfl ?_ | refine DW.mu 4 rfl rfl rfl ?_ | refine DW.my 4 rfl rfl rfl QK.ia ?_) <;> (first | refine DW.mn 5 rfl rfl rfl ?_ | refine DW.mu 5 rfl rfl rfl ?_ | refine DW.my 5 rfl rfl rfl (by first | exact QY.load_a rfl (Rd.own (by with_reducible first | exact k0 | exact k1 | exact k2 | exact k3 | exact k4 | exact k5 | exact k6 | exact k7 | exact k8 | exact k9 | fail)) (Reads.row RowL.row hy) rfl | exact QK.lda) ?_) <;> (first | refine DW.mn 6 rfl rfl rfl ?_ | refine DW.mu 6 rfl rfl rfl ?_ | refine DW.my 6 rfl rfl rfl (by first | exact QY.load_a rfl (Rd.own (by with_reducible first | exact k0 | exact k1 | exact k2 | exact k3 | exact k4 | exact k5 | exact k6 | exact k7 | exact k8 | exact k9 | fail)) (Reads.row RowL.row hy) rfl | exact QK.lda) ?_) <;> (first | refine DW.pn 7 rfl rfl rfl ?_ | refine DW.pu 7 rfl rfl rfl ?_ | refine DW.py 7 rfl rfl rfl (fun _ => (by first | exact QY.eq_agg (enc := eI) (p := y) (q := z) rfl rfl | exact QK.eqa)) ?_) <;> refine DW.p 8 rfl (fun _ => QK.pk) ?_ <;> refine DW.p 9 rfl (fun _ => QK.as) ?_ <;> refine DW.zz ?_)
    | (refine CW.region (i := 20) ?_ <;> refine KP.q QK.mv ?_ <;> refine KP.q QK.add ?_ <;> refine KP.q QK.as ?_ <;> refine KP.list_nil ?_)
    | ((with_reducible apply KP.fin1); (· rfl); (· rfl)))
        exact KA.round (k + 1, true) ⟨by simp only; omega, by rw [hts2]; simp⟩
    obtain rfl : k = l.length := by omega
    rw [List.take_length] at htold
    subst hn
    cases told
    · have hnl : z ∉ l := of_decide_eq_false htold.symm
      by_cases hw : z.word = ⟨#[]⟩
      · have hw2 : ¬ (z.word ≠ ⟨#[]⟩) := fun h => h hw
        repeat' (first
    | (with_reducible refine CW.seq ?_)
    | (with_reducible refine KP.then_code ?_)
    | (with_reducible refine CW.skip ?_)
    | (with_reducible refine CW.ret ?_)
    | (with_reducible refine KP.then_ret ?_)
    | (with_reducible refine KP.block_ret ?_)
    | (with_reducible refine CW.block ?_)
    | (with_reducible refine KP.block_normal ?_)
    | (with_reducible refine CW.exit ?_)
    | (with_reducible refine KP.then_exit ?_)
    | (with_reducible refine KP.block_hit ?_)
    | refine KP.bm ?_
    | refine CW.ct ?_
    | refine CW.cf ?_
    | (refine CW.cP ?_ ?_ <;> intro _ <;> try contradiction)
    | (refine CW.cs ?_ ?_ <;> intro _ <;> try contradiction)
    | (refine CW.region (i := 19) ?_ <;> refine KP.q QK.mv ?_ <;> refine KP.q QK.mv ?_ <;> refine KP.q QK.len ?_ <;> refine KP.q QK.lss ?_ <;> refine KP.list_nil ?_)
    | (((with_reducible refine CW.draw (i := 22) ?_ [[], [0], [0, 1], [0, 1, 2], [0, 1, 2, 3], [0, 1, 2, 3, 4], [0, 1, 2, 3, 4, 5], [0, 1, 2, 3, 4, 5, 6], [0, 1, 2, 3, 4, 5, 6, 7], [0, 1, 2, 3, 4, 5, 6, 7, 8], [0, 1, 2, 3, 4, 5, 6, 7], [0, 1, 2, 3, 4, 5, 6, 7, 10], [0, 1, 2, 3, 4, 5, 6, 7, 8, 9, 10, 11], [0, 1, 2, 3, 4, 5, 6, 7, 8, 9, 10, 11, 12], [0, 1, 2, 3, 4, 5, 6, 7, 8, 9, 10, 11, 12, 13], [0, 1, 2, 3, 4, 5, 6, 7, 8, 9, 10, 11, 12, 13], [0, 1, 2, 3, 4, 5, 6, 7, 8, 9, 10, 11, 12, 13], [0, 1, 2, 3, 4, 5, 6, 7, 8, 9, 10, 11, 12, 13, 16], [0, 1, 2, 3, 4, 5, 6, 7, 8, 9, 10, 11, 12, 13, 16, 17], [0, 1, 2, 3, 4, 5, 6, 7, 8, 9, 10, 11, 12, 13, 15, 16, 17, 18], [0, 1, 2, 3, 4, 5, 6, 7, 8, 9, 10, 11, 12, 13, 15, 16, 17, 18, 19], [0, 1, 2, 3, 4, 5, 6, 7, 8, 9, 10, 11, 12, 13, 14, 15, 16, 17, 18, 19, 20], [0, 1, 2, 3, 4, 5, 6, 7, 8, 9, 10, 11, 12, 13, 14, 15, 16, 17, 18, 19, 20, 21], [0, 1, 2, 3, 4, 5, 6, 7, 8, 9, 10, 11, 12, 13, 14, 15, 16, 17, 18, 19, 20, 21, 22]] ?_ ?_ ?_ ?_); (· rfl); (· kernel_rfl); (· kernel_rfl); (· repeat (first | exact NoHang.post | refine NoHang.then ?_ | refine NoHang.block ?_))) <;> refine DW.p 0 rfl (fun _ => QK.fa) ?_ <;> refine DW.m 1 rfl (by first | exact QY.load_s rfl (Rd.ro (by with_reducible first | exact m0 | exact m1 | exact m2 | exact m3 | exact m4 | exact m5 | fail)) (Reads.row0 RowL.rrow htt rfl) | exact QK.lds) ?_ <;> refine DW.p 2 rfl (fun _ => QK.nes) ?_ <;> refine DW.p 3 rfl (fun _ => QK.mv) ?_ <;> (first | refine DW.pn 4 rfl rfl rfl ?_ | refine DW.pu 4 rfl rfl rfl ?_ | refine DW.py 4 rfl rfl rfl (fun _ => QK.mv) ?_ | ((first | refine DW.sP (t := 95) ?_ ?_ | refine DW.s (t := 95) ?_ ?_) <;> intro _ <;> first | contradiction | refine DW.pn 4 rfl rfl rfl ?_ | refine DW.pu 4 rfl rfl rfl ?_ | refine DW.py 4 rfl rfl rfl (fun _ => QK.mv) ?_)) <;> (first | refine DW.pn 5 rfl rfl rfl ?_ | refine DW.pu 5 rfl rfl rfl ?_ | refine DW.py 5 rfl rfl rfl (fun _ => QK.not) ?_) <;> refine DW.p 6 rfl (fun _ => QK.pk) ?_ <;> refine DW.p 7 rfl (fun _ => QK.mv) ?_ <;> (first | refine DW.pn 8 rfl rfl rfl ?_ | refine DW.pu 8 rfl rfl rfl ?_ | refine DW.py 8 rfl rfl rfl (fun _ => QK.mv) ?_ | ((first | refine DW.sP (t := 99) ?_ ?_ | refine DW.s (t := 99) ?_ ?_) <;> intro _ <;> first | contradiction | refine DW.pn 8 rfl rfl rfl ?_ | refine DW.pu 8 rfl rfl rfl ?_ | refine DW.py 8 rfl rfl rfl (fun _ => QK.mv) ?_)) <;> (first | refine DW.pn 10 rfl rfl rfl ?_ | refine DW.pu 10 rfl rfl rfl ?_ | refine DW.py 10 rfl rfl rfl (fun _ => QK.fa) ?_) <;> (first | refine DW.mn 9 rfl rfl rfl ?_ | refine DW.mu 9 rfl rfl rfl ?_ | refine DW.my 9 rfl rfl rfl QK.len ?_) <;> (first | refine DW.mn 11 rfl rfl rfl ?_ | refine DW.mu 11 rfl rfl rfl ?_ | refine DW.my 11 rfl rfl rfl (by first | exact QY.load_s rfl (Rd.ro (by with_reducible first | exact m0 | exact m1 | exact m2 | exact m3 | exact m4 | exact m5 | fail)) (Reads.row0 RowL.rrow htt rfl) | exact QK.lds) ?_) <;> (first | refine DW.pn 12 rfl rfl rfl ?_ | refine DW.pu 12 rfl rfl rfl ?_ | refine DW.py 12 rfl rfl rfl (fun _ => QK.lss) ?_) <;> (first | refine DW.pn 13 rfl rfl rfl ?_ | refine DW.pu 13 rfl rfl rfl ?_ | refine DW.py 13 rfl rfl rfl (fun _ => QK.mv) ?_) <;> (first | refine DW.pn 15 rfl rfl rfl ?_ | refine DW.pu 15 rfl rfl rfl ?_ | refine DW.py 15 rfl rfl rfl (fun _ => QK.mv) ?_ | ((first | refine DW.sP (t := 105) ?_ ?_ | refine DW.s (t := 105) ?_ ?_) <;> intro _ <;> first | contradiction | refine DW.pn 15 rfl rfl rfl ?_ | refine DW.pu 15 rfl rfl rfl ?_ | refine DW.py 15 rfl rfl rfl (fun _ => QK.mv) ?_)) <;> (first | refine DW.pn 16 rfl rfl rfl ?_ | refine DW.pu 16 rfl rfl rfl ?_ | refine DW.py 16 rfl rfl rfl (fun _ => QK.mv) ?_) <;> (first | refine DW.mn 14 rfl rfl rfl ?_ | refine DW.mu 14 rfl rfl rfl ?_ | refine DW.my 14 rfl rfl rfl (by first | exact QY.load_a rfl (Rd.own (by with_reducible first | exact k0 | exact k1 | exact k2 | exact k3 | exact k4 | exact k5 | exact k6 | exact k7 | exact k8 | exact k9 | fail)) (Reads.row RowL.row hy) rfl | exact QK.lda) ?_) <;> (first | refine DW.mn 17 rfl rfl rfl ?_ | refine DW.mu 17 rfl rfl rfl ?_ | refine DW.my 17 rfl rfl rfl QK.len ?_) <;> (first | refine DW.pn 18 rfl rfl rfl ?_ | refine DW.pu 18 rfl rfl rfl ?_ | refine DW.py 18 rfl rfl rfl (fun _ => QK.sub) ?_) <;> (first | refine DW.mn 19 rfl rfl rfl ?_ | refine DW.mu 19 rfl rfl rfl ?_ | refine DW.my 19 rfl rfl rfl QK.ia ?_) <;> (first | refine DW.mn 20 rfl rfl rfl ?_ | refine DW.mu 20 rfl rfl rfl ?_ | refine DW.my 20 rfl rfl rfl (by first | exact QY.load_a rfl (Rd.own (by with_reducible first | exact k0 | exact k1 | exact k2 | exact k3 | exact k4 | exact k5 | exact k6 | exact k7 | exact k8 | exact k9 | fail)) (Reads.row RowL.row hy) rfl | exact QK.lda) ?_) <;> (first | (refine DW.exn 21 rfl rfl rfl ?_; intro hdk; refine DK.mk hdk .nil ?_; clear hdk) | (refine DW.exy 21 rfl rfl rfl ?_; intro hdk; ((fail "no rule f38"); repeat' first | refine CP.r ?_ | refine CP.r0 ?_ | refine CP.exP fun e113 => ?_ | refine CP.puP fun h113 => ?_); all_goals (refine DK.mk hdk .nil ?_; clear hdk))) <;> (first | refine DW.pn 22 rfl rfl rfl ?_ | refine DW.pu 22 rfl rfl rfl ?_ | refine DW.py 22 rfl rfl rfl (fun _ => QK.pk) ?_) <;> refine DW.p 23 rfl (fun _ => QK.pk) ?_ <;> refine DW.zz ?_)
    | (refine CW.region (i := 23) ?_ <;> refine KP.q QK.as ?_ <;> refine KP.list_nil ?_)
    | (refine CW.region (i := 11) ?_ <;> refine KP.q QK.mv ?_ <;> refine KP.q QK.add ?_ <;> refine KP.q QK.as ?_ <;> refine KP.list_nil ?_)
    | ((with_reducible apply KP.fin1); (· rfl); (· rfl)))
        exact KA.round (i + 1) (by omega)
      · have hw2 : z.word ≠ ⟨#[]⟩ := hw
        obtain ⟨h5, h6⟩ := hrest z (hz.resolve_left hw) hnl
        obtain ⟨y, hy⟩ := at_lt (xs := l) (i := l.length - 1) (by omega)
        have h7 := h6 _ _ hy
        
        
        
        repeat' (first
    | (with_reducible refine CW.seq ?_)
    | (with_reducible refine KP.then_code ?_)
    | (with_reducible refine CW.skip ?_)
    | (with_reducible refine CW.ret ?_)
    | (with_reducible refine KP.then_ret ?_)
    | (with_reducible refine KP.block_ret ?_)
    | (with_reducible refine CW.block ?_)
    | (with_reducible refine KP.block_normal ?_)
    | (with_reducible refine CW.exit ?_)
    | (with_reducible refine KP.then_exit ?_)
    | (with_reducible refine KP.block_hit ?_)
    | refine KP.bm ?_
    | refine CW.ct ?_
    | refine CW.cf ?_
    | (refine CW.cP ?_ ?_ <;> intro _ <;> try contradiction)
    | (refine CW.cs ?_ ?_ <;> intro _ <;> try contradiction)
    | (refine CW.region (i := 19) ?_ <;> refine KP.q QK.mv ?_ <;> refine KP.q QK.mv ?_ <;> refine KP.q QK.len ?_ <;> refine KP.q QK.lss ?_ <;> refine KP.list_nil ?_)
    | (((with_reducible refine CW.draw (i := 22) ?_ [[], [0], [0, 1], [0, 1, 2], [0, 1, 2, 3], [0, 1, 2, 3, 4], [0, 1, 2, 3, 4, 5], [0, 1, 2, 3, 4, 5, 6], [0, 1, 2, 3, 4, 5, 6, 7], [0, 1, 2, 3, 4, 5, 6, 7, 8], [0, 1, 2, 3, 4, 5, 6, 7], [0, 1, 2, 3, 4, 5, 6, 7, 10], [0, 1, 2, 3, 4, 5, 6, 7, 8, 9, 10, 11], [0, 1, 2, 3, 4, 5, 6, 7, 8, 9, 10, 11, 12], [0, 1, 2, 3, 4, 5, 6, 7, 8, 9, 10, 11, 12, 13], [0, 1, 2, 3, 4, 5, 6, 7, 8, 9, 10, 11, 12, 13], [0, 1, 2, 3, 4, 5, 6, 7, 8, 9, 10, 11, 12, 13], [0, 1, 2, 3, 4, 5, 6, 7, 8, 9, 10, 11, 12, 13, 16], [0, 1, 2, 3, 4, 5, 6, 7, 8, 9, 10, 11, 12, 13, 16, 17], [0, 1, 2, 3, 4, 5, 6, 7, 8, 9, 10, 11, 12, 13, 15, 16, 17, 18], [0, 1, 2, 3, 4, 5, 6, 7, 8, 9, 10, 11, 12, 13, 15, 16, 17, 18, 19], [0, 1, 2, 3, 4, 5, 6, 7, 8, 9, 10, 11, 12, 13, 14, 15, 16, 17, 18, 19, 20], [0, 1, 2, 3, 4, 5, 6, 7, 8, 9, 10, 11, 12, 13, 14, 15, 16, 17, 18, 19, 20, 21], [0, 1, 2, 3, 4, 5, 6, 7, 8, 9, 10, 11, 12, 13, 14, 15, 16, 17, 18, 19, 20, 21, 22]] ?_ ?_ ?_ ?_); (· rfl); (· kernel_rfl); (· kernel_rfl); (· repeat (first | exact NoHang.post | refine NoHang.then ?_ | refine NoHang.block ?_))) <;> refine DW.p 0 rfl (fun _ => QK.fa) ?_ <;> refine DW.m 1 rfl (by first | exact QY.load_s rfl (Rd.ro (by with_reducible first | exact m0 | exact m1 | exact m2 | exact m3 | exact m4 | exact m5 | fail)) (Reads.row0 RowL.rrow htt rfl) | exact QK.lds) ?_ <;> refine DW.p 2 rfl (fun _ => QK.nes) ?_ <;> refine DW.p 3 rfl (fun _ => QK.mv) ?_ <;> (first | refine DW.pn 4 rfl rfl rfl ?_ | refine DW.pu 4 rfl rfl rfl ?_ | refine DW.py 4 rfl rfl rfl (fun _ => QK.mv) ?_ | ((first | refine DW.sP (t := 95) ?_ ?_ | refine DW.s (t := 95) ?_ ?_) <;> intro _ <;> first | contradiction | refine DW.pn 4 rfl rfl rfl ?_ | refine DW.pu 4 rfl rfl rfl ?_ | refine DW.py 4 rfl rfl rfl (fun _ => QK.mv) ?_)) <;> (first | refine DW.pn 5 rfl rfl rfl ?_ | refine DW.pu 5 rfl rfl rfl ?_ | refine DW.py 5 rfl rfl rfl (fun _ => QK.not) ?_) <;> refine DW.p 6 rfl (fun _ => QK.pk) ?_ <;> refine DW.p 7 rfl (fun _ => QK.mv) ?_ <;> (first | refine DW.pn 8 rfl rfl rfl ?_ | refine DW.pu 8 rfl rfl rfl ?_ | refine DW.py 8 rfl rfl rfl (fun _ => QK.mv) ?_ | ((first | refine DW.sP (t := 99) ?_ ?_ | refine DW.s (t := 99) ?_ ?_) <;> intro _ <;> first | contradiction | refine DW.pn 8 rfl rfl rfl ?_ | refine DW.pu 8 rfl rfl rfl ?_ | refine DW.py 8 rfl rfl rfl (fun _ => QK.mv) ?_)) <;> (first | refine DW.pn 10 rfl rfl rfl ?_ | refine DW.pu 10 rfl rfl rfl ?_ | refine DW.py 10 rfl rfl rfl (fun _ => QK.fa) ?_) <;> (first | refine DW.mn 9 rfl rfl rfl ?_ | refine DW.mu 9 rfl rfl rfl ?_ | refine DW.my 9 rfl rfl rfl QK.len ?_) <;> (first | refine DW.mn 11 rfl rfl rfl ?_ | refine DW.mu 11 rfl rfl rfl ?_ | refine DW.my 11 rfl rfl rfl (by first | exact QY.load_s rfl (Rd.ro (by with_reducible first | exact m0 | exact m1 | exact m2 | exact m3 | exact m4 | exact m5 | fail)) (Reads.row0 RowL.rrow htt rfl) | exact QK.lds) ?_) <;> (first | refine DW.pn 12 rfl rfl rfl ?_ | refine DW.pu 12 rfl rfl rfl ?_ | refine DW.py 12 rfl rfl rfl (fun _ => QK.lss) ?_) <;> (first | refine DW.pn 13 rfl rfl rfl ?_ | refine DW.pu 13 rfl rfl rfl ?_ | refine DW.py 13 rfl rfl rfl (fun _ => QK.mv) ?_) <;> (first | refine DW.pn 15 rfl rfl rfl ?_ | refine DW.pu 15 rfl rfl rfl ?_ | refine DW.py 15 rfl rfl rfl (fun _ => QK.mv) ?_ | ((first | refine DW.sP (t := 105) ?_ ?_ | refine DW.s (t := 105) ?_ ?_) <;> intro _ <;> first | contradiction | refine DW.pn 15 rfl rfl rfl ?_ | refine DW.pu 15 rfl rfl rfl ?_ | refine DW.py 15 rfl rfl rfl (fun _ => QK.mv) ?_)) <;> (first | refine DW.pn 16 rfl rfl rfl ?_ | refine DW.pu 16 rfl rfl rfl ?_ | refine DW.py 16 rfl rfl rfl (fun _ => QK.mv) ?_) <;> (first | refine DW.mn 14 rfl rfl rfl ?_ | refine DW.mu 14 rfl rfl rfl ?_ | refine DW.my 14 rfl rfl rfl (by first | exact QY.load_a rfl (Rd.own (by with_reducible first | exact k0 | exact k1 | exact k2 | exact k3 | exact k4 | exact k5 | exact k6 | exact k7 | exact k8 | exact k9 | fail)) (Reads.row RowL.row hy) rfl | exact QY.load_a rfl (Rd.own (by with_reducible first | exact k0 | exact k1 | exact k2 | exact k3 | exact k4 | exact k5 | exact k6 | exact k7 | exact k8 | exact k9 | fail)) (Reads.row RowL.row hy) rfl | exact QK.lda) ?_) <;> (first | refine DW.mn 17 rfl rfl rfl ?_ | refine DW.mu 17 rfl rfl rfl ?_ | refine DW.my 17 rfl rfl rfl QK.len ?_) <;> (first | refine DW.pn 18 rfl rfl rfl ?_ | refine DW.pu 18 rfl rfl rfl ?_ | refine DW.py 18 rfl rfl rfl (fun _ => (by first | exact QY.sub1N rfl rfl (by omega) | exact QK.sub)) ?_) <;> (first | refine DW.mn 19 rfl rfl rfl ?_ | refine DW.mu 19 rfl rfl rfl ?_ | refine DW.my 19 rfl rfl rfl QK.ia ?_) <;> (first | refine DW.mn 20 rfl rfl rfl ?_ | refine DW.mu 20 rfl rfl rfl ?_ | refine DW.my 20 rfl rfl rfl (by first | exact QY.load_a rfl (Rd.own (by with_reducible first | exact k0 | exact k1 | exact k2 | exact k3 | exact k4 | exact k5 | exact k6 | exact k7 | exact k8 | exact k9 | fail)) (Reads.row RowL.row hy) rfl | exact QY.load_a rfl (Rd.own (by with_reducible first | exact k0 | exact k1 | exact k2 | exact k3 | exact k4 | exact k5 | exact k6 | exact k7 | exact k8 | exact k9 | fail)) (Reads.row RowL.row hy) rfl | exact QK.lda) ?_) <;> (first | (refine DW.exn 21 rfl rfl rfl ?_; intro hdk; refine DK.mk hdk .nil ?_; clear hdk) | (refine DW.exy 21 rfl rfl rfl ?_; intro hdk; ((refine EK.call (lessE h7) ?_); repeat' first | refine CP.r ?_ | refine CP.r0 ?_ | refine CP.exP fun e113 => ?_ | refine CP.puP fun h113 => ?_); all_goals (refine DK.mk hdk .nil ?_; clear hdk))) <;> (first | refine DW.pn 22 rfl rfl rfl ?_ | refine DW.pu 22 rfl rfl rfl ?_ | refine DW.py 22 rfl rfl rfl (fun _ => QK.pk) ?_) <;> refine DW.p 23 rfl (fun _ => QK.pk) ?_ <;> refine DW.zz ?_)
    | (refine CW.region (i := 23) ?_ <;> refine KP.q QK.as ?_ <;> refine KP.list_nil ?_)
    | (refine CW.region (i := 11) ?_ <;> refine KP.q QK.mv ?_ <;> refine KP.q QK.add ?_ <;> refine KP.q QK.as ?_ <;> refine KP.list_nil ?_)
    | ((with_reducible apply KP.fin1); (· rfl); (· rfl)))
        exact KA.round (i + 1) (by omega)
    · by_cases hw : z.word = ⟨#[]⟩
      · have hw2 : ¬ (z.word ≠ ⟨#[]⟩) := fun h => h hw
        repeat' (first
    | (with_reducible refine CW.seq ?_)
    | (with_reducible refine KP.then_code ?_)
    | (with_reducible refine CW.skip ?_)
    | (with_reducible refine CW.ret ?_)
    | (with_reducible refine KP.then_ret ?_)
    | (with_reducible refine KP.block_ret ?_)
    | (with_reducible refine CW.block ?_)
    | (with_reducible refine KP.block_normal ?_)
    | (with_reducible refine CW.exit ?_)
    | (with_reducible refine KP.then_exit ?_)
    | (with_reducible refine KP.block_hit ?_)
    | refine KP.bm ?_
    | refine CW.ct ?_
    | refine CW.cf ?_
    | (refine CW.cP ?_ ?_ <;> intro _ <;> try contradiction)
    | (refine CW.cs ?_ ?_ <;> intro _ <;> try contradiction)
    | (refine CW.region (i := 19) ?_ <;> refine KP.q QK.mv ?_ <;> refine KP.q QK.mv ?_ <;> refine KP.q QK.len ?_ <;> refine KP.q QK.lss ?_ <;> refine KP.list_nil ?_)
    | (((with_reducible refine CW.draw (i := 22) ?_ [[], [0], [0, 1], [0, 1, 2], [0, 1, 2, 3], [0, 1, 2, 3, 4], [0, 1, 2, 3, 4, 5], [0, 1, 2, 3, 4, 5, 6], [0, 1, 2, 3, 4, 5, 6, 7], [0, 1, 2, 3, 4, 5, 6, 7, 8], [0, 1, 2, 3, 4, 5, 6, 7], [0, 1, 2, 3, 4, 5, 6, 7, 10], [0, 1, 2, 3, 4, 5, 6, 7, 8, 9, 10, 11], [0, 1, 2, 3, 4, 5, 6, 7, 8, 9, 10, 11, 12], [0, 1, 2, 3, 4, 5, 6, 7, 8, 9, 10, 11, 12, 13], [0, 1, 2, 3, 4, 5, 6, 7, 8, 9, 10, 11, 12, 13], [0, 1, 2, 3, 4, 5, 6, 7, 8, 9, 10, 11, 12, 13], [0, 1, 2, 3, 4, 5, 6, 7, 8, 9, 10, 11, 12, 13, 16], [0, 1, 2, 3, 4, 5, 6, 7, 8, 9, 10, 11, 12, 13, 16, 17], [0, 1, 2, 3, 4, 5, 6, 7, 8, 9, 10, 11, 12, 13, 15, 16, 17, 18], [0, 1, 2, 3, 4, 5, 6, 7, 8, 9, 10, 11, 12, 13, 15, 16, 17, 18, 19], [0, 1, 2, 3, 4, 5, 6, 7, 8, 9, 10, 11, 12, 13, 14, 15, 16, 17, 18, 19, 20], [0, 1, 2, 3, 4, 5, 6, 7, 8, 9, 10, 11, 12, 13, 14, 15, 16, 17, 18, 19, 20, 21], [0, 1, 2, 3, 4, 5, 6, 7, 8, 9, 10, 11, 12, 13, 14, 15, 16, 17, 18, 19, 20, 21, 22]] ?_ ?_ ?_ ?_); (· rfl); (· kernel_rfl); (· kernel_rfl); (· repeat (first | exact NoHang.post | refine NoHang.then ?_ | refine NoHang.block ?_))) <;> refine DW.p 0 rfl (fun _ => QK.fa) ?_ <;> refine DW.m 1 rfl (by first | exact QY.load_s rfl (Rd.ro (by with_reducible first | exact m0 | exact m1 | exact m2 | exact m3 | exact m4 | exact m5 | fail)) (Reads.row0 RowL.rrow htt rfl) | exact QK.lds) ?_ <;> refine DW.p 2 rfl (fun _ => QK.nes) ?_ <;> refine DW.p 3 rfl (fun _ => QK.mv) ?_ <;> (first | refine DW.pn 4 rfl rfl rfl ?_ | refine DW.pu 4 rfl rfl rfl ?_ | refine DW.py 4 rfl rfl rfl (fun _ => QK.mv) ?_ | ((first | refine DW.sP (t := 95) ?_ ?_ | refine DW.s (t := 95) ?_ ?_) <;> intro _ <;> first | contradiction | refine DW.pn 4 rfl rfl rfl ?_ | refine DW.pu 4 rfl rfl rfl ?_ | refine DW.py 4 rfl rfl rfl (fun _ => QK.mv) ?_)) <;> (first | refine DW.pn 5 rfl rfl rfl ?_ | refine DW.pu 5 rfl rfl rfl ?_ | refine DW.py 5 rfl rfl rfl (fun _ => QK.not) ?_) <;> refine DW.p 6 rfl (fun _ => QK.pk) ?_ <;> refine DW.p 7 rfl (fun _ => QK.mv) ?_ <;> (first | refine DW.pn 8 rfl rfl rfl ?_ | refine DW.pu 8 rfl rfl rfl ?_ | refine DW.py 8 rfl rfl rfl (fun _ => QK.mv) ?_ | ((first | refine DW.sP (t := 99) ?_ ?_ | refine DW.s (t := 99) ?_ ?_) <;> intro _ <;> first | contradiction | refine DW.pn 8 rfl rfl rfl ?_ | refine DW.pu 8 rfl rfl rfl ?_ | refine DW.py 8 rfl rfl rfl (fun _ => QK.mv) ?_)) <;> (first | refine DW.pn 10 rfl rfl rfl ?_ | refine DW.pu 10 rfl rfl rfl ?_ | refine DW.py 10 rfl rfl rfl (fun _ => QK.fa) ?_) <;> (first | refine DW.mn 9 rfl rfl rfl ?_ | refine DW.mu 9 rfl rfl rfl ?_ | refine DW.my 9 rfl rfl rfl QK.len ?_) <;> (first | refine DW.mn 11 rfl rfl rfl ?_ | refine DW.mu 11 rfl rfl rfl ?_ | refine DW.my 11 rfl rfl rfl (by first | exact QY.load_s rfl (Rd.ro (by with_reducible first | exact m0 | exact m1 | exact m2 | exact m3 | exact m4 | exact m5 | fail)) (Reads.row0 RowL.rrow htt rfl) | exact QK.lds) ?_) <;> (first | refine DW.pn 12 rfl rfl rfl ?_ | refine DW.pu 12 rfl rfl rfl ?_ | refine DW.py 12 rfl rfl rfl (fun _ => QK.lss) ?_) <;> (first | refine DW.pn 13 rfl rfl rfl ?_ | refine DW.pu 13 rfl rfl rfl ?_ | refine DW.py 13 rfl rfl rfl (fun _ => QK.mv) ?_) <;> (first | refine DW.pn 15 rfl rfl rfl ?_ | refine DW.pu 15 rfl rfl rfl ?_ | refine DW.py 15 rfl rfl rfl (fun _ => QK.mv) ?_ | ((first | refine DW.sP (t := 105) ?_ ?_ | refine DW.s (t := 105) ?_ ?_) <;> intro _ <;> first | contradiction | refine DW.pn 15 rfl rfl rfl ?_ | refine DW.pu 15 rfl rfl rfl ?_ | refine DW.py 15 rfl rfl rfl (fun _ => QK.mv) ?_)) <;> (first | refine DW.pn 16 rfl rfl rfl ?_ | refine DW.pu 16 rfl rfl rfl ?_ | refine DW.py 16 rfl rfl rfl (fun _ => QK.mv) ?_) <;> (first | refine DW.mn 14 rfl rfl rfl ?_ | refine DW.mu 14 rfl rfl rfl ?_ | refine DW.my 14 rfl rfl rfl (by first | exact QY.load_a rfl (Rd.own (by with_reducible first | exact k0 | exact k1 | exact k2 | exact k3 | exact k4 | exact k5 | exact k6 | exact k7 | exact k8 | exact k9 | fail)) (Reads.row RowL.row hy) rfl | exact QY.load_a rfl (Rd.own (by with_reducible first | exact k0 | exact k1 | exact k2 | exact k3 | exact k4 | exact k5 | exact k6 | exact k7 | exact k8 | exact k9 | fail)) (Reads.row RowL.row hy) rfl | exact QK.lda) ?_) <;> (first | refine DW.mn 17 rfl rfl rfl ?_ | refine DW.mu 17 rfl rfl rfl ?_ | refine DW.my 17 rfl rfl rfl QK.len ?_) <;> (first | refine DW.pn 18 rfl rfl rfl ?_ | refine DW.pu 18 rfl rfl rfl ?_ | refine DW.py 18 rfl rfl rfl (fun _ => (by first | exact QY.sub1N rfl rfl (by omega) | exact QK.sub)) ?_) <;> (first | refine DW.mn 19 rfl rfl rfl ?_ | refine DW.mu 19 rfl rfl rfl ?_ | refine DW.my 19 rfl rfl rfl QK.ia ?_) <;> (first | refine DW.mn 20 rfl rfl rfl ?_ | refine DW.mu 20 rfl rfl rfl ?_ | refine DW.my 20 rfl rfl rfl (by first | exact QY.load_a rfl (Rd.own (by with_reducible first | exact k0 | exact k1 | exact k2 | exact k3 | exact k4 | exact k5 | exact k6 | exact k7 | exact k8 | exact k9 | fail)) (Reads.row RowL.row hy) rfl | exact QY.load_a rfl (Rd.own (by with_reducible first | exact k0 | exact k1 | exact k2 | exact k3 | exact k4 | exact k5 | exact k6 | exact k7 | exact k8 | exact k9 | fail)) (Reads.row RowL.row hy) rfl | exact QK.lda) ?_) <;> (first | (refine DW.exn 21 rfl rfl rfl ?_; intro hdk; refine DK.mk hdk .nil ?_; clear hdk) | (refine DW.exy 21 rfl rfl rfl ?_; intro hdk; ((refine EK.call (lessE h7) ?_); repeat' first | refine CP.r ?_ | refine CP.r0 ?_ | refine CP.exP fun e113 => ?_ | refine CP.puP fun h113 => ?_); all_goals (refine DK.mk hdk .nil ?_; clear hdk))) <;> (first | refine DW.pn 22 rfl rfl rfl ?_ | refine DW.pu 22 rfl rfl rfl ?_ | refine DW.py 22 rfl rfl rfl (fun _ => QK.pk) ?_) <;> refine DW.p 23 rfl (fun _ => QK.pk) ?_ <;> refine DW.zz ?_)
    | (refine CW.region (i := 23) ?_ <;> refine KP.q QK.as ?_ <;> refine KP.list_nil ?_)
    | (refine CW.region (i := 11) ?_ <;> refine KP.q QK.mv ?_ <;> refine KP.q QK.add ?_ <;> refine KP.q QK.as ?_ <;> refine KP.list_nil ?_)
    | ((with_reducible apply KP.fin1); (· rfl); (· rfl)))
        exact KA.round (i + 1) (by omega)
      · have hw2 : z.word ≠ ⟨#[]⟩ := hw
        repeat' (first
    | (with_reducible refine CW.seq ?_)
    | (with_reducible refine KP.then_code ?_)
    | (with_reducible refine CW.skip ?_)
    | (with_reducible refine CW.ret ?_)
    | (with_reducible refine KP.then_ret ?_)
    | (with_reducible refine KP.block_ret ?_)
    | (with_reducible refine CW.block ?_)
    | (with_reducible refine KP.block_normal ?_)
    | (with_reducible refine CW.exit ?_)
    | (with_reducible refine KP.then_exit ?_)
    | (with_reducible refine KP.block_hit ?_)
    | refine KP.bm ?_
    | refine CW.ct ?_
    | refine CW.cf ?_
    | (refine CW.cP ?_ ?_ <;> intro _ <;> try contradiction)
    | (refine CW.cs ?_ ?_ <;> intro _ <;> try contradiction)
    | (refine CW.region (i := 19) ?_ <;> refine KP.q QK.mv ?_ <;> refine KP.q QK.mv ?_ <;> refine KP.q QK.len ?_ <;> refine KP.q QK.lss ?_ <;> refine KP.list_nil ?_)
    | (((with_reducible refine CW.draw (i := 22) ?_ [[], [0], [0, 1], [0, 1, 2], [0, 1, 2, 3], [0, 1, 2, 3, 4], [0, 1, 2, 3, 4, 5], [0, 1, 2, 3, 4, 5, 6], [0, 1, 2, 3, 4, 5, 6, 7], [0, 1, 2, 3, 4, 5, 6, 7, 8], [0, 1, 2, 3, 4, 5, 6, 7], [0, 1, 2, 3, 4, 5, 6, 7, 10], [0, 1, 2, 3, 4, 5, 6, 7, 8, 9, 10, 11], [0, 1, 2, 3, 4, 5, 6, 7, 8, 9, 10, 11, 12], [0, 1, 2, 3, 4, 5, 6, 7, 8, 9, 10, 11, 12, 13], [0, 1, 2, 3, 4, 5, 6, 7, 8, 9, 10, 11, 12, 13], [0, 1, 2, 3, 4, 5, 6, 7, 8, 9, 10, 11, 12, 13], [0, 1, 2, 3, 4, 5, 6, 7, 8, 9, 10, 11, 12, 13, 16], [0, 1, 2, 3, 4, 5, 6, 7, 8, 9, 10, 11, 12, 13, 16, 17], [0, 1, 2, 3, 4, 5, 6, 7, 8, 9, 10, 11, 12, 13, 15, 16, 17, 18], [0, 1, 2, 3, 4, 5, 6, 7, 8, 9, 10, 11, 12, 13, 15, 16, 17, 18, 19], [0, 1, 2, 3, 4, 5, 6, 7, 8, 9, 10, 11, 12, 13, 14, 15, 16, 17, 18, 19, 20], [0, 1, 2, 3, 4, 5, 6, 7, 8, 9, 10, 11, 12, 13, 14, 15, 16, 17, 18, 19, 20, 21], [0, 1, 2, 3, 4, 5, 6, 7, 8, 9, 10, 11, 12, 13, 14, 15, 16, 17, 18, 19, 20, 21, 22]] ?_ ?_ ?_ ?_); (· rfl); (· kernel_rfl); (· kernel_rfl); (· repeat (first | exact NoHang.post | refine NoHang.then ?_ | refine NoHang.block ?_))) <;> refine DW.p 0 rfl (fun _ => QK.fa) ?_ <;> refine DW.m 1 rfl (by first | exact QY.load_s rfl (Rd.ro (by with_reducible first | exact m0 | exact m1 | exact m2 | exact m3 | exact m4 | exact m5 | fail)) (Reads.row0 RowL.rrow htt rfl) | exact QK.lds) ?_ <;> refine DW.p 2 rfl (fun _ => QK.nes) ?_ <;> refine DW.p 3 rfl (fun _ => QK.mv) ?_ <;> (first | refine DW.pn 4 rfl rfl rfl ?_ | refine DW.pu 4 rfl rfl rfl ?_ | refine DW.py 4 rfl rfl rfl (fun _ => QK.mv) ?_ | ((first | refine DW.sP (t := 95) ?_ ?_ | refine DW.s (t := 95) ?_ ?_) <;> intro _ <;> first | contradiction | refine DW.pn 4 rfl rfl rfl ?_ | refine DW.pu 4 rfl rfl rfl ?_ | refine DW.py 4 rfl rfl rfl (fun _ => QK.mv) ?_)) <;> (first | refine DW.pn 5 rfl rfl rfl ?_ | refine DW.pu 5 rfl rfl rfl ?_ | refine DW.py 5 rfl rfl rfl (fun _ => QK.not) ?_) <;> refine DW.p 6 rfl (fun _ => QK.pk) ?_ <;> refine DW.p 7 rfl (fun _ => QK.mv) ?_ <;> (first | refine DW.pn 8 rfl rfl rfl ?_ | refine DW.pu 8 rfl rfl rfl ?_ | refine DW.py 8 rfl rfl rfl (fun _ => QK.mv) ?_ | ((first | refine DW.sP (t := 99) ?_ ?_ | refine DW.s (t := 99) ?_ ?_) <;> intro _ <;> first | contradiction | refine DW.pn 8 rfl rfl rfl ?_ | refine DW.pu 8 rfl rfl rfl ?_ | refine DW.py 8 rfl rfl rfl (fun _ => QK.mv) ?_)) <;> (first | refine DW.pn 10 rfl rfl rfl ?_ | refine DW.pu 10 rfl rfl rfl ?_ | refine DW.py 10 rfl rfl rfl (fun _ => QK.fa) ?_) <;> (first | refine DW.mn 9 rfl rfl rfl ?_ | refine DW.mu 9 rfl rfl rfl ?_ | refine DW.my 9 rfl rfl rfl QK.len ?_) <;> (first | refine DW.mn 11 rfl rfl rfl ?_ | refine DW.mu 11 rfl rfl rfl ?_ | refine DW.my 11 rfl rfl rfl (by first | exact QY.load_s rfl (Rd.ro (by with_reducible first | exact m0 | exact m1 | exact m2 | exact m3 | exact m4 | exact m5 | fail)) (Reads.row0 RowL.rrow htt rfl) | exact QK.lds) ?_) <;> (first | refine DW.pn 12 rfl rfl rfl ?_ | refine DW.pu 12 rfl rfl rfl ?_ | refine DW.py 12 rfl rfl rfl (fun _ => QK.lss) ?_) <;> (first | refine DW.pn 13 rfl rfl rfl ?_ | refine DW.pu 13 rfl rfl rfl ?_ | refine DW.py 13 rfl rfl rfl (fun _ => QK.mv) ?_) <;> (first | refine DW.pn 15 rfl rfl rfl ?_ | refine DW.pu 15 rfl rfl rfl ?_ | refine DW.py 15 rfl rfl rfl (fun _ => QK.mv) ?_ | ((first | refine DW.sP (t := 105) ?_ ?_ | refine DW.s (t := 105) ?_ ?_) <;> intro _ <;> first | contradiction | refine DW.pn 15 rfl rfl rfl ?_ | refine DW.pu 15 rfl rfl rfl ?_ | refine DW.py 15 rfl rfl rfl (fun _ => QK.mv) ?_)) <;> (first | refine DW.pn 16 rfl rfl rfl ?_ | refine DW.pu 16 rfl rfl rfl ?_ | refine DW.py 16 rfl rfl rfl (fun _ => QK.mv) ?_) <;> (first | refine DW.mn 14 rfl rfl rfl ?_ | refine DW.mu 14 rfl rfl rfl ?_ | refine DW.my 14 rfl rfl rfl (by first | exact QY.load_a rfl (Rd.own (by with_reducible first | exact k0 | exact k1 | exact k2 | exact k3 | exact k4 | exact k5 | exact k6 | exact k7 | exact k8 | exact k9 | fail)) (Reads.row RowL.row hy) rfl | exact QY.load_a rfl (Rd.own (by with_reducible first | exact k0 | exact k1 | exact k2 | exact k3 | exact k4 | exact k5 | exact k6 | exact k7 | exact k8 | exact k9 | fail)) (Reads.row RowL.row hy) rfl | exact QK.lda) ?_) <;> (first | refine DW.mn 17 rfl rfl rfl ?_ | refine DW.mu 17 rfl rfl rfl ?_ | refine DW.my 17 rfl rfl rfl QK.len ?_) <;> (first | refine DW.pn 18 rfl rfl rfl ?_ | refine DW.pu 18 rfl rfl rfl ?_ | refine DW.py 18 rfl rfl rfl (fun _ => (by first | exact QY.sub1N rfl rfl (by omega) | exact QK.sub)) ?_) <;> (first | refine DW.mn 19 rfl rfl rfl ?_ | refine DW.mu 19 rfl rfl rfl ?_ | refine DW.my 19 rfl rfl rfl QK.ia ?_) <;> (first | refine DW.mn 20 rfl rfl rfl ?_ | refine DW.mu 20 rfl rfl rfl ?_ | refine DW.my 20 rfl rfl rfl (by first | exact QY.load_a rfl (Rd.own (by with_reducible first | exact k0 | exact k1 | exact k2 | exact k3 | exact k4 | exact k5 | exact k6 | exact k7 | exact k8 | exact k9 | fail)) (Reads.row RowL.row hy) rfl | exact QY.load_a rfl (Rd.own (by with_reducible first | exact k0 | exact k1 | exact k2 | exact k3 | exact k4 | exact k5 | exact k6 | exact k7 | exact k8 | exact k9 | fail)) (Reads.row RowL.row hy) rfl | exact QK.lda) ?_) <;> (first | (refine DW.exn 21 rfl rfl rfl ?_; intro hdk; refine DK.mk hdk .nil ?_; clear hdk) | (refine DW.exy 21 rfl rfl rfl ?_; intro hdk; ((refine EK.call (lessE h7) ?_); repeat' first | refine CP.r ?_ | refine CP.r0 ?_ | refine CP.exP fun e113 => ?_ | refine CP.puP fun h113 => ?_); all_goals (refine DK.mk hdk .nil ?_; clear hdk))) <;> (first | refine DW.pn 22 rfl rfl rfl ?_ | refine DW.pu 22 rfl rfl rfl ?_ | refine DW.py 22 rfl rfl rfl (fun _ => QK.pk) ?_) <;> refine DW.p 23 rfl (fun _ => QK.pk) ?_ <;> refine DW.zz ?_)
    | (refine CW.region (i := 23) ?_ <;> refine KP.q QK.as ?_ <;> refine KP.list_nil ?_)
    | (refine CW.region (i := 11) ?_ <;> refine KP.q QK.mv ?_ <;> refine KP.q QK.add ?_ <;> refine KP.q QK.as ?_ <;> refine KP.list_nil ?_)
    | ((with_reducible apply KP.fin1); (· rfl); (· rfl)))
        exact KA.round (i + 1) (by omega)
  obtain rfl : i = ts.length := by omega
  rw [List.take_length]
  
  repeat' (first
    | (with_reducible refine CW.seq ?_)
    | (with_reducible refine KP.then_code ?_)
    | (with_reducible refine CW.skip ?_)
    | (with_reducible refine CW.ret ?_)
    | (with_reducible refine KP.then_ret ?_)
    | (with_reducible refine KP.block_ret ?_)
    | (with_reducible refine CW.block ?_)
    | (with_reducible refine KP.block_normal ?_)
    | (with_reducible refine CW.exit ?_)
    | (with_reducible refine KP.then_exit ?_)
    | (with_reducible refine KP.block_hit ?_)
    | refine KP.bm ?_
    | refine CW.ct ?_
    | refine CW.cf ?_
    | (refine CW.cP ?_ ?_ <;> intro _ <;> try contradiction)
    | (refine CW.cs ?_ ?_ <;> intro _ <;> try contradiction)
    | (refine CW.region (i := 10) ?_ <;> refine KP.q QK.mv ?_ <;> refine KP.q QK.mv ?_ <;> refine KP.q QK.len ?_ <;> refine KP.q QK.lss ?_ <;> refine KP.list_nil ?_)
    | (refine CW.region (i := 24) ?_ <;> refine KP.q QK.as ?_ <;> refine KP.list_nil ?_)
    | ((with_reducible apply KP.fin1); (· rfl); (· rfl)))
  refine CA.loop (X := Nat) (fun z => [(0, v), (3, qp b3), (5, e36), (6, iv ((nearsF x.text x.most ts).length : Nat)), (12, iv (z : Nat))]) (fun _ => [pt b3 24 (eQ x), row 39 2 eI e36 l]) (fun z => z ≤ l.length) (fun z => l.length - z) 0 (by simp) ?_
  clear hi hge
  rintro i hi
  try dsimp only at hi ⊢
  rcases Nat.lt_or_ge i l.length with hlt | hge
  rotate_left
  · repeat' (first
    | (with_reducible refine CW.seq ?_)
    | (with_reducible refine KP.then_code ?_)
    | (with_reducible refine CW.skip ?_)
    | (with_reducible refine CW.ret ?_)
    | (with_reducible refine KP.then_ret ?_)
    | (with_reducible refine KP.block_ret ?_)
    | (with_reducible refine CW.block ?_)
    | (with_reducible refine KP.block_normal ?_)
    | (with_reducible refine CW.exit ?_)
    | (with_reducible refine KP.then_exit ?_)
    | (with_reducible refine KP.block_hit ?_)
    | refine KP.bm ?_
    | refine CW.ct ?_
    | refine CW.cf ?_
    | (refine CW.cP ?_ ?_ <;> intro _ <;> try contradiction)
    | (refine CW.cs ?_ ?_ <;> intro _ <;> try contradiction)
    | (refine CW.region (i := 25) ?_ <;> refine KP.q QK.mv ?_ <;> refine KP.q QK.mv ?_ <;> refine KP.q QK.len ?_ <;> refine KP.q QK.lss ?_ <;> refine KP.list_nil ?_)
    | (refine CW.region (i := 30) ?_ <;> refine KP.q QK.mv ?_ <;> refine KP.q QK.len ?_ <;> refine KP.q QK.mv ?_ <;> refine KP.q QK.fa ?_ <;> refine KP.q QK.lds ?_ <;> refine KP.q QK.min ?_ <;> refine KP.q QK.eqi ?_ <;> refine KP.q QK.mv ?_ <;> (first | refine KP.gn ?_ | refine KP.gu ?_ | (refine KP.gy ?_; refine KP.e ?_; ((refine EK.call (awakeR) ?_); repeat' first | refine CP.r ?_ | refine CP.r0 ?_ | refine CP.exP fun e185 => ?_ | refine CP.puP fun h185 => ?_)) | ((first | refine KP.gsP (t := 184) ?_ ?_ | refine KP.gs (t := 184) ?_ ?_) <;> intro _ <;> first | contradiction | refine KP.gn ?_ | (refine KP.gy ?_; refine KP.e ?_; ((refine EK.call (awakeR) ?_); repeat' first | refine CP.r ?_ | refine CP.r0 ?_ | refine CP.exP fun e185 => ?_ | refine CP.puP fun h185 => ?_)))) <;> refine KP.q QK.pk ?_ <;> refine KP.q QK.as ?_ <;> refine KP.list_nil ?_)
    | ((with_reducible apply KP.fin1); (· rfl); (· rfl)))
    exact FA.ret
  obtain ⟨y, hy⟩ := at_lt hlt
  obtain ⟨hyw, hyd, hyk⟩ := hmem y (List.mem_of_getElem? hy)
  have hys := ht y.word hyw
  
  
  
  
  obtain _ | i := i
  · repeat' (first
    | (with_reducible refine CW.seq ?_)
    | (with_reducible refine KP.then_code ?_)
    | (with_reducible refine CW.skip ?_)
    | (with_reducible refine CW.ret ?_)
    | (with_reducible refine KP.then_ret ?_)
    | (with_reducible refine KP.block_ret ?_)
    | (with_reducible refine CW.block ?_)
    | (with_reducible refine KP.block_normal ?_)
    | (with_reducible refine CW.exit ?_)
    | (with_reducible refine KP.then_exit ?_)
    | (with_reducible refine KP.block_hit ?_)
    | refine KP.bm ?_
    | refine CW.ct ?_
    | refine CW.cf ?_
    | (refine CW.cP ?_ ?_ <;> intro _ <;> try contradiction)
    | (refine CW.cs ?_ ?_ <;> intro _ <;> try contradiction)
    | (refine CW.region (i := 25) ?_ <;> refine KP.q QK.mv ?_ <;> refine KP.q QK.mv ?_ <;> refine KP.q QK.len ?_ <;> refine KP.q QK.lss ?_ <;> refine KP.list_nil ?_)
    | (refine CW.region (i := 27) ?_ <;> refine KP.q QK.mv ?_ <;> refine KP.q QK.mv ?_ <;> refine KP.q QK.mv ?_ <;> refine KP.q QK.ia ?_ <;> refine KP.q QK.fa ?_ <;> refine KP.q (by first | exact QY.load_s rfl (Rd.own (by with_reducible first | exact k0 | exact k1 | exact k2 | exact k3 | exact k4 | exact k5 | exact k6 | exact k7 | exact k8 | exact k9 | fail)) (Reads.row1 RowL.row hy rfl) | exact QY.load_s rfl (Rd.own (by with_reducible first | exact k0 | exact k1 | exact k2 | exact k3 | exact k4 | exact k5 | exact k6 | exact k7 | exact k8 | exact k9 | fail)) (Reads.row0 RowL.row hy rfl) | exact QK.lds) ?_ <;> (refine KP.e ?_; ((refine EK.call (atE (v := v) (t := y.word) hgood.inc (by omega) (memB_iff.2 hyw)) ?_); repeat' first | refine CP.r ?_ | refine CP.r0 ?_ | refine CP.exP fun e129 => ?_ | refine CP.puP fun h129 => ?_)) <;> refine KP.q QK.mv ?_ <;> refine KP.q QK.ex ?_ <;> refine KP.q QK.ex ?_ <;> refine KP.q QK.as ?_ <;> refine KP.q QK.as ?_ <;> refine KP.list_nil ?_)
    | (((with_reducible refine CW.draw (i := 28) ?_ [[], [0], [0, 1], [0, 1, 2], [0, 1, 2], [0, 1, 2, 3, 4], [0, 1, 2, 3, 4, 5], [0, 1, 2, 3, 4, 5, 6], [0, 1, 2], [0, 1, 2], [0, 1, 2, 8, 9], [0, 1, 2, 8, 9, 10], [0, 1, 2, 8, 9, 10, 11], [0, 1, 2], [0, 1, 2, 13], [0, 1, 2, 8, 9, 10, 11, 12, 13, 14], [0, 1, 2, 3, 4, 5, 6, 7, 8, 9, 10, 11, 12, 13, 14, 15], [0, 1, 2, 3, 4, 5, 6, 7, 8, 9, 10, 11, 12, 13, 14, 15, 16], [0, 1, 2, 3, 4, 5, 6, 7, 8, 9, 10, 11, 12, 13, 14, 15, 16, 17], [0, 1, 2, 3, 4, 5, 6, 7, 8, 9, 10, 11, 12, 13, 14, 15, 16, 17, 18], [0, 1, 2, 3, 4, 5, 6, 7, 8, 9, 10, 11, 12, 13, 14, 15, 16, 17, 18], [0, 1, 2, 3, 4, 5, 6, 7, 8, 9, 10, 11, 12, 13, 14, 15, 16, 17, 18, 19, 20], [0, 1, 2, 3, 4, 5, 6, 7, 8, 9, 10, 11, 12, 13, 14, 15, 16, 17, 18, 19, 20, 21], [0, 1, 2, 3, 4, 5, 6, 7, 8, 9, 10, 11, 12, 13, 14, 15, 16, 17, 18, 19, 20, 21, 22], [0, 1, 2, 3, 4, 5, 6, 7, 8, 9, 10, 11, 12, 13, 14, 15, 16, 17, 18], [0, 1, 2, 3, 4, 5, 6, 7, 8, 9, 10, 11, 12, 13, 14, 15, 16, 17, 18, 24], [0, 1, 2, 3, 4, 5, 6, 7, 8, 9, 10, 11, 12, 13, 14, 15, 16, 17, 18, 19, 20, 21, 22, 23, 24, 25], [0, 1, 2, 3, 4, 5, 6, 7, 8, 9, 10, 11, 12, 13, 14, 15, 16, 17, 18, 19, 20, 21, 22, 23, 24, 25, 26], [0, 1, 2, 3, 4, 5, 6, 7, 8, 9, 10, 11, 12, 13, 14, 15, 16, 17, 18, 19, 20, 21, 22, 23, 24, 25, 26, 27], [0, 1, 2, 3, 4, 5, 6, 7, 8, 9, 10, 11, 12, 13, 14, 15, 16, 17, 18, 19, 20, 21, 22, 23, 24, 25, 26, 27, 28], [0, 1, 2, 3, 4, 5, 6, 7, 8, 9, 10, 11, 12, 13, 14, 15, 16, 17, 18, 19, 20, 21, 22, 23, 24, 25, 26, 27, 28, 29], [0, 1, 2, 3, 4, 5, 6, 7, 8, 9, 10, 11, 12, 13, 14, 15, 16, 17, 18, 19, 20, 21, 22, 23, 24, 25, 26, 27, 28, 29, 30], [0, 1, 2, 3, 4, 5, 6, 7, 8, 9, 10, 11, 12, 13, 14, 15, 16, 17, 18, 19, 20, 21, 22, 23, 24, 25, 26, 27, 28, 29, 30, 31], [0, 1, 2, 3, 4, 5, 6, 7, 8, 9, 10, 11, 12, 13, 14, 15, 16, 17, 18, 19, 20, 21, 22, 23, 24, 25, 26, 27, 28, 29, 30, 31], [0, 1, 2, 3, 4, 5, 6, 7, 8, 9, 10, 11, 12, 13, 14, 15, 16, 17, 18, 19, 20, 21, 22, 23, 24, 25, 26, 27, 28, 29, 30, 31, 33], [0, 1, 2, 3, 4, 5, 6, 7, 8, 9, 10, 11, 12, 13, 14, 15, 16, 17, 18, 19, 20, 21, 22, 23, 24, 25, 26, 27, 28, 29, 30, 31, 32, 33, 34], [0, 1, 2, 3, 4, 5, 6, 7, 8, 9, 10, 11, 12, 13, 14, 15, 16, 17, 18, 19, 20, 21, 22, 23, 24, 25, 26, 27, 28, 29, 30, 31, 32, 33, 34, 35], [0, 1, 2, 3, 4, 5, 6, 7, 8, 9, 10, 11, 12, 13, 14, 15, 16, 17, 18, 19, 20, 21, 22, 23, 24, 25, 26, 27, 28, 29, 30, 31], [0, 1, 2, 3, 4, 5, 6, 7, 8, 9, 10, 11, 12, 13, 14, 15, 16, 17, 18, 19, 20, 21, 22, 23, 24, 25, 26, 27, 28, 29, 30, 31], [0, 1, 2, 3, 4, 5, 6, 7, 8, 9, 10, 11, 12, 13, 14, 15, 16, 17, 18, 19, 20, 21, 22, 23, 24, 25, 26, 27, 28, 29, 30, 31, 37, 38], [0, 1, 2, 3, 4, 5, 6, 7, 8, 9, 10, 11, 12, 13, 14, 15, 16, 17, 18, 19, 20, 21, 22, 23, 24, 25, 26, 27, 28, 29, 30, 31, 37, 38, 39], [0, 1, 2, 3, 4, 5, 6, 7, 8, 9, 10, 11, 12, 13, 14, 15, 16, 17, 18, 19, 20, 21, 22, 23, 24, 25, 26, 27, 28, 29, 30, 31, 32, 33, 34, 35, 36, 37, 38, 39, 40], [0, 1, 2, 3, 4, 5, 6, 7, 8, 9, 10, 11, 12, 13, 14, 15, 16, 17, 18, 19, 20, 21, 22, 23, 24, 25, 26, 27, 28, 29, 30, 31, 32, 33, 34, 35, 36, 37, 38, 39, 40, 41], [0, 1, 2, 3, 4, 5, 6, 7, 8, 9, 10, 11, 12, 13, 14, 15, 16, 17, 18, 19, 20, 21, 22, 23, 24, 25, 26, 27, 28, 29, 30, 31, 32, 33, 34, 35, 36, 37, 38, 39, 40, 41, 42], [0, 1, 2, 3, 4, 5, 6, 7, 8, 9, 10, 11, 12, 13, 14, 15, 16, 17, 18, 19, 20, 21, 22, 23, 24, 25, 26, 27, 28, 29, 30, 31, 32, 33, 34, 35, 36, 37, 38, 39, 40, 41, 42, 43]] ?_ ?_ ?_ ?_); (· rfl); (· kernel_rfl); (· kernel_rfl); (· repeat (first | exact NoHang.post | refine NoHang.then ?_ | refine NoHang.block ?_))) <;> refine DW.p 0 rfl (fun _ => QK.mv) ?_ <;> refine DW.p 1 rfl (fun _ => QK.not) ?_ <;> refine DW.p 2 rfl (fun _ => QK.mv) ?_ <;> (first | refine DW.pn 3 rfl rfl rfl ?_ | refine DW.pu 3 rfl rfl rfl ?_ | refine DW.py 3 rfl rfl rfl (fun _ => QK.mv) ?_ | ((first | refine DW.sP (t := 134) ?_ ?_ | refine DW.s (t := 134) ?_ ?_) <;> intro _ <;> first | contradiction | refine DW.pn 3 rfl rfl rfl ?_ | refine DW.pu 3 rfl rfl rfl ?_ | refine DW.py 3 rfl rfl rfl (fun _ => QK.mv) ?_)) <;> (first | refine DW.pn 4 rfl rfl rfl ?_ | refine DW.pu 4 rfl rfl rfl ?_ | refine DW.py 4 rfl rfl rfl (fun _ => QK.mv) ?_) <;> (first | refine DW.pn 8 rfl rfl rfl ?_ | refine DW.pu 8 rfl rfl rfl ?_ | refine DW.py 8 rfl rfl rfl (fun _ => QK.mv) ?_) <;> (first | refine DW.pn 9 rfl rfl rfl ?_ | refine DW.pu 9 rfl rfl rfl ?_ | refine DW.py 9 rfl rfl rfl (fun _ => QK.mv) ?_) <;> (first | refine DW.pn 13 rfl rfl rfl ?_ | refine DW.pu 13 rfl rfl rfl ?_ | refine DW.py 13 rfl rfl rfl (fun _ => QK.fa) ?_) <;> (first | refine DW.mn 5 rfl rfl rfl ?_ | refine DW.mu 5 rfl rfl rfl ?_ | refine DW.my 5 rfl rfl rfl QK.ia ?_) <;> (first | refine DW.pn 6 rfl rfl rfl ?_ | refine DW.pu 6 rfl rfl rfl ?_ | refine DW.py 6 rfl rfl rfl (fun _ => QK.fa) ?_) <;> (first | refine DW.mn 7 rfl rfl rfl ?_ | refine DW.mu 7 rfl rfl rfl ?_ | refine DW.my 7 rfl rfl rfl (by first | exact QY.load_s rfl (Rd.own (by with_reducible first | exact k0 | exact k1 | exact k2 | exact k3 | exact k4 | exact k5 | exact k6 | exact k7 | exact k8 | exact k9 | fail)) (Reads.row1 RowL.row hy rfl) | exact QY.load_s rfl (Rd.own (by with_reducible first | exact k0 | exact k1 | exact k2 | exact k3 | exact k4 | exact k5 | exact k6 | exact k7 | exact k8 | exact k9 | fail)) (Reads.row0 RowL.row hy rfl) | exact QK.lds) ?_) <;> (first | refine DW.mn 10 rfl rfl rfl ?_ | refine DW.mu 10 rfl rfl rfl ?_ | refine DW.my 10 rfl rfl rfl QK.ia ?_) <;> (first | refine DW.pn 11 rfl rfl rfl ?_ | refine DW.pu 11 rfl rfl rfl ?_ | refine DW.py 11 rfl rfl rfl (fun _ => QK.fa) ?_) <;> (first | refine DW.mn 12 rfl rfl rfl ?_ | refine DW.mu 12 rfl rfl rfl ?_ | refine DW.my 12 rfl rfl rfl (by first | exact QY.load_s rfl (Rd.own (by with_reducible first | exact k0 | exact k1 | exact k2 | exact k3 | exact k4 | exact k5 | exact k6 | exact k7 | exact k8 | exact k9 | fail)) (Reads.row1 RowL.row hy rfl) | exact QY.load_s rfl (Rd.own (by with_reducible first | exact k0 | exact k1 | exact k2 | exact k3 | exact k4 | exact k5 | exact k6 | exact k7 | exact k8 | exact k9 | fail)) (Reads.row0 RowL.row hy rfl) | exact QK.lds) ?_) <;> (first | refine DW.mn 14 rfl rfl rfl ?_ | refine DW.mu 14 rfl rfl rfl ?_ | refine DW.my 14 rfl rfl rfl (by first | exact QY.load_s rfl (Rd.own (by with_reducible first | exact k0 | exact k1 | exact k2 | exact k3 | exact k4 | exact k5 | exact k6 | exact k7 | exact k8 | exact k9 | fail)) (Reads.row1 RowL.row hy rfl) | exact QY.load_s rfl (Rd.own (by with_reducible first | exact k0 | exact k1 | exact k2 | exact k3 | exact k4 | exact k5 | exact k6 | exact k7 | exact k8 | exact k9 | fail)) (Reads.row0 RowL.row hy rfl) | exact QK.lds) ?_) <;> (first | (refine DW.exn 15 rfl rfl rfl ?_; intro hdk; refine DK.mk hdk (by (first | refine Ob.an rfl rfl rfl ?_ | refine Ob.au rfl rfl rfl ?_ | refine Ob.ay rfl rfl rfl (by first | exact QY.load_s rfl (Rd.own (by with_reducible first | exact k0 | exact k1 | exact k2 | exact k3 | exact k4 | exact k5 | exact k6 | exact k7 | exact k8 | exact k9 | fail)) (Reads.row1 RowL.row hy rfl) | exact QY.load_s rfl (Rd.own (by with_reducible first | exact k0 | exact k1 | exact k2 | exact k3 | exact k4 | exact k5 | exact k6 | exact k7 | exact k8 | exact k9 | fail)) (Reads.row0 RowL.row hy rfl) | exact QK.lds) ?_); (first | refine Ob.an rfl rfl rfl ?_ | refine Ob.au rfl rfl rfl ?_ | refine Ob.ay rfl rfl rfl QK.ia ?_); exact .nil) ?_; clear hdk) | (refine DW.exy 15 rfl rfl rfl ?_; intro hdk; ((first | refine EK.call (editE (q := y.word) (t := x.text) hys hq hyd.symm) ?_ | refine EK.call (editE (q := t) (t := x.text) hts hq hd) ?_); repeat' first | refine CP.r ?_ | refine CP.r0 ?_ | refine CP.exP fun e147 => ?_ | refine CP.puP fun h147 => ?_); all_goals (refine DK.mk hdk (by (first | refine Ob.an rfl rfl rfl ?_ | refine Ob.au rfl rfl rfl ?_ | refine Ob.ay rfl rfl rfl (by first | exact QY.load_s rfl (Rd.own (by with_reducible first | exact k0 | exact k1 | exact k2 | exact k3 | exact k4 | exact k5 | exact k6 | exact k7 | exact k8 | exact k9 | fail)) (Reads.row1 RowL.row hy rfl) | exact QY.load_s rfl (Rd.own (by with_reducible first | exact k0 | exact k1 | exact k2 | exact k3 | exact k4 | exact k5 | exact k6 | exact k7 | exact k8 | exact k9 | fail)) (Reads.row0 RowL.row hy rfl) | exact QK.lds) ?_); (first | refine Ob.an rfl rfl rfl ?_ | refine Ob.au rfl rfl rfl ?_ | refine Ob.ay rfl rfl rfl QK.ia ?_); exact .nil) ?_; clear hdk))) <;> (first | refine DW.pn 16 rfl rfl rfl ?_ | refine DW.pu 16 rfl rfl rfl ?_ | refine DW.py 16 rfl rfl rfl (fun _ => QK.nei) ?_) <;> refine DW.p 17 rfl (fun _ => QK.pk) ?_ <;> refine DW.p 18 rfl (fun _ => QK.mv) ?_ <;> (first | refine DW.pn 19 rfl rfl rfl ?_ | refine DW.pu 19 rfl rfl rfl ?_ | refine DW.py 19 rfl rfl rfl (fun _ => QK.mv) ?_ | ((first | refine DW.sP (t := 150) ?_ ?_ | refine DW.s (t := 150) ?_ ?_) <;> intro _ <;> first | contradiction | refine DW.pn 19 rfl rfl rfl ?_ | refine DW.pu 19 rfl rfl rfl ?_ | refine DW.py 19 rfl rfl rfl (fun _ => QK.mv) ?_)) <;> (first | refine DW.pn 20 rfl rfl rfl ?_ | refine DW.pu 20 rfl rfl rfl ?_ | refine DW.py 20 rfl rfl rfl (fun _ => QK.mv) ?_) <;> (first | refine DW.pn 24 rfl rfl rfl ?_ | refine DW.pu 24 rfl rfl rfl ?_ | refine DW.py 24 rfl rfl rfl (fun _ => QK.fa) ?_) <;> (first | refine DW.mn 21 rfl rfl rfl ?_ | refine DW.mu 21 rfl rfl rfl ?_ | refine DW.my 21 rfl rfl rfl QK.ia ?_) <;> (first | refine DW.pn 22 rfl rfl rfl ?_ | refine DW.pu 22 rfl rfl rfl ?_ | refine DW.py 22 rfl rfl rfl (fun _ => QK.fa) ?_) <;> (first | refine DW.mn 23 rfl rfl rfl ?_ | refine DW.mu 23 rfl rfl rfl ?_ | refine DW.my 23 rfl rfl rfl (by first | exact QY.load_s rfl (Rd.own (by with_reducible first | exact k0 | exact k1 | exact k2 | exact k3 | exact k4 | exact k5 | exact k6 | exact k7 | exact k8 | exact k9 | fail)) (Reads.row1 RowL.row hy rfl) | exact QY.load_s rfl (Rd.own (by with_reducible first | exact k0 | exact k1 | exact k2 | exact k3 | exact k4 | exact k5 | exact k6 | exact k7 | exact k8 | exact k9 | fail)) (Reads.row0 RowL.row hy rfl) | exact QK.lds) ?_) <;> (first | refine DW.mn 25 rfl rfl rfl ?_ | refine DW.mu 25 rfl rfl rfl ?_ | refine DW.my 25 rfl rfl rfl (by first | exact QY.load_s rfl (Rd.own (by with_reducible first | exact k0 | exact k1 | exact k2 | exact k3 | exact k4 | exact k5 | exact k6 | exact k7 | exact k8 | exact k9 | fail)) (Reads.row1 RowL.row hy rfl) | exact QY.load_s rfl (Rd.own (by with_reducible first | exact k0 | exact k1 | exact k2 | exact k3 | exact k4 | exact k5 | exact k6 | exact k7 | exact k8 | exact k9 | fail)) (Reads.row0 RowL.row hy rfl) | exact QK.lds) ?_) <;> (first | refine DW.pn 26 rfl rfl rfl ?_ | refine DW.pu 26 rfl rfl rfl ?_ | refine DW.py 26 rfl rfl rfl (fun _ => QK.gtr) ?_) <;> refine DW.p 27 rfl (fun _ => QK.pk) ?_ <;> refine DW.p 28 rfl (fun _ => QK.mv) ?_ <;> (first | refine DW.pn 29 rfl rfl rfl ?_ | refine DW.pu 29 rfl rfl rfl ?_ | refine DW.py 29 rfl rfl rfl (fun _ => QK.mv) ?_ | ((first | refine DW.sP (t := 160) ?_ ?_ | refine DW.s (t := 160) ?_ ?_) <;> intro _ <;> first | contradiction | refine DW.pn 29 rfl rfl rfl ?_ | refine DW.pu 29 rfl rfl rfl ?_ | refine DW.py 29 rfl rfl rfl (fun _ => QK.mv) ?_)) <;> (first | refine DW.pn 30 rfl rfl rfl ?_ | refine DW.pu 30 rfl rfl rfl ?_ | refine DW.py 30 rfl rfl rfl (fun _ => QK.gtr) ?_) <;> (first | refine DW.pn 31 rfl rfl rfl ?_ | refine DW.pu 31 rfl rfl rfl ?_ | refine DW.py 31 rfl rfl rfl (fun _ => QK.mv) ?_) <;> (first | refine DW.pn 32 rfl rfl rfl ?_ | refine DW.pu 32 rfl rfl rfl ?_ | refine DW.py 32 rfl rfl rfl (fun _ => QK.mv) ?_ | ((first | refine DW.sP (t := 163) ?_ ?_ | refine DW.s (t := 163) ?_ ?_) <;> intro _ <;> first | contradiction | refine DW.pn 32 rfl rfl rfl ?_ | refine DW.pu 32 rfl rfl rfl ?_ | refine DW.py 32 rfl rfl rfl (fun _ => QK.mv) ?_)) <;> (first | refine DW.pn 33 rfl rfl rfl ?_ | refine DW.pu 33 rfl rfl rfl ?_ | refine DW.py 33 rfl rfl rfl (fun _ => QK.mv) ?_) <;> (first | refine DW.pn 34 rfl rfl rfl ?_ | refine DW.pu 34 rfl rfl rfl ?_ | refine DW.py 34 rfl rfl rfl (fun _ => QK.sub) ?_) <;> (first | refine DW.pn 37 rfl rfl rfl ?_ | refine DW.pu 37 rfl rfl rfl ?_ | refine DW.py 37 rfl rfl rfl (fun _ => QK.mv) ?_) <;> (first | refine DW.pn 38 rfl rfl rfl ?_ | refine DW.pu 38 rfl rfl rfl ?_ | refine DW.py 38 rfl rfl rfl (fun _ => QK.mv) ?_) <;> (first | refine DW.mn 35 rfl rfl rfl ?_ | refine DW.mu 35 rfl rfl rfl ?_ | refine DW.my 35 rfl rfl rfl QK.ia ?_) <;> (first | refine DW.mn 36 rfl rfl rfl ?_ | refine DW.mu 36 rfl rfl rfl ?_ | refine DW.my 36 rfl rfl rfl (by first | exact QY.load_a rfl (Rd.own (by with_reducible first | exact k0 | exact k1 | exact k2 | exact k3 | exact k4 | exact k5 | exact k6 | exact k7 | exact k8 | exact k9 | fail)) (Reads.row RowL.row hy) rfl | exact QK.lda) ?_) <;> (first | refine DW.mn 39 rfl rfl rfl ?_ | refine DW.mu 39 rfl rfl rfl ?_ | refine DW.my 39 rfl rfl rfl QK.ia ?_) <;> (first | refine DW.mn 40 rfl rfl rfl ?_ | refine DW.mu 40 rfl rfl rfl ?_ | refine DW.my 40 rfl rfl rfl (by first | exact QY.load_a rfl (Rd.own (by with_reducible first | exact k0 | exact k1 | exact k2 | exact k3 | exact k4 | exact k5 | exact k6 | exact k7 | exact k8 | exact k9 | fail)) (Reads.row RowL.row hy) rfl | exact QK.lda) ?_) <;> (first | (refine DW.exn 41 rfl rfl rfl ?_; intro hdk; refine DK.mk hdk .nil ?_; clear hdk) | (refine DW.exy 41 rfl rfl rfl ?_; intro hdk; ((fail "no rule f38"); repeat' first | refine CP.r ?_ | refine CP.r0 ?_ | refine CP.exP fun e173 => ?_ | refine CP.puP fun h173 => ?_); all_goals (refine DK.mk hdk .nil ?_; clear hdk))) <;> (first | refine DW.pn 42 rfl rfl rfl ?_ | refine DW.pu 42 rfl rfl rfl ?_ | refine DW.py 42 rfl rfl rfl (fun _ => QK.not) ?_) <;> (first | refine DW.pn 43 rfl rfl rfl ?_ | refine DW.pu 43 rfl rfl rfl ?_ | refine DW.py 43 rfl rfl rfl (fun _ => QK.pk) ?_) <;> refine DW.p 44 rfl (fun _ => QK.pk) ?_ <;> refine DW.zz ?_)
    | (refine CW.region (i := 29) ?_ <;> refine KP.q QK.as ?_ <;> refine KP.list_nil ?_)
    | (refine CW.region (i := 26) ?_ <;> refine KP.q QK.mv ?_ <;> refine KP.q QK.add ?_ <;> refine KP.q QK.as ?_ <;> refine KP.list_nil ?_)
    | ((with_reducible apply KP.fin1); (· rfl); (· rfl)))
    exact KA.round (0 + 1) (by omega)
  · obtain ⟨yp, hyp⟩ := at_lt (xs := l) (i := i) (by omega)
    have hsub : Value.int .i64 (((i + 1 : Nat) : Int) - 1) = iv i := by simp
    have h8 := hstr i yp y hyp hy
    
    
    
    repeat' (first
    | (with_reducible refine CW.seq ?_)
    | (with_reducible refine KP.then_code ?_)
    | (with_reducible refine CW.skip ?_)
    | (with_reducible refine CW.ret ?_)
    | (with_reducible refine KP.then_ret ?_)
    | (with_reducible refine KP.block_ret ?_)
    | (with_reducible refine CW.block ?_)
    | (with_reducible refine KP.block_normal ?_)
    | (with_reducible refine CW.exit ?_)
    | (with_reducible refine KP.then_exit ?_)
    | (with_reducible refine KP.block_hit ?_)
    | refine KP.bm ?_
    | refine CW.ct ?_
    | refine CW.cf ?_
    | (refine CW.cP ?_ ?_ <;> intro _ <;> try contradiction)
    | (refine CW.cs ?_ ?_ <;> intro _ <;> try contradiction)
    | (refine CW.region (i := 25) ?_ <;> refine KP.q QK.mv ?_ <;> refine KP.q QK.mv ?_ <;> refine KP.q QK.len ?_ <;> refine KP.q QK.lss ?_ <;> refine KP.list_nil ?_)
    | (refine CW.region (i := 27) ?_ <;> refine KP.q QK.mv ?_ <;> refine KP.q QK.mv ?_ <;> refine KP.q QK.mv ?_ <;> refine KP.q QK.ia ?_ <;> refine KP.q QK.fa ?_ <;> refine KP.q (by first | exact QY.load_s rfl (Rd.own (by with_reducible first | exact k0 | exact k1 | exact k2 | exact k3 | exact k4 | exact k5 | exact k6 | exact k7 | exact k8 | exact k9 | fail)) (Reads.row1 RowL.row hy rfl) | exact QY.load_s rfl (Rd.own (by with_reducible first | exact k0 | exact k1 | exact k2 | exact k3 | exact k4 | exact k5 | exact k6 | exact k7 | exact k8 | exact k9 | fail)) (Reads.row0 RowL.row hy rfl) | exact QK.lds) ?_ <;> (refine KP.e ?_; ((refine EK.call (atE (v := v) (t := y.word) hgood.inc (by omega) (memB_iff.2 hyw)) ?_); repeat' first | refine CP.r ?_ | refine CP.r0 ?_ | refine CP.exP fun e129 => ?_ | refine CP.puP fun h129 => ?_)) <;> refine KP.q QK.mv ?_ <;> refine KP.q QK.ex ?_ <;> refine KP.q QK.ex ?_ <;> refine KP.q QK.as ?_ <;> refine KP.q QK.as ?_ <;> refine KP.list_nil ?_)
    | (((with_reducible refine CW.draw (i := 28) ?_ [[], [0], [0, 1], [0, 1, 2], [0, 1, 2], [0, 1, 2, 3, 4], [0, 1, 2, 3, 4, 5], [0, 1, 2, 3, 4, 5, 6], [0, 1, 2], [0, 1, 2], [0, 1, 2, 8, 9], [0, 1, 2, 8, 9, 10], [0, 1, 2, 8, 9, 10, 11], [0, 1, 2], [0, 1, 2, 13], [0, 1, 2, 8, 9, 10, 11, 12, 13, 14], [0, 1, 2, 3, 4, 5, 6, 7, 8, 9, 10, 11, 12, 13, 14, 15], [0, 1, 2, 3, 4, 5, 6, 7, 8, 9, 10, 11, 12, 13, 14, 15, 16], [0, 1, 2, 3, 4, 5, 6, 7, 8, 9, 10, 11, 12, 13, 14, 15, 16, 17], [0, 1, 2, 3, 4, 5, 6, 7, 8, 9, 10, 11, 12, 13, 14, 15, 16, 17, 18], [0, 1, 2, 3, 4, 5, 6, 7, 8, 9, 10, 11, 12, 13, 14, 15, 16, 17, 18], [0, 1, 2, 3, 4, 5, 6, 7, 8, 9, 10, 11, 12, 13, 14, 15, 16, 17, 18, 19, 20], [0, 1, 2, 3, 4, 5, 6, 7, 8, 9, 10, 11, 12, 13, 14, 15, 16, 17, 18, 19, 20, 21], [0, 1, 2, 3, 4, 5, 6, 7, 8, 9, 10, 11, 12, 13, 14, 15, 16, 17, 18, 19, 20, 21, 22], [0, 1, 2, 3, 4, 5, 6, 7, 8, 9, 10, 11, 12, 13, 14, 15, 16, 17, 18], [0, 1, 2, 3, 4, 5, 6, 7, 8, 9, 10, 11, 12, 13, 14, 15, 16, 17, 18, 24], [0, 1, 2, 3, 4, 5, 6, 7, 8, 9, 10, 11, 12, 13, 14, 15, 16, 17, 18, 19, 20, 21, 22, 23, 24, 25], [0, 1, 2, 3, 4, 5, 6, 7, 8, 9, 10, 11, 12, 13, 14, 15, 16, 17, 18, 19, 20, 21, 22, 23, 24, 25, 26], [0, 1, 2, 3, 4, 5, 6, 7, 8, 9, 10, 11, 12, 13, 14, 15, 16, 17, 18, 19, 20, 21, 22, 23, 24, 25, 26, 27], [0, 1, 2, 3, 4, 5, 6, 7, 8, 9, 10, 11, 12, 13, 14, 15, 16, 17, 18, 19, 20, 21, 22, 23, 24, 25, 26, 27, 28], [0, 1, 2, 3, 4, 5, 6, 7, 8, 9, 10, 11, 12, 13, 14, 15, 16, 17, 18, 19, 20, 21, 22, 23, 24, 25, 26, 27, 28, 29], [0, 1, 2, 3, 4, 5, 6, 7, 8, 9, 10, 11, 12, 13, 14, 15, 16, 17, 18, 19, 20, 21, 22, 23, 24, 25, 26, 27, 28, 29, 30], [0, 1, 2, 3, 4, 5, 6, 7, 8, 9, 10, 11, 12, 13, 14, 15, 16, 17, 18, 19, 20, 21, 22, 23, 24, 25, 26, 27, 28, 29, 30, 31], [0, 1, 2, 3, 4, 5, 6, 7, 8, 9, 10, 11, 12, 13, 14, 15, 16, 17, 18, 19, 20, 21, 22, 23, 24, 25, 26, 27, 28, 29, 30, 31], [0, 1, 2, 3, 4, 5, 6, 7, 8, 9, 10, 11, 12, 13, 14, 15, 16, 17, 18, 19, 20, 21, 22, 23, 24, 25, 26, 27, 28, 29, 30, 31, 33], [0, 1, 2, 3, 4, 5, 6, 7, 8, 9, 10, 11, 12, 13, 14, 15, 16, 17, 18, 19, 20, 21, 22, 23, 24, 25, 26, 27, 28, 29, 30, 31, 32, 33, 34], [0, 1, 2, 3, 4, 5, 6, 7, 8, 9, 10, 11, 12, 13, 14, 15, 16, 17, 18, 19, 20, 21, 22, 23, 24, 25, 26, 27, 28, 29, 30, 31, 32, 33, 34, 35], [0, 1, 2, 3, 4, 5, 6, 7, 8, 9, 10, 11, 12, 13, 14, 15, 16, 17, 18, 19, 20, 21, 22, 23, 24, 25, 26, 27, 28, 29, 30, 31], [0, 1, 2, 3, 4, 5, 6, 7, 8, 9, 10, 11, 12, 13, 14, 15, 16, 17, 18, 19, 20, 21, 22, 23, 24, 25, 26, 27, 28, 29, 30, 31], [0, 1, 2, 3, 4, 5, 6, 7, 8, 9, 10, 11, 12, 13, 14, 15, 16, 17, 18, 19, 20, 21, 22, 23, 24, 25, 26, 27, 28, 29, 30, 31, 37, 38], [0, 1, 2, 3, 4, 5, 6, 7, 8, 9, 10, 11, 12, 13, 14, 15, 16, 17, 18, 19, 20, 21, 22, 23, 24, 25, 26, 27, 28, 29, 30, 31, 37, 38, 39], [0, 1, 2, 3, 4, 5, 6, 7, 8, 9, 10, 11, 12, 13, 14, 15, 16, 17, 18, 19, 20, 21, 22, 23, 24, 25, 26, 27, 28, 29, 30, 31, 32, 33, 34, 35, 36, 37, 38, 39, 40], [0, 1, 2, 3, 4, 5, 6, 7, 8, 9, 10, 11, 12, 13, 14, 15, 16, 17, 18, 19, 20, 21, 22, 23, 24, 25, 26, 27, 28, 29, 30, 31, 32, 33, 34, 35, 36, 37, 38, 39, 40, 41], [0, 1, 2, 3, 4, 5, 6, 7, 8, 9, 10, 11, 12, 13, 14, 15, 16, 17, 18, 19, 20, 21, 22, 23, 24, 25, 26, 27, 28, 29, 30, 31, 32, 33, 34, 35, 36, 37, 38, 39, 40, 41, 42], [0, 1, 2, 3, 4, 5, 6, 7, 8, 9, 10, 11, 12, 13, 14, 15, 16, 17, 18, 19, 20, 21, 22, 23, 24, 25, 26, 27, 28, 29, 30, 31, 32, 33, 34, 35, 36, 37, 38, 39, 40, 41, 42, 43]] ?_ ?_ ?_ ?_); (· rfl); (· kernel_rfl); (· kernel_rfl); (· repeat (first | exact NoHang.post | refine NoHang.then ?_ | refine NoHang.block ?_))) <;> refine DW.p 0 rfl (fun _ => QK.mv) ?_ <;> refine DW.p 1 rfl (fun _ => QK.not) ?_ <;> refine DW.p 2 rfl (fun _ => QK.mv) ?_ <;> (first | refine DW.pn 3 rfl rfl rfl ?_ | refine DW.pu 3 rfl rfl rfl ?_ | refine DW.py 3 rfl rfl rfl (fun _ => QK.mv) ?_ | ((first | refine DW.sP (t := 134) ?_ ?_ | refine DW.s (t := 134) ?_ ?_) <;> intro _ <;> first | contradiction | refine DW.pn 3 rfl rfl rfl ?_ | refine DW.pu 3 rfl rfl rfl ?_ | refine DW.py 3 rfl rfl rfl (fun _ => QK.mv) ?_)) <;> (first | refine DW.pn 4 rfl rfl rfl ?_ | refine DW.pu 4 rfl rfl rfl ?_ | refine DW.py 4 rfl rfl rfl (fun _ => QK.mv) ?_) <;> (first | refine DW.pn 8 rfl rfl rfl ?_ | refine DW.pu 8 rfl rfl rfl ?_ | refine DW.py 8 rfl rfl rfl (fun _ => QK.mv) ?_) <;> (first | refine DW.pn 9 rfl rfl rfl ?_ | refine DW.pu 9 rfl rfl rfl ?_ | refine DW.py 9 rfl rfl rfl (fun _ => QK.mv) ?_) <;> (first | refine DW.pn 13 rfl rfl rfl ?_ | refine DW.pu 13 rfl rfl rfl ?_ | refine DW.py 13 rfl rfl rfl (fun _ => QK.fa) ?_) <;> (first | refine DW.mn 5 rfl rfl rfl ?_ | refine DW.mu 5 rfl rfl rfl ?_ | refine DW.my 5 rfl rfl rfl QK.ia ?_) <;> (first | refine DW.pn 6 rfl rfl rfl ?_ | refine DW.pu 6 rfl rfl rfl ?_ | refine DW.py 6 rfl rfl rfl (fun _ => QK.fa) ?_) <;> (first | refine DW.mn 7 rfl rfl rfl ?_ | refine DW.mu 7 rfl rfl rfl ?_ | refine DW.my 7 rfl rfl rfl (by first | exact QY.load_s rfl (Rd.own (by with_reducible first | exact k0 | exact k1 | exact k2 | exact k3 | exact k4 | exact k5 | exact k6 | exact k7 | exact k8 | exact k9 | fail)) (Reads.row1 RowL.row hy rfl) | exact QY.load_s rfl (Rd.own (by with_reducible first | exact k0 | exact k1 | exact k2 | exact k3 | exact k4 | exact k5 | exact k6 | exact k7 | exact k8 | exact k9 | fail)) (Reads.row0 RowL.row hy rfl) | exact QK.lds) ?_) <;> (first | refine DW.mn 10 rfl rfl rfl ?_ | refine DW.mu 10 rfl rfl rfl ?_ | refine DW.my 10 rfl rfl rfl QK.ia ?_) <;> (first | refine DW.pn 11 rfl rfl rfl ?_ | refine DW.pu 11 rfl rfl rfl ?_ | refine DW.py 11 rfl rfl rfl (fun _ => QK.fa) ?_) <;> (first | refine DW.mn 12 rfl rfl rfl ?_ | refine DW.mu 12 rfl rfl rfl ?_ | refine DW.my 12 rfl rfl rfl (by first | exact QY.load_s rfl (Rd.own (by with_reducible first | exact k0 | exact k1 | exact k2 | exact k3 | exact k4 | exact k5 | exact k6 | exact k7 | exact k8 | exact k9 | fail)) (Reads.row1 RowL.row hy rfl) | exact QY.load_s rfl (Rd.own (by with_reducible first | exact k0 | exact k1 | exact k2 | exact k3 | exact k4 | exact k5 | exact k6 | exact k7 | exact k8 | exact k9 | fail)) (Reads.row0 RowL.row hy rfl) | exact QK.lds) ?_) <;> (first | refine DW.mn 14 rfl rfl rfl ?_ | refine DW.mu 14 rfl rfl rfl ?_ | refine DW.my 14 rfl rfl rfl (by first | exact QY.load_s rfl (Rd.own (by with_reducible first | exact k0 | exact k1 | exact k2 | exact k3 | exact k4 | exact k5 | exact k6 | exact k7 | exact k8 | exact k9 | fail)) (Reads.row1 RowL.row hy rfl) | exact QY.load_s rfl (Rd.own (by with_reducible first | exact k0 | exact k1 | exact k2 | exact k3 | exact k4 | exact k5 | exact k6 | exact k7 | exact k8 | exact k9 | fail)) (Reads.row0 RowL.row hy rfl) | exact QK.lds) ?_) <;> (first | (refine DW.exn 15 rfl rfl rfl ?_; intro hdk; refine DK.mk hdk (by (first | refine Ob.an rfl rfl rfl ?_ | refine Ob.au rfl rfl rfl ?_ | refine Ob.ay rfl rfl rfl (by first | exact QY.load_s rfl (Rd.own (by with_reducible first | exact k0 | exact k1 | exact k2 | exact k3 | exact k4 | exact k5 | exact k6 | exact k7 | exact k8 | exact k9 | fail)) (Reads.row1 RowL.row hy rfl) | exact QY.load_s rfl (Rd.own (by with_reducible first | exact k0 | exact k1 | exact k2 | exact k3 | exact k4 | exact k5 | exact k6 | exact k7 | exact k8 | exact k9 | fail)) (Reads.row0 RowL.row hy rfl) | exact QK.lds) ?_); (first | refine Ob.an rfl rfl rfl ?_ | refine Ob.au rfl rfl rfl ?_ | refine Ob.ay rfl rfl rfl QK.ia ?_); exact .nil) ?_; clear hdk) | (refine DW.exy 15 rfl rfl rfl ?_; intro hdk; ((first | refine EK.call (editE (q := y.word) (t := x.text) hys hq hyd.symm) ?_ | refine EK.call (editE (q := t) (t := x.text) hts hq hd) ?_); repeat' first | refine CP.r ?_ | refine CP.r0 ?_ | refine CP.exP fun e147 => ?_ | refine CP.puP fun h147 => ?_); all_goals (refine DK.mk hdk (by (first | refine Ob.an rfl rfl rfl ?_ | refine Ob.au rfl rfl rfl ?_ | refine Ob.ay rfl rfl rfl (by first | exact QY.load_s rfl (Rd.own (by with_reducible first | exact k0 | exact k1 | exact k2 | exact k3 | exact k4 | exact k5 | exact k6 | exact k7 | exact k8 | exact k9 | fail)) (Reads.row1 RowL.row hy rfl) | exact QY.load_s rfl (Rd.own (by with_reducible first | exact k0 | exact k1 | exact k2 | exact k3 | exact k4 | exact k5 | exact k6 | exact k7 | exact k8 | exact k9 | fail)) (Reads.row0 RowL.row hy rfl) | exact QK.lds) ?_); (first | refine Ob.an rfl rfl rfl ?_ | refine Ob.au rfl rfl rfl ?_ | refine Ob.ay rfl rfl rfl QK.ia ?_); exact .nil) ?_; clear hdk))) <;> (first | refine DW.pn 16 rfl rfl rfl ?_ | refine DW.pu 16 rfl rfl rfl ?_ | refine DW.py 16 rfl rfl rfl (fun _ => QK.nei) ?_) <;> refine DW.p 17 rfl (fun _ => QK.pk) ?_ <;> refine DW.p 18 rfl (fun _ => QK.mv) ?_ <;> (first | refine DW.pn 19 rfl rfl rfl ?_ | refine DW.pu 19 rfl rfl rfl ?_ | refine DW.py 19 rfl rfl rfl (fun _ => QK.mv) ?_ | ((first | refine DW.sP (t := 150) ?_ ?_ | refine DW.s (t := 150) ?_ ?_) <;> intro _ <;> first | contradiction | refine DW.pn 19 rfl rfl rfl ?_ | refine DW.pu 19 rfl rfl rfl ?_ | refine DW.py 19 rfl rfl rfl (fun _ => QK.mv) ?_)) <;> (first | refine DW.pn 20 rfl rfl rfl ?_ | refine DW.pu 20 rfl rfl rfl ?_ | refine DW.py 20 rfl rfl rfl (fun _ => QK.mv) ?_) <;> (first | refine DW.pn 24 rfl rfl rfl ?_ | refine DW.pu 24 rfl rfl rfl ?_ | refine DW.py 24 rfl rfl rfl (fun _ => QK.fa) ?_) <;> (first | refine DW.mn 21 rfl rfl rfl ?_ | refine DW.mu 21 rfl rfl rfl ?_ | refine DW.my 21 rfl rfl rfl QK.ia ?_) <;> (first | refine DW.pn 22 rfl rfl rfl ?_ | refine DW.pu 22 rfl rfl rfl ?_ | refine DW.py 22 rfl rfl rfl (fun _ => QK.fa) ?_) <;> (first | refine DW.mn 23 rfl rfl rfl ?_ | refine DW.mu 23 rfl rfl rfl ?_ | refine DW.my 23 rfl rfl rfl (by first | exact QY.load_s rfl (Rd.own (by with_reducible first | exact k0 | exact k1 | exact k2 | exact k3 | exact k4 | exact k5 | exact k6 | exact k7 | exact k8 | exact k9 | fail)) (Reads.row1 RowL.row hy rfl) | exact QY.load_s rfl (Rd.own (by with_reducible first | exact k0 | exact k1 | exact k2 | exact k3 | exact k4 | exact k5 | exact k6 | exact k7 | exact k8 | exact k9 | fail)) (Reads.row0 RowL.row hy rfl) | exact QK.lds) ?_) <;> (first | refine DW.mn 25 rfl rfl rfl ?_ | refine DW.mu 25 rfl rfl rfl ?_ | refine DW.my 25 rfl rfl rfl (by first | exact QY.load_s rfl (Rd.own (by with_reducible first | exact k0 | exact k1 | exact k2 | exact k3 | exact k4 | exact k5 | exact k6 | exact k7 | exact k8 | exact k9 | fail)) (Reads.row1 RowL.row hy rfl) | exact QY.load_s rfl (Rd.own (by with_reducible first | exact k0 | exact k1 | exact k2 | exact k3 | exact k4 | exact k5 | exact k6 | exact k7 | exact k8 | exact k9 | fail)) (Reads.row0 RowL.row hy rfl) | exact QK.lds) ?_) <;> (first | refine DW.pn 26 rfl rfl rfl ?_ | refine DW.pu 26 rfl rfl rfl ?_ | refine DW.py 26 rfl rfl rfl (fun _ => QK.gtr) ?_) <;> refine DW.p 27 rfl (fun _ => QK.pk) ?_ <;> refine DW.p 28 rfl (fun _ => QK.mv) ?_ <;> (first | refine DW.pn 29 rfl rfl rfl ?_ | refine DW.pu 29 rfl rfl rfl ?_ | refine DW.py 29 rfl rfl rfl (fun _ => QK.mv) ?_ | ((first | refine DW.sP (t := 160) ?_ ?_ | refine DW.s (t := 160) ?_ ?_) <;> intro _ <;> first | contradiction | refine DW.pn 29 rfl rfl rfl ?_ | refine DW.pu 29 rfl rfl rfl ?_ | refine DW.py 29 rfl rfl rfl (fun _ => QK.mv) ?_)) <;> (first | refine DW.pn 30 rfl rfl rfl ?_ | refine DW.pu 30 rfl rfl rfl ?_ | refine DW.py 30 rfl rfl rfl (fun _ => QK.gtr) ?_) <;> (first | refine DW.pn 31 rfl rfl rfl ?_ | refine DW.pu 31 rfl rfl rfl ?_ | refine DW.py 31 rfl rfl rfl (fun _ => QK.mv) ?_) <;> (first | refine DW.pn 32 rfl rfl rfl ?_ | refine DW.pu 32 rfl rfl rfl ?_ | refine DW.py 32 rfl rfl rfl (fun _ => QK.mv) ?_ | ((first | refine DW.sP (t := 163) ?_ ?_ | refine DW.s (t := 163) ?_ ?_) <;> intro _ <;> first | contradiction | refine DW.pn 32 rfl rfl rfl ?_ | refine DW.pu 32 rfl rfl rfl ?_ | refine DW.py 32 rfl rfl rfl (fun _ => QK.mv) ?_)) <;> (first | refine DW.pn 33 rfl rfl rfl ?_ | refine DW.pu 33 rfl rfl rfl ?_ | refine DW.py 33 rfl rfl rfl (fun _ => QK.mv) ?_) <;> (first | refine DW.pn 34 rfl rfl rfl ?_ | refine DW.pu 34 rfl rfl rfl ?_ | refine DW.py 34 rfl rfl rfl (fun _ => (by first | exact QY.same (QY.sub64 rfl rfl (by omega)) hsub | exact QK.sub)) ?_) <;> (first | refine DW.pn 37 rfl rfl rfl ?_ | refine DW.pu 37 rfl rfl rfl ?_ | refine DW.py 37 rfl rfl rfl (fun _ => QK.mv) ?_) <;> (first | refine DW.pn 38 rfl rfl rfl ?_ | refine DW.pu 38 rfl rfl rfl ?_ | refine DW.py 38 rfl rfl rfl (fun _ => QK.mv) ?_) <;> (first | refine DW.mn 35 rfl rfl rfl ?_ | refine DW.mu 35 rfl rfl rfl ?_ | refine DW.my 35 rfl rfl rfl QK.ia ?_) <;> (first | refine DW.mn 36 rfl rfl rfl ?_ | refine DW.mu 36 rfl rfl rfl ?_ | refine DW.my 36 rfl rfl rfl (by first | exact QY.load_a rfl (Rd.own (by with_reducible first | exact k0 | exact k1 | exact k2 | exact k3 | exact k4 | exact k5 | exact k6 | exact k7 | exact k8 | exact k9 | fail)) (Reads.row RowL.row hyp) rfl | exact QY.load_a rfl (Rd.own (by with_reducible first | exact k0 | exact k1 | exact k2 | exact k3 | exact k4 | exact k5 | exact k6 | exact k7 | exact k8 | exact k9 | fail)) (Reads.row RowL.row hy) rfl | exact QK.lda) ?_) <;> (first | refine DW.mn 39 rfl rfl rfl ?_ | refine DW.mu 39 rfl rfl rfl ?_ | refine DW.my 39 rfl rfl rfl QK.ia ?_) <;> (first | refine DW.mn 40 rfl rfl rfl ?_ | refine DW.mu 40 rfl rfl rfl ?_ | refine DW.my 40 rfl rfl rfl (by first | exact QY.load_a rfl (Rd.own (by with_reducible first | exact k0 | exact k1 | exact k2 | exact k3 | exact k4 | exact k5 | exact k6 | exact k7 | exact k8 | exact k9 | fail)) (Reads.row RowL.row hyp) rfl | exact QY.load_a rfl (Rd.own (by with_reducible first | exact k0 | exact k1 | exact k2 | exact k3 | exact k4 | exact k5 | exact k6 | exact k7 | exact k8 | exact k9 | fail)) (Reads.row RowL.row hy) rfl | exact QK.lda) ?_) <;> (first | (refine DW.exn 41 rfl rfl rfl ?_; intro hdk; refine DK.mk hdk .nil ?_; clear hdk) | (refine DW.exy 41 rfl rfl rfl ?_; intro hdk; ((refine EK.call (lessE h8) ?_); repeat' first | refine CP.r ?_ | refine CP.r0 ?_ | refine CP.exP fun e173 => ?_ | refine CP.puP fun h173 => ?_); all_goals (refine DK.mk hdk .nil ?_; clear hdk))) <;> (first | refine DW.pn 42 rfl rfl rfl ?_ | refine DW.pu 42 rfl rfl rfl ?_ | refine DW.py 42 rfl rfl rfl (fun _ => QK.not) ?_) <;> (first | refine DW.pn 43 rfl rfl rfl ?_ | refine DW.pu 43 rfl rfl rfl ?_ | refine DW.py 43 rfl rfl rfl (fun _ => QK.pk) ?_) <;> refine DW.p 44 rfl (fun _ => QK.pk) ?_ <;> refine DW.zz ?_)
    | (refine CW.region (i := 29) ?_ <;> refine KP.q QK.as ?_ <;> refine KP.list_nil ?_)
    | (refine CW.region (i := 26) ?_ <;> refine KP.q QK.mv ?_ <;> refine KP.q QK.add ?_ <;> refine KP.q QK.as ?_ <;> refine KP.list_nil ?_)
    | ((with_reducible apply KP.fin1); (· rfl); (· rfl)))
    exact KA.round (i + 1 + 1) (by omega)

end Go.Proofs.Ytpmhelfdmhjnbaa
