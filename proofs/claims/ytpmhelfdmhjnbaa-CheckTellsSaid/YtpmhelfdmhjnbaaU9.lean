import Derived.Test.YtpmhelfdmhjnbaaU8
/- RankTop. -/
namespace Go.Proofs.Ytpmhelfdmhjnbaa
open Go Go.Ink Go.Plain
set_option linter.unusedVariables false
set_option linter.unusedSimpArgs false
attribute [local irreducible] KP QY EW CW DW DX QG CP Spc DK Fina wpList lessF lent

theorem keptT_t {b : Nat} {v : Value} {xs : List ByteArray} (hl : xs.length ≤ 100000) : Spc Try.prog 30 #[lentV b xs.length, v] [lent 9 1 eS b xs [markT, markT, markT], rrow 1 eS v xs] [] (ret (.bool true) []) := by
  have := keptT_spec (b := b) (v := v) (xs := xs) (ys := xs) hl
  simpa using this
theorem greatT_small {ts : List ByteArray} (h : greatT ts = false) : ∀ t ∈ ts, t.size ≤ 10000 := by
  intro t ht
  simp [greatT] at h
  have := h.2 t ht
  omega
theorem refTopE {v : Value} {ts : List ByteArray} {x : Qy} {l : List Item} (hq : x.text.size ≤ 10000) (hl : ts.length ≤ 40000) (ht : ∀ t ∈ ts, t.size ≤ 10000) (h : topF ts x = l) : Spc Try.prog 28 #[v, .agg (eQ x).toArray] [rrow 1 eS v ts] [] (exP fun v' => puP (v'.oneCell' = true) (ret v' [row 39 2 eI v' l])) := h ▸ refTop_spec hq hl ht
theorem refAllE {v : Value} {ts : List ByteArray} {q : ByteArray} {k : Int} {l : List Item} (hq : q.size ≤ 10000) (hl : ts.length ≤ 40000) (ht : ∀ t ∈ ts, t.size ≤ 10000) (h : allF ts q k = l) : Spc Try.prog 29 #[v, .string q, iv k] [rrow 1 eS v ts] [] (exP fun v' => puP (v'.oneCell' = true) (ret v' [row 39 2 eI v' l])) := h ▸ refAll_spec hq hl ht
theorem all2E {v : Value} {ts : List ByteArray} {q : ByteArray} {k : Int} {l : List Item} (hq : q.size ≤ 1000000) (hl : ts.length ≤ 50000) (ht : ∀ t ∈ ts, t.size ≤ 1000000) (h : allF ts q k = l) : Spc Try.prog 24 #[v, .string q, iv k] [rrow 1 eS v ts] [] (exP fun v' => puP (v'.oneCell' = true) (ret v' [row 39 2 eI v' l])) := h ▸ all_spec hq hl ht
theorem topU_few (ts : List ByteArray) (x : Qy) : (topF ts x).length ≤ ts.length := by
  have := nears_len x.text x.most ts
  have h2 : (allF ts x.text x.most).length = (nearsF x.text x.most ts).length := sortF_len _
  unfold topF
  split
  · rw [List.length_take]; omega
  · simp

set_option maxHeartbeats 8000000 in
theorem rankTop_spec {v : Value} {ts : List ByteArray} {x : Qy} : Spc Try.prog 3 #[v, .agg (eQ x).toArray] [rrow 1 eS v ts] [] (ret (.bool true) []) := by
  refine Spc.enter' (args := [v, .agg (eQ x).toArray]) (T0 := [(0, v), (1, .agg (eQ x).toArray)]) Try.func3 rfl Try.ntmps3 (Nat.le_of_ble_eq_true rfl) rfl ?_
  intro w0 own
  cases hg : greatT ts
  rotate_left
  · 
    repeat' (first
    | (with_reducible refine CW.seq ?_)
    | (with_reducible refine KP.then_code ?_)
    | (with_reducible refine CW.skip ?_)
    | (with_reducible refine CW.ret ?_)
    | (with_reducible refine KP.then_ret ?_)
    | (with_reducible refine KP.block_ret ?_)
    | (with_reducible refine CW.block ?_)
    | (with_reducible refine KP.block_normal ?_)
    | (with_reducible refine CW.exit ?_)
    | (with_reducible refine KP.then_exit ?_)
    | (with_reducible refine KP.block_hit ?_)
    | refine KP.bm ?_
    | refine CW.ct ?_
    | refine CW.cf ?_
    | (refine CW.cP ?_ ?_ <;> intro _ <;> try contradiction)
    | (refine CW.cs ?_ ?_ <;> intro _ <;> try contradiction)
    | (refine CW.region (i := 0) ?_ <;> (refine KP.e ?_; (refine EK.box_a ?_; intro b3)) <;> refine KP.q QK.as ?_ <;> refine KP.list_nil ?_)
    | (refine CW.region (i := 1) ?_ <;> refine KP.q QK.mv ?_ <;> (refine KP.e ?_; ((refine EK.call (greatE hg) ?_); repeat' first | refine CP.r ?_ | refine CP.r0 ?_ | refine CP.exP fun e10 => ?_ | refine CP.puP fun h10 => ?_)) <;> refine KP.q QK.mv ?_ <;> (first | refine KP.gn ?_ | refine KP.gu ?_ | refine KP.qy QK.fa ?_ | ((first | refine KP.gsP (t := 11) ?_ ?_ | refine KP.gs (t := 11) ?_ ?_) <;> intro _ <;> first | contradiction | refine KP.gn ?_ | refine KP.qy QK.fa ?_)) <;> (first | refine KP.gn ?_ | refine KP.gu ?_ | refine KP.qy QK.lds ?_) <;> (first | refine KP.gn ?_ | refine KP.gu ?_ | refine KP.qy QK.len ?_) <;> (first | refine KP.gn ?_ | refine KP.gu ?_ | refine KP.qy QK.gtr ?_) <;> refine KP.q QK.pk ?_ <;> refine KP.list_nil ?_)
    | (refine CW.region (i := 2) ?_ <;> (refine KP.e ?_; ((refine EK.call (awakeR) ?_); repeat' first | refine CP.r ?_ | refine CP.r0 ?_ | refine CP.exP fun e17 => ?_ | refine CP.puP fun h17 => ?_)) <;> refine KP.q QK.as ?_ <;> refine KP.list_nil ?_)
    | ((with_reducible apply KP.fin1); (· rfl); (· rfl)))
    exact FA.ret
  have hl := greatT_len hg
  have ht := greatT_size hg
  have ht2 := greatT_small hg
  
  
  by_cases hq0 : 100 < (x.text.size : Int)
  · repeat' (first
    | (with_reducible refine CW.seq ?_)
    | (with_reducible refine KP.then_code ?_)
    | (with_reducible refine CW.skip ?_)
    | (with_reducible refine CW.ret ?_)
    | (with_reducible refine KP.then_ret ?_)
    | (with_reducible refine KP.block_ret ?_)
    | (with_reducible refine CW.block ?_)
    | (with_reducible refine KP.block_normal ?_)
    | (with_reducible refine CW.exit ?_)
    | (with_reducible refine KP.then_exit ?_)
    | (with_reducible refine KP.block_hit ?_)
    | refine KP.bm ?_
    | refine CW.ct ?_
    | refine CW.cf ?_
    | (refine CW.cP ?_ ?_ <;> intro _ <;> try contradiction)
    | (refine CW.cs ?_ ?_ <;> intro _ <;> try contradiction)
    | (refine CW.region (i := 0) ?_ <;> (refine KP.e ?_; (refine EK.box_a ?_; intro b3)) <;> refine KP.q QK.as ?_ <;> refine KP.list_nil ?_)
    | (refine CW.region (i := 1) ?_ <;> refine KP.q QK.mv ?_ <;> (refine KP.e ?_; ((refine EK.call (greatE hg) ?_); repeat' first | refine CP.r ?_ | refine CP.r0 ?_ | refine CP.exP fun e10 => ?_ | refine CP.puP fun h10 => ?_)) <;> refine KP.q QK.mv ?_ <;> (first | refine KP.gn ?_ | refine KP.gu ?_ | refine KP.qy QK.fa ?_ | ((first | refine KP.gsP (t := 11) ?_ ?_ | refine KP.gs (t := 11) ?_ ?_) <;> intro _ <;> first | contradiction | refine KP.gn ?_ | refine KP.qy QK.fa ?_)) <;> (first | refine KP.gn ?_ | refine KP.gu ?_ | refine KP.qy QK.lds ?_) <;> (first | refine KP.gn ?_ | refine KP.gu ?_ | refine KP.qy QK.len ?_) <;> (first | refine KP.gn ?_ | refine KP.gu ?_ | refine KP.qy QK.gtr ?_) <;> refine KP.q QK.pk ?_ <;> refine KP.list_nil ?_)
    | (refine CW.region (i := 2) ?_ <;> (refine KP.e ?_; ((refine EK.call (awakeR) ?_); repeat' first | refine CP.r ?_ | refine CP.r0 ?_ | refine CP.exP fun e17 => ?_ | refine CP.puP fun h17 => ?_)) <;> refine KP.q QK.as ?_ <;> refine KP.list_nil ?_)
    | ((with_reducible apply KP.fin1); (· rfl); (· rfl)))
    exact FA.ret
  have hq : x.text.size ≤ 1000000 := by omega
  have hq2 : x.text.size ≤ 10000 := by omega
  have hfew := topU_few ts x
  have hfa : (allF ts x.text x.most).length = (nearsF x.text x.most ts).length := sortF_len _
  have hfn := nears_len x.text x.most ts
  obtain ⟨l, hl1⟩ : ∃ l, topF ts x = l := ⟨_, rfl⟩
  obtain ⟨m, hm1⟩ : ∃ m, allF ts x.text x.most = m := ⟨_, rfl⟩
  obtain ⟨y, hy1⟩ : ∃ y, mayF x = y := ⟨_, rfl⟩
  rw [hl1] at hfew
  rw [hm1] at hfa
  
  repeat' (first
    | (with_reducible refine CW.seq ?_)
    | (with_reducible refine KP.then_code ?_)
    | (with_reducible refine CW.skip ?_)
    | (with_reducible refine CW.ret ?_)
    | (with_reducible refine KP.then_ret ?_)
    | (with_reducible refine KP.block_ret ?_)
    | (with_reducible refine CW.block ?_)
    | (with_reducible refine KP.block_normal ?_)
    | (with_reducible refine CW.exit ?_)
    | (with_reducible refine KP.then_exit ?_)
    | (with_reducible refine KP.block_hit ?_)
    | refine KP.bm ?_
    | refine CW.ct ?_
    | refine CW.cf ?_
    | (refine CW.cP ?_ ?_ <;> intro _ <;> try contradiction)
    | (refine CW.cs ?_ ?_ <;> intro _ <;> try contradiction)
    | (refine CW.region (i := 0) ?_ <;> (refine KP.e ?_; (refine EK.box_a ?_; intro b3)) <;> refine KP.q QK.as ?_ <;> refine KP.list_nil ?_)
    | (refine CW.region (i := 1) ?_ <;> refine KP.q QK.mv ?_ <;> (refine KP.e ?_; ((refine EK.call (greatE hg) ?_); repeat' first | refine CP.r ?_ | refine CP.r0 ?_ | refine CP.exP fun e10 => ?_ | refine CP.puP fun h10 => ?_)) <;> refine KP.q QK.mv ?_ <;> (first | refine KP.gn ?_ | refine KP.gu ?_ | refine KP.qy QK.fa ?_ | ((first | refine KP.gsP (t := 11) ?_ ?_ | refine KP.gs (t := 11) ?_ ?_) <;> intro _ <;> first | contradiction | refine KP.gn ?_ | refine KP.qy QK.fa ?_)) <;> (first | refine KP.gn ?_ | refine KP.gu ?_ | refine KP.qy QK.lds ?_) <;> (first | refine KP.gn ?_ | refine KP.gu ?_ | refine KP.qy QK.len ?_) <;> (first | refine KP.gn ?_ | refine KP.gu ?_ | refine KP.qy QK.gtr ?_) <;> refine KP.q QK.pk ?_ <;> refine KP.list_nil ?_)
    | (refine CW.region (i := 3) ?_ <;> refine KP.q QK.mv ?_ <;> (refine KP.e ?_; ((refine EK.call (lendT_spec (xs := ts) (by omega)) ?_); repeat' first | refine CP.r ?_ | refine CP.r0 ?_ | refine CP.exP fun e19 => ?_ | refine CP.puP fun h19 => ?_)) <;> refine KP.q QK.as ?_ <;> refine KP.list_nil ?_)
    | ((with_reducible apply KP.fin1); (· rfl); (· rfl)))
  
  
  repeat' (first
    | (with_reducible refine CW.seq ?_)
    | (with_reducible refine KP.then_code ?_)
    | (with_reducible refine CW.skip ?_)
    | (with_reducible refine CW.ret ?_)
    | (with_reducible refine KP.then_ret ?_)
    | (with_reducible refine KP.block_ret ?_)
    | (with_reducible refine CW.block ?_)
    | (with_reducible refine KP.block_normal ?_)
    | (with_reducible refine CW.exit ?_)
    | (with_reducible refine KP.then_exit ?_)
    | (with_reducible refine KP.block_hit ?_)
    | refine KP.bm ?_
    | refine CW.ct ?_
    | refine CW.cf ?_
    | (refine CW.cP ?_ ?_ <;> intro _ <;> try contradiction)
    | (refine CW.cs ?_ ?_ <;> intro _ <;> try contradiction)
    | (refine CW.region (i := 4) ?_ <;> refine KP.q QK.mv ?_ <;> refine KP.q QK.lda ?_ <;> (refine KP.e ?_; ((refine EK.call (topE (v := lentV e19 ts.length) (ts := ts) hq (by omega) ht hl1) ?_ rfl Split.nil (.cons (.via (RowL.lent (ys := [markT, markT, markT]) (by simp)) (by with_reducible first | exact k0 | exact k1 | exact k2 | exact k3 | exact k4 | exact k5 | exact k6 | exact k7 | exact k8 | exact k9 | fail)) .nil)); repeat' first | refine CP.r ?_ | refine CP.r0 ?_ | refine CP.exP fun e22 => ?_ | refine CP.puP fun h22 => ?_)) <;> refine KP.q QK.as ?_ <;> refine KP.list_nil ?_)
    | (refine CW.region (i := 5) ?_ <;> refine KP.q QK.mv ?_ <;> refine KP.q QK.fa ?_ <;> refine KP.q QK.lds ?_ <;> refine KP.q QK.fa ?_ <;> refine KP.q QK.lds ?_ <;> (refine KP.e ?_; ((refine EK.call (all2E (v := lentV e19 ts.length) (ts := ts) hq (by omega) ht hm1) ?_ rfl Split.nil (.cons (.via (RowL.lent (ys := [markT, markT, markT]) (by simp)) (by with_reducible first | exact k0 | exact k1 | exact k2 | exact k3 | exact k4 | exact k5 | exact k6 | exact k7 | exact k8 | exact k9 | fail)) .nil)); repeat' first | refine CP.r ?_ | refine CP.r0 ?_ | refine CP.exP fun e28 => ?_ | refine CP.puP fun h28 => ?_)) <;> refine KP.q QK.as ?_ <;> refine KP.list_nil ?_)
    | ((with_reducible apply KP.fin1); (· rfl); (· rfl)))
  
  
  
  
  
  
  
  
  
  have hyy : (y == y) = true := by cases y <;> rfl
  cases y
  · repeat' (first
    | (with_reducible refine CW.seq ?_)
    | (with_reducible refine KP.then_code ?_)
    | (with_reducible refine CW.skip ?_)
    | (with_reducible refine CW.ret ?_)
    | (with_reducible refine KP.then_ret ?_)
    | (with_reducible refine KP.block_ret ?_)
    | (with_reducible refine CW.block ?_)
    | (with_reducible refine KP.block_normal ?_)
    | (with_reducible refine CW.exit ?_)
    | (with_reducible refine KP.then_exit ?_)
    | (with_reducible refine KP.block_hit ?_)
    | refine KP.bm ?_
    | refine CW.ct ?_
    | refine CW.cf ?_
    | (refine CW.cP ?_ ?_ <;> intro _ <;> try contradiction)
    | (refine CW.cs ?_ ?_ <;> intro _ <;> try contradiction)
    | (((with_reducible refine CW.draw (i := 6) ?_ [[], [0], [], [0, 1, 2], [0, 1, 2, 3], [0, 1, 2, 3, 4], [0, 1, 2, 3, 4, 5], [0, 1, 2, 3, 4, 5], [0, 1, 2, 3, 4, 5], [0, 1, 2, 3, 4, 5, 7, 8], [0, 1, 2, 3, 4, 5, 6, 7, 8, 9], [0, 1, 2, 3, 4, 5, 6, 7, 8, 9, 10], [0, 1, 2, 3, 4, 5, 6, 7, 8, 9, 10, 11], [0, 1, 2, 3, 4, 5, 6, 7, 8, 9, 10, 11, 12], [0, 1, 2, 3, 4, 5, 6, 7, 8, 9, 10, 11, 12], [0, 1, 2, 3, 4, 5, 6, 7, 8, 9, 10, 11, 12], [0, 1, 2, 3, 4, 5, 6, 7, 8, 9, 10, 11, 12, 15], [0, 1, 2, 3, 4, 5, 6, 7, 8, 9, 10, 11, 12], [0, 1, 2, 3, 4, 5, 6, 7, 8, 9, 10, 11, 12, 17], [0, 1, 2, 3, 4, 5, 6, 7, 8, 9, 10, 11, 12, 14, 15, 16, 17, 18], [0, 1, 2, 3, 4, 5, 6, 7, 8, 9, 10, 11, 12, 13, 14, 15, 16, 17, 18, 19], [0, 1, 2, 3, 4, 5, 6, 7, 8, 9, 10, 11, 12, 13, 14, 15, 16, 17, 18, 19, 20], [0, 1, 2, 3, 4, 5, 6, 7, 8, 9, 10, 11, 12, 13, 14, 15, 16, 17, 18, 19, 20, 21], [0, 1, 2, 3, 4, 5, 6, 7, 8, 9, 10, 11, 12, 13, 14, 15, 16, 17, 18, 19, 20, 21, 22], [0, 1, 2, 3, 4, 5, 6, 7, 8, 9, 10, 11, 12, 13, 14, 15, 16, 17, 18, 19, 20, 21, 22], [0, 1, 2, 3, 4, 5, 6, 7, 8, 9, 10, 11, 12, 13, 14, 15, 16, 17, 18, 19, 20, 21, 22, 23, 24], [0, 1, 2, 3, 4, 5, 6, 7, 8, 9, 10, 11, 12, 13, 14, 15, 16, 17, 18, 19, 20, 21, 22, 23, 24, 25], [0, 1, 2, 3, 4, 5, 6, 7, 8, 9, 10, 11, 12, 13, 14, 15, 16, 17, 18, 19, 20, 21, 22, 23, 24, 25, 26]] ?_ ?_ ?_ ?_); (· rfl); (· kernel_rfl); (· kernel_rfl); (· repeat (first | exact NoHang.post | refine NoHang.then ?_ | refine NoHang.block ?_))) <;> refine DW.m 0 rfl QK.lda ?_ <;> refine DW.m 2 rfl QK.lda ?_ <;> (refine DW.ex 1 rfl ?_; intro hdk; ((refine EK.call (mayE hq hy1) ?_); repeat' first | refine CP.r ?_ | refine CP.r0 ?_ | refine CP.exP fun e30 => ?_ | refine CP.puP fun h30 => ?_); all_goals (refine DK.mk hdk (by refine Ob.ap rfl QK.lda ?_; exact .nil) ?_; clear hdk)) <;> (refine DW.ex 3 rfl ?_; intro hdk; ((refine EK.call (refMayE hq hy1) ?_); repeat' first | refine CP.r ?_ | refine CP.r0 ?_ | refine CP.exP fun e32 => ?_ | refine CP.puP fun h32 => ?_); all_goals (refine DK.mk hdk .nil ?_; clear hdk)) <;> refine DW.p 4 rfl (fun _ => QK.eqb) ?_ <;> refine DW.p 5 rfl (fun _ => QK.mv) ?_ <;> (first | refine DW.pn 6 rfl rfl rfl ?_ | refine DW.pu 6 rfl rfl rfl ?_ | refine DW.py 6 rfl rfl rfl (fun _ => QK.mv) ?_ | ((first | refine DW.sP (t := 34) ?_ ?_ | refine DW.s (t := 34) ?_ ?_) <;> intro _ <;> first | contradiction | refine DW.pn 6 rfl rfl rfl ?_ | refine DW.pu 6 rfl rfl rfl ?_ | refine DW.py 6 rfl rfl rfl (fun _ => QK.mv) ?_)) <;> (first | refine DW.pn 7 rfl rfl rfl ?_ | refine DW.pu 7 rfl rfl rfl ?_ | refine DW.py 7 rfl rfl rfl (fun _ => QK.mv) ?_) <;> (first | refine DW.mn 8 rfl rfl rfl ?_ | refine DW.mu 8 rfl rfl rfl ?_ | refine DW.my 8 rfl rfl rfl QK.lda ?_) <;> (first | (refine DW.exn 9 rfl rfl rfl ?_; intro hdk; refine DK.mk hdk .nil ?_; clear hdk) | (refine DW.exy 9 rfl rfl rfl ?_; intro hdk; ((refine EK.call (refTopE (v := v) hq2 (by omega) ht2 hl1) ?_); repeat' first | refine CP.r ?_ | refine CP.r0 ?_ | refine CP.exP fun e38 => ?_ | refine CP.puP fun h38 => ?_); all_goals (refine DK.mk hdk .nil ?_; clear hdk))) <;> (first | (refine DW.exn 10 rfl rfl rfl ?_; intro hdk; refine DK.mk hdk .nil ?_; clear hdk) | (refine DW.exy 10 rfl rfl rfl ?_; intro hdk; ((first | refine EK.call (sameE (va := e22) (xs := l)) ?_ | refine EK.call (sameE (va := e28) (xs := m)) ?_); repeat' first | refine CP.r ?_ | refine CP.r0 ?_ | refine CP.exP fun e39 => ?_ | refine CP.puP fun h39 => ?_); all_goals (refine DK.mk hdk .nil ?_; clear hdk))) <;> refine DW.p 11 rfl (fun _ => QK.pk) ?_ <;> refine DW.p 12 rfl (fun _ => QK.mv) ?_ <;> (first | refine DW.pn 13 rfl rfl rfl ?_ | refine DW.pu 13 rfl rfl rfl ?_ | refine DW.py 13 rfl rfl rfl (fun _ => QK.mv) ?_ | ((first | refine DW.sP (t := 41) ?_ ?_ | refine DW.s (t := 41) ?_ ?_) <;> intro _ <;> first | contradiction | refine DW.pn 13 rfl rfl rfl ?_ | refine DW.pu 13 rfl rfl rfl ?_ | refine DW.py 13 rfl rfl rfl (fun _ => QK.mv) ?_)) <;> (first | refine DW.pn 14 rfl rfl rfl ?_ | refine DW.pu 14 rfl rfl rfl ?_ | refine DW.py 14 rfl rfl rfl (fun _ => QK.mv) ?_) <;> (first | refine DW.pn 15 rfl rfl rfl ?_ | refine DW.pu 15 rfl rfl rfl ?_ | refine DW.py 15 rfl rfl rfl (fun _ => QK.fa) ?_) <;> (first | refine DW.pn 17 rfl rfl rfl ?_ | refine DW.pu 17 rfl rfl rfl ?_ | refine DW.py 17 rfl rfl rfl (fun _ => QK.fa) ?_) <;> (first | refine DW.mn 16 rfl rfl rfl ?_ | refine DW.mu 16 rfl rfl rfl ?_ | refine DW.my 16 rfl rfl rfl QK.lds ?_) <;> (first | refine DW.mn 18 rfl rfl rfl ?_ | refine DW.mu 18 rfl rfl rfl ?_ | refine DW.my 18 rfl rfl rfl QK.lds ?_) <;> (first | (refine DW.exn 19 rfl rfl rfl ?_; intro hdk; refine DK.mk hdk .nil ?_; clear hdk) | (refine DW.exy 19 rfl rfl rfl ?_; intro hdk; ((refine EK.call (refAllE (v := v) hq2 (by omega) ht2 hm1) ?_); repeat' first | refine CP.r ?_ | refine CP.r0 ?_ | refine CP.exP fun e48 => ?_ | refine CP.puP fun h48 => ?_); all_goals (refine DK.mk hdk .nil ?_; clear hdk))) <;> (first | (refine DW.exn 20 rfl rfl rfl ?_; intro hdk; refine DK.mk hdk .nil ?_; clear hdk) | (refine DW.exy 20 rfl rfl rfl ?_; intro hdk; ((first | refine EK.call (sameE (va := e22) (xs := l)) ?_ | refine EK.call (sameE (va := e28) (xs := m)) ?_); repeat' first | refine CP.r ?_ | refine CP.r0 ?_ | refine CP.exP fun e49 => ?_ | refine CP.puP fun h49 => ?_); all_goals (refine DK.mk hdk .nil ?_; clear hdk))) <;> refine DW.p 21 rfl (fun _ => QK.pk) ?_ <;> refine DW.p 22 rfl (fun _ => QK.mv) ?_ <;> (first | refine DW.pn 23 rfl rfl rfl ?_ | refine DW.pu 23 rfl rfl rfl ?_ | refine DW.py 23 rfl rfl rfl (fun _ => QK.mv) ?_ | ((first | refine DW.sP (t := 51) ?_ ?_ | refine DW.s (t := 51) ?_ ?_) <;> intro _ <;> first | contradiction | refine DW.pn 23 rfl rfl rfl ?_ | refine DW.pu 23 rfl rfl rfl ?_ | refine DW.py 23 rfl rfl rfl (fun _ => QK.mv) ?_)) <;> (first | refine DW.pn 24 rfl rfl rfl ?_ | refine DW.pu 24 rfl rfl rfl ?_ | refine DW.py 24 rfl rfl rfl (fun _ => QK.mv) ?_) <;> (first | (refine DW.exn 25 rfl rfl rfl ?_; intro hdk; refine DK.mk hdk .nil ?_; clear hdk) | (refine DW.exy 25 rfl rfl rfl ?_; intro hdk; ((refine EK.call (keptT_t (b := e19) (xs := ts) (by omega)) ?_); repeat' first | refine CP.r ?_ | refine CP.r0 ?_ | refine CP.exP fun e54 => ?_ | refine CP.puP fun h54 => ?_); all_goals (refine DK.mk hdk .nil ?_; clear hdk))) <;> refine DW.p 26 rfl (fun _ => QK.pk) ?_ <;> refine DW.p 27 rfl (fun _ => QK.as) ?_ <;> refine DW.zz ?_)
    | (refine CW.region (i := 7) ?_ <;> refine KP.q QK.mv ?_ <;> (refine KP.e ?_; ((first | refine EK.call (over_spec (v := e22) (xs := l) (by omega)) ?_ | refine EK.call (over_spec (v := e28) (xs := m) (by omega)) ?_); repeat' first | refine CP.r ?_ | refine CP.r0 ?_ | refine CP.exP fun e57 => ?_ | refine CP.puP fun h57 => ?_)) <;> refine KP.list_nil ?_)
    | (refine CW.region (i := 8) ?_ <;> refine KP.q QK.mv ?_ <;> (refine KP.e ?_; ((first | refine EK.call (over_spec (v := e22) (xs := l) (by omega)) ?_ | refine EK.call (over_spec (v := e28) (xs := m) (by omega)) ?_); repeat' first | refine CP.r ?_ | refine CP.r0 ?_ | refine CP.exP fun e59 => ?_ | refine CP.puP fun h59 => ?_)) <;> refine KP.list_nil ?_)
    | ((with_reducible apply KP.fin1); (· rfl); (· rfl)))
    
    
    repeat' (first
    | (with_reducible refine CW.seq ?_)
    | (with_reducible refine KP.then_code ?_)
    | (with_reducible refine CW.skip ?_)
    | (with_reducible refine CW.ret ?_)
    | (with_reducible refine KP.then_ret ?_)
    | (with_reducible refine KP.block_ret ?_)
    | (with_reducible refine CW.block ?_)
    | (with_reducible refine KP.block_normal ?_)
    | (with_reducible refine CW.exit ?_)
    | (with_reducible refine KP.then_exit ?_)
    | (with_reducible refine KP.block_hit ?_)
    | refine KP.bm ?_
    | refine CW.ct ?_
    | refine CW.cf ?_
    | (refine CW.cP ?_ ?_ <;> intro _ <;> try contradiction)
    | (refine CW.cs ?_ ?_ <;> intro _ <;> try contradiction)
    | (((with_reducible refine CW.draw (i := 9) ?_ [[], [0], [0, 1], [0, 1], [0, 1, 2, 3], [0, 1], [0, 1], [0, 1, 2, 3, 4, 5, 6], [0, 1, 2, 3, 4, 5, 6, 7], [0, 1, 2, 3, 4, 5, 6, 7, 8], [0, 1, 2, 3, 4, 5, 6, 7, 8, 9], [0, 1, 2, 3, 4, 5, 6, 7, 8, 9, 10], [0, 1, 2, 3, 4, 5, 6, 7, 8, 9, 10, 11], [0, 1, 2, 3, 4, 5, 6, 7, 8, 9, 10, 11, 12]] ?_ ?_ ?_ ?_); (· rfl); (· kernel_rfl); (· kernel_rfl); (· repeat (first | exact NoHang.post | refine NoHang.then ?_ | refine NoHang.block ?_))) <;> refine DW.p 0 rfl (fun _ => QK.mv) ?_ <;> refine DW.p 1 rfl (fun _ => QK.mv) ?_ <;> (first | refine DW.pn 2 rfl rfl rfl ?_ | refine DW.pu 2 rfl rfl rfl ?_ | refine DW.py 2 rfl rfl rfl (fun _ => QK.mv) ?_ | ((first | refine DW.sP (t := 61) ?_ ?_ | refine DW.s (t := 61) ?_ ?_) <;> intro _ <;> first | contradiction | refine DW.pn 2 rfl rfl rfl ?_ | refine DW.pu 2 rfl rfl rfl ?_ | refine DW.py 2 rfl rfl rfl (fun _ => QK.mv) ?_)) <;> (first | refine DW.pn 5 rfl rfl rfl ?_ | refine DW.pu 5 rfl rfl rfl ?_ | refine DW.py 5 rfl rfl rfl (fun _ => QK.mv) ?_) <;> (first | refine DW.mn 3 rfl rfl rfl ?_ | refine DW.mu 3 rfl rfl rfl ?_ | refine DW.my 3 rfl rfl rfl QK.lda ?_) <;> (first | refine DW.mn 6 rfl rfl rfl ?_ | refine DW.mu 6 rfl rfl rfl ?_ | refine DW.my 6 rfl rfl rfl QK.lda ?_) <;> (first | (refine DW.exn 4 rfl rfl rfl ?_; intro hdk; refine DK.mk hdk (by (first | refine Ob.an rfl rfl rfl ?_ | refine Ob.au rfl rfl rfl ?_ | refine Ob.ay rfl rfl rfl QK.lda ?_); exact .nil) ?_; clear hdk) | (refine DW.exy 4 rfl rfl rfl ?_; intro hdk; ((refine EK.call (topE (v := v) (ts := ts) hq (by omega) ht hl1) ?_); repeat' first | refine CP.r ?_ | refine CP.r0 ?_ | refine CP.exP fun e64 => ?_ | refine CP.puP fun h64 => ?_); all_goals (refine DK.mk hdk (by (first | refine Ob.an rfl rfl rfl ?_ | refine Ob.au rfl rfl rfl ?_ | refine Ob.ay rfl rfl rfl QK.lda ?_); exact .nil) ?_; clear hdk))) <;> (first | (refine DW.exn 7 rfl rfl rfl ?_; intro hdk; refine DK.mk hdk .nil ?_; clear hdk) | (refine DW.exy 7 rfl rfl rfl ?_; intro hdk; ((refine EK.call (refTopE (v := v) hq2 (by omega) ht2 hl1) ?_); repeat' first | refine CP.r ?_ | refine CP.r0 ?_ | refine CP.exP fun e67 => ?_ | refine CP.puP fun h67 => ?_); all_goals (refine DK.mk hdk .nil ?_; clear hdk))) <;> (first | (refine DW.exn 8 rfl rfl rfl ?_; intro hdk; refine DK.mk hdk .nil ?_; clear hdk) | (refine DW.exy 8 rfl rfl rfl ?_; intro hdk; ((refine EK.call (sameE (xs := l)) ?_); repeat' first | refine CP.r ?_ | refine CP.r0 ?_ | refine CP.exP fun e68 => ?_ | refine CP.puP fun h68 => ?_); all_goals (refine DK.mk hdk .nil ?_; clear hdk))) <;> refine DW.p 9 rfl (fun _ => QK.pk) ?_ <;> refine DW.p 10 rfl (fun _ => QK.mv) ?_ <;> (first | (refine DW.exn 11 rfl rfl rfl ?_; intro hdk; refine DK.mk hdk .nil ?_; clear hdk) | (refine DW.exy 11 rfl rfl rfl ?_; intro hdk; ((refine EK.call (awakeR) ?_); repeat' first | refine CP.r ?_ | refine CP.r0 ?_ | refine CP.exP fun e71 => ?_ | refine CP.puP fun h71 => ?_); all_goals (refine DK.mk hdk .nil ?_; clear hdk)) | ((first | refine DW.sP (t := 70) ?_ ?_ | refine DW.s (t := 70) ?_ ?_) <;> intro _ <;> first | contradiction | (refine DW.exn 11 rfl rfl rfl ?_; intro hdk; refine DK.mk hdk .nil ?_; clear hdk) | (refine DW.exy 11 rfl rfl rfl ?_; intro hdk; ((refine EK.call (awakeR) ?_); repeat' first | refine CP.r ?_ | refine CP.r0 ?_ | refine CP.exP fun e71 => ?_ | refine CP.puP fun h71 => ?_); all_goals (refine DK.mk hdk .nil ?_; clear hdk)))) <;> refine DW.p 12 rfl (fun _ => QK.pk) ?_ <;> refine DW.p 13 rfl (fun _ => QK.as) ?_ <;> refine DW.zz ?_)
    | ((with_reducible apply KP.fin1); (· rfl); (· rfl)))
    exact FA.ret
  · 
    
    repeat' (first
    | (with_reducible refine CW.seq ?_)
    | (with_reducible refine KP.then_code ?_)
    | (with_reducible refine CW.skip ?_)
    | (with_reducible refine CW.ret ?_)
    | (with_reducible refine KP.then_ret ?_)
    | (with_reducible refine KP.block_ret ?_)
    | (with_reducible refine CW.block ?_)
    | (with_reducible refine KP.block_normal ?_)
    | (with_reducible refine CW.exit ?_)
    | (with_reducible refine KP.then_exit ?_)
    | (with_reducible refine KP.block_hit ?_)
    | refine KP.bm ?_
    | refine CW.ct ?_
    | refine CW.cf ?_
    | (refine CW.cP ?_ ?_ <;> intro _ <;> try contradiction)
    | (refine CW.cs ?_ ?_ <;> intro _ <;> try contradiction)
    | (((with_reducible refine CW.draw (i := 6) ?_ [[], [0], [], [0, 1, 2], [0, 1, 2, 3], [0, 1, 2, 3, 4], [0, 1, 2, 3, 4, 5], [0, 1, 2, 3, 4, 5], [0, 1, 2, 3, 4, 5], [0, 1, 2, 3, 4, 5, 7, 8], [0, 1, 2, 3, 4, 5, 6, 7, 8, 9], [0, 1, 2, 3, 4, 5, 6, 7, 8, 9, 10], [0, 1, 2, 3, 4, 5, 6, 7, 8, 9, 10, 11], [0, 1, 2, 3, 4, 5, 6, 7, 8, 9, 10, 11, 12], [0, 1, 2, 3, 4, 5, 6, 7, 8, 9, 10, 11, 12], [0, 1, 2, 3, 4, 5, 6, 7, 8, 9, 10, 11, 12], [0, 1, 2, 3, 4, 5, 6, 7, 8, 9, 10, 11, 12, 15], [0, 1, 2, 3, 4, 5, 6, 7, 8, 9, 10, 11, 12], [0, 1, 2, 3, 4, 5, 6, 7, 8, 9, 10, 11, 12, 17], [0, 1, 2, 3, 4, 5, 6, 7, 8, 9, 10, 11, 12, 14, 15, 16, 17, 18], [0, 1, 2, 3, 4, 5, 6, 7, 8, 9, 10, 11, 12, 13, 14, 15, 16, 17, 18, 19], [0, 1, 2, 3, 4, 5, 6, 7, 8, 9, 10, 11, 12, 13, 14, 15, 16, 17, 18, 19, 20], [0, 1, 2, 3, 4, 5, 6, 7, 8, 9, 10, 11, 12, 13, 14, 15, 16, 17, 18, 19, 20, 21], [0, 1, 2, 3, 4, 5, 6, 7, 8, 9, 10, 11, 12, 13, 14, 15, 16, 17, 18, 19, 20, 21, 22], [0, 1, 2, 3, 4, 5, 6, 7, 8, 9, 10, 11, 12, 13, 14, 15, 16, 17, 18, 19, 20, 21, 22], [0, 1, 2, 3, 4, 5, 6, 7, 8, 9, 10, 11, 12, 13, 14, 15, 16, 17, 18, 19, 20, 21, 22, 23, 24], [0, 1, 2, 3, 4, 5, 6, 7, 8, 9, 10, 11, 12, 13, 14, 15, 16, 17, 18, 19, 20, 21, 22, 23, 24, 25], [0, 1, 2, 3, 4, 5, 6, 7, 8, 9, 10, 11, 12, 13, 14, 15, 16, 17, 18, 19, 20, 21, 22, 23, 24, 25, 26]] ?_ ?_ ?_ ?_); (· rfl); (· kernel_rfl); (· kernel_rfl); (· repeat (first | exact NoHang.post | refine NoHang.then ?_ | refine NoHang.block ?_))) <;> refine DW.m 0 rfl QK.lda ?_ <;> refine DW.m 2 rfl QK.lda ?_ <;> (refine DW.ex 1 rfl ?_; intro hdk; ((refine EK.call (mayE hq hy1) ?_); repeat' first | refine CP.r ?_ | refine CP.r0 ?_ | refine CP.exP fun e30 => ?_ | refine CP.puP fun h30 => ?_); all_goals (refine DK.mk hdk (by refine Ob.ap rfl QK.lda ?_; exact .nil) ?_; clear hdk)) <;> (refine DW.ex 3 rfl ?_; intro hdk; ((refine EK.call (refMayE hq hy1) ?_); repeat' first | refine CP.r ?_ | refine CP.r0 ?_ | refine CP.exP fun e32 => ?_ | refine CP.puP fun h32 => ?_); all_goals (refine DK.mk hdk .nil ?_; clear hdk)) <;> refine DW.p 4 rfl (fun _ => QK.eqb) ?_ <;> refine DW.p 5 rfl (fun _ => QK.mv) ?_ <;> (first | refine DW.pn 6 rfl rfl rfl ?_ | refine DW.pu 6 rfl rfl rfl ?_ | refine DW.py 6 rfl rfl rfl (fun _ => QK.mv) ?_ | ((first | refine DW.sP (t := 34) ?_ ?_ | refine DW.s (t := 34) ?_ ?_) <;> intro _ <;> first | contradiction | refine DW.pn 6 rfl rfl rfl ?_ | refine DW.pu 6 rfl rfl rfl ?_ | refine DW.py 6 rfl rfl rfl (fun _ => QK.mv) ?_)) <;> (first | refine DW.pn 7 rfl rfl rfl ?_ | refine DW.pu 7 rfl rfl rfl ?_ | refine DW.py 7 rfl rfl rfl (fun _ => QK.mv) ?_) <;> (first | refine DW.mn 8 rfl rfl rfl ?_ | refine DW.mu 8 rfl rfl rfl ?_ | refine DW.my 8 rfl rfl rfl QK.lda ?_) <;> (first | (refine DW.exn 9 rfl rfl rfl ?_; intro hdk; refine DK.mk hdk .nil ?_; clear hdk) | (refine DW.exy 9 rfl rfl rfl ?_; intro hdk; ((refine EK.call (refTopE (v := v) hq2 (by omega) ht2 hl1) ?_); repeat' first | refine CP.r ?_ | refine CP.r0 ?_ | refine CP.exP fun e38 => ?_ | refine CP.puP fun h38 => ?_); all_goals (refine DK.mk hdk .nil ?_; clear hdk))) <;> (first | (refine DW.exn 10 rfl rfl rfl ?_; intro hdk; refine DK.mk hdk .nil ?_; clear hdk) | (refine DW.exy 10 rfl rfl rfl ?_; intro hdk; ((first | refine EK.call (sameE (va := e22) (xs := l)) ?_ | refine EK.call (sameE (va := e28) (xs := m)) ?_); repeat' first | refine CP.r ?_ | refine CP.r0 ?_ | refine CP.exP fun e39 => ?_ | refine CP.puP fun h39 => ?_); all_goals (refine DK.mk hdk .nil ?_; clear hdk))) <;> refine DW.p 11 rfl (fun _ => QK.pk) ?_ <;> refine DW.p 12 rfl (fun _ => QK.mv) ?_ <;> (first | refine DW.pn 13 rfl rfl rfl ?_ | refine DW.pu 13 rfl rfl rfl ?_ | refine DW.py 13 rfl rfl rfl (fun _ => QK.mv) ?_ | ((first | refine DW.sP (t := 41) ?_ ?_ | refine DW.s (t := 41) ?_ ?_) <;> intro _ <;> first | contradiction | refine DW.pn 13 rfl rfl rfl ?_ | refine DW.pu 13 rfl rfl rfl ?_ | refine DW.py 13 rfl rfl rfl (fun _ => QK.mv) ?_)) <;> (first | refine DW.pn 14 rfl rfl rfl ?_ | refine DW.pu 14 rfl rfl rfl ?_ | refine DW.py 14 rfl rfl rfl (fun _ => QK.mv) ?_) <;> (first | refine DW.pn 15 rfl rfl rfl ?_ | refine DW.pu 15 rfl rfl rfl ?_ | refine DW.py 15 rfl rfl rfl (fun _ => QK.fa) ?_) <;> (first | refine DW.pn 17 rfl rfl rfl ?_ | refine DW.pu 17 rfl rfl rfl ?_ | refine DW.py 17 rfl rfl rfl (fun _ => QK.fa) ?_) <;> (first | refine DW.mn 16 rfl rfl rfl ?_ | refine DW.mu 16 rfl rfl rfl ?_ | refine DW.my 16 rfl rfl rfl QK.lds ?_) <;> (first | refine DW.mn 18 rfl rfl rfl ?_ | refine DW.mu 18 rfl rfl rfl ?_ | refine DW.my 18 rfl rfl rfl QK.lds ?_) <;> (first | (refine DW.exn 19 rfl rfl rfl ?_; intro hdk; refine DK.mk hdk .nil ?_; clear hdk) | (refine DW.exy 19 rfl rfl rfl ?_; intro hdk; ((refine EK.call (refAllE (v := v) hq2 (by omega) ht2 hm1) ?_); repeat' first | refine CP.r ?_ | refine CP.r0 ?_ | refine CP.exP fun e48 => ?_ | refine CP.puP fun h48 => ?_); all_goals (refine DK.mk hdk .nil ?_; clear hdk))) <;> (first | (refine DW.exn 20 rfl rfl rfl ?_; intro hdk; refine DK.mk hdk .nil ?_; clear hdk) | (refine DW.exy 20 rfl rfl rfl ?_; intro hdk; ((first | refine EK.call (sameE (va := e22) (xs := l)) ?_ | refine EK.call (sameE (va := e28) (xs := m)) ?_); repeat' first | refine CP.r ?_ | refine CP.r0 ?_ | refine CP.exP fun e49 => ?_ | refine CP.puP fun h49 => ?_); all_goals (refine DK.mk hdk .nil ?_; clear hdk))) <;> refine DW.p 21 rfl (fun _ => QK.pk) ?_ <;> refine DW.p 22 rfl (fun _ => QK.mv) ?_ <;> (first | refine DW.pn 23 rfl rfl rfl ?_ | refine DW.pu 23 rfl rfl rfl ?_ | refine DW.py 23 rfl rfl rfl (fun _ => QK.mv) ?_ | ((first | refine DW.sP (t := 51) ?_ ?_ | refine DW.s (t := 51) ?_ ?_) <;> intro _ <;> first | contradiction | refine DW.pn 23 rfl rfl rfl ?_ | refine DW.pu 23 rfl rfl rfl ?_ | refine DW.py 23 rfl rfl rfl (fun _ => QK.mv) ?_)) <;> (first | refine DW.pn 24 rfl rfl rfl ?_ | refine DW.pu 24 rfl rfl rfl ?_ | refine DW.py 24 rfl rfl rfl (fun _ => QK.mv) ?_) <;> (first | (refine DW.exn 25 rfl rfl rfl ?_; intro hdk; refine DK.mk hdk .nil ?_; clear hdk) | (refine DW.exy 25 rfl rfl rfl ?_; intro hdk; ((refine EK.call (keptT_t (b := e19) (xs := ts) (by omega)) ?_); repeat' first | refine CP.r ?_ | refine CP.r0 ?_ | refine CP.exP fun e54 => ?_ | refine CP.puP fun h54 => ?_); all_goals (refine DK.mk hdk .nil ?_; clear hdk))) <;> refine DW.p 26 rfl (fun _ => QK.pk) ?_ <;> refine DW.p 27 rfl (fun _ => QK.as) ?_ <;> refine DW.zz ?_)
    | (refine CW.region (i := 7) ?_ <;> refine KP.q QK.mv ?_ <;> (refine KP.e ?_; ((first | refine EK.call (over_spec (v := e22) (xs := l) (by omega)) ?_ | refine EK.call (over_spec (v := e28) (xs := m) (by omega)) ?_); repeat' first | refine CP.r ?_ | refine CP.r0 ?_ | refine CP.exP fun e57 => ?_ | refine CP.puP fun h57 => ?_)) <;> refine KP.list_nil ?_)
    | (refine CW.region (i := 8) ?_ <;> refine KP.q QK.mv ?_ <;> (refine KP.e ?_; ((first | refine EK.call (over_spec (v := e22) (xs := l) (by omega)) ?_ | refine EK.call (over_spec (v := e28) (xs := m) (by omega)) ?_); repeat' first | refine CP.r ?_ | refine CP.r0 ?_ | refine CP.exP fun e59 => ?_ | refine CP.puP fun h59 => ?_)) <;> refine KP.list_nil ?_)
    | ((with_reducible apply KP.fin1); (· rfl); (· rfl)))
    
    
    repeat' (first
    | (with_reducible refine CW.seq ?_)
    | (with_reducible refine KP.then_code ?_)
    | (with_reducible refine CW.skip ?_)
    | (with_reducible refine CW.ret ?_)
    | (with_reducible refine KP.then_ret ?_)
    | (with_reducible refine KP.block_ret ?_)
    | (with_reducible refine CW.block ?_)
    | (with_reducible refine KP.block_normal ?_)
    | (with_reducible refine CW.exit ?_)
    | (with_reducible refine KP.then_exit ?_)
    | (with_reducible refine KP.block_hit ?_)
    | refine KP.bm ?_
    | refine CW.ct ?_
    | refine CW.cf ?_
    | (refine CW.cP ?_ ?_ <;> intro _ <;> try contradiction)
    | (refine CW.cs ?_ ?_ <;> intro _ <;> try contradiction)
    | (((with_reducible refine CW.draw (i := 9) ?_ [[], [0], [0, 1], [0, 1], [0, 1, 2, 3], [0, 1], [0, 1], [0, 1, 2, 3, 4, 5, 6], [0, 1, 2, 3, 4, 5, 6, 7], [0, 1, 2, 3, 4, 5, 6, 7, 8], [0, 1, 2, 3, 4, 5, 6, 7, 8, 9], [0, 1, 2, 3, 4, 5, 6, 7, 8, 9, 10], [0, 1, 2, 3, 4, 5, 6, 7, 8, 9, 10, 11], [0, 1, 2, 3, 4, 5, 6, 7, 8, 9, 10, 11, 12]] ?_ ?_ ?_ ?_); (· rfl); (· kernel_rfl); (· kernel_rfl); (· repeat (first | exact NoHang.post | refine NoHang.then ?_ | refine NoHang.block ?_))) <;> refine DW.p 0 rfl (fun _ => QK.mv) ?_ <;> refine DW.p 1 rfl (fun _ => QK.mv) ?_ <;> (first | refine DW.pn 2 rfl rfl rfl ?_ | refine DW.pu 2 rfl rfl rfl ?_ | refine DW.py 2 rfl rfl rfl (fun _ => QK.mv) ?_ | ((first | refine DW.sP (t := 61) ?_ ?_ | refine DW.s (t := 61) ?_ ?_) <;> intro _ <;> first | contradiction | refine DW.pn 2 rfl rfl rfl ?_ | refine DW.pu 2 rfl rfl rfl ?_ | refine DW.py 2 rfl rfl rfl (fun _ => QK.mv) ?_)) <;> (first | refine DW.pn 5 rfl rfl rfl ?_ | refine DW.pu 5 rfl rfl rfl ?_ | refine DW.py 5 rfl rfl rfl (fun _ => QK.mv) ?_) <;> (first | refine DW.mn 3 rfl rfl rfl ?_ | refine DW.mu 3 rfl rfl rfl ?_ | refine DW.my 3 rfl rfl rfl QK.lda ?_) <;> (first | refine DW.mn 6 rfl rfl rfl ?_ | refine DW.mu 6 rfl rfl rfl ?_ | refine DW.my 6 rfl rfl rfl QK.lda ?_) <;> (first | (refine DW.exn 4 rfl rfl rfl ?_; intro hdk; refine DK.mk hdk (by (first | refine Ob.an rfl rfl rfl ?_ | refine Ob.au rfl rfl rfl ?_ | refine Ob.ay rfl rfl rfl QK.lda ?_); exact .nil) ?_; clear hdk) | (refine DW.exy 4 rfl rfl rfl ?_; intro hdk; ((refine EK.call (topE (v := v) (ts := ts) hq (by omega) ht hl1) ?_); repeat' first | refine CP.r ?_ | refine CP.r0 ?_ | refine CP.exP fun e64 => ?_ | refine CP.puP fun h64 => ?_); all_goals (refine DK.mk hdk (by (first | refine Ob.an rfl rfl rfl ?_ | refine Ob.au rfl rfl rfl ?_ | refine Ob.ay rfl rfl rfl QK.lda ?_); exact .nil) ?_; clear hdk))) <;> (first | (refine DW.exn 7 rfl rfl rfl ?_; intro hdk; refine DK.mk hdk .nil ?_; clear hdk) | (refine DW.exy 7 rfl rfl rfl ?_; intro hdk; ((refine EK.call (refTopE (v := v) hq2 (by omega) ht2 hl1) ?_); repeat' first | refine CP.r ?_ | refine CP.r0 ?_ | refine CP.exP fun e67 => ?_ | refine CP.puP fun h67 => ?_); all_goals (refine DK.mk hdk .nil ?_; clear hdk))) <;> (first | (refine DW.exn 8 rfl rfl rfl ?_; intro hdk; refine DK.mk hdk .nil ?_; clear hdk) | (refine DW.exy 8 rfl rfl rfl ?_; intro hdk; ((refine EK.call (sameE (xs := l)) ?_); repeat' first | refine CP.r ?_ | refine CP.r0 ?_ | refine CP.exP fun e68 => ?_ | refine CP.puP fun h68 => ?_); all_goals (refine DK.mk hdk .nil ?_; clear hdk))) <;> refine DW.p 9 rfl (fun _ => QK.pk) ?_ <;> refine DW.p 10 rfl (fun _ => QK.mv) ?_ <;> (first | (refine DW.exn 11 rfl rfl rfl ?_; intro hdk; refine DK.mk hdk .nil ?_; clear hdk) | (refine DW.exy 11 rfl rfl rfl ?_; intro hdk; ((refine EK.call (awakeR) ?_); repeat' first | refine CP.r ?_ | refine CP.r0 ?_ | refine CP.exP fun e71 => ?_ | refine CP.puP fun h71 => ?_); all_goals (refine DK.mk hdk .nil ?_; clear hdk)) | ((first | refine DW.sP (t := 70) ?_ ?_ | refine DW.s (t := 70) ?_ ?_) <;> intro _ <;> first | contradiction | (refine DW.exn 11 rfl rfl rfl ?_; intro hdk; refine DK.mk hdk .nil ?_; clear hdk) | (refine DW.exy 11 rfl rfl rfl ?_; intro hdk; ((refine EK.call (awakeR) ?_); repeat' first | refine CP.r ?_ | refine CP.r0 ?_ | refine CP.exP fun e71 => ?_ | refine CP.puP fun h71 => ?_); all_goals (refine DK.mk hdk .nil ?_; clear hdk)))) <;> refine DW.p 12 rfl (fun _ => QK.pk) ?_ <;> refine DW.p 13 rfl (fun _ => QK.as) ?_ <;> refine DW.zz ?_)
    | ((with_reducible apply KP.fin1); (· rfl); (· rfl)))
    exact FA.ret

end Go.Proofs.Ytpmhelfdmhjnbaa
