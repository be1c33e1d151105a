import Derived.Test.YtpmhelfdmhjnbaaM6
/- The merge: Tell. -/
namespace Go.Proofs.Ytpmhelfdmhjnbaa
open Go Go.Ink
set_option linter.unusedVariables false
set_option linter.unusedSimpArgs false
attribute [local irreducible] KP QY EW CW DW QG CP Spc DK Fina wpList lessF

def PSh.pop (s : PSh) : PSh := ⟨s.least, s.seq, s.ended, s.heard, s.last, s.waits.tail⟩
/-- One more that is sure, and what is left. -/
def MS.step (st : MS) : Option (Item × MS) :=
  if st.done then none else match aheadP st.shs st.shs.length with
    | none => none
    | some (j, x) => if st.shs.any (fun s => s.might x) then none else match st.shs[j]? with
      | none => none
      | some s => some (x, { st with shs := st.shs.set j s.pop, told := st.told ++ [x] })
def MS.left (st : MS) : Nat := (st.shs.map fun s => s.waits.length).sum
def tellF : Nat → MS → List Item × MS
  | 0, st => ([], st)
  | k + 1, st => match st.step with
    | none => ([], st)
    | some (x, st') => (x :: (tellF k st').1, (tellF k st').2)
def MS.tell (st : MS) : List Item × MS := tellF st.left st
theorem sum_set {shs : List PSh} : ∀ {j : Nat} {s : PSh} {x : Item} {l : List Item}, shs[j]? = some s → s.waits = x :: l → ((shs.set j s.pop).map fun s => s.waits.length).sum + 1 = (shs.map fun s => s.waits.length).sum := by
  induction shs with
  | nil => intro j s x l h; simp at h
  | cons a shs ih =>
    intro j s x l h hw
    cases j with
    | zero => simp at h; subst h; simp [PSh.pop, hw]; omega
    | succ j => simp at h; have := ih h hw; simp only [List.set_cons_succ, List.map_cons, List.sum_cons]; omega
theorem step_left {st st' : MS} {x : Item} (h : st.step = some (x, st')) : st'.left + 1 = st.left := by
  unfold MS.step at h
  split at h
  · cases h
  · split at h
    · cases h
    · rename_i j y ha
      split at h
      · cases h
      · split at h
        · cases h
        · rename_i s hs
          simp only [Option.some.injEq, Prod.mk.injEq] at h
          obtain ⟨rfl, rfl⟩ := h
          obtain ⟨_, s', l, hs', hw⟩ := ahead_at ha
          rw [hs] at hs'; cases hs'
          exact sum_set hs hw
theorem tell_step {st st' : MS} {x : Item} (h : st.step = some (x, st')) : st.tell = (x :: st'.tell.1, st'.tell.2) := by
  unfold MS.tell
  rw [← step_left h, tellF, h]
theorem tell_end {st : MS} (h : st.step = none) : st.tell = ([], st) := by
  unfold MS.tell
  cases st.left with
  | zero => rfl
  | succ k => rw [tellF, h]
theorem tell_nil : Spc Try.prog 66 #[.pointer none] [] [] (ret (.slice none 0 0) []) := by
  refine Spc.enter' (args := [.pointer none]) (T0 := [(0, .pointer none)]) Try.func66 rfl Try.ntmps66 (Nat.le_of_ble_eq_true rfl) rfl ?_
  intro w0 own
  repeat' (first
    | (with_reducible refine CW.seq ?_)
    | (with_reducible refine KP.then_code ?_)
    | (with_reducible refine CW.skip ?_)
    | (with_reducible refine CW.ret ?_)
    | (with_reducible refine KP.then_ret ?_)
    | (with_reducible refine KP.block_ret ?_)
    | (with_reducible refine CW.block ?_)
    | (with_reducible refine KP.block_normal ?_)
    | (with_reducible refine CW.exit ?_)
    | (with_reducible refine KP.then_exit ?_)
    | (with_reducible refine KP.block_hit ?_)
    | refine KP.bm ?_
    | refine CW.ct ?_
    | refine CW.cf ?_
    | (refine CW.cP ?_ ?_ <;> intro _ <;> try contradiction)
    | (refine CW.cs ?_ ?_ <;> intro _ <;> try contradiction)
    | (refine CW.region (i := 0) ?_ <;> refine KP.q QK.as ?_ <;> refine KP.list_nil ?_)
    | (refine CW.region (i := 1) ?_ <;> refine KP.q QK.mv ?_ <;> refine KP.q QK.eqp ?_ <;> refine KP.list_nil ?_)
    | (refine CW.region (i := 2) ?_ <;> refine KP.q QK.as ?_ <;> refine KP.list_nil ?_)
    | ((with_reducible apply KP.fin1); (· rfl); (· rfl)))
  exact FA.ret
theorem any_map {shs : List Sh} {p : PSh → Bool} : (shs.map Sh.p).any p = shs.any fun s => p s.p := by rw [List.any_map]; rfl
theorem step_done {st : MS} (h : st.done = true) : st.step = none := by unfold MS.step; rw [if_pos h]
theorem step_none {st : MS} (h : aheadP st.shs st.shs.length = none) : st.step = none := by unfold MS.step; split <;> simp [h]
theorem step_might {st : MS} {j : Nat} {x : Item} (h : aheadP st.shs st.shs.length = some (j, x)) (hm : (st.shs.any fun s => s.might x) = true) : st.step = none := by
  unfold MS.step; split
  · rfl
  · simp only [h, hm, if_true]
theorem step_some {st : MS} {j : Nat} {x : Item} {s : PSh} (hd : st.done = false) (h : aheadP st.shs st.shs.length = some (j, x)) (hm : (st.shs.any fun s => s.might x) = false) (hs : st.shs[j]? = some s) : st.step = some (x, { st with shs := st.shs.set j s.pop, told := st.told ++ [x] }) := by
  unfold MS.step; rw [hd]
  simp only [h, hm, hs, Bool.false_eq_true, if_false]
def Sh.popS (s : Sh) : Sh := ⟨s.p.pop, slv 2 s.wv 1 s.p.waits.length, slv_one _ _ _ s.ow⟩
theorem row_tail {v : Value} {p : Item} {ps l : List Item} (hl : ps = p :: l) {h : Frag} (r : row 39 2 eI v ps h) : row 39 2 eI (slv 2 v 1 ps.length) ps.tail h := by
  subst hl
  have := r.cut (lo := 1) (hi := (p :: l).length) (by simp) (Nat.le_refl _)
  have e : ((p :: l).drop 1).take ((p :: l).length - 1) = l := by simp
  rw [e] at this; exact this
theorem tellM {m : Nat} {st : MS} : Spc Try.prog 66 #[qp m] [] [Mg m st] (exP fun v' => puP (v'.oneCell' = true) (ret v' [row 39 2 eI v' st.tell.1, Mg m st.tell.2])) := by
  refine Spc.enter' (args := [qp m]) (T0 := [(0, qp m)]) Try.func66 rfl Try.ntmps66 (Nat.le_of_ble_eq_true rfl) rfl ?_
  intro w0 own
  repeat' (first
    | (with_reducible refine CW.seq ?_)
    | (with_reducible refine KP.then_code ?_)
    | (with_reducible refine CW.skip ?_)
    | (with_reducible refine CW.ret ?_)
    | (with_reducible refine KP.then_ret ?_)
    | (with_reducible refine KP.block_ret ?_)
    | (with_reducible refine CW.block ?_)
    | (with_reducible refine KP.block_normal ?_)
    | (with_reducible refine CW.exit ?_)
    | (with_reducible refine KP.then_exit ?_)
    | (with_reducible refine KP.block_hit ?_)
    | refine KP.bm ?_
    | refine CW.ct ?_
    | refine CW.cf ?_
    | (refine CW.cP ?_ ?_ <;> intro _ <;> try contradiction)
    | (refine CW.cs ?_ ?_ <;> intro _ <;> try contradiction)
    | (refine CW.region (i := 0) ?_ <;> refine KP.q QK.as ?_ <;> refine KP.list_nil ?_)
    | (refine CW.region (i := 1) ?_ <;> refine KP.q QK.mv ?_ <;> refine KP.q QK.eqp ?_ <;> refine KP.list_nil ?_)
    | (refine CW.region (i := 3) ?_ <;> refine KP.q QK.as ?_ <;> refine KP.list_nil ?_)
    | ((with_reducible apply KP.fin1); (· rfl); (· rfl)))
  refine CW.add (B := row 39 2 eI (.slice none 0 0) []) row.none ?_
  refine CA.loop (X := MS × List Item × Value) (fun z => [(0, qp m), (3, z.2.2)]) (fun z => [Mg m z.1, row 39 2 eI z.2.2 z.2.1]) (fun z => st.tell = (z.2.1 ++ z.1.tell.1, z.1.tell.2) ∧ z.2.1.length ≤ z.1.told.length ∧ z.2.2.oneCell' = true) (fun z => z.1.left) (st, [], .slice none 0 0) ⟨by simp, by simp, rfl⟩ ?_
  rintro ⟨s0, l, v⟩ ⟨ht, hll, hv⟩
  try dsimp only at ht hll hv ⊢
  refine CW.mg fun sv tv shs hw hm o1 o2 => ?_
  have hde := done_eq hm
  have hlm : shs.length = s0.shs.length := by rw [← hm, List.length_map]
  have hds := done_spec (m := m) (n := s0.n) (sv := sv) (tv := tv) (shs := shs) (told := s0.told)
  have has := ahead_spec (m := m) (n := s0.n) (sv := sv) (tv := tv) (shs := shs)
  
  
  cases hd : s0.done
  · rw [hde, hd] at hds
    have hlt : (s0.told.length : Int) < s0.n := by
      have h1 := hw.told
      have h2 : ¬ (s0.told.length : Int) = s0.n := fun e => by simp [MS.done, e] at hd
      omega
    have h10 := hw.n10
    cases ha : aheadP s0.shs s0.shs.length with
    | none =>
      rw [hm, hlm, ha] at has
      have hend := tell_end (step_none ha)
      rw [hend] at ht
      repeat' (first
    | (with_reducible refine CW.seq ?_)
    | (with_reducible refine KP.then_code ?_)
    | (with_reducible refine CW.skip ?_)
    | (with_reducible refine CW.ret ?_)
    | (with_reducible refine KP.then_ret ?_)
    | (with_reducible refine KP.block_ret ?_)
    | (with_reducible refine CW.block ?_)
    | (with_reducible refine KP.block_normal ?_)
    | (with_reducible refine CW.exit ?_)
    | (with_reducible refine KP.then_exit ?_)
    | (with_reducible refine KP.block_hit ?_)
    | refine KP.bm ?_
    | refine CW.ct ?_
    | refine CW.cf ?_
    | (refine CW.cP ?_ ?_ <;> intro _ <;> try contradiction)
    | (refine CW.cs ?_ ?_ <;> intro _ <;> try contradiction)
    | (refine CW.region (i := 4) ?_ <;> refine KP.q QK.mv ?_ <;> (refine KP.e ?_; ((refine EK.call (hds) ?_); repeat' first | refine CP.r ?_ | refine CP.r0 ?_ | refine CP.exP fun e8 => ?_ | refine CP.puP fun h8 => ?_)) <;> refine KP.q QK.not ?_ <;> refine KP.list_nil ?_)
    | (refine CW.region (i := 5) ?_ <;> refine KP.q QK.mv ?_ <;> (refine KP.e ?_; ((refine EK.call (has) ?_); repeat' first | refine CP.r ?_ | refine CP.r0 ?_ | refine CP.exP fun e11 => ?_ | refine CP.puP fun h11 => ?_)) <;> (refine KP.e ?_; (refine EK.alloc ?_; intro b4)) <;> (refine KP.e ?_; (first | refine EK.st_s ?_ | refine EK.st_rf ?_ | refine EK.st_rf0 ?_)) <;> refine KP.list_nil ?_)
    | (refine CW.region (i := 6) ?_ <;> refine KP.q QK.lds ?_ <;> refine KP.q QK.eqp ?_ <;> refine KP.q QK.mv ?_ <;> (first | refine KP.gn ?_ | refine KP.gu ?_ | refine KP.qy QK.mv ?_ | ((first | refine KP.gsP (t := 14) ?_ ?_ | refine KP.gs (t := 14) ?_ ?_) <;> intro _ <;> first | contradiction | refine KP.gn ?_ | refine KP.qy QK.mv ?_)) <;> (first | refine KP.gn ?_ | refine KP.gu ?_ | refine KP.qy QK.nc ?_) <;> (first | refine KP.gn ?_ | refine KP.gu ?_ | refine KP.qy QK.fa ?_) <;> (first | refine KP.gn ?_ | refine KP.gu ?_ | refine KP.qy QK.lds ?_) <;> (first | refine KP.gn ?_ | refine KP.gu ?_ | refine KP.qy QK.mf ?_) <;> (first | refine KP.gn ?_ | refine KP.gu ?_ | (refine KP.gy ?_; refine KP.e ?_; ((fail "no rule f93"); repeat' first | refine CP.r ?_ | refine CP.r0 ?_ | refine CP.exP fun e20 => ?_ | refine CP.puP fun h20 => ?_))) <;> refine KP.q QK.pk ?_ <;> refine KP.list_nil ?_)
    | (refine CW.region (i := 10) ?_ <;> refine KP.q QK.mv ?_ <;> refine KP.q QK.as ?_ <;> refine KP.list_nil ?_)
    | ((with_reducible apply KP.fin1); (· rfl); (· rfl)))
      refine Fina.exP v (Fina.puP hv ?_)
      rw [ht, List.append_nil]
      refine FA.gather (Mg.intro rfl hw hm rfl o1 o2) ?_
      exact FA.ret
    | some p =>
      obtain ⟨j, x⟩ := p
      rw [hm, hlm, ha] at has
      obtain ⟨hjl, s, l0, hs, hwt⟩ := ahead_in (show aheadP (shs.map Sh.p) shs.length = some (j, x) by rw [hm, hlm, ha])
      have hs' : s0.shs[j]? = some s.p := by rw [← hm]; exact map_at hs
      have h0 : s.p.waits[0]? = some x := by rw [hwt]; rfl
      have hlen : 0 < s.p.waits.length := by rw [hwt]; simp
      have hrw : RowL (waitsA s) 2 eI s.wv s.p.waits := RowL.row
      have has2 : Spc Try.prog 92 #[qp m] [pt m 101 [iv s0.n, sv, tv], rrow 7 eSh sv shs, wl shs] [] (ret (sp sv j) []) := has
      
      repeat' (first
    | (with_reducible refine CW.seq ?_)
    | (with_reducible refine KP.then_code ?_)
    | (with_reducible refine CW.skip ?_)
    | (with_reducible refine CW.ret ?_)
    | (with_reducible refine KP.then_ret ?_)
    | (with_reducible refine KP.block_ret ?_)
    | (with_reducible refine CW.block ?_)
    | (with_reducible refine KP.block_normal ?_)
    | (with_reducible refine CW.exit ?_)
    | (with_reducible refine KP.then_exit ?_)
    | (with_reducible refine KP.block_hit ?_)
    | refine KP.bm ?_
    | refine CW.ct ?_
    | refine CW.cf ?_
    | (refine CW.cP ?_ ?_ <;> intro _ <;> try contradiction)
    | (refine CW.cs ?_ ?_ <;> intro _ <;> try contradiction)
    | (refine CW.region (i := 4) ?_ <;> refine KP.q QK.mv ?_ <;> (refine KP.e ?_; ((refine EK.call (hds) ?_); repeat' first | refine CP.r ?_ | refine CP.r0 ?_ | refine CP.exP fun e8 => ?_ | refine CP.puP fun h8 => ?_)) <;> refine KP.q QK.not ?_ <;> refine KP.list_nil ?_)
    | (refine CW.region (i := 5) ?_ <;> refine KP.q QK.mv ?_ <;> (refine KP.e ?_; ((refine EK.call (has2) ?_); repeat' first | refine CP.r ?_ | refine CP.r0 ?_ | refine CP.exP fun e11 => ?_ | refine CP.puP fun h11 => ?_)) <;> (refine KP.e ?_; (refine EK.alloc ?_; intro b4)) <;> (refine KP.e ?_; (first | refine EK.st_s ?_ | refine EK.st_rf ?_ | refine EK.st_rf0 ?_)) <;> refine KP.list_nil ?_)
    | ((with_reducible apply KP.fin1); (· rfl); (· rfl)))
      have hcs := contains_spec (g := 94) (caps := [qp b4]) (sv := sv) (shs := shs) (p := fun o => o.p.might x) (fun i o ho => tclo_spec (sv := sv) (i := j) (b4 := b4) hs ho hwt)
      
      cases hmi : (s0.shs.any fun s => s.might x)
      · have hst := step_some hd ha hmi hs'
        rw [← hm, any_map] at hmi
        rw [hmi] at hcs
        rw [tell_step hst] at ht
        
        
        
        have hl10 : l.length ≤ 10 := by omega
        have ht10 : s0.told.length ≤ 10 := by omega
        have hll2 : 1 ≤ s.p.waits.length := hlen
        
        repeat' (first
    | (with_reducible refine CW.seq ?_)
    | (with_reducible refine KP.then_code ?_)
    | (with_reducible refine CW.skip ?_)
    | (with_reducible refine CW.ret ?_)
    | (with_reducible refine KP.then_ret ?_)
    | (with_reducible refine KP.block_ret ?_)
    | (with_reducible refine CW.block ?_)
    | (with_reducible refine KP.block_normal ?_)
    | (with_reducible refine CW.exit ?_)
    | (with_reducible refine KP.then_exit ?_)
    | (with_reducible refine KP.block_hit ?_)
    | refine KP.bm ?_
    | refine CW.ct ?_
    | refine CW.cf ?_
    | (refine CW.cP ?_ ?_ <;> intro _ <;> try contradiction)
    | (refine CW.cs ?_ ?_ <;> intro _ <;> try contradiction)
    | (refine CW.region (i := 6) ?_ <;> refine KP.q (by first | exact QY.load_s rfl (Rd.own (by with_reducible first | exact k0 | exact k1 | exact k2 | exact k3 | exact k4 | exact k5 | exact k6 | exact k7 | exact k8 | exact k9 | fail)) (Reads.pt1 (by rfl)) | exact QY.load_s rfl (Rd.own (by with_reducible first | exact k0 | exact k1 | exact k2 | exact k3 | exact k4 | exact k5 | exact k6 | exact k7 | exact k8 | exact k9 | fail)) (Reads.row1 RowL.row hs rfl) | exact QK.lds) ?_ <;> refine KP.q QK.eqp ?_ <;> refine KP.q QK.mv ?_ <;> (first | refine KP.gn ?_ | refine KP.gu ?_ | refine KP.qy QK.mv ?_ | ((first | refine KP.gsP (t := 14) ?_ ?_ | refine KP.gs (t := 14) ?_ ?_) <;> intro _ <;> first | contradiction | refine KP.gn ?_ | refine KP.qy QK.mv ?_)) <;> (first | refine KP.gn ?_ | refine KP.gu ?_ | refine KP.qy QK.nc ?_) <;> (first | refine KP.gn ?_ | refine KP.gu ?_ | refine KP.qy QK.fa ?_) <;> (first | refine KP.gn ?_ | refine KP.gu ?_ | refine KP.qy (by first | exact QY.load_s rfl (Rd.own (by with_reducible first | exact k0 | exact k1 | exact k2 | exact k3 | exact k4 | exact k5 | exact k6 | exact k7 | exact k8 | exact k9 | fail)) (Reads.pt1 (by rfl)) | exact QY.load_s rfl (Rd.own (by with_reducible first | exact k0 | exact k1 | exact k2 | exact k3 | exact k4 | exact k5 | exact k6 | exact k7 | exact k8 | exact k9 | fail)) (Reads.row1 RowL.row hs rfl) | exact QK.lds) ?_) <;> (first | refine KP.gn ?_ | refine KP.gu ?_ | refine KP.qy QK.mf ?_) <;> (first | refine KP.gn ?_ | refine KP.gu ?_ | (refine KP.gy ?_; refine KP.e ?_; ((refine EK.call (hcs) ?_); repeat' first | refine CP.r ?_ | refine CP.r0 ?_ | refine CP.exP fun e20 => ?_ | refine CP.puP fun h20 => ?_))) <;> refine KP.q QK.pk ?_ <;> refine KP.list_nil ?_)
    | (refine CW.region (i := 7) ?_ <;> refine KP.q QK.mv ?_ <;> refine KP.q (by first | exact QY.load_s rfl (Rd.own (by with_reducible first | exact k0 | exact k1 | exact k2 | exact k3 | exact k4 | exact k5 | exact k6 | exact k7 | exact k8 | exact k9 | fail)) (Reads.pt1 (by rfl)) | exact QY.load_s rfl (Rd.own (by with_reducible first | exact k0 | exact k1 | exact k2 | exact k3 | exact k4 | exact k5 | exact k6 | exact k7 | exact k8 | exact k9 | fail)) (Reads.row1 RowL.row hs rfl) | exact QK.lds) ?_ <;> refine KP.q QK.nc ?_ <;> refine KP.q QK.fa ?_ <;> refine KP.q (by first | exact QY.load_s rfl (Rd.own (by with_reducible first | exact k0 | exact k1 | exact k2 | exact k3 | exact k4 | exact k5 | exact k6 | exact k7 | exact k8 | exact k9 | fail)) (Reads.pt1 (by rfl)) | exact QY.load_s rfl (Rd.own (by with_reducible first | exact k0 | exact k1 | exact k2 | exact k3 | exact k4 | exact k5 | exact k6 | exact k7 | exact k8 | exact k9 | fail)) (Reads.row1 RowL.row hs rfl) | exact QK.lds) ?_ <;> refine KP.q (by first | exact QY.index0 rfl rfl (Rd.own (by with_reducible first | exact k0 | exact k1 | exact k2 | exact k3 | exact k4 | exact k5 | exact k6 | exact k7 | exact k8 | exact k9 | fail)) (RowL.big hs hrw) hlen | exact QK.ia) ?_ <;> refine KP.q (by first | exact QY.load_a rfl (Rd.own (by with_reducible first | exact k0 | exact k1 | exact k2 | exact k3 | exact k4 | exact k5 | exact k6 | exact k7 | exact k8 | exact k9 | fail)) (Reads.row0a (RowL.big hs hrw) h0) rfl | exact QK.lda) ?_ <;> (refine KP.e ?_; ((first | refine EW.buildSlice1_s (by decide) rfl (by first | rfl | assumption) rfl ?_ | refine EW.buildSlice1_a (by decide) rfl (by rfl) (by rfl) (by decide) (by decide) ?_); intro b29)) <;> (refine KP.e ?_; (first | (refine EK.app1 (enc := eI) x ?_; intro w30 o30) | (refine EK.app1 _ ?_; intro w30 o30))) <;> refine KP.q QK.as ?_ <;> refine KP.list_nil ?_)
    | (((with_reducible refine CW.draw (i := 8) ?_ [[], [], [1], [1, 2], [1, 2, 3], [], [5], [5, 6], [5, 6, 7], [5, 6, 7, 8], [5, 6, 7, 8, 9], [5, 6, 7, 8, 9, 10], [1, 2, 3, 4, 5, 6, 7, 8, 9, 10, 11], [0, 1, 2, 3, 4, 5, 6, 7, 8, 9, 10, 11, 12], [0, 1, 2, 3, 4, 5, 6, 7, 8, 9, 10, 11, 12, 13], [0, 1, 2, 3, 4, 5, 6, 7, 8, 9, 10, 11, 12, 13, 14]] ?_ ?_ ?_ ?_); (· rfl); (· kernel_rfl); (· kernel_rfl); (· repeat (first | exact NoHang.post | refine NoHang.then ?_ | refine NoHang.block ?_))) <;> refine DW.p 0 rfl (fun _ => QK.mv) ?_ <;> refine DW.p 1 rfl (fun _ => QK.mv) ?_ <;> refine DW.p 2 rfl (fun _ => QK.nc) ?_ <;> refine DW.p 3 rfl (fun _ => QK.fa) ?_ <;> refine DW.m 4 rfl (by first | exact QY.load_s rfl (Rd.own (by with_reducible first | exact k0 | exact k1 | exact k2 | exact k3 | exact k4 | exact k5 | exact k6 | exact k7 | exact k8 | exact k9 | fail)) (Reads.pt1 (by rfl)) | exact QY.load_s rfl (Rd.own (by with_reducible first | exact k0 | exact k1 | exact k2 | exact k3 | exact k4 | exact k5 | exact k6 | exact k7 | exact k8 | exact k9 | fail)) (Reads.row1 RowL.row hs rfl) | exact QK.lds) ?_ <;> refine DW.m 5 rfl (by first | exact QY.load_s rfl (Rd.own (by with_reducible first | exact k0 | exact k1 | exact k2 | exact k3 | exact k4 | exact k5 | exact k6 | exact k7 | exact k8 | exact k9 | fail)) (Reads.pt1 (by rfl)) | exact QY.load_s rfl (Rd.own (by with_reducible first | exact k0 | exact k1 | exact k2 | exact k3 | exact k4 | exact k5 | exact k6 | exact k7 | exact k8 | exact k9 | fail)) (Reads.row1 RowL.row hs rfl) | exact QK.lds) ?_ <;> refine DW.p 6 rfl (fun _ => QK.nc) ?_ <;> refine DW.p 7 rfl (fun _ => QK.fa) ?_ <;> refine DW.m 8 rfl (by first | exact QY.load_s rfl (Rd.own (by with_reducible first | exact k0 | exact k1 | exact k2 | exact k3 | exact k4 | exact k5 | exact k6 | exact k7 | exact k8 | exact k9 | fail)) (Reads.pt1 (by rfl)) | exact QY.load_s rfl (Rd.own (by with_reducible first | exact k0 | exact k1 | exact k2 | exact k3 | exact k4 | exact k5 | exact k6 | exact k7 | exact k8 | exact k9 | fail)) (Reads.row1 RowL.row hs rfl) | exact QK.lds) ?_ <;> refine DW.m 9 rfl (by first | exact QY.index0 rfl rfl (Rd.own (by with_reducible first | exact k0 | exact k1 | exact k2 | exact k3 | exact k4 | exact k5 | exact k6 | exact k7 | exact k8 | exact k9 | fail)) (RowL.big hs hrw) hlen | exact QK.ia) ?_ <;> refine DW.m 10 rfl (by first | exact QY.load_a rfl (Rd.own (by with_reducible first | exact k0 | exact k1 | exact k2 | exact k3 | exact k4 | exact k5 | exact k6 | exact k7 | exact k8 | exact k9 | fail)) (Reads.row0a (RowL.big hs hrw) h0) rfl | exact QK.lda) ?_ <;> (refine DW.ex 11 rfl ?_; intro hdk; ((first | refine EW.buildSlice1_s (by decide) rfl (by first | rfl | assumption) rfl ?_ | refine EW.buildSlice1_a (by decide) rfl (by rfl) (by rfl) (by decide) (by decide) ?_); intro b42); all_goals (refine DK.mk hdk (by refine Ob.ap rfl (by first | exact QY.load_s rfl (Rd.own (by with_reducible first | exact k0 | exact k1 | exact k2 | exact k3 | exact k4 | exact k5 | exact k6 | exact k7 | exact k8 | exact k9 | fail)) (Reads.pt1 (by rfl)) | exact QY.load_s rfl (Rd.own (by with_reducible first | exact k0 | exact k1 | exact k2 | exact k3 | exact k4 | exact k5 | exact k6 | exact k7 | exact k8 | exact k9 | fail)) (Reads.row1 RowL.row hs rfl) | exact QK.lds) ?_; exact .nil) ?_; clear hdk)) <;> (refine DW.ex 12 rfl ?_; intro hdk; (first | (refine EK.app1 (enc := eI) x ?_; intro w43 o43) | (refine EK.app1 _ ?_; intro w43 o43)); all_goals (refine DK.mk hdk .nil ?_; clear hdk)) <;> refine DW.p 13 rfl (fun _ => QK.nc) ?_ <;> refine DW.p 14 rfl (fun _ => QK.fa) ?_ <;> (refine DW.ex 15 rfl ?_; intro hdk; (first | refine EK.st_s ?_ | refine EK.st_rf ?_ | refine EK.st_rf0 ?_); all_goals (refine DK.mk hdk .nil ?_; clear hdk)) <;> refine DW.zz ?_)
    | ((with_reducible apply KP.fin1); (· rfl); (· rfl)))
        
        
        have hso : (slv 2 s.wv 1 s.p.waits.length).oneCell' = true := slv_one _ _ _ s.ow
        repeat' (first
    | (with_reducible refine CW.seq ?_)
    | (with_reducible refine KP.then_code ?_)
    | (with_reducible refine CW.skip ?_)
    | (with_reducible refine CW.ret ?_)
    | (with_reducible refine KP.then_ret ?_)
    | (with_reducible refine KP.block_ret ?_)
    | (with_reducible refine CW.block ?_)
    | (with_reducible refine KP.block_normal ?_)
    | (with_reducible refine CW.exit ?_)
    | (with_reducible refine KP.then_exit ?_)
    | (with_reducible refine KP.block_hit ?_)
    | refine KP.bm ?_
    | refine CW.ct ?_
    | refine CW.cf ?_
    | (refine CW.cP ?_ ?_ <;> intro _ <;> try contradiction)
    | (refine CW.cs ?_ ?_ <;> intro _ <;> try contradiction)
    | (((with_reducible refine CW.draw (i := 9) ?_ [[], [], [1], [1, 2], [1, 2, 3], [1, 2, 3, 4], [0, 1, 2, 3, 4, 5], [0, 1, 2, 3, 4, 5, 6], [0, 1, 2, 3, 4, 5, 6, 7]] ?_ ?_ ?_ ?_); (· rfl); (· kernel_rfl); (· kernel_rfl); (· repeat (first | exact NoHang.post | refine NoHang.then ?_ | refine NoHang.block ?_))) <;> refine DW.m 0 rfl (by first | exact QY.load_s rfl (Rd.own (by with_reducible first | exact k0 | exact k1 | exact k2 | exact k3 | exact k4 | exact k5 | exact k6 | exact k7 | exact k8 | exact k9 | fail)) (Reads.pt1 (by rfl)) | exact QY.load_s rfl (Rd.own (by with_reducible first | exact k0 | exact k1 | exact k2 | exact k3 | exact k4 | exact k5 | exact k6 | exact k7 | exact k8 | exact k9 | fail)) (Reads.row1 RowL.row hs rfl) | exact QK.lds) ?_ <;> refine DW.m 1 rfl (by first | exact QY.load_s rfl (Rd.own (by with_reducible first | exact k0 | exact k1 | exact k2 | exact k3 | exact k4 | exact k5 | exact k6 | exact k7 | exact k8 | exact k9 | fail)) (Reads.pt1 (by rfl)) | exact QY.load_s rfl (Rd.own (by with_reducible first | exact k0 | exact k1 | exact k2 | exact k3 | exact k4 | exact k5 | exact k6 | exact k7 | exact k8 | exact k9 | fail)) (Reads.row1 RowL.row hs rfl) | exact QK.lds) ?_ <;> refine DW.p 2 rfl (fun _ => QK.nc) ?_ <;> refine DW.p 3 rfl (fun _ => QK.fa) ?_ <;> refine DW.m 4 rfl (by first | exact QY.load_s rfl (Rd.own (by with_reducible first | exact k0 | exact k1 | exact k2 | exact k3 | exact k4 | exact k5 | exact k6 | exact k7 | exact k8 | exact k9 | fail)) (Reads.pt1 (by rfl)) | exact QY.load_s rfl (Rd.own (by with_reducible first | exact k0 | exact k1 | exact k2 | exact k3 | exact k4 | exact k5 | exact k6 | exact k7 | exact k8 | exact k9 | fail)) (Reads.row1 RowL.row hs rfl) | exact QK.lds) ?_ <;> refine DW.m 5 rfl (by first | exact QY.cut_lo (lo := 1) rfl rfl (Rd.own (by with_reducible first | exact k0 | exact k1 | exact k2 | exact k3 | exact k4 | exact k5 | exact k6 | exact k7 | exact k8 | exact k9 | fail)) (RowL.big hs hrw) hll2 | exact QK.sl_lo) ?_ <;> refine DW.p 6 rfl (fun _ => QK.nc) ?_ <;> refine DW.p 7 rfl (fun _ => QK.fa) ?_ <;> (refine DW.ex 8 rfl ?_; intro hdk; (first | refine EK.st_rf (enc := eSh) (x' := s) (y' := s.popS) ?_ | refine EK.st_s ?_ | refine EK.st_rf ?_ | refine EK.st_rf0 ?_); all_goals (refine DK.mk hdk .nil ?_; clear hdk)) <;> refine DW.zz ?_)
    | ((with_reducible apply KP.fin1); (· rfl); (· rfl)))
        have hwt' : (s.p.pop).waits = l0 := by simp [PSh.pop, hwt]
        refine KP.pick (A := wl shs) (by with_reducible first | exact k0 | exact k1 | exact k2 | exact k3 | exact k4 | exact k5 | exact k6 | exact k7 | exact k8 | exact k9 | fail) ?_
        refine KP.imp (B := wl (shs.set j s.popS)) (fun _ a => BigA.turn hs (fun _ r => row_tail hwt r) a) ?_
        refine KA.gather (Mg.intro (shs := shs.set j s.popS) (st := { s0 with shs := s0.shs.set j s.p.pop, told := s0.told ++ [x] }) rfl ⟨hw.n1, hw.n10, by simp; omega, by simpa using hw.shs, ?_⟩ (by rw [List.map_set, hm]; rfl) rfl o1 o43) ?_
        · intro y hy
          rcases List.mem_or_eq_of_mem_set hy with h | h
          · exact hw.waits y h
          · have := hw.waits s.p (List.mem_of_getElem? hs')
            rw [h, hwt']; rw [hwt] at this; simp at this; omega
        · refine KA.round ({ s0 with shs := s0.shs.set j s.p.pop, told := s0.told ++ [x] }, l ++ [x], w30) ⟨?_, by simp; omega, o30⟩ ?_
          · simp only [ht, List.append_assoc, List.singleton_append]
          · have := step_left hst; simp only; omega
      · have hend := tell_end (step_might ha hmi)
        rw [← hm, any_map] at hmi
        rw [hmi] at hcs
        rw [hend] at ht
        repeat' (first
    | (with_reducible refine CW.seq ?_)
    | (with_reducible refine KP.then_code ?_)
    | (with_reducible refine CW.skip ?_)
    | (with_reducible refine CW.ret ?_)
    | (with_reducible refine KP.then_ret ?_)
    | (with_reducible refine KP.block_ret ?_)
    | (with_reducible refine CW.block ?_)
    | (with_reducible refine KP.block_normal ?_)
    | (with_reducible refine CW.exit ?_)
    | (with_reducible refine KP.then_exit ?_)
    | (with_reducible refine KP.block_hit ?_)
    | refine KP.bm ?_
    | refine CW.ct ?_
    | refine CW.cf ?_
    | (refine CW.cP ?_ ?_ <;> intro _ <;> try contradiction)
    | (refine CW.cs ?_ ?_ <;> intro _ <;> try contradiction)
    | (refine CW.region (i := 6) ?_ <;> refine KP.q (by first | exact QY.load_s rfl (Rd.own (by with_reducible first | exact k0 | exact k1 | exact k2 | exact k3 | exact k4 | exact k5 | exact k6 | exact k7 | exact k8 | exact k9 | fail)) (Reads.pt1 (by rfl)) | exact QY.load_s rfl (Rd.own (by with_reducible first | exact k0 | exact k1 | exact k2 | exact k3 | exact k4 | exact k5 | exact k6 | exact k7 | exact k8 | exact k9 | fail)) (Reads.row1 RowL.row hs rfl) | exact QK.lds) ?_ <;> refine KP.q QK.eqp ?_ <;> refine KP.q QK.mv ?_ <;> (first | refine KP.gn ?_ | refine KP.gu ?_ | refine KP.qy QK.mv ?_ | ((first | refine KP.gsP (t := 14) ?_ ?_ | refine KP.gs (t := 14) ?_ ?_) <;> intro _ <;> first | contradiction | refine KP.gn ?_ | refine KP.qy QK.mv ?_)) <;> (first | refine KP.gn ?_ | refine KP.gu ?_ | refine KP.qy QK.nc ?_) <;> (first | refine KP.gn ?_ | refine KP.gu ?_ | refine KP.qy QK.fa ?_) <;> (first | refine KP.gn ?_ | refine KP.gu ?_ | refine KP.qy (by first | exact QY.load_s rfl (Rd.own (by with_reducible first | exact k0 | exact k1 | exact k2 | exact k3 | exact k4 | exact k5 | exact k6 | exact k7 | exact k8 | exact k9 | fail)) (Reads.pt1 (by rfl)) | exact QY.load_s rfl (Rd.own (by with_reducible first | exact k0 | exact k1 | exact k2 | exact k3 | exact k4 | exact k5 | exact k6 | exact k7 | exact k8 | exact k9 | fail)) (Reads.row1 RowL.row hs rfl) | exact QK.lds) ?_) <;> (first | refine KP.gn ?_ | refine KP.gu ?_ | refine KP.qy QK.mf ?_) <;> (first | refine KP.gn ?_ | refine KP.gu ?_ | (refine KP.gy ?_; refine KP.e ?_; ((refine EK.call (hcs) ?_); repeat' first | refine CP.r ?_ | refine CP.r0 ?_ | refine CP.exP fun e20 => ?_ | refine CP.puP fun h20 => ?_))) <;> refine KP.q QK.pk ?_ <;> refine KP.list_nil ?_)
    | (refine CW.region (i := 10) ?_ <;> refine KP.q QK.mv ?_ <;> refine KP.q QK.as ?_ <;> refine KP.list_nil ?_)
    | ((with_reducible apply KP.fin1); (· rfl); (· rfl)))
        refine Fina.exP v (Fina.puP hv ?_)
        rw [ht, List.append_nil]
        refine FA.gather (Mg.intro rfl hw hm rfl o1 o2) ?_
        exact FA.ret
  · rw [hde, hd] at hds
    have hend := tell_end (step_done hd)
    rw [hend] at ht
    repeat' (first
    | (with_reducible refine CW.seq ?_)
    | (with_reducible refine KP.then_code ?_)
    | (with_reducible refine CW.skip ?_)
    | (with_reducible refine CW.ret ?_)
    | (with_reducible refine KP.then_ret ?_)
    | (with_reducible refine KP.block_ret ?_)
    | (with_reducible refine CW.block ?_)
    | (with_reducible refine KP.block_normal ?_)
    | (with_reducible refine CW.exit ?_)
    | (with_reducible refine KP.then_exit ?_)
    | (with_reducible refine KP.block_hit ?_)
    | refine KP.bm ?_
    | refine CW.ct ?_
    | refine CW.cf ?_
    | (refine CW.cP ?_ ?_ <;> intro _ <;> try contradiction)
    | (refine CW.cs ?_ ?_ <;> intro _ <;> try contradiction)
    | (refine CW.region (i := 4) ?_ <;> refine KP.q QK.mv ?_ <;> (refine KP.e ?_; ((refine EK.call (hds) ?_); repeat' first | refine CP.r ?_ | refine CP.r0 ?_ | refine CP.exP fun e8 => ?_ | refine CP.puP fun h8 => ?_)) <;> refine KP.q QK.not ?_ <;> refine KP.list_nil ?_)
    | (refine CW.region (i := 10) ?_ <;> refine KP.q QK.mv ?_ <;> refine KP.q QK.as ?_ <;> refine KP.list_nil ?_)
    | ((with_reducible apply KP.fin1); (· rfl); (· rfl)))
    refine Fina.exP v (Fina.puP hv ?_)
    rw [ht, List.append_nil]
    refine FA.gather (Mg.intro rfl hw hm rfl o1 o2) ?_
    exact FA.ret

end Go.Proofs.Ytpmhelfdmhjnbaa
