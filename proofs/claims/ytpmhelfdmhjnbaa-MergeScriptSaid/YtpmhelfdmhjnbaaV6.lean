import Derived.Test.YtpmhelfdmhjnbaaV2
import Derived.Test.YtpmhelfdmhjnbaaV3
import Derived.Test.YtpmhelfdmhjnbaaV4
import Derived.Test.YtpmhelfdmhjnbaaV5
/- MergeScript. -/
namespace Go.Proofs.Ytpmhelfdmhjnbaa
open Go Go.Ink Go.Plain
set_option linter.unusedVariables false
set_option linter.unusedSimpArgs false
attribute [local irreducible] KP QY EW CW DW DX QG CP Spc DK Fina wpList lessF lent

theorem ref_putE {m : Nat} {st st' : MS} {v : Value} {i seq : Int} {items : List Item} {e b : Bool} (hsm : st.Small) (hit : ∀ x ∈ items, x.word.size ≤ 1000000) (h : st.put i seq items e = (b, st')) : Spc Try.prog 65 #[qp m, iv i, iv seq, v, .bool e] [rrow 2 eI v items] [Rg m st] (ret (.bool b) [Rg m st']) := by
  have := ref_putM (m := m) (v := v) (i := i) (seq := seq) (items := items) (e := e) hsm hit
  rw [h] at this; exact this
theorem ref_tellE {m : Nat} {st st' : MS} {l : List Item} (hsm : st.Small) (h : st.tell = (l, st')) : Spc Try.prog 67 #[qp m] [] [Rg m st] (exP fun v' => puP (v'.oneCell' = true) (ret v' [row 39 2 eI v' l, Rg m st'])) := by
  have := ref_tellM (m := m) hsm
  rw [h] at this; exact this
theorem tell_told : ∀ (k : Nat) (st : MS), st.left ≤ k → st.tell.2.told = st.told ++ st.tell.1
  | k, st, hk => by
    cases hs : st.step with
    | none => rw [tell_end hs]; simp
    | some p =>
      obtain ⟨x, st'⟩ := p
      have hl := step_left hs
      have ht : st'.told = st.told ++ [x] := by
        unfold MS.step at hs
        split at hs
        · cases hs
        · split at hs
          · cases hs
          · split at hs
            · cases hs
            · split at hs
              · cases hs
              · simp only [Option.some.injEq, Prod.mk.injEq] at hs
                obtain ⟨rfl, rfl⟩ := hs; rfl
      rw [tell_step hs]
      match k, hk with
      | 0, hk => omega
      | k + 1, hk =>
        simp only
        rw [tell_told k st' (by omega), ht]; simp
theorem bne_self2 {p : Bool} : Value.bool (p != p) = .bool false := by cases p <;> rfl
theorem act_one (a : ActV) : (eAct a).all Value.oneCell' = true := by
  show (true && (true && (true && (true && (a.wv.oneCell' && true))))) = true
  rw [a.ow]; rfl
theorem lent_row3 {b : Nat} {xs : List Item} : ∀ h, lent 39 2 eI b xs [mark7, mark7, mark7] h → row 39 2 eI (lentV b xs.length) xs h := fun h r => lent_row (enc := eI) (ys := [mark7, mark7, mark7]) (by simp) h r

set_option maxHeartbeats 16000000 in
set_option maxRecDepth 4000 in
theorem mergeScript_spec {vl va : Value} {least : List Int} {n : Int} {acts : List ActV} : Spc Try.prog 15 #[vl, iv n, va] [rrow 1 eN vl least, rrow 5 eAct va acts, AllA actA acts] [] (ret (.bool true) []) := by
  refine Spc.enter' (args := [vl, iv n, va]) (T0 := [(0, vl), (1, iv n), (2, va)]) Try.func15 rfl Try.ntmps15 (Nat.le_of_ble_eq_true rfl) rfl ?_
  intro w0 own
  refine CW.roFact (A := rrow 1 eN vl least) (by simp) (fun _ h => rrow.le h) fun hxl => ?_
  refine CW.roFact (A := rrow 5 eAct va acts) (by simp) (fun _ h => rrow.le h) fun hxa => ?_
  
  repeat' (first
    | (with_reducible refine CW.seq ?_)
    | (with_reducible refine KP.then_code ?_)
    | (with_reducible refine CW.skip ?_)
    | (with_reducible refine CW.ret ?_)
    | (with_reducible refine KP.then_ret ?_)
    | (with_reducible refine KP.block_ret ?_)
    | (with_reducible refine CW.block ?_)
    | (with_reducible refine KP.block_normal ?_)
    | (with_reducible refine CW.exit ?_)
    | (with_reducible refine KP.then_exit ?_)
    | (with_reducible refine KP.block_hit ?_)
    | refine KP.bm ?_
    | refine CW.ct ?_
    | refine CW.cf ?_
    | (refine CW.cP ?_ ?_ <;> intro _ <;> try contradiction)
    | (refine CW.cs ?_ ?_ <;> intro _ <;> try contradiction)
    | (refine CW.region (i := 0) ?_ <;> refine KP.q QK.as ?_ <;> refine KP.list_nil ?_)
    | (refine CW.region (i := 1) ?_ <;> refine KP.q QK.mv ?_ <;> (refine KP.e ?_; ((refine EK.call (greatA_spec (v := va) (acts := acts)) ?_); repeat' first | refine CP.r ?_ | refine CP.r0 ?_ | refine CP.exP fun e17 => ?_ | refine CP.puP fun h17 => ?_)) <;> refine KP.q QK.mv ?_ <;> (first | refine KP.gn ?_ | refine KP.gu ?_ | refine KP.qy QK.mv ?_ | ((first | refine KP.gsP (t := 18) ?_ ?_ | refine KP.gs (t := 18) ?_ ?_) <;> intro _ <;> first | contradiction | refine KP.gn ?_ | refine KP.qy QK.mv ?_)) <;> (first | refine KP.gn ?_ | refine KP.gu ?_ | refine KP.qy QK.len ?_) <;> (first | refine KP.gn ?_ | refine KP.gu ?_ | refine KP.qy QK.gtr ?_) <;> refine KP.q QK.pk ?_ <;> refine KP.list_nil ?_)
    | (refine CW.region (i := 2) ?_ <;> (refine KP.e ?_; ((refine EK.call (awakeM) ?_); repeat' first | refine CP.r ?_ | refine CP.r0 ?_ | refine CP.exP fun e23 => ?_ | refine CP.puP fun h23 => ?_)) <;> refine KP.q QK.as ?_ <;> refine KP.list_nil ?_)
    | ((with_reducible apply KP.fin1); (· rfl); (· rfl)))
  all_goals try exact FA.ret
  have hga := h17 (by assumption)
  obtain ⟨hla, hgi⟩ := hga
  by_cases hv : 0 < least.length ∧ least.length ≤ 6 ∧ 1 ≤ n ∧ n ≤ 10
  rotate_left
  · have hbad : least.length = 0 ∨ 6 < least.length ∨ n < 1 ∨ 10 < n := by omega
    
    
    
    repeat' (first
    | (with_reducible refine CW.seq ?_)
    | (with_reducible refine KP.then_code ?_)
    | (with_reducible refine CW.skip ?_)
    | (with_reducible refine CW.ret ?_)
    | (with_reducible refine KP.then_ret ?_)
    | (with_reducible refine KP.block_ret ?_)
    | (with_reducible refine CW.block ?_)
    | (with_reducible refine KP.block_normal ?_)
    | (with_reducible refine CW.exit ?_)
    | (with_reducible refine KP.then_exit ?_)
    | (with_reducible refine KP.block_hit ?_)
    | refine KP.bm ?_
    | refine CW.ct ?_
    | refine CW.cf ?_
    | (refine CW.cP ?_ ?_ <;> intro _ <;> try contradiction)
    | (refine CW.cs ?_ ?_ <;> intro _ <;> try contradiction)
    | (refine CW.region (i := 3) ?_ <;> refine KP.q QK.mv ?_ <;> refine KP.q QK.mv ?_ <;> (refine KP.e ?_; ((refine EK.call (new_bad (v := vl) hbad) ?_); repeat' first | refine CP.r ?_ | refine CP.r0 ?_ | refine CP.exP fun e27 => ?_ | refine CP.puP fun h27 => ?_)) <;> refine KP.q QK.mv ?_ <;> refine KP.q QK.ex ?_ <;> refine KP.q QK.ex ?_ <;> refine KP.q QK.as ?_ <;> refine KP.q QK.as ?_ <;> refine KP.list_nil ?_)
    | (refine CW.region (i := 4) ?_ <;> refine KP.q QK.mv ?_ <;> refine KP.q QK.mv ?_ <;> (refine KP.e ?_; ((refine EK.call (ref_new_bad (v := vl) hbad) ?_); repeat' first | refine CP.r ?_ | refine CP.r0 ?_ | refine CP.exP fun e33 => ?_ | refine CP.puP fun h33 => ?_)) <;> refine KP.q QK.mv ?_ <;> refine KP.q QK.ex ?_ <;> refine KP.q QK.ex ?_ <;> refine KP.q QK.as ?_ <;> refine KP.q QK.as ?_ <;> refine KP.list_nil ?_)
    | (refine CW.region (i := 5) ?_ <;> refine KP.q QK.mv ?_ <;> (refine KP.e ?_; ((refine EK.call (num_spec (e := 2)) ?_); repeat' first | refine CP.r ?_ | refine CP.r0 ?_ | refine CP.exP fun e37 => ?_ | refine CP.puP fun h37 => ?_)) <;> refine KP.q QK.mv ?_ <;> refine KP.q QK.nei ?_ <;> refine KP.q QK.mv ?_ <;> (first | refine KP.gn ?_ | refine KP.gu ?_ | refine KP.qy QK.mv ?_ | ((first | refine KP.gsP (t := 40) ?_ ?_ | refine KP.gs (t := 40) ?_ ?_) <;> intro _ <;> first | contradiction | refine KP.gn ?_ | refine KP.qy QK.mv ?_)) <;> (first | refine KP.gn ?_ | refine KP.gu ?_ | refine KP.qy QK.eqp ?_) <;> (first | refine KP.gn ?_ | refine KP.gu ?_ | refine KP.qy QK.mv ?_) <;> (first | refine KP.gn ?_ | refine KP.gu ?_ | refine KP.qy QK.eqp ?_) <;> (first | refine KP.gn ?_ | refine KP.gu ?_ | refine KP.qy QK.neb ?_) <;> refine KP.q QK.pk ?_ <;> refine KP.list_nil ?_)
    | (refine CW.region (i := 7) ?_ <;> refine KP.q QK.mv ?_ <;> refine KP.q QK.eqp ?_ <;> refine KP.list_nil ?_)
    | (refine CW.region (i := 8) ?_ <;> (refine KP.e ?_; ((refine EK.call (awakeM) ?_); repeat' first | refine CP.r ?_ | refine CP.r0 ?_ | refine CP.exP fun e49 => ?_ | refine CP.puP fun h49 => ?_)) <;> refine KP.q QK.as ?_ <;> refine KP.list_nil ?_)
    | ((with_reducible apply KP.fin1); (· rfl); (· rfl)))
    exact FA.ret
  
  
  
  
  repeat' (first
    | (with_reducible refine CW.seq ?_)
    | (with_reducible refine KP.then_code ?_)
    | (with_reducible refine CW.skip ?_)
    | (with_reducible refine CW.ret ?_)
    | (with_reducible refine KP.then_ret ?_)
    | (with_reducible refine KP.block_ret ?_)
    | (with_reducible refine CW.block ?_)
    | (with_reducible refine KP.block_normal ?_)
    | (with_reducible refine CW.exit ?_)
    | (with_reducible refine KP.then_exit ?_)
    | (with_reducible refine KP.block_hit ?_)
    | refine KP.bm ?_
    | refine CW.ct ?_
    | refine CW.cf ?_
    | (refine CW.cP ?_ ?_ <;> intro _ <;> try contradiction)
    | (refine CW.cs ?_ ?_ <;> intro _ <;> try contradiction)
    | (refine CW.region (i := 3) ?_ <;> refine KP.q QK.mv ?_ <;> refine KP.q QK.mv ?_ <;> (refine KP.e ?_; ((refine EK.call (newE (v := vl) (least := least) (n := n) hv) ?_); repeat' first | refine CP.r ?_ | refine CP.r0 ?_ | refine CP.exP fun e27 => ?_ | refine CP.puP fun h27 => ?_)) <;> refine KP.q QK.mv ?_ <;> refine KP.q QK.ex ?_ <;> refine KP.q QK.ex ?_ <;> refine KP.q QK.as ?_ <;> refine KP.q QK.as ?_ <;> refine KP.list_nil ?_)
    | (refine CW.region (i := 4) ?_ <;> refine KP.q QK.mv ?_ <;> refine KP.q QK.mv ?_ <;> (refine KP.e ?_; ((refine EK.call (ref_new_ok (v := vl) (least := least) (n := n) hv.1 hv.2.1 hv.2.2.1 hv.2.2.2) ?_); repeat' first | refine CP.r ?_ | refine CP.r0 ?_ | refine CP.exP fun e33 => ?_ | refine CP.puP fun h33 => ?_)) <;> refine KP.q QK.mv ?_ <;> refine KP.q QK.ex ?_ <;> refine KP.q QK.ex ?_ <;> refine KP.q QK.as ?_ <;> refine KP.q QK.as ?_ <;> refine KP.list_nil ?_)
    | (refine CW.region (i := 5) ?_ <;> refine KP.q QK.mv ?_ <;> (refine KP.e ?_; ((refine EK.call (num_spec (e := 0)) ?_); repeat' first | refine CP.r ?_ | refine CP.r0 ?_ | refine CP.exP fun e37 => ?_ | refine CP.puP fun h37 => ?_)) <;> refine KP.q QK.mv ?_ <;> refine KP.q QK.nei ?_ <;> refine KP.q QK.mv ?_ <;> (first | refine KP.gn ?_ | refine KP.gu ?_ | refine KP.qy QK.mv ?_ | ((first | refine KP.gsP (t := 40) ?_ ?_ | refine KP.gs (t := 40) ?_ ?_) <;> intro _ <;> first | contradiction | refine KP.gn ?_ | refine KP.qy QK.mv ?_)) <;> (first | refine KP.gn ?_ | refine KP.gu ?_ | refine KP.qy QK.eqp ?_) <;> (first | refine KP.gn ?_ | refine KP.gu ?_ | refine KP.qy QK.mv ?_) <;> (first | refine KP.gn ?_ | refine KP.gu ?_ | refine KP.qy QK.eqp ?_) <;> (first | refine KP.gn ?_ | refine KP.gu ?_ | refine KP.qy QK.neb ?_) <;> refine KP.q QK.pk ?_ <;> refine KP.list_nil ?_)
    | (refine CW.region (i := 7) ?_ <;> refine KP.q QK.mv ?_ <;> refine KP.q QK.eqp ?_ <;> refine KP.list_nil ?_)
    | (refine CW.region (i := 9) ?_ <;> refine KP.q QK.as ?_ <;> refine KP.list_nil ?_)
    | ((with_reducible apply KP.fin1); (· rfl); (· rfl)))
  refine CA.loop (X := Nat × MS) (fun z => [(2, va), (7, qp e27), (9, qp e33), (11, iv (z.1 : Nat))]) (fun z => [Mg e27 z.2, Rg e33 z.2]) (fun z => z.1 ≤ acts.length ∧ z.2.Small) (fun z => acts.length - z.1) (0, newF least n) ⟨by simp, small_new⟩ ?_
  rintro ⟨i, st⟩ ⟨hi, hsm⟩
  try dsimp only at hi hsm ⊢
  rcases Nat.lt_or_ge i acts.length with hlt | hge
  rotate_left
  · repeat' (first
    | (with_reducible refine CW.seq ?_)
    | (with_reducible refine KP.then_code ?_)
    | (with_reducible refine CW.skip ?_)
    | (with_reducible refine CW.ret ?_)
    | (with_reducible refine KP.then_ret ?_)
    | (with_reducible refine KP.block_ret ?_)
    | (with_reducible refine CW.block ?_)
    | (with_reducible refine KP.block_normal ?_)
    | (with_reducible refine CW.exit ?_)
    | (with_reducible refine KP.then_exit ?_)
    | (with_reducible refine KP.block_hit ?_)
    | refine KP.bm ?_
    | refine CW.ct ?_
    | refine CW.cf ?_
    | (refine CW.cP ?_ ?_ <;> intro _ <;> try contradiction)
    | (refine CW.cs ?_ ?_ <;> intro _ <;> try contradiction)
    | (refine CW.region (i := 10) ?_ <;> refine KP.q QK.mv ?_ <;> refine KP.q QK.mv ?_ <;> refine KP.q QK.len ?_ <;> refine KP.q QK.lss ?_ <;> refine KP.list_nil ?_)
    | (refine CW.region (i := 25) ?_ <;> (refine KP.e ?_; ((refine EK.call (awakeM) ?_); repeat' first | refine CP.r ?_ | refine CP.r0 ?_ | refine CP.exP fun e110 => ?_ | refine CP.puP fun h110 => ?_)) <;> refine KP.q QK.as ?_ <;> refine KP.list_nil ?_)
    | ((with_reducible apply KP.fin1); (· rfl); (· rfl)))
    exact FA.ret
  obtain ⟨a, ha⟩ := at_lt hlt
  have hg := hgi a (List.mem_of_getElem? ha)
  have hal := greatI_len hg
  have haw := greatI_size2 hg
  have hone := act_one a
  obtain ⟨⟨b, st1⟩, hput⟩ : ∃ q, st.put a.shard a.seq a.items a.end_ = q := ⟨_, rfl⟩
  have hsm1 : st1.Small := by
    have := small_put (i := a.shard) (seq := a.seq) (e := a.end_) hsm haw
    rw [hput] at this; exact this
  obtain ⟨⟨tl, st2⟩, htell⟩ : ∃ q, st1.tell = q := ⟨_, rfl⟩
  have hsm2 : st2.Small := by
    have := small_tell _ st1 (Nat.le_refl _) hsm1
    rw [htell] at this; exact this
  have htt : st2.told = st1.told ++ tl := by
    have := tell_told _ st1 (Nat.le_refl _)
    rw [htell] at this; exact this
  
  
  
  
  repeat' (first
    | (with_reducible refine CW.seq ?_)
    | (with_reducible refine KP.then_code ?_)
    | (with_reducible refine CW.skip ?_)
    | (with_reducible refine CW.ret ?_)
    | (with_reducible refine KP.then_ret ?_)
    | (with_reducible refine KP.block_ret ?_)
    | (with_reducible refine CW.block ?_)
    | (with_reducible refine KP.block_normal ?_)
    | (with_reducible refine CW.exit ?_)
    | (with_reducible refine KP.then_exit ?_)
    | (with_reducible refine KP.block_hit ?_)
    | refine KP.bm ?_
    | refine CW.ct ?_
    | refine CW.cf ?_
    | (refine CW.cP ?_ ?_ <;> intro _ <;> try contradiction)
    | (refine CW.cs ?_ ?_ <;> intro _ <;> try contradiction)
    | (refine CW.region (i := 10) ?_ <;> refine KP.q QK.mv ?_ <;> refine KP.q QK.mv ?_ <;> refine KP.q QK.len ?_ <;> refine KP.q QK.lss ?_ <;> refine KP.list_nil ?_)
    | (refine CW.region (i := 12) ?_ <;> refine KP.q QK.mv ?_ <;> refine KP.q QK.mv ?_ <;> refine KP.q QK.ia ?_ <;> refine KP.q (by first | exact QY.load_a rfl (Rd.ro (by with_reducible first | exact m0 | exact m1 | exact m2 | exact m3 | exact m4 | exact m5 | fail)) (Reads.row RowL.rrow ha) rfl | exact QK.lda) ?_ <;> (refine KP.e ?_; (refine EK.alloc ?_; intro b12)) <;> (refine KP.e ?_; (first | refine EK.st_a ?_ (h1 := hone) | refine EK.st_a ?_ | refine EK.st_ra ?_ | refine EK.st_p ?_)) <;> refine KP.list_nil ?_)
    | (refine CW.region (i := 13) ?_ <;> refine KP.q QK.fa ?_ <;> refine KP.q (by first | exact QY.load_s rfl (Rd.own (by with_reducible first | exact k0 | exact k1 | exact k2 | exact k3 | exact k4 | exact k5 | exact k6 | exact k7 | exact k8 | exact k9 | fail)) (Reads.pt1 (by rfl)) | exact QK.lds) ?_ <;> (refine KP.e ?_; ((refine EK.call (lendI_spec (v := a.wv) (xs := a.items) (by omega)) ?_ rfl Split.nil (.cons (.ro (B := AllA actA acts) (by simp) (AllA.at ha)) .nil)); repeat' first | refine CP.r ?_ | refine CP.r0 ?_ | refine CP.exP fun e62 => ?_ | refine CP.puP fun h62 => ?_)) <;> refine KP.q QK.as ?_ <;> refine KP.list_nil ?_)
    | ((with_reducible apply KP.fin1); (· rfl); (· rfl)))
  
  
  
  
  refine CW.mid (X := Unit) (fun _ => [(2, va), (7, qp e27), (9, qp e33), (11, iv (i : Nat)), (12, qp b12), (13, lentV e62 a.items.length), (89, .bool false)]) (fun _ => [lent 39 2 eI e62 a.items [mark7, mark7, mark7], Mg e27 st1, Rg e33 st1, pt b12 75 (eAct a)]) (fun _ => True) ?_ ?_
  · repeat' (first
    | (with_reducible refine CW.seq ?_)
    | (with_reducible refine KP.then_code ?_)
    | (with_reducible refine CW.skip ?_)
    | (with_reducible refine CW.ret ?_)
    | (with_reducible refine KP.then_ret ?_)
    | (with_reducible refine KP.block_ret ?_)
    | (with_reducible refine CW.block ?_)
    | (with_reducible refine KP.block_normal ?_)
    | (with_reducible refine CW.exit ?_)
    | (with_reducible refine KP.then_exit ?_)
    | (with_reducible refine KP.block_hit ?_)
    | refine KP.bm ?_
    | refine CW.ct ?_
    | refine CW.cf ?_
    | (refine CW.cP ?_ ?_ <;> intro _ <;> try contradiction)
    | (refine CW.cs ?_ ?_ <;> intro _ <;> try contradiction)
    | (((with_reducible refine CW.draw (i := 14) ?_ [[], [], [1], [], [3], [], [], [6], [0, 1, 2, 3, 4, 5, 6, 7], [], [], [10], [], [12], [], [14], [], [16], [0, 1, 2, 3, 4, 5, 6, 7, 8, 9, 10, 11, 12, 13, 14, 15, 16, 17], [0, 1, 2, 3, 4, 5, 6, 7, 8, 9, 10, 11, 12, 13, 14, 15, 16, 17, 18], [0, 1, 2, 3, 4, 5, 6, 7, 8, 9, 10, 11, 12, 13, 14, 15, 16, 17, 18, 19], [0, 1, 2, 3, 4, 5, 6, 7, 8, 9, 10, 11, 12, 13, 14, 15, 16, 17, 18, 19, 20], [0, 1, 2, 3, 4, 5, 6, 7, 8, 9, 10, 11, 12, 13, 14, 15, 16, 17, 18, 19, 20], [0, 1, 2, 3, 4, 5, 6, 7, 8, 9, 10, 11, 12, 13, 14, 15, 16, 17, 18, 19, 20, 22], [0, 1, 2, 3, 4, 5, 6, 7, 8, 9, 10, 11, 12, 13, 14, 15, 16, 17, 18, 19, 20, 21, 22, 23], [0, 1, 2, 3, 4, 5, 6, 7, 8, 9, 10, 11, 12, 13, 14, 15, 16, 17, 18, 19, 20, 21, 22, 23, 24], [0, 1, 2, 3, 4, 5, 6, 7, 8, 9, 10, 11, 12, 13, 14, 15, 16, 17, 18, 19, 20, 21, 22, 23, 24, 25]] ?_ ?_ ?_ ?_); (· rfl); (· kernel_rfl); (· kernel_rfl); (· repeat (first | exact NoHang.post | refine NoHang.then ?_ | refine NoHang.block ?_))) <;> refine DW.p 0 rfl (fun _ => QK.mv) ?_ <;> refine DW.p 1 rfl (fun _ => QK.fa) ?_ <;> refine DW.p 3 rfl (fun _ => QK.fa) ?_ <;> refine DW.p 5 rfl (fun _ => QK.mv) ?_ <;> refine DW.p 6 rfl (fun _ => QK.fa) ?_ <;> refine DW.p 9 rfl (fun _ => QK.mv) ?_ <;> refine DW.p 10 rfl (fun _ => QK.fa) ?_ <;> refine DW.p 12 rfl (fun _ => QK.fa) ?_ <;> refine DW.p 14 rfl (fun _ => QK.fa) ?_ <;> refine DW.p 16 rfl (fun _ => QK.fa) ?_ <;> refine DW.m 2 rfl (by first | exact QY.load_s rfl (Rd.own (by with_reducible first | exact k0 | exact k1 | exact k2 | exact k3 | exact k4 | exact k5 | exact k6 | exact k7 | exact k8 | exact k9 | fail)) (Reads.pt1 (by rfl)) | exact QK.lds) ?_ <;> refine DW.m 4 rfl (by first | exact QY.load_s rfl (Rd.own (by with_reducible first | exact k0 | exact k1 | exact k2 | exact k3 | exact k4 | exact k5 | exact k6 | exact k7 | exact k8 | exact k9 | fail)) (Reads.pt1 (by rfl)) | exact QK.lds) ?_ <;> refine DW.m 7 rfl (by first | exact QY.load_s rfl (Rd.own (by with_reducible first | exact k0 | exact k1 | exact k2 | exact k3 | exact k4 | exact k5 | exact k6 | exact k7 | exact k8 | exact k9 | fail)) (Reads.pt1 (by rfl)) | exact QK.lds) ?_ <;> refine DW.m 11 rfl (by first | exact QY.load_s rfl (Rd.own (by with_reducible first | exact k0 | exact k1 | exact k2 | exact k3 | exact k4 | exact k5 | exact k6 | exact k7 | exact k8 | exact k9 | fail)) (Reads.pt1 (by rfl)) | exact QK.lds) ?_ <;> refine DW.m 13 rfl (by first | exact QY.load_s rfl (Rd.own (by with_reducible first | exact k0 | exact k1 | exact k2 | exact k3 | exact k4 | exact k5 | exact k6 | exact k7 | exact k8 | exact k9 | fail)) (Reads.pt1 (by rfl)) | exact QK.lds) ?_ <;> refine DW.m 15 rfl (by first | exact QY.load_s rfl (Rd.own (by with_reducible first | exact k0 | exact k1 | exact k2 | exact k3 | exact k4 | exact k5 | exact k6 | exact k7 | exact k8 | exact k9 | fail)) (Reads.pt1 (by rfl)) | exact QK.lds) ?_ <;> refine DW.m 17 rfl (by first | exact QY.load_s rfl (Rd.own (by with_reducible first | exact k0 | exact k1 | exact k2 | exact k3 | exact k4 | exact k5 | exact k6 | exact k7 | exact k8 | exact k9 | fail)) (Reads.pt1 (by rfl)) | exact QK.lds) ?_ <;> (refine DW.ex 8 rfl ?_; intro hdk; ((refine EK.call (putE (m := e27) (v := lentV e62 a.items.length) hput) ?_ rfl (Split.cons (by with_reducible first | exact k0 | exact k1 | exact k2 | exact k3 | exact k4 | exact k5 | exact k6 | exact k7 | exact k8 | exact k9 | fail) Split.nil) (.cons (.via (RowL.lent (ys := [mark7, mark7, mark7]) (by simp)) (by with_reducible first | exact k0 | exact k1 | exact k2 | exact k3 | exact k4 | exact k5 | exact k6 | exact k7 | exact k8 | exact k9 | fail)) .nil)); repeat' first | refine CP.r ?_ | refine CP.r0 ?_ | refine CP.exP fun e71 => ?_ | refine CP.puP fun h71 => ?_); all_goals (refine DK.mk hdk (by refine Ob.ap rfl (by first | exact QY.load_s rfl (Rd.own (by with_reducible first | exact k0 | exact k1 | exact k2 | exact k3 | exact k4 | exact k5 | exact k6 | exact k7 | exact k8 | exact k9 | fail)) (Reads.pt1 (by rfl)) | exact QK.lds) ?_; refine Ob.ap rfl (by first | exact QY.load_s rfl (Rd.own (by with_reducible first | exact k0 | exact k1 | exact k2 | exact k3 | exact k4 | exact k5 | exact k6 | exact k7 | exact k8 | exact k9 | fail)) (Reads.pt1 (by rfl)) | exact QK.lds) ?_; refine Ob.ap rfl (by first | exact QY.load_s rfl (Rd.own (by with_reducible first | exact k0 | exact k1 | exact k2 | exact k3 | exact k4 | exact k5 | exact k6 | exact k7 | exact k8 | exact k9 | fail)) (Reads.pt1 (by rfl)) | exact QK.lds) ?_; refine Ob.ap rfl (by first | exact QY.load_s rfl (Rd.own (by with_reducible first | exact k0 | exact k1 | exact k2 | exact k3 | exact k4 | exact k5 | exact k6 | exact k7 | exact k8 | exact k9 | fail)) (Reads.pt1 (by rfl)) | exact QK.lds) ?_; exact .nil) ?_; clear hdk)) <;> (refine DW.ex 18 rfl ?_; intro hdk; ((refine EK.call (ref_putE (m := e33) (v := a.wv) hsm haw hput) ?_ rfl (Split.cons (by with_reducible first | exact k0 | exact k1 | exact k2 | exact k3 | exact k4 | exact k5 | exact k6 | exact k7 | exact k8 | exact k9 | fail) Split.nil) (.cons (.ro (B := AllA actA acts) (by simp) (AllA.at ha)) .nil)); repeat' first | refine CP.r ?_ | refine CP.r0 ?_ | refine CP.exP fun e81 => ?_ | refine CP.puP fun h81 => ?_); all_goals (refine DK.mk hdk .nil ?_; clear hdk)) <;> refine DW.p 19 rfl (fun _ => (by first | exact QY.same (QY.ne_bool rfl rfl) bne_self2 | exact QK.neb)) ?_ <;> refine DW.p 20 rfl (fun _ => QK.mv) ?_ <;> (first | refine DW.pn 21 rfl rfl rfl ?_ | refine DW.pu 21 rfl rfl rfl ?_ | refine DW.py 21 rfl rfl rfl (fun _ => QK.mv) ?_ | ((first | refine DW.sP (t := 83) ?_ ?_ | refine DW.s (t := 83) ?_ ?_) <;> intro _ <;> first | contradiction | refine DW.pn 21 rfl rfl rfl ?_ | refine DW.pu 21 rfl rfl rfl ?_ | refine DW.py 21 rfl rfl rfl (fun _ => QK.mv) ?_)) <;> (first | refine DW.pn 22 rfl rfl rfl ?_ | refine DW.pu 22 rfl rfl rfl ?_ | refine DW.py 22 rfl rfl rfl (fun _ => QK.fa) ?_) <;> (first | refine DW.mn 23 rfl rfl rfl ?_ | refine DW.mu 23 rfl rfl rfl ?_ | refine DW.my 23 rfl rfl rfl (by first | exact QY.load_s rfl (Rd.own (by with_reducible first | exact k0 | exact k1 | exact k2 | exact k3 | exact k4 | exact k5 | exact k6 | exact k7 | exact k8 | exact k9 | fail)) (Reads.pt1 (by rfl)) | exact QK.lds) ?_) <;> (first | (refine DW.exn 24 rfl rfl rfl ?_; intro hdk; refine DK.mk hdk .nil ?_; clear hdk) | (refine DW.exy 24 rfl rfl rfl ?_; intro hdk; ((refine EK.call (keptI_t2 (b := e62) (v := a.wv) (xs := a.items) (by omega)) ?_ rfl Split.nil (.cons (.same (by with_reducible first | exact k0 | exact k1 | exact k2 | exact k3 | exact k4 | exact k5 | exact k6 | exact k7 | exact k8 | exact k9 | fail)) (.cons (.ro (B := AllA actA acts) (by simp) (AllA.at ha)) .nil))); repeat' first | refine CP.r ?_ | refine CP.r0 ?_ | refine CP.exP fun e87 => ?_ | refine CP.puP fun h87 => ?_); all_goals (refine DK.mk hdk .nil ?_; clear hdk))) <;> (first | refine DW.pn 25 rfl rfl rfl ?_ | refine DW.pu 25 rfl rfl rfl ?_ | refine DW.py 25 rfl rfl rfl (fun _ => QK.not) ?_) <;> refine DW.p 26 rfl (fun _ => QK.pk) ?_ <;> refine DW.zz ?_)
    | ((with_reducible apply KP.fin1); (· rfl); (· rfl)))
    all_goals exact KA.joint () trivial
  rintro - -
  refine CW.kp (KP.imp (B := row 39 2 eI (lentV e62 a.items.length) a.items) lent_row3 (CW.pk ?_))
  
  repeat' (first
    | (with_reducible refine CW.seq ?_)
    | (with_reducible refine KP.then_code ?_)
    | (with_reducible refine CW.skip ?_)
    | (with_reducible refine CW.ret ?_)
    | (with_reducible refine KP.then_ret ?_)
    | (with_reducible refine KP.block_ret ?_)
    | (with_reducible refine CW.block ?_)
    | (with_reducible refine KP.block_normal ?_)
    | (with_reducible refine CW.exit ?_)
    | (with_reducible refine KP.then_exit ?_)
    | (with_reducible refine KP.block_hit ?_)
    | refine KP.bm ?_
    | refine CW.ct ?_
    | refine CW.cf ?_
    | (refine CW.cP ?_ ?_ <;> intro _ <;> try contradiction)
    | (refine CW.cs ?_ ?_ <;> intro _ <;> try contradiction)
    | (refine CW.region (i := 15) ?_ <;> refine KP.q QK.as ?_ <;> refine KP.list_nil ?_)
    | (refine CW.region (i := 16) ?_ <;> refine KP.q QK.mv ?_ <;> (refine KP.e ?_; ((refine EK.call (over_spec (v := lentV e62 a.items.length) (xs := a.items) (by omega)) ?_); repeat' first | refine CP.r ?_ | refine CP.r0 ?_ | refine CP.exP fun e91 => ?_ | refine CP.puP fun h91 => ?_)) <;> refine KP.list_nil ?_)
    | ((with_reducible apply KP.fin1); (· rfl); (· rfl)))
  cases htl : a.tell
  · have htv : Value.bool a.tell = .bool false := by rw [htl]
    
    
    repeat' (first
    | (with_reducible refine CW.seq ?_)
    | (with_reducible refine KP.then_code ?_)
    | (with_reducible refine CW.skip ?_)
    | (with_reducible refine CW.ret ?_)
    | (with_reducible refine KP.then_ret ?_)
    | (with_reducible refine KP.block_ret ?_)
    | (with_reducible refine CW.block ?_)
    | (with_reducible refine KP.block_normal ?_)
    | (with_reducible refine CW.exit ?_)
    | (with_reducible refine KP.then_exit ?_)
    | (with_reducible refine KP.block_hit ?_)
    | refine KP.bm ?_
    | refine CW.ct ?_
    | refine CW.cf ?_
    | (refine CW.cP ?_ ?_ <;> intro _ <;> try contradiction)
    | (refine CW.cs ?_ ?_ <;> intro _ <;> try contradiction)
    | (refine CW.region (i := 17) ?_ <;> refine KP.q QK.fa ?_ <;> refine KP.q (by first | exact QY.same (QY.load_s rfl (Rd.own (by with_reducible first | exact k0 | exact k1 | exact k2 | exact k3 | exact k4 | exact k5 | exact k6 | exact k7 | exact k8 | exact k9 | fail)) (Reads.pt1 (by rfl))) htv | exact QY.load_s rfl (Rd.own (by with_reducible first | exact k0 | exact k1 | exact k2 | exact k3 | exact k4 | exact k5 | exact k6 | exact k7 | exact k8 | exact k9 | fail)) (Reads.pt1 (by rfl)) | exact QK.lds) ?_ <;> refine KP.list_nil ?_)
    | (refine CW.region (i := 23) ?_ <;> refine KP.q QK.mv ?_ <;> refine KP.q QK.mv ?_ <;> refine KP.q QK.fa ?_ <;> refine KP.q (by first | exact QY.same (QY.load_s rfl (Rd.own (by with_reducible first | exact k0 | exact k1 | exact k2 | exact k3 | exact k4 | exact k5 | exact k6 | exact k7 | exact k8 | exact k9 | fail)) (Reads.pt1 (by rfl))) htv | exact QY.load_s rfl (Rd.own (by with_reducible first | exact k0 | exact k1 | exact k2 | exact k3 | exact k4 | exact k5 | exact k6 | exact k7 | exact k8 | exact k9 | fail)) (Reads.pt1 (by rfl)) | exact QK.lds) ?_ <;> (refine KP.e ?_; ((refine EK.call (same68_spec (m := e27) (r := e33) (i := a.shard) (st := st1)) ?_); repeat' first | refine CP.r ?_ | refine CP.r0 ?_ | refine CP.exP fun e108 => ?_ | refine CP.puP fun h108 => ?_)) <;> refine KP.q QK.not ?_ <;> refine KP.list_nil ?_)
    | (refine CW.region (i := 11) ?_ <;> refine KP.q QK.mv ?_ <;> refine KP.q QK.add ?_ <;> refine KP.q QK.as ?_ <;> refine KP.list_nil ?_)
    | ((with_reducible apply KP.fin1); (· rfl); (· rfl)))
    exact KA.round (i + 1, st1) ⟨by simp only; omega, hsm1⟩
  · have htv : Value.bool a.tell = .bool true := by rw [htl]
    
    
    
    
    repeat' (first
    | (with_reducible refine CW.seq ?_)
    | (with_reducible refine KP.then_code ?_)
    | (with_reducible refine CW.skip ?_)
    | (with_reducible refine CW.ret ?_)
    | (with_reducible refine KP.then_ret ?_)
    | (with_reducible refine KP.block_ret ?_)
    | (with_reducible refine CW.block ?_)
    | (with_reducible refine KP.block_normal ?_)
    | (with_reducible refine CW.exit ?_)
    | (with_reducible refine KP.then_exit ?_)
    | (with_reducible refine KP.block_hit ?_)
    | refine KP.bm ?_
    | refine CW.ct ?_
    | refine CW.cf ?_
    | (refine CW.cP ?_ ?_ <;> intro _ <;> try contradiction)
    | (refine CW.cs ?_ ?_ <;> intro _ <;> try contradiction)
    | (refine CW.region (i := 17) ?_ <;> refine KP.q QK.fa ?_ <;> refine KP.q (by first | exact QY.same (QY.load_s rfl (Rd.own (by with_reducible first | exact k0 | exact k1 | exact k2 | exact k3 | exact k4 | exact k5 | exact k6 | exact k7 | exact k8 | exact k9 | fail)) (Reads.pt1 (by rfl))) htv | exact QY.load_s rfl (Rd.own (by with_reducible first | exact k0 | exact k1 | exact k2 | exact k3 | exact k4 | exact k5 | exact k6 | exact k7 | exact k8 | exact k9 | fail)) (Reads.pt1 (by rfl)) | exact QK.lds) ?_ <;> refine KP.list_nil ?_)
    | (refine CW.region (i := 18) ?_ <;> refine KP.q QK.mv ?_ <;> (refine KP.e ?_; ((refine EK.call (tellE (m := e27) htell) ?_); repeat' first | refine CP.r ?_ | refine CP.r0 ?_ | refine CP.exP fun e95 => ?_ | refine CP.puP fun h95 => ?_)) <;> refine KP.q QK.as ?_ <;> refine KP.list_nil ?_)
    | (refine CW.region (i := 19) ?_ <;> refine KP.q QK.mv ?_ <;> refine KP.q QK.mv ?_ <;> (refine KP.e ?_; ((refine EK.call (ref_tellE (m := e33) hsm1 htell) ?_); repeat' first | refine CP.r ?_ | refine CP.r0 ?_ | refine CP.exP fun e98 => ?_ | refine CP.puP fun h98 => ?_)) <;> (refine KP.e ?_; ((refine EK.call (sameE (xs := tl)) ?_); repeat' first | refine CP.r ?_ | refine CP.r0 ?_ | refine CP.exP fun e99 => ?_ | refine CP.puP fun h99 => ?_)) <;> refine KP.q QK.as ?_ <;> refine KP.list_nil ?_)
    | ((with_reducible apply KP.fin1); (· rfl); (· rfl)))
    refine CW.ownFact (A := Mg e27 st2) (by with_reducible first | exact k0 | exact k1 | exact k2 | exact k3 | exact k4 | exact k5 | exact k6 | exact k7 | exact k8 | exact k9 | fail) (fun _ ⟨z, hz, _⟩ => hz.1) fun hwf => ?_
    have htn : tl.length ≤ 100000 := by
      have h1 := congrArg List.length htt
      rw [List.length_append] at h1
      have h2 := hwf.told
      have h3 := hwf.n10
      omega
    
    
    repeat' (first
    | (with_reducible refine CW.seq ?_)
    | (with_reducible refine KP.then_code ?_)
    | (with_reducible refine CW.skip ?_)
    | (with_reducible refine CW.ret ?_)
    | (with_reducible refine KP.then_ret ?_)
    | (with_reducible refine KP.block_ret ?_)
    | (with_reducible refine CW.block ?_)
    | (with_reducible refine KP.block_normal ?_)
    | (with_reducible refine CW.exit ?_)
    | (with_reducible refine KP.then_exit ?_)
    | (with_reducible refine KP.block_hit ?_)
    | refine KP.bm ?_
    | refine CW.ct ?_
    | refine CW.cf ?_
    | (refine CW.cP ?_ ?_ <;> intro _ <;> try contradiction)
    | (refine CW.cs ?_ ?_ <;> intro _ <;> try contradiction)
    | (refine CW.region (i := 20) ?_ <;> refine KP.q QK.mv ?_ <;> (refine KP.e ?_; ((refine EK.call (over_spec (v := e95) (xs := tl) htn) ?_); repeat' first | refine CP.r ?_ | refine CP.r0 ?_ | refine CP.exP fun e101 => ?_ | refine CP.puP fun h101 => ?_)) <;> refine KP.list_nil ?_)
    | (refine CW.region (i := 21) ?_ <;> refine KP.q QK.mv ?_ <;> refine KP.q QK.not ?_ <;> refine KP.list_nil ?_)
    | (refine CW.region (i := 23) ?_ <;> refine KP.q QK.mv ?_ <;> refine KP.q QK.mv ?_ <;> refine KP.q QK.fa ?_ <;> refine KP.q (by first | exact QY.same (QY.load_s rfl (Rd.own (by with_reducible first | exact k0 | exact k1 | exact k2 | exact k3 | exact k4 | exact k5 | exact k6 | exact k7 | exact k8 | exact k9 | fail)) (Reads.pt1 (by rfl))) htv | exact QY.load_s rfl (Rd.own (by with_reducible first | exact k0 | exact k1 | exact k2 | exact k3 | exact k4 | exact k5 | exact k6 | exact k7 | exact k8 | exact k9 | fail)) (Reads.pt1 (by rfl)) | exact QK.lds) ?_ <;> (refine KP.e ?_; ((refine EK.call (same68_spec (m := e27) (r := e33) (i := a.shard) (st := st2)) ?_); repeat' first | refine CP.r ?_ | refine CP.r0 ?_ | refine CP.exP fun e108 => ?_ | refine CP.puP fun h108 => ?_)) <;> refine KP.q QK.not ?_ <;> refine KP.list_nil ?_)
    | (refine CW.region (i := 11) ?_ <;> refine KP.q QK.mv ?_ <;> refine KP.q QK.add ?_ <;> refine KP.q QK.as ?_ <;> refine KP.list_nil ?_)
    | ((with_reducible apply KP.fin1); (· rfl); (· rfl)))
    exact KA.round (i + 1, st2) ⟨by simp only; omega, hsm2⟩

end Go.Proofs.Ytpmhelfdmhjnbaa
