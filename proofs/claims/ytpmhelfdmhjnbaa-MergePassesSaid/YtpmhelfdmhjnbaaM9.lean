import Derived.Test.YtpmhelfdmhjnbaaM8
/- MergePasses. -/
namespace Go.Proofs.Ytpmhelfdmhjnbaa
open Go Go.Ink
set_option linter.unusedVariables false
set_option linter.unusedSimpArgs false
attribute [local irreducible] KP QY EW CW DW QG CP Spc DK Fina wpList lessF

theorem chain_snoc {x : Item} {le : Int} : ∀ (l : List Item) (la : Item) (he : Bool), chainF la he le (l ++ [x]) = (chainF la he le l && !(((he || !l.isEmpty) && !lessF (l.getLast?.getD la) x) || decide (x.dist < le)))
  | [], la, he => by simp [chainF]
  | y :: l, la, he => by
    have ih := chain_snoc (x := x) (le := le) l y true
    have e1 : (y :: l).getLast?.getD la = l.getLast?.getD y := by rw [List.getLast?_cons]; rfl
    simp only [List.cons_append, chainF, ih, e1, List.isEmpty_cons, Bool.not_false, Bool.or_true, Bool.true_or, Bool.and_assoc]
def okF (first : List Item) (i : Nat) : Bool := decide (0 < (first.length : Int)) && decide ((first.length : Int) ≤ 5) && chainF Item.zero false 1 (first.take i)
theorem ok_first {first : List Item} {x : Item} (h : first[0]? = some x) : okF first 1 = (okF first 0 && decide (1 ≤ x.dist)) := by
  have e : first.take 1 = [] ++ [x] := by rw [List.take_add_one, h]; rfl
  unfold okF
  rw [e, chain_snoc]
  have h2 : (!decide (x.dist < 1)) = decide (1 ≤ x.dist) := by
    by_cases h : x.dist < 1
    · simp [h]; try omega
    · simp [h]; try omega
  simp [chainF, Bool.and_assoc, h2]
theorem ok_next {first : List Item} {i : Nat} {x y : Item} (h : first[i]? = some x) (h' : first[i + 1]? = some y) : okF first (i + 2) = (okF first (i + 1) && decide (1 ≤ y.dist) && lessF x y) := by
  have e : first.take (i + 2) = first.take (i + 1) ++ [y] := by rw [List.take_add_one, h']; rfl
  have e2 : (first.take (i + 1)).getLast?.getD Item.zero = x := by rw [List.take_add_one, h]; simp
  have e3 : (first.take (i + 1)).isEmpty = false := by
    rw [List.take_add_one, h]; cases List.take i first <;> rfl
  unfold okF
  rw [e, chain_snoc, e2, e3]
  simp only [Bool.not_false, Bool.or_true, Bool.true_and, Bool.not_or, Bool.not_not]
  have : (!decide (y.dist < 1)) = decide (1 ≤ y.dist) := by
    by_cases h : y.dist < 1
    · simp [h]; try omega
    · simp [h]; try omega
  rw [this, Bool.and_comm (lessF x y)]
  simp only [Bool.and_assoc]
/-- What is left of the merge when the first shard's batch was taken, or not. -/
def stB (first : List Item) (b : Bool) : MS := ⟨10, [if b then ⟨1, 1, false, true, first.getLast?.getD Item.zero, first⟩ else (mkSh 1).p, (mkSh 2).p], []⟩
theorem mp_put {first : List Item} {seq : Int} : (newF [1, 2] 10).put 0 seq first false = ((okF first first.length && decide (seq = 0)), stB first (okF first first.length && decide (seq = 0))) := by
  have hd : (newF [1, 2] 10).done = false := by decide +kernel
  have hs : (newF [1, 2] 10).shs[0]? = some (mkSh 1).p := rfl
  have hw : (mkSh 1).p.wanted = true := by decide +kernel
  have hsq : (mkSh 1).p.seq = 0 := rfl
  have hle : (mkSh 1).p.least = 1 := rfl
  have hh : (mkSh 1).p.heard = false := rfl
  have hl : (mkSh 1).p.last = Item.zero := rfl
  have ht : (newF [1, 2] 10).takes (mkSh 1).p seq first false = (okF first first.length && decide (seq = 0)) := by
    unfold MS.takes okF
    rw [hd, hw, hsq, hle, hh, hl, List.take_length]
    rw [Bool.eq_iff_iff]
    simp
    constructor
    · rintro ⟨⟨⟨h1, h2⟩, h3⟩, h4⟩; exact ⟨⟨⟨List.length_pos_iff.2 h3, by omega⟩, h4⟩, h1.symm⟩
    · rintro ⟨⟨⟨h1, h2⟩, h3⟩, h4⟩; exact ⟨⟨⟨h4.symm, by omega⟩, List.length_pos_iff.1 h1⟩, h3⟩
  unfold MS.put
  rw [if_pos (by decide)]
  simp only [Int.toNat_zero, hs]
  rw [ht]
  cases h : (okF first first.length && decide (seq = 0))
  · simp [stB, newF]
  · have h0 : 0 < first.length := by
      simp [okF] at h
      exact h.1.1.1
    simp [stB, newF, PSh.put, mkSh, h0]
    decide
theorem put_out {st : MS} {i seq : Int} {items : List Item} {e : Bool} (h : i < 0 ∨ (st.shs.length : Int) ≤ i) : st.put i seq items e = (false, st) := by
  unfold MS.put
  split
  · split
    · rename_i s hs
      have := (List.getElem?_eq_some_iff.1 hs).1
      omega
    · rfl
  · rfl
theorem put_no {st : MS} {i : Nat} {s : PSh} {seq : Int} {items : List Item} {e : Bool} (h : st.shs[i]? = some s) (ht : st.takes s seq items e = false) : st.put i seq items e = (false, st) := by
  unfold MS.put
  rw [if_pos (by omega)]
  simp only [Int.toNat_natCast, h]
  rw [ht]; rfl




set_option maxHeartbeats 4000000 in
theorem mergePasses_spec {va vb' : Value} {first more : List Item} {seq : Int} : Spc Try.prog 14 #[va, vb', iv seq] [rrow 2 eI va first, rrow 2 eI vb' more] [] (ret (.bool true) []) := by
  refine Spc.enter' (args := [va, vb', iv seq]) (T0 := [(0, va), (1, vb'), (2, iv seq)]) Try.func14 rfl Try.ntmps14 (Nat.le_of_ble_eq_true rfl) rfl ?_
  intro w0 own
  refine CW.roFact (List.Mem.head _) (fun _ h => rrow.le h) fun hxs => ?_
  repeat' (first
    | (with_reducible refine CW.seq ?_)
    | (with_reducible refine KP.then_code ?_)
    | (with_reducible refine CW.skip ?_)
    | (with_reducible refine CW.ret ?_)
    | (with_reducible refine KP.then_ret ?_)
    | (with_reducible refine KP.block_ret ?_)
    | (with_reducible refine CW.block ?_)
    | (with_reducible refine KP.block_normal ?_)
    | (with_reducible refine CW.exit ?_)
    | (with_reducible refine KP.then_exit ?_)
    | (with_reducible refine KP.block_hit ?_)
    | refine KP.bm ?_
    | refine CW.ct ?_
    | refine CW.cf ?_
    | (refine CW.cP ?_ ?_ <;> intro _ <;> try contradiction)
    | (refine CW.cs ?_ ?_ <;> intro _ <;> try contradiction)
    | (refine CW.region (i := 0) ?_ <;> refine KP.q QK.as ?_ <;> refine KP.list_nil ?_)
    | (refine CW.region (i := 1) ?_ <;> refine KP.q QK.mv ?_ <;> (refine KP.e ?_; ((refine EK.call (greatI_spec) ?_); repeat' first | refine CP.r ?_ | refine CP.r0 ?_ | refine CP.exP fun e14 => ?_ | refine CP.puP fun h14 => ?_)) <;> refine KP.q QK.mv ?_ <;> (first | refine KP.gn ?_ | refine KP.gu ?_ | refine KP.qy QK.mv ?_ | ((first | refine KP.gsP (t := 15) ?_ ?_ | refine KP.gs (t := 15) ?_ ?_) <;> intro _ <;> first | contradiction | refine KP.gn ?_ | refine KP.qy QK.mv ?_)) <;> (first | refine KP.gn ?_ | refine KP.gu ?_ | (refine KP.gy ?_; refine KP.e ?_; ((refine EK.call (greatI_spec) ?_); repeat' first | refine CP.r ?_ | refine CP.r0 ?_ | refine CP.exP fun e17 => ?_ | refine CP.puP fun h17 => ?_))) <;> refine KP.q QK.pk ?_ <;> refine KP.list_nil ?_)
    | (refine CW.region (i := 2) ?_ <;> (refine KP.e ?_; ((refine EK.call (awakeM) ?_); repeat' first | refine CP.r ?_ | refine CP.r0 ?_ | refine CP.exP fun e19 => ?_ | refine CP.puP fun h19 => ?_)) <;> refine KP.q QK.as ?_ <;> refine KP.list_nil ?_)
    | (refine CW.region (i := 3) ?_ <;> (refine KP.e ?_; ((first | refine EW.buildSlice (by decide) rfl (by decide) (by decide) (by repeat (first | exact Fills.nil | (apply Fills.scal; (· rfl); (· rfl); (· first | rfl | assumption); (· (repeat (first | exact SetAt.head | apply SetAt.tail)))) | (apply Fills.agg; (· rfl); (· rfl); (· rfl); (· (repeat (first | exact SplAt.done | apply SplAt.put | apply SplAt.skip)))))) ?_ | refine EW.buildSlice1_s (by decide) rfl (by first | rfl | assumption) rfl ?_ | refine EW.buildSlice1_a (by decide) rfl (by rfl) (by rfl) (by decide) (by decide) ?_); intro b21)) <;> (refine KP.e ?_; ((refine EK.call (newE (least := [1, 2]) (n := 10) (by decide)) ?_); repeat' first | refine CP.r ?_ | refine CP.r0 ?_ | refine CP.exP fun e22 => ?_ | refine CP.puP fun h22 => ?_)) <;> refine KP.q QK.mv ?_ <;> refine KP.q QK.ex ?_ <;> refine KP.q QK.ex ?_ <;> refine KP.q QK.as ?_ <;> refine KP.q QK.as ?_ <;> refine KP.list_nil ?_)
    | (refine CW.region (i := 4) ?_ <;> refine KP.q QK.mv ?_ <;> refine KP.q QK.nei ?_ <;> refine KP.q QK.mv ?_ <;> (first | refine KP.gn ?_ | refine KP.gu ?_ | refine KP.qy QK.mv ?_ | ((first | refine KP.gsP (t := 27) ?_ ?_ | refine KP.gs (t := 27) ?_ ?_) <;> intro _ <;> first | contradiction | refine KP.gn ?_ | refine KP.qy QK.mv ?_)) <;> (first | refine KP.gn ?_ | refine KP.gu ?_ | refine KP.qy QK.eqp ?_) <;> refine KP.q QK.pk ?_ <;> refine KP.list_nil ?_)
    | ((with_reducible apply KP.fin1); (· rfl); (· rfl)))
  all_goals try exact FA.ret
  rename_i hg1 hg2
  have hok0 : okF first 0 = (decide (0 < (first.length : Int)) && decide ((first.length : Int) ≤ 5)) := by simp [okF, chainF]
  generalize hb : okF first 0 = b0 at hok0
  refine CW.mid (X := Unit) (fun _ => [(0, va), (1, vb'), (2, iv seq), (7, qp e22), (9, .bool b0)]) (fun _ => [Mg e22 (newF [1, 2] 10)]) (fun _ => True) ?_ ?_
  · by_cases h1 : 0 < (first.length : Int)
    · by_cases h2 : (first.length : Int) ≤ 5
      · obtain rfl : b0 = true := by rw [hok0]; simp; omega
        repeat' (first
    | (with_reducible refine CW.seq ?_)
    | (with_reducible refine KP.then_code ?_)
    | (with_reducible refine CW.skip ?_)
    | (with_reducible refine CW.ret ?_)
    | (with_reducible refine KP.then_ret ?_)
    | (with_reducible refine KP.block_ret ?_)
    | (with_reducible refine CW.block ?_)
    | (with_reducible refine KP.block_normal ?_)
    | (with_reducible refine CW.exit ?_)
    | (with_reducible refine KP.then_exit ?_)
    | (with_reducible refine KP.block_hit ?_)
    | refine KP.bm ?_
    | refine CW.ct ?_
    | refine CW.cf ?_
    | (refine CW.cP ?_ ?_ <;> intro _ <;> try contradiction)
    | (refine CW.cs ?_ ?_ <;> intro _ <;> try contradiction)
    | (refine CW.region (i := 6) ?_ <;> refine KP.q QK.mv ?_ <;> refine KP.q QK.len ?_ <;> refine KP.q QK.gtr ?_ <;> refine KP.q QK.mv ?_ <;> (first | refine KP.gn ?_ | refine KP.gu ?_ | refine KP.qy QK.mv ?_ | ((first | refine KP.gsP (t := 34) ?_ ?_ | refine KP.gs (t := 34) ?_ ?_) <;> intro _ <;> first | contradiction | refine KP.gn ?_ | refine KP.qy QK.mv ?_)) <;> (first | refine KP.gn ?_ | refine KP.gu ?_ | refine KP.qy QK.len ?_) <;> (first | refine KP.gn ?_ | refine KP.gu ?_ | refine KP.qy QK.leq ?_) <;> refine KP.q QK.pk ?_ <;> refine KP.q QK.as ?_ <;> refine KP.list_nil ?_)
    | ((with_reducible apply KP.fin1); (· rfl); (· rfl)))
        exact KA.joint () trivial
      · obtain rfl : b0 = false := by rw [hok0]; simp; omega
        repeat' (first
    | (with_reducible refine CW.seq ?_)
    | (with_reducible refine KP.then_code ?_)
    | (with_reducible refine CW.skip ?_)
    | (with_reducible refine CW.ret ?_)
    | (with_reducible refine KP.then_ret ?_)
    | (with_reducible refine KP.block_ret ?_)
    | (with_reducible refine CW.block ?_)
    | (with_reducible refine KP.block_normal ?_)
    | (with_reducible refine CW.exit ?_)
    | (with_reducible refine KP.then_exit ?_)
    | (with_reducible refine KP.block_hit ?_)
    | refine KP.bm ?_
    | refine CW.ct ?_
    | refine CW.cf ?_
    | (refine CW.cP ?_ ?_ <;> intro _ <;> try contradiction)
    | (refine CW.cs ?_ ?_ <;> intro _ <;> try contradiction)
    | (refine CW.region (i := 6) ?_ <;> refine KP.q QK.mv ?_ <;> refine KP.q QK.len ?_ <;> refine KP.q QK.gtr ?_ <;> refine KP.q QK.mv ?_ <;> (first | refine KP.gn ?_ | refine KP.gu ?_ | refine KP.qy QK.mv ?_ | ((first | refine KP.gsP (t := 34) ?_ ?_ | refine KP.gs (t := 34) ?_ ?_) <;> intro _ <;> first | contradiction | refine KP.gn ?_ | refine KP.qy QK.mv ?_)) <;> (first | refine KP.gn ?_ | refine KP.gu ?_ | refine KP.qy QK.len ?_) <;> (first | refine KP.gn ?_ | refine KP.gu ?_ | refine KP.qy QK.leq ?_) <;> refine KP.q QK.pk ?_ <;> refine KP.q QK.as ?_ <;> refine KP.list_nil ?_)
    | ((with_reducible apply KP.fin1); (· rfl); (· rfl)))
        exact KA.joint () trivial
    · obtain rfl : b0 = false := by rw [hok0]; simp; omega
      repeat' (first
    | (with_reducible refine CW.seq ?_)
    | (with_reducible refine KP.then_code ?_)
    | (with_reducible refine CW.skip ?_)
    | (with_reducible refine CW.ret ?_)
    | (with_reducible refine KP.then_ret ?_)
    | (with_reducible refine KP.block_ret ?_)
    | (with_reducible refine CW.block ?_)
    | (with_reducible refine KP.block_normal ?_)
    | (with_reducible refine CW.exit ?_)
    | (with_reducible refine KP.then_exit ?_)
    | (with_reducible refine KP.block_hit ?_)
    | refine KP.bm ?_
    | refine CW.ct ?_
    | refine CW.cf ?_
    | (refine CW.cP ?_ ?_ <;> intro _ <;> try contradiction)
    | (refine CW.cs ?_ ?_ <;> intro _ <;> try contradiction)
    | (refine CW.region (i := 6) ?_ <;> refine KP.q QK.mv ?_ <;> refine KP.q QK.len ?_ <;> refine KP.q QK.gtr ?_ <;> refine KP.q QK.mv ?_ <;> (first | refine KP.gn ?_ | refine KP.gu ?_ | refine KP.qy QK.mv ?_ | ((first | refine KP.gsP (t := 34) ?_ ?_ | refine KP.gs (t := 34) ?_ ?_) <;> intro _ <;> first | contradiction | refine KP.gn ?_ | refine KP.qy QK.mv ?_)) <;> (first | refine KP.gn ?_ | refine KP.gu ?_ | refine KP.qy QK.len ?_) <;> (first | refine KP.gn ?_ | refine KP.gu ?_ | refine KP.qy QK.leq ?_) <;> refine KP.q QK.pk ?_ <;> refine KP.q QK.as ?_ <;> refine KP.list_nil ?_)
    | ((with_reducible apply KP.fin1); (· rfl); (· rfl)))
      exact KA.joint () trivial
  · rintro - -
    rw [← hb]
    repeat' (first
    | (with_reducible refine CW.seq ?_)
    | (with_reducible refine KP.then_code ?_)
    | (with_reducible refine CW.skip ?_)
    | (with_reducible refine CW.ret ?_)
    | (with_reducible refine KP.then_ret ?_)
    | (with_reducible refine KP.block_ret ?_)
    | (with_reducible refine CW.block ?_)
    | (with_reducible refine KP.block_normal ?_)
    | (with_reducible refine CW.exit ?_)
    | (with_reducible refine KP.then_exit ?_)
    | (with_reducible refine KP.block_hit ?_)
    | refine KP.bm ?_
    | refine CW.ct ?_
    | refine CW.cf ?_
    | (refine CW.cP ?_ ?_ <;> intro _ <;> try contradiction)
    | (refine CW.cs ?_ ?_ <;> intro _ <;> try contradiction)
    | (refine CW.region (i := 7) ?_ <;> refine KP.q QK.as ?_ <;> refine KP.list_nil ?_)
    | ((with_reducible apply KP.fin1); (· rfl); (· rfl)))
    refine CA.loop (X := Nat) (fun i => [(0, va), (1, vb'), (2, iv seq), (7, qp e22), (9, .bool (okF first i)), (10, iv i)]) (fun _ => [Mg e22 (newF [1, 2] 10)]) (fun i => i ≤ first.length) (fun i => first.length - i) 0 (by simp) ?_
    rintro i hi
    try dsimp only at hi ⊢
    rcases Nat.lt_or_ge i first.length with hlt | hge
    · obtain ⟨y, hy⟩ := at_lt hlt
      cases i with
      | zero =>
        have hkp := ok_first hy
        have hr : ∀ (b : Bool), okF first (0 + 1) = b → b = okF first (0 + 1) := fun b h => h.symm
        cases hb2 : okF first 0
        · rw [hb2] at hkp
          repeat' (first
    | (with_reducible refine CW.seq ?_)
    | (with_reducible refine KP.then_code ?_)
    | (with_reducible refine CW.skip ?_)
    | (with_reducible refine CW.ret ?_)
    | (with_reducible refine KP.then_ret ?_)
    | (with_reducible refine KP.block_ret ?_)
    | (with_reducible refine CW.block ?_)
    | (with_reducible refine KP.block_normal ?_)
    | (with_reducible refine CW.exit ?_)
    | (with_reducible refine KP.then_exit ?_)
    | (with_reducible refine KP.block_hit ?_)
    | refine KP.bm ?_
    | refine CW.ct ?_
    | refine CW.cf ?_
    | (refine CW.cP ?_ ?_ <;> intro _ <;> try contradiction)
    | (refine CW.cs ?_ ?_ <;> intro _ <;> try contradiction)
    | (refine CW.region (i := 8) ?_ <;> refine KP.q QK.mv ?_ <;> refine KP.q QK.mv ?_ <;> refine KP.q QK.len ?_ <;> refine KP.q QK.lss ?_ <;> refine KP.list_nil ?_)
    | (((with_reducible refine CW.draw (i := 10) ?_ [[], [0], [0, 1], [0, 1], [0, 1, 2, 3], [0, 1, 2, 3, 4], [0, 1, 2, 3, 4, 5], [0, 1, 2, 3, 4, 5, 6], [0, 1, 2, 3, 4, 5, 6, 7], [0, 1, 2, 3, 4, 5, 6, 7, 8], [0, 1, 2, 3, 4, 5, 6, 7, 8, 9], [0, 1, 2, 3, 4, 5, 6, 7, 8, 9, 10], [0, 1, 2, 3, 4, 5, 6, 7, 8, 9, 10, 11], [0, 1, 2, 3, 4, 5, 6, 7, 8, 9, 10, 11, 12], [0, 1, 2, 3, 4, 5, 6, 7, 8, 9, 10, 11, 12], [0, 1, 2, 3, 4, 5, 6, 7, 8, 9, 10, 11, 12, 14], [0, 1, 2, 3, 4, 5, 6, 7, 8, 9, 10, 11, 12, 13, 14, 15], [0, 1, 2, 3, 4, 5, 6, 7, 8, 9, 10, 11, 12, 13, 14, 15, 16], [0, 1, 2, 3, 4, 5, 6, 7, 8, 9, 10, 11, 12], [0, 1, 2, 3, 4, 5, 6, 7, 8, 9, 10, 11, 12], [0, 1, 2, 3, 4, 5, 6, 7, 8, 9, 10, 11, 12, 18, 19], [0, 1, 2, 3, 4, 5, 6, 7, 8, 9, 10, 11, 12, 18, 19, 20], [0, 1, 2, 3, 4, 5, 6, 7, 8, 9, 10, 11, 12, 13, 14, 15, 16, 17, 18, 19, 20, 21], [0, 1, 2, 3, 4, 5, 6, 7, 8, 9, 10, 11, 12, 13, 14, 15, 16, 17, 18, 19, 20, 21, 22], [0, 1, 2, 3, 4, 5, 6, 7, 8, 9, 10, 11, 12, 13, 14, 15, 16, 17, 18, 19, 20, 21, 22, 23], [0, 1, 2, 3, 4, 5, 6, 7, 8, 9, 10, 11, 12, 13, 14, 15, 16, 17, 18, 19, 20, 21, 22, 23, 24]] ?_ ?_ ?_ ?_); (· rfl); (· kernel_rfl); (· kernel_rfl); (· repeat (first | exact NoHang.post | refine NoHang.then ?_ | refine NoHang.block ?_))) <;> refine DW.p 0 rfl (fun _ => QK.mv) ?_ <;> refine DW.p 1 rfl (fun _ => QK.mv) ?_ <;> (first | refine DW.pn 2 rfl rfl rfl ?_ | refine DW.pu 2 rfl rfl rfl ?_ | refine DW.py 2 rfl rfl rfl (fun _ => QK.mv) ?_ | ((first | refine DW.sP (t := 46) ?_ ?_ | refine DW.s (t := 46) ?_ ?_) <;> intro _ <;> first | contradiction | refine DW.pn 2 rfl rfl rfl ?_ | refine DW.pu 2 rfl rfl rfl ?_ | refine DW.py 2 rfl rfl rfl (fun _ => QK.mv) ?_)) <;> (first | refine DW.pn 3 rfl rfl rfl ?_ | refine DW.pu 3 rfl rfl rfl ?_ | refine DW.py 3 rfl rfl rfl (fun _ => QK.mv) ?_) <;> (first | refine DW.mn 4 rfl rfl rfl ?_ | refine DW.mu 4 rfl rfl rfl ?_ | refine DW.my 4 rfl rfl rfl QK.ia ?_) <;> (first | refine DW.pn 5 rfl rfl rfl ?_ | refine DW.pu 5 rfl rfl rfl ?_ | refine DW.py 5 rfl rfl rfl (fun _ => QK.fa) ?_) <;> (first | refine DW.mn 6 rfl rfl rfl ?_ | refine DW.mu 6 rfl rfl rfl ?_ | refine DW.my 6 rfl rfl rfl QK.lds ?_) <;> (first | refine DW.pn 7 rfl rfl rfl ?_ | refine DW.pu 7 rfl rfl rfl ?_ | refine DW.py 7 rfl rfl rfl (fun _ => QK.geq) ?_) <;> refine DW.p 8 rfl (fun _ => QK.pk) ?_ <;> refine DW.p 9 rfl (fun _ => QK.mv) ?_ <;> (first | refine DW.pn 10 rfl rfl rfl ?_ | refine DW.pu 10 rfl rfl rfl ?_ | refine DW.py 10 rfl rfl rfl (fun _ => QK.mv) ?_ | ((first | refine DW.sP (t := 54) ?_ ?_ | refine DW.s (t := 54) ?_ ?_) <;> intro _ <;> first | contradiction | refine DW.pn 10 rfl rfl rfl ?_ | refine DW.pu 10 rfl rfl rfl ?_ | refine DW.py 10 rfl rfl rfl (fun _ => QK.mv) ?_)) <;> (first | refine DW.pn 11 rfl rfl rfl ?_ | refine DW.pu 11 rfl rfl rfl ?_ | refine DW.py 11 rfl rfl rfl (fun _ => QK.eqi) ?_) <;> (first | refine DW.pn 12 rfl rfl rfl ?_ | refine DW.pu 12 rfl rfl rfl ?_ | refine DW.py 12 rfl rfl rfl (fun _ => QK.mv) ?_) <;> (first | refine DW.pn 13 rfl rfl rfl ?_ | refine DW.pu 13 rfl rfl rfl ?_ | refine DW.py 13 rfl rfl rfl (fun _ => QK.mv) ?_ | ((first | refine DW.sP (t := 57) ?_ ?_ | refine DW.s (t := 57) ?_ ?_) <;> intro _ <;> first | contradiction | refine DW.pn 13 rfl rfl rfl ?_ | refine DW.pu 13 rfl rfl rfl ?_ | refine DW.py 13 rfl rfl rfl (fun _ => QK.mv) ?_)) <;> (first | refine DW.pn 14 rfl rfl rfl ?_ | refine DW.pu 14 rfl rfl rfl ?_ | refine DW.py 14 rfl rfl rfl (fun _ => QK.mv) ?_) <;> (first | refine DW.pn 15 rfl rfl rfl ?_ | refine DW.pu 15 rfl rfl rfl ?_ | refine DW.py 15 rfl rfl rfl (fun _ => QK.sub) ?_) <;> (first | refine DW.pn 18 rfl rfl rfl ?_ | refine DW.pu 18 rfl rfl rfl ?_ | refine DW.py 18 rfl rfl rfl (fun _ => QK.mv) ?_) <;> (first | refine DW.pn 19 rfl rfl rfl ?_ | refine DW.pu 19 rfl rfl rfl ?_ | refine DW.py 19 rfl rfl rfl (fun _ => QK.mv) ?_) <;> (first | refine DW.mn 16 rfl rfl rfl ?_ | refine DW.mu 16 rfl rfl rfl ?_ | refine DW.my 16 rfl rfl rfl QK.ia ?_) <;> (first | refine DW.mn 17 rfl rfl rfl ?_ | refine DW.mu 17 rfl rfl rfl ?_ | refine DW.my 17 rfl rfl rfl QK.lda ?_) <;> (first | refine DW.mn 20 rfl rfl rfl ?_ | refine DW.mu 20 rfl rfl rfl ?_ | refine DW.my 20 rfl rfl rfl QK.ia ?_) <;> (first | refine DW.mn 21 rfl rfl rfl ?_ | refine DW.mu 21 rfl rfl rfl ?_ | refine DW.my 21 rfl rfl rfl QK.lda ?_) <;> (first | (refine DW.exn 22 rfl rfl rfl ?_; intro hdk; refine DK.mk hdk .nil ?_; clear hdk) | (refine DW.exy 22 rfl rfl rfl ?_; intro hdk; ((fail "no rule f38"); repeat' first | refine CP.r ?_ | refine CP.r0 ?_ | refine CP.exP fun e67 => ?_ | refine CP.puP fun h67 => ?_); all_goals (refine DK.mk hdk .nil ?_; clear hdk))) <;> (first | refine DW.pn 23 rfl rfl rfl ?_ | refine DW.pu 23 rfl rfl rfl ?_ | refine DW.py 23 rfl rfl rfl (fun _ => QK.pk) ?_) <;> refine DW.p 24 rfl (fun _ => QK.pk) ?_ <;> refine DW.p 25 rfl (fun _ => QK.as) ?_ <;> refine DW.zz ?_)
    | (refine CW.region (i := 9) ?_ <;> refine KP.q QK.mv ?_ <;> refine KP.q QK.add ?_ <;> refine KP.q QK.as ?_ <;> refine KP.list_nil ?_)
    | ((with_reducible apply KP.fin1); (· rfl); (· rfl)))
          rw [hr false (by simpa using hkp)]
          exact KA.round (0 + 1) (by omega)
        · rw [hb2] at hkp
          by_cases hd : 1 ≤ y.dist
          · repeat' (first
    | (with_reducible refine CW.seq ?_)
    | (with_reducible refine KP.then_code ?_)
    | (with_reducible refine CW.skip ?_)
    | (with_reducible refine CW.ret ?_)
    | (with_reducible refine KP.then_ret ?_)
    | (with_reducible refine KP.block_ret ?_)
    | (with_reducible refine CW.block ?_)
    | (with_reducible refine KP.block_normal ?_)
    | (with_reducible refine CW.exit ?_)
    | (with_reducible refine KP.then_exit ?_)
    | (with_reducible refine KP.block_hit ?_)
    | refine KP.bm ?_
    | refine CW.ct ?_
    | refine CW.cf ?_
    | (refine CW.cP ?_ ?_ <;> intro _ <;> try contradiction)
    | (refine CW.cs ?_ ?_ <;> intro _ <;> try contradiction)
    | (refine CW.region (i := 8) ?_ <;> refine KP.q QK.mv ?_ <;> refine KP.q QK.mv ?_ <;> refine KP.q QK.len ?_ <;> refine KP.q QK.lss ?_ <;> refine KP.list_nil ?_)
    | (((with_reducible refine CW.draw (i := 10) ?_ [[], [0], [0, 1], [0, 1], [0, 1, 2, 3], [0, 1, 2, 3, 4], [0, 1, 2, 3, 4, 5], [0, 1, 2, 3, 4, 5, 6], [0, 1, 2, 3, 4, 5, 6, 7], [0, 1, 2, 3, 4, 5, 6, 7, 8], [0, 1, 2, 3, 4, 5, 6, 7, 8, 9], [0, 1, 2, 3, 4, 5, 6, 7, 8, 9, 10], [0, 1, 2, 3, 4, 5, 6, 7, 8, 9, 10, 11], [0, 1, 2, 3, 4, 5, 6, 7, 8, 9, 10, 11, 12], [0, 1, 2, 3, 4, 5, 6, 7, 8, 9, 10, 11, 12], [0, 1, 2, 3, 4, 5, 6, 7, 8, 9, 10, 11, 12, 14], [0, 1, 2, 3, 4, 5, 6, 7, 8, 9, 10, 11, 12, 13, 14, 15], [0, 1, 2, 3, 4, 5, 6, 7, 8, 9, 10, 11, 12, 13, 14, 15, 16], [0, 1, 2, 3, 4, 5, 6, 7, 8, 9, 10, 11, 12], [0, 1, 2, 3, 4, 5, 6, 7, 8, 9, 10, 11, 12], [0, 1, 2, 3, 4, 5, 6, 7, 8, 9, 10, 11, 12, 18, 19], [0, 1, 2, 3, 4, 5, 6, 7, 8, 9, 10, 11, 12, 18, 19, 20], [0, 1, 2, 3, 4, 5, 6, 7, 8, 9, 10, 11, 12, 13, 14, 15, 16, 17, 18, 19, 20, 21], [0, 1, 2, 3, 4, 5, 6, 7, 8, 9, 10, 11, 12, 13, 14, 15, 16, 17, 18, 19, 20, 21, 22], [0, 1, 2, 3, 4, 5, 6, 7, 8, 9, 10, 11, 12, 13, 14, 15, 16, 17, 18, 19, 20, 21, 22, 23], [0, 1, 2, 3, 4, 5, 6, 7, 8, 9, 10, 11, 12, 13, 14, 15, 16, 17, 18, 19, 20, 21, 22, 23, 24]] ?_ ?_ ?_ ?_); (· rfl); (· kernel_rfl); (· kernel_rfl); (· repeat (first | exact NoHang.post | refine NoHang.then ?_ | refine NoHang.block ?_))) <;> refine DW.p 0 rfl (fun _ => QK.mv) ?_ <;> refine DW.p 1 rfl (fun _ => QK.mv) ?_ <;> (first | refine DW.pn 2 rfl rfl rfl ?_ | refine DW.pu 2 rfl rfl rfl ?_ | refine DW.py 2 rfl rfl rfl (fun _ => QK.mv) ?_ | ((first | refine DW.sP (t := 46) ?_ ?_ | refine DW.s (t := 46) ?_ ?_) <;> intro _ <;> first | contradiction | refine DW.pn 2 rfl rfl rfl ?_ | refine DW.pu 2 rfl rfl rfl ?_ | refine DW.py 2 rfl rfl rfl (fun _ => QK.mv) ?_)) <;> (first | refine DW.pn 3 rfl rfl rfl ?_ | refine DW.pu 3 rfl rfl rfl ?_ | refine DW.py 3 rfl rfl rfl (fun _ => QK.mv) ?_) <;> (first | refine DW.mn 4 rfl rfl rfl ?_ | refine DW.mu 4 rfl rfl rfl ?_ | refine DW.my 4 rfl rfl rfl QK.ia ?_) <;> (first | refine DW.pn 5 rfl rfl rfl ?_ | refine DW.pu 5 rfl rfl rfl ?_ | refine DW.py 5 rfl rfl rfl (fun _ => QK.fa) ?_) <;> (first | refine DW.mn 6 rfl rfl rfl ?_ | refine DW.mu 6 rfl rfl rfl ?_ | refine DW.my 6 rfl rfl rfl QK.lds ?_) <;> (first | refine DW.pn 7 rfl rfl rfl ?_ | refine DW.pu 7 rfl rfl rfl ?_ | refine DW.py 7 rfl rfl rfl (fun _ => QK.geq) ?_) <;> refine DW.p 8 rfl (fun _ => QK.pk) ?_ <;> refine DW.p 9 rfl (fun _ => QK.mv) ?_ <;> (first | refine DW.pn 10 rfl rfl rfl ?_ | refine DW.pu 10 rfl rfl rfl ?_ | refine DW.py 10 rfl rfl rfl (fun _ => QK.mv) ?_ | ((first | refine DW.sP (t := 54) ?_ ?_ | refine DW.s (t := 54) ?_ ?_) <;> intro _ <;> first | contradiction | refine DW.pn 10 rfl rfl rfl ?_ | refine DW.pu 10 rfl rfl rfl ?_ | refine DW.py 10 rfl rfl rfl (fun _ => QK.mv) ?_)) <;> (first | refine DW.pn 11 rfl rfl rfl ?_ | refine DW.pu 11 rfl rfl rfl ?_ | refine DW.py 11 rfl rfl rfl (fun _ => QK.eqi) ?_) <;> (first | refine DW.pn 12 rfl rfl rfl ?_ | refine DW.pu 12 rfl rfl rfl ?_ | refine DW.py 12 rfl rfl rfl (fun _ => QK.mv) ?_) <;> (first | refine DW.pn 13 rfl rfl rfl ?_ | refine DW.pu 13 rfl rfl rfl ?_ | refine DW.py 13 rfl rfl rfl (fun _ => QK.mv) ?_ | ((first | refine DW.sP (t := 57) ?_ ?_ | refine DW.s (t := 57) ?_ ?_) <;> intro _ <;> first | contradiction | refine DW.pn 13 rfl rfl rfl ?_ | refine DW.pu 13 rfl rfl rfl ?_ | refine DW.py 13 rfl rfl rfl (fun _ => QK.mv) ?_)) <;> (first | refine DW.pn 14 rfl rfl rfl ?_ | refine DW.pu 14 rfl rfl rfl ?_ | refine DW.py 14 rfl rfl rfl (fun _ => QK.mv) ?_) <;> (first | refine DW.pn 15 rfl rfl rfl ?_ | refine DW.pu 15 rfl rfl rfl ?_ | refine DW.py 15 rfl rfl rfl (fun _ => QK.sub) ?_) <;> (first | refine DW.pn 18 rfl rfl rfl ?_ | refine DW.pu 18 rfl rfl rfl ?_ | refine DW.py 18 rfl rfl rfl (fun _ => QK.mv) ?_) <;> (first | refine DW.pn 19 rfl rfl rfl ?_ | refine DW.pu 19 rfl rfl rfl ?_ | refine DW.py 19 rfl rfl rfl (fun _ => QK.mv) ?_) <;> (first | refine DW.mn 16 rfl rfl rfl ?_ | refine DW.mu 16 rfl rfl rfl ?_ | refine DW.my 16 rfl rfl rfl QK.ia ?_) <;> (first | refine DW.mn 17 rfl rfl rfl ?_ | refine DW.mu 17 rfl rfl rfl ?_ | refine DW.my 17 rfl rfl rfl QK.lda ?_) <;> (first | refine DW.mn 20 rfl rfl rfl ?_ | refine DW.mu 20 rfl rfl rfl ?_ | refine DW.my 20 rfl rfl rfl QK.ia ?_) <;> (first | refine DW.mn 21 rfl rfl rfl ?_ | refine DW.mu 21 rfl rfl rfl ?_ | refine DW.my 21 rfl rfl rfl QK.lda ?_) <;> (first | (refine DW.exn 22 rfl rfl rfl ?_; intro hdk; refine DK.mk hdk .nil ?_; clear hdk) | (refine DW.exy 22 rfl rfl rfl ?_; intro hdk; ((fail "no rule f38"); repeat' first | refine CP.r ?_ | refine CP.r0 ?_ | refine CP.exP fun e67 => ?_ | refine CP.puP fun h67 => ?_); all_goals (refine DK.mk hdk .nil ?_; clear hdk))) <;> (first | refine DW.pn 23 rfl rfl rfl ?_ | refine DW.pu 23 rfl rfl rfl ?_ | refine DW.py 23 rfl rfl rfl (fun _ => QK.pk) ?_) <;> refine DW.p 24 rfl (fun _ => QK.pk) ?_ <;> refine DW.p 25 rfl (fun _ => QK.as) ?_ <;> refine DW.zz ?_)
    | (refine CW.region (i := 9) ?_ <;> refine KP.q QK.mv ?_ <;> refine KP.q QK.add ?_ <;> refine KP.q QK.as ?_ <;> refine KP.list_nil ?_)
    | ((with_reducible apply KP.fin1); (· rfl); (· rfl)))
            rw [hr true (by simpa [hd] using hkp)]
            exact KA.round (0 + 1) (by omega)
          · repeat' (first
    | (with_reducible refine CW.seq ?_)
    | (with_reducible refine KP.then_code ?_)
    | (with_reducible refine CW.skip ?_)
    | (with_reducible refine CW.ret ?_)
    | (with_reducible refine KP.then_ret ?_)
    | (with_reducible refine KP.block_ret ?_)
    | (with_reducible refine CW.block ?_)
    | (with_reducible refine KP.block_normal ?_)
    | (with_reducible refine CW.exit ?_)
    | (with_reducible refine KP.then_exit ?_)
    | (with_reducible refine KP.block_hit ?_)
    | refine KP.bm ?_
    | refine CW.ct ?_
    | refine CW.cf ?_
    | (refine CW.cP ?_ ?_ <;> intro _ <;> try contradiction)
    | (refine CW.cs ?_ ?_ <;> intro _ <;> try contradiction)
    | (refine CW.region (i := 8) ?_ <;> refine KP.q QK.mv ?_ <;> refine KP.q QK.mv ?_ <;> refine KP.q QK.len ?_ <;> refine KP.q QK.lss ?_ <;> refine KP.list_nil ?_)
    | (((with_reducible refine CW.draw (i := 10) ?_ [[], [0], [0, 1], [0, 1], [0, 1, 2, 3], [0, 1, 2, 3, 4], [0, 1, 2, 3, 4, 5], [0, 1, 2, 3, 4, 5, 6], [0, 1, 2, 3, 4, 5, 6, 7], [0, 1, 2, 3, 4, 5, 6, 7, 8], [0, 1, 2, 3, 4, 5, 6, 7, 8, 9], [0, 1, 2, 3, 4, 5, 6, 7, 8, 9, 10], [0, 1, 2, 3, 4, 5, 6, 7, 8, 9, 10, 11], [0, 1, 2, 3, 4, 5, 6, 7, 8, 9, 10, 11, 12], [0, 1, 2, 3, 4, 5, 6, 7, 8, 9, 10, 11, 12], [0, 1, 2, 3, 4, 5, 6, 7, 8, 9, 10, 11, 12, 14], [0, 1, 2, 3, 4, 5, 6, 7, 8, 9, 10, 11, 12, 13, 14, 15], [0, 1, 2, 3, 4, 5, 6, 7, 8, 9, 10, 11, 12, 13, 14, 15, 16], [0, 1, 2, 3, 4, 5, 6, 7, 8, 9, 10, 11, 12], [0, 1, 2, 3, 4, 5, 6, 7, 8, 9, 10, 11, 12], [0, 1, 2, 3, 4, 5, 6, 7, 8, 9, 10, 11, 12, 18, 19], [0, 1, 2, 3, 4, 5, 6, 7, 8, 9, 10, 11, 12, 18, 19, 20], [0, 1, 2, 3, 4, 5, 6, 7, 8, 9, 10, 11, 12, 13, 14, 15, 16, 17, 18, 19, 20, 21], [0, 1, 2, 3, 4, 5, 6, 7, 8, 9, 10, 11, 12, 13, 14, 15, 16, 17, 18, 19, 20, 21, 22], [0, 1, 2, 3, 4, 5, 6, 7, 8, 9, 10, 11, 12, 13, 14, 15, 16, 17, 18, 19, 20, 21, 22, 23], [0, 1, 2, 3, 4, 5, 6, 7, 8, 9, 10, 11, 12, 13, 14, 15, 16, 17, 18, 19, 20, 21, 22, 23, 24]] ?_ ?_ ?_ ?_); (· rfl); (· kernel_rfl); (· kernel_rfl); (· repeat (first | exact NoHang.post | refine NoHang.then ?_ | refine NoHang.block ?_))) <;> refine DW.p 0 rfl (fun _ => QK.mv) ?_ <;> refine DW.p 1 rfl (fun _ => QK.mv) ?_ <;> (first | refine DW.pn 2 rfl rfl rfl ?_ | refine DW.pu 2 rfl rfl rfl ?_ | refine DW.py 2 rfl rfl rfl (fun _ => QK.mv) ?_ | ((first | refine DW.sP (t := 46) ?_ ?_ | refine DW.s (t := 46) ?_ ?_) <;> intro _ <;> first | contradiction | refine DW.pn 2 rfl rfl rfl ?_ | refine DW.pu 2 rfl rfl rfl ?_ | refine DW.py 2 rfl rfl rfl (fun _ => QK.mv) ?_)) <;> (first | refine DW.pn 3 rfl rfl rfl ?_ | refine DW.pu 3 rfl rfl rfl ?_ | refine DW.py 3 rfl rfl rfl (fun _ => QK.mv) ?_) <;> (first | refine DW.mn 4 rfl rfl rfl ?_ | refine DW.mu 4 rfl rfl rfl ?_ | refine DW.my 4 rfl rfl rfl QK.ia ?_) <;> (first | refine DW.pn 5 rfl rfl rfl ?_ | refine DW.pu 5 rfl rfl rfl ?_ | refine DW.py 5 rfl rfl rfl (fun _ => QK.fa) ?_) <;> (first | refine DW.mn 6 rfl rfl rfl ?_ | refine DW.mu 6 rfl rfl rfl ?_ | refine DW.my 6 rfl rfl rfl QK.lds ?_) <;> (first | refine DW.pn 7 rfl rfl rfl ?_ | refine DW.pu 7 rfl rfl rfl ?_ | refine DW.py 7 rfl rfl rfl (fun _ => QK.geq) ?_) <;> refine DW.p 8 rfl (fun _ => QK.pk) ?_ <;> refine DW.p 9 rfl (fun _ => QK.mv) ?_ <;> (first | refine DW.pn 10 rfl rfl rfl ?_ | refine DW.pu 10 rfl rfl rfl ?_ | refine DW.py 10 rfl rfl rfl (fun _ => QK.mv) ?_ | ((first | refine DW.sP (t := 54) ?_ ?_ | refine DW.s (t := 54) ?_ ?_) <;> intro _ <;> first | contradiction | refine DW.pn 10 rfl rfl rfl ?_ | refine DW.pu 10 rfl rfl rfl ?_ | refine DW.py 10 rfl rfl rfl (fun _ => QK.mv) ?_)) <;> (first | refine DW.pn 11 rfl rfl rfl ?_ | refine DW.pu 11 rfl rfl rfl ?_ | refine DW.py 11 rfl rfl rfl (fun _ => QK.eqi) ?_) <;> (first | refine DW.pn 12 rfl rfl rfl ?_ | refine DW.pu 12 rfl rfl rfl ?_ | refine DW.py 12 rfl rfl rfl (fun _ => QK.mv) ?_) <;> (first | refine DW.pn 13 rfl rfl rfl ?_ | refine DW.pu 13 rfl rfl rfl ?_ | refine DW.py 13 rfl rfl rfl (fun _ => QK.mv) ?_ | ((first | refine DW.sP (t := 57) ?_ ?_ | refine DW.s (t := 57) ?_ ?_) <;> intro _ <;> first | contradiction | refine DW.pn 13 rfl rfl rfl ?_ | refine DW.pu 13 rfl rfl rfl ?_ | refine DW.py 13 rfl rfl rfl (fun _ => QK.mv) ?_)) <;> (first | refine DW.pn 14 rfl rfl rfl ?_ | refine DW.pu 14 rfl rfl rfl ?_ | refine DW.py 14 rfl rfl rfl (fun _ => QK.mv) ?_) <;> (first | refine DW.pn 15 rfl rfl rfl ?_ | refine DW.pu 15 rfl rfl rfl ?_ | refine DW.py 15 rfl rfl rfl (fun _ => QK.sub) ?_) <;> (first | refine DW.pn 18 rfl rfl rfl ?_ | refine DW.pu 18 rfl rfl rfl ?_ | refine DW.py 18 rfl rfl rfl (fun _ => QK.mv) ?_) <;> (first | refine DW.pn 19 rfl rfl rfl ?_ | refine DW.pu 19 rfl rfl rfl ?_ | refine DW.py 19 rfl rfl rfl (fun _ => QK.mv) ?_) <;> (first | refine DW.mn 16 rfl rfl rfl ?_ | refine DW.mu 16 rfl rfl rfl ?_ | refine DW.my 16 rfl rfl rfl QK.ia ?_) <;> (first | refine DW.mn 17 rfl rfl rfl ?_ | refine DW.mu 17 rfl rfl rfl ?_ | refine DW.my 17 rfl rfl rfl QK.lda ?_) <;> (first | refine DW.mn 20 rfl rfl rfl ?_ | refine DW.mu 20 rfl rfl rfl ?_ | refine DW.my 20 rfl rfl rfl QK.ia ?_) <;> (first | refine DW.mn 21 rfl rfl rfl ?_ | refine DW.mu 21 rfl rfl rfl ?_ | refine DW.my 21 rfl rfl rfl QK.lda ?_) <;> (first | (refine DW.exn 22 rfl rfl rfl ?_; intro hdk; refine DK.mk hdk .nil ?_; clear hdk) | (refine DW.exy 22 rfl rfl rfl ?_; intro hdk; ((fail "no rule f38"); repeat' first | refine CP.r ?_ | refine CP.r0 ?_ | refine CP.exP fun e67 => ?_ | refine CP.puP fun h67 => ?_); all_goals (refine DK.mk hdk .nil ?_; clear hdk))) <;> (first | refine DW.pn 23 rfl rfl rfl ?_ | refine DW.pu 23 rfl rfl rfl ?_ | refine DW.py 23 rfl rfl rfl (fun _ => QK.pk) ?_) <;> refine DW.p 24 rfl (fun _ => QK.pk) ?_ <;> refine DW.p 25 rfl (fun _ => QK.as) ?_ <;> refine DW.zz ?_)
    | (refine CW.region (i := 9) ?_ <;> refine KP.q QK.mv ?_ <;> refine KP.q QK.add ?_ <;> refine KP.q QK.as ?_ <;> refine KP.list_nil ?_)
    | ((with_reducible apply KP.fin1); (· rfl); (· rfl)))
            rw [hr false (by simpa [hd] using hkp)]
            exact KA.round (0 + 1) (by omega)
      | succ i =>
        obtain ⟨x, hx⟩ := at_lt (xs := first) (i := i) (by omega)
        have hkp := ok_next hx hy
        have hr : ∀ (b : Bool), okF first (i + 1 + 1) = b → b = okF first (i + 1 + 1) := fun b h => h.symm
        have hlt1 : i < first.length := by omega
        have hsub : Value.int .i64 (((i + 1 : Nat) : Int) - 1) = iv i := by simp
        
        
        
        
        cases hb2 : okF first (i + 1)
        · rw [hb2] at hkp
          repeat' (first
    | (with_reducible refine CW.seq ?_)
    | (with_reducible refine KP.then_code ?_)
    | (with_reducible refine CW.skip ?_)
    | (with_reducible refine CW.ret ?_)
    | (with_reducible refine KP.then_ret ?_)
    | (with_reducible refine KP.block_ret ?_)
    | (with_reducible refine CW.block ?_)
    | (with_reducible refine KP.block_normal ?_)
    | (with_reducible refine CW.exit ?_)
    | (with_reducible refine KP.then_exit ?_)
    | (with_reducible refine KP.block_hit ?_)
    | refine KP.bm ?_
    | refine CW.ct ?_
    | refine CW.cf ?_
    | (refine CW.cP ?_ ?_ <;> intro _ <;> try contradiction)
    | (refine CW.cs ?_ ?_ <;> intro _ <;> try contradiction)
    | (refine CW.region (i := 8) ?_ <;> refine KP.q QK.mv ?_ <;> refine KP.q QK.mv ?_ <;> refine KP.q QK.len ?_ <;> refine KP.q QK.lss ?_ <;> refine KP.list_nil ?_)
    | (((with_reducible refine CW.draw (i := 10) ?_ [[], [0], [0, 1], [0, 1], [0, 1, 2, 3], [0, 1, 2, 3, 4], [0, 1, 2, 3, 4, 5], [0, 1, 2, 3, 4, 5, 6], [0, 1, 2, 3, 4, 5, 6, 7], [0, 1, 2, 3, 4, 5, 6, 7, 8], [0, 1, 2, 3, 4, 5, 6, 7, 8, 9], [0, 1, 2, 3, 4, 5, 6, 7, 8, 9, 10], [0, 1, 2, 3, 4, 5, 6, 7, 8, 9, 10, 11], [0, 1, 2, 3, 4, 5, 6, 7, 8, 9, 10, 11, 12], [0, 1, 2, 3, 4, 5, 6, 7, 8, 9, 10, 11, 12], [0, 1, 2, 3, 4, 5, 6, 7, 8, 9, 10, 11, 12, 14], [0, 1, 2, 3, 4, 5, 6, 7, 8, 9, 10, 11, 12, 13, 14, 15], [0, 1, 2, 3, 4, 5, 6, 7, 8, 9, 10, 11, 12, 13, 14, 15, 16], [0, 1, 2, 3, 4, 5, 6, 7, 8, 9, 10, 11, 12], [0, 1, 2, 3, 4, 5, 6, 7, 8, 9, 10, 11, 12], [0, 1, 2, 3, 4, 5, 6, 7, 8, 9, 10, 11, 12, 18, 19], [0, 1, 2, 3, 4, 5, 6, 7, 8, 9, 10, 11, 12, 18, 19, 20], [0, 1, 2, 3, 4, 5, 6, 7, 8, 9, 10, 11, 12, 13, 14, 15, 16, 17, 18, 19, 20, 21], [0, 1, 2, 3, 4, 5, 6, 7, 8, 9, 10, 11, 12, 13, 14, 15, 16, 17, 18, 19, 20, 21, 22], [0, 1, 2, 3, 4, 5, 6, 7, 8, 9, 10, 11, 12, 13, 14, 15, 16, 17, 18, 19, 20, 21, 22, 23], [0, 1, 2, 3, 4, 5, 6, 7, 8, 9, 10, 11, 12, 13, 14, 15, 16, 17, 18, 19, 20, 21, 22, 23, 24]] ?_ ?_ ?_ ?_); (· rfl); (· kernel_rfl); (· kernel_rfl); (· repeat (first | exact NoHang.post | refine NoHang.then ?_ | refine NoHang.block ?_))) <;> refine DW.p 0 rfl (fun _ => QK.mv) ?_ <;> refine DW.p 1 rfl (fun _ => QK.mv) ?_ <;> (first | refine DW.pn 2 rfl rfl rfl ?_ | refine DW.pu 2 rfl rfl rfl ?_ | refine DW.py 2 rfl rfl rfl (fun _ => QK.mv) ?_ | ((first | refine DW.sP (t := 46) ?_ ?_ | refine DW.s (t := 46) ?_ ?_) <;> intro _ <;> first | contradiction | refine DW.pn 2 rfl rfl rfl ?_ | refine DW.pu 2 rfl rfl rfl ?_ | refine DW.py 2 rfl rfl rfl (fun _ => QK.mv) ?_)) <;> (first | refine DW.pn 3 rfl rfl rfl ?_ | refine DW.pu 3 rfl rfl rfl ?_ | refine DW.py 3 rfl rfl rfl (fun _ => QK.mv) ?_) <;> (first | refine DW.mn 4 rfl rfl rfl ?_ | refine DW.mu 4 rfl rfl rfl ?_ | refine DW.my 4 rfl rfl rfl QK.ia ?_) <;> (first | refine DW.pn 5 rfl rfl rfl ?_ | refine DW.pu 5 rfl rfl rfl ?_ | refine DW.py 5 rfl rfl rfl (fun _ => QK.fa) ?_) <;> (first | refine DW.mn 6 rfl rfl rfl ?_ | refine DW.mu 6 rfl rfl rfl ?_ | refine DW.my 6 rfl rfl rfl (by first | exact QY.load_s rfl (Rd.ro (by with_reducible first | exact m0 | exact m1 | exact m2 | exact m3 | exact m4 | exact m5 | fail)) (Reads.row0 RowL.rrow hy rfl) | exact QK.lds) ?_) <;> (first | refine DW.pn 7 rfl rfl rfl ?_ | refine DW.pu 7 rfl rfl rfl ?_ | refine DW.py 7 rfl rfl rfl (fun _ => QK.geq) ?_) <;> refine DW.p 8 rfl (fun _ => QK.pk) ?_ <;> refine DW.p 9 rfl (fun _ => QK.mv) ?_ <;> (first | refine DW.pn 10 rfl rfl rfl ?_ | refine DW.pu 10 rfl rfl rfl ?_ | refine DW.py 10 rfl rfl rfl (fun _ => QK.mv) ?_ | ((first | refine DW.sP (t := 54) ?_ ?_ | refine DW.s (t := 54) ?_ ?_) <;> intro _ <;> first | contradiction | refine DW.pn 10 rfl rfl rfl ?_ | refine DW.pu 10 rfl rfl rfl ?_ | refine DW.py 10 rfl rfl rfl (fun _ => QK.mv) ?_)) <;> (first | refine DW.pn 11 rfl rfl rfl ?_ | refine DW.pu 11 rfl rfl rfl ?_ | refine DW.py 11 rfl rfl rfl (fun _ => QK.eqi) ?_) <;> (first | refine DW.pn 12 rfl rfl rfl ?_ | refine DW.pu 12 rfl rfl rfl ?_ | refine DW.py 12 rfl rfl rfl (fun _ => QK.mv) ?_) <;> (first | refine DW.pn 13 rfl rfl rfl ?_ | refine DW.pu 13 rfl rfl rfl ?_ | refine DW.py 13 rfl rfl rfl (fun _ => QK.mv) ?_ | ((first | refine DW.sP (t := 57) ?_ ?_ | refine DW.s (t := 57) ?_ ?_) <;> intro _ <;> first | contradiction | refine DW.pn 13 rfl rfl rfl ?_ | refine DW.pu 13 rfl rfl rfl ?_ | refine DW.py 13 rfl rfl rfl (fun _ => QK.mv) ?_)) <;> (first | refine DW.pn 14 rfl rfl rfl ?_ | refine DW.pu 14 rfl rfl rfl ?_ | refine DW.py 14 rfl rfl rfl (fun _ => QK.mv) ?_) <;> (first | refine DW.pn 15 rfl rfl rfl ?_ | refine DW.pu 15 rfl rfl rfl ?_ | refine DW.py 15 rfl rfl rfl (fun _ => (by first | exact QY.same (QY.sub64 rfl rfl (by omega)) hsub | exact QK.sub)) ?_) <;> (first | refine DW.pn 18 rfl rfl rfl ?_ | refine DW.pu 18 rfl rfl rfl ?_ | refine DW.py 18 rfl rfl rfl (fun _ => QK.mv) ?_) <;> (first | refine DW.pn 19 rfl rfl rfl ?_ | refine DW.pu 19 rfl rfl rfl ?_ | refine DW.py 19 rfl rfl rfl (fun _ => QK.mv) ?_) <;> (first | refine DW.mn 16 rfl rfl rfl ?_ | refine DW.mu 16 rfl rfl rfl ?_ | refine DW.my 16 rfl rfl rfl QK.ia ?_) <;> (first | refine DW.mn 17 rfl rfl rfl ?_ | refine DW.mu 17 rfl rfl rfl ?_ | refine DW.my 17 rfl rfl rfl (by first | exact QY.load_a rfl (Rd.ro (by with_reducible first | exact m0 | exact m1 | exact m2 | exact m3 | exact m4 | exact m5 | fail)) (Reads.row RowL.rrow hx) (by rfl) | exact QY.load_a rfl (Rd.ro (by with_reducible first | exact m0 | exact m1 | exact m2 | exact m3 | exact m4 | exact m5 | fail)) (Reads.row RowL.rrow hy) (by rfl) | exact QK.lda) ?_) <;> (first | refine DW.mn 20 rfl rfl rfl ?_ | refine DW.mu 20 rfl rfl rfl ?_ | refine DW.my 20 rfl rfl rfl QK.ia ?_) <;> (first | refine DW.mn 21 rfl rfl rfl ?_ | refine DW.mu 21 rfl rfl rfl ?_ | refine DW.my 21 rfl rfl rfl (by first | exact QY.load_a rfl (Rd.ro (by with_reducible first | exact m0 | exact m1 | exact m2 | exact m3 | exact m4 | exact m5 | fail)) (Reads.row RowL.rrow hx) (by rfl) | exact QY.load_a rfl (Rd.ro (by with_reducible first | exact m0 | exact m1 | exact m2 | exact m3 | exact m4 | exact m5 | fail)) (Reads.row RowL.rrow hy) (by rfl) | exact QK.lda) ?_) <;> (first | (refine DW.exn 22 rfl rfl rfl ?_; intro hdk; refine DK.mk hdk .nil ?_; clear hdk) | (refine DW.exy 22 rfl rfl rfl ?_; intro hdk; ((refine EK.call (less_spec (a := x) (b := y)) ?_); repeat' first | refine CP.r ?_ | refine CP.r0 ?_ | refine CP.exP fun e67 => ?_ | refine CP.puP fun h67 => ?_); all_goals (refine DK.mk hdk .nil ?_; clear hdk))) <;> (first | refine DW.pn 23 rfl rfl rfl ?_ | refine DW.pu 23 rfl rfl rfl ?_ | refine DW.py 23 rfl rfl rfl (fun _ => QK.pk) ?_) <;> refine DW.p 24 rfl (fun _ => QK.pk) ?_ <;> refine DW.p 25 rfl (fun _ => QK.as) ?_ <;> refine DW.zz ?_)
    | (refine CW.region (i := 9) ?_ <;> refine KP.q QK.mv ?_ <;> refine KP.q QK.add ?_ <;> refine KP.q QK.as ?_ <;> refine KP.list_nil ?_)
    | ((with_reducible apply KP.fin1); (· rfl); (· rfl)))
          rw [hr false (by simpa using hkp)]
          exact KA.round (i + 1 + 1) (by omega)
        · rw [hb2] at hkp
          by_cases hd : 1 ≤ y.dist
          · repeat' (first
    | (with_reducible refine CW.seq ?_)
    | (with_reducible refine KP.then_code ?_)
    | (with_reducible refine CW.skip ?_)
    | (with_reducible refine CW.ret ?_)
    | (with_reducible refine KP.then_ret ?_)
    | (with_reducible refine KP.block_ret ?_)
    | (with_reducible refine CW.block ?_)
    | (with_reducible refine KP.block_normal ?_)
    | (with_reducible refine CW.exit ?_)
    | (with_reducible refine KP.then_exit ?_)
    | (with_reducible refine KP.block_hit ?_)
    | refine KP.bm ?_
    | refine CW.ct ?_
    | refine CW.cf ?_
    | (refine CW.cP ?_ ?_ <;> intro _ <;> try contradiction)
    | (refine CW.cs ?_ ?_ <;> intro _ <;> try contradiction)
    | (refine CW.region (i := 8) ?_ <;> refine KP.q QK.mv ?_ <;> refine KP.q QK.mv ?_ <;> refine KP.q QK.len ?_ <;> refine KP.q QK.lss ?_ <;> refine KP.list_nil ?_)
    | (((with_reducible refine CW.draw (i := 10) ?_ [[], [0], [0, 1], [0, 1], [0, 1, 2, 3], [0, 1, 2, 3, 4], [0, 1, 2, 3, 4, 5], [0, 1, 2, 3, 4, 5, 6], [0, 1, 2, 3, 4, 5, 6, 7], [0, 1, 2, 3, 4, 5, 6, 7, 8], [0, 1, 2, 3, 4, 5, 6, 7, 8, 9], [0, 1, 2, 3, 4, 5, 6, 7, 8, 9, 10], [0, 1, 2, 3, 4, 5, 6, 7, 8, 9, 10, 11], [0, 1, 2, 3, 4, 5, 6, 7, 8, 9, 10, 11, 12], [0, 1, 2, 3, 4, 5, 6, 7, 8, 9, 10, 11, 12], [0, 1, 2, 3, 4, 5, 6, 7, 8, 9, 10, 11, 12, 14], [0, 1, 2, 3, 4, 5, 6, 7, 8, 9, 10, 11, 12, 13, 14, 15], [0, 1, 2, 3, 4, 5, 6, 7, 8, 9, 10, 11, 12, 13, 14, 15, 16], [0, 1, 2, 3, 4, 5, 6, 7, 8, 9, 10, 11, 12], [0, 1, 2, 3, 4, 5, 6, 7, 8, 9, 10, 11, 12], [0, 1, 2, 3, 4, 5, 6, 7, 8, 9, 10, 11, 12, 18, 19], [0, 1, 2, 3, 4, 5, 6, 7, 8, 9, 10, 11, 12, 18, 19, 20], [0, 1, 2, 3, 4, 5, 6, 7, 8, 9, 10, 11, 12, 13, 14, 15, 16, 17, 18, 19, 20, 21], [0, 1, 2, 3, 4, 5, 6, 7, 8, 9, 10, 11, 12, 13, 14, 15, 16, 17, 18, 19, 20, 21, 22], [0, 1, 2, 3, 4, 5, 6, 7, 8, 9, 10, 11, 12, 13, 14, 15, 16, 17, 18, 19, 20, 21, 22, 23], [0, 1, 2, 3, 4, 5, 6, 7, 8, 9, 10, 11, 12, 13, 14, 15, 16, 17, 18, 19, 20, 21, 22, 23, 24]] ?_ ?_ ?_ ?_); (· rfl); (· kernel_rfl); (· kernel_rfl); (· repeat (first | exact NoHang.post | refine NoHang.then ?_ | refine NoHang.block ?_))) <;> refine DW.p 0 rfl (fun _ => QK.mv) ?_ <;> refine DW.p 1 rfl (fun _ => QK.mv) ?_ <;> (first | refine DW.pn 2 rfl rfl rfl ?_ | refine DW.pu 2 rfl rfl rfl ?_ | refine DW.py 2 rfl rfl rfl (fun _ => QK.mv) ?_ | ((first | refine DW.sP (t := 46) ?_ ?_ | refine DW.s (t := 46) ?_ ?_) <;> intro _ <;> first | contradiction | refine DW.pn 2 rfl rfl rfl ?_ | refine DW.pu 2 rfl rfl rfl ?_ | refine DW.py 2 rfl rfl rfl (fun _ => QK.mv) ?_)) <;> (first | refine DW.pn 3 rfl rfl rfl ?_ | refine DW.pu 3 rfl rfl rfl ?_ | refine DW.py 3 rfl rfl rfl (fun _ => QK.mv) ?_) <;> (first | refine DW.mn 4 rfl rfl rfl ?_ | refine DW.mu 4 rfl rfl rfl ?_ | refine DW.my 4 rfl rfl rfl QK.ia ?_) <;> (first | refine DW.pn 5 rfl rfl rfl ?_ | refine DW.pu 5 rfl rfl rfl ?_ | refine DW.py 5 rfl rfl rfl (fun _ => QK.fa) ?_) <;> (first | refine DW.mn 6 rfl rfl rfl ?_ | refine DW.mu 6 rfl rfl rfl ?_ | refine DW.my 6 rfl rfl rfl (by first | exact QY.load_s rfl (Rd.ro (by with_reducible first | exact m0 | exact m1 | exact m2 | exact m3 | exact m4 | exact m5 | fail)) (Reads.row0 RowL.rrow hy rfl) | exact QK.lds) ?_) <;> (first | refine DW.pn 7 rfl rfl rfl ?_ | refine DW.pu 7 rfl rfl rfl ?_ | refine DW.py 7 rfl rfl rfl (fun _ => QK.geq) ?_) <;> refine DW.p 8 rfl (fun _ => QK.pk) ?_ <;> refine DW.p 9 rfl (fun _ => QK.mv) ?_ <;> (first | refine DW.pn 10 rfl rfl rfl ?_ | refine DW.pu 10 rfl rfl rfl ?_ | refine DW.py 10 rfl rfl rfl (fun _ => QK.mv) ?_ | ((first | refine DW.sP (t := 54) ?_ ?_ | refine DW.s (t := 54) ?_ ?_) <;> intro _ <;> first | contradiction | refine DW.pn 10 rfl rfl rfl ?_ | refine DW.pu 10 rfl rfl rfl ?_ | refine DW.py 10 rfl rfl rfl (fun _ => QK.mv) ?_)) <;> (first | refine DW.pn 11 rfl rfl rfl ?_ | refine DW.pu 11 rfl rfl rfl ?_ | refine DW.py 11 rfl rfl rfl (fun _ => QK.eqi) ?_) <;> (first | refine DW.pn 12 rfl rfl rfl ?_ | refine DW.pu 12 rfl rfl rfl ?_ | refine DW.py 12 rfl rfl rfl (fun _ => QK.mv) ?_) <;> (first | refine DW.pn 13 rfl rfl rfl ?_ | refine DW.pu 13 rfl rfl rfl ?_ | refine DW.py 13 rfl rfl rfl (fun _ => QK.mv) ?_ | ((first | refine DW.sP (t := 57) ?_ ?_ | refine DW.s (t := 57) ?_ ?_) <;> intro _ <;> first | contradiction | refine DW.pn 13 rfl rfl rfl ?_ | refine DW.pu 13 rfl rfl rfl ?_ | refine DW.py 13 rfl rfl rfl (fun _ => QK.mv) ?_)) <;> (first | refine DW.pn 14 rfl rfl rfl ?_ | refine DW.pu 14 rfl rfl rfl ?_ | refine DW.py 14 rfl rfl rfl (fun _ => QK.mv) ?_) <;> (first | refine DW.pn 15 rfl rfl rfl ?_ | refine DW.pu 15 rfl rfl rfl ?_ | refine DW.py 15 rfl rfl rfl (fun _ => (by first | exact QY.same (QY.sub64 rfl rfl (by omega)) hsub | exact QK.sub)) ?_) <;> (first | refine DW.pn 18 rfl rfl rfl ?_ | refine DW.pu 18 rfl rfl rfl ?_ | refine DW.py 18 rfl rfl rfl (fun _ => QK.mv) ?_) <;> (first | refine DW.pn 19 rfl rfl rfl ?_ | refine DW.pu 19 rfl rfl rfl ?_ | refine DW.py 19 rfl rfl rfl (fun _ => QK.mv) ?_) <;> (first | refine DW.mn 16 rfl rfl rfl ?_ | refine DW.mu 16 rfl rfl rfl ?_ | refine DW.my 16 rfl rfl rfl QK.ia ?_) <;> (first | refine DW.mn 17 rfl rfl rfl ?_ | refine DW.mu 17 rfl rfl rfl ?_ | refine DW.my 17 rfl rfl rfl (by first | exact QY.load_a rfl (Rd.ro (by with_reducible first | exact m0 | exact m1 | exact m2 | exact m3 | exact m4 | exact m5 | fail)) (Reads.row RowL.rrow hx) (by rfl) | exact QY.load_a rfl (Rd.ro (by with_reducible first | exact m0 | exact m1 | exact m2 | exact m3 | exact m4 | exact m5 | fail)) (Reads.row RowL.rrow hy) (by rfl) | exact QK.lda) ?_) <;> (first | refine DW.mn 20 rfl rfl rfl ?_ | refine DW.mu 20 rfl rfl rfl ?_ | refine DW.my 20 rfl rfl rfl QK.ia ?_) <;> (first | refine DW.mn 21 rfl rfl rfl ?_ | refine DW.mu 21 rfl rfl rfl ?_ | refine DW.my 21 rfl rfl rfl (by first | exact QY.load_a rfl (Rd.ro (by with_reducible first | exact m0 | exact m1 | exact m2 | exact m3 | exact m4 | exact m5 | fail)) (Reads.row RowL.rrow hx) (by rfl) | exact QY.load_a rfl (Rd.ro (by with_reducible first | exact m0 | exact m1 | exact m2 | exact m3 | exact m4 | exact m5 | fail)) (Reads.row RowL.rrow hy) (by rfl) | exact QK.lda) ?_) <;> (first | (refine DW.exn 22 rfl rfl rfl ?_; intro hdk; refine DK.mk hdk .nil ?_; clear hdk) | (refine DW.exy 22 rfl rfl rfl ?_; intro hdk; ((refine EK.call (less_spec (a := x) (b := y)) ?_); repeat' first | refine CP.r ?_ | refine CP.r0 ?_ | refine CP.exP fun e67 => ?_ | refine CP.puP fun h67 => ?_); all_goals (refine DK.mk hdk .nil ?_; clear hdk))) <;> (first | refine DW.pn 23 rfl rfl rfl ?_ | refine DW.pu 23 rfl rfl rfl ?_ | refine DW.py 23 rfl rfl rfl (fun _ => QK.pk) ?_) <;> refine DW.p 24 rfl (fun _ => QK.pk) ?_ <;> refine DW.p 25 rfl (fun _ => QK.as) ?_ <;> refine DW.zz ?_)
    | (refine CW.region (i := 9) ?_ <;> refine KP.q QK.mv ?_ <;> refine KP.q QK.add ?_ <;> refine KP.q QK.as ?_ <;> refine KP.list_nil ?_)
    | ((with_reducible apply KP.fin1); (· rfl); (· rfl)))
            rw [← (show okF first (i + 1 + 1) = lessF x y by simpa [hd] using hkp)]
            exact KA.round (i + 1 + 1) (by omega)
          · repeat' (first
    | (with_reducible refine CW.seq ?_)
    | (with_reducible refine KP.then_code ?_)
    | (with_reducible refine CW.skip ?_)
    | (with_reducible refine CW.ret ?_)
    | (with_reducible refine KP.then_ret ?_)
    | (with_reducible refine KP.block_ret ?_)
    | (with_reducible refine CW.block ?_)
    | (with_reducible refine KP.block_normal ?_)
    | (with_reducible refine CW.exit ?_)
    | (with_reducible refine KP.then_exit ?_)
    | (with_reducible refine KP.block_hit ?_)
    | refine KP.bm ?_
    | refine CW.ct ?_
    | refine CW.cf ?_
    | (refine CW.cP ?_ ?_ <;> intro _ <;> try contradiction)
    | (refine CW.cs ?_ ?_ <;> intro _ <;> try contradiction)
    | (refine CW.region (i := 8) ?_ <;> refine KP.q QK.mv ?_ <;> refine KP.q QK.mv ?_ <;> refine KP.q QK.len ?_ <;> refine KP.q QK.lss ?_ <;> refine KP.list_nil ?_)
    | (((with_reducible refine CW.draw (i := 10) ?_ [[], [0], [0, 1], [0, 1], [0, 1, 2, 3], [0, 1, 2, 3, 4], [0, 1, 2, 3, 4, 5], [0, 1, 2, 3, 4, 5, 6], [0, 1, 2, 3, 4, 5, 6, 7], [0, 1, 2, 3, 4, 5, 6, 7, 8], [0, 1, 2, 3, 4, 5, 6, 7, 8, 9], [0, 1, 2, 3, 4, 5, 6, 7, 8, 9, 10], [0, 1, 2, 3, 4, 5, 6, 7, 8, 9, 10, 11], [0, 1, 2, 3, 4, 5, 6, 7, 8, 9, 10, 11, 12], [0, 1, 2, 3, 4, 5, 6, 7, 8, 9, 10, 11, 12], [0, 1, 2, 3, 4, 5, 6, 7, 8, 9, 10, 11, 12, 14], [0, 1, 2, 3, 4, 5, 6, 7, 8, 9, 10, 11, 12, 13, 14, 15], [0, 1, 2, 3, 4, 5, 6, 7, 8, 9, 10, 11, 12, 13, 14, 15, 16], [0, 1, 2, 3, 4, 5, 6, 7, 8, 9, 10, 11, 12], [0, 1, 2, 3, 4, 5, 6, 7, 8, 9, 10, 11, 12], [0, 1, 2, 3, 4, 5, 6, 7, 8, 9, 10, 11, 12, 18, 19], [0, 1, 2, 3, 4, 5, 6, 7, 8, 9, 10, 11, 12, 18, 19, 20], [0, 1, 2, 3, 4, 5, 6, 7, 8, 9, 10, 11, 12, 13, 14, 15, 16, 17, 18, 19, 20, 21], [0, 1, 2, 3, 4, 5, 6, 7, 8, 9, 10, 11, 12, 13, 14, 15, 16, 17, 18, 19, 20, 21, 22], [0, 1, 2, 3, 4, 5, 6, 7, 8, 9, 10, 11, 12, 13, 14, 15, 16, 17, 18, 19, 20, 21, 22, 23], [0, 1, 2, 3, 4, 5, 6, 7, 8, 9, 10, 11, 12, 13, 14, 15, 16, 17, 18, 19, 20, 21, 22, 23, 24]] ?_ ?_ ?_ ?_); (· rfl); (· kernel_rfl); (· kernel_rfl); (· repeat (first | exact NoHang.post | refine NoHang.then ?_ | refine NoHang.block ?_))) <;> refine DW.p 0 rfl (fun _ => QK.mv) ?_ <;> refine DW.p 1 rfl (fun _ => QK.mv) ?_ <;> (first | refine DW.pn 2 rfl rfl rfl ?_ | refine DW.pu 2 rfl rfl rfl ?_ | refine DW.py 2 rfl rfl rfl (fun _ => QK.mv) ?_ | ((first | refine DW.sP (t := 46) ?_ ?_ | refine DW.s (t := 46) ?_ ?_) <;> intro _ <;> first | contradiction | refine DW.pn 2 rfl rfl rfl ?_ | refine DW.pu 2 rfl rfl rfl ?_ | refine DW.py 2 rfl rfl rfl (fun _ => QK.mv) ?_)) <;> (first | refine DW.pn 3 rfl rfl rfl ?_ | refine DW.pu 3 rfl rfl rfl ?_ | refine DW.py 3 rfl rfl rfl (fun _ => QK.mv) ?_) <;> (first | refine DW.mn 4 rfl rfl rfl ?_ | refine DW.mu 4 rfl rfl rfl ?_ | refine DW.my 4 rfl rfl rfl QK.ia ?_) <;> (first | refine DW.pn 5 rfl rfl rfl ?_ | refine DW.pu 5 rfl rfl rfl ?_ | refine DW.py 5 rfl rfl rfl (fun _ => QK.fa) ?_) <;> (first | refine DW.mn 6 rfl rfl rfl ?_ | refine DW.mu 6 rfl rfl rfl ?_ | refine DW.my 6 rfl rfl rfl (by first | exact QY.load_s rfl (Rd.ro (by with_reducible first | exact m0 | exact m1 | exact m2 | exact m3 | exact m4 | exact m5 | fail)) (Reads.row0 RowL.rrow hy rfl) | exact QK.lds) ?_) <;> (first | refine DW.pn 7 rfl rfl rfl ?_ | refine DW.pu 7 rfl rfl rfl ?_ | refine DW.py 7 rfl rfl rfl (fun _ => QK.geq) ?_) <;> refine DW.p 8 rfl (fun _ => QK.pk) ?_ <;> refine DW.p 9 rfl (fun _ => QK.mv) ?_ <;> (first | refine DW.pn 10 rfl rfl rfl ?_ | refine DW.pu 10 rfl rfl rfl ?_ | refine DW.py 10 rfl rfl rfl (fun _ => QK.mv) ?_ | ((first | refine DW.sP (t := 54) ?_ ?_ | refine DW.s (t := 54) ?_ ?_) <;> intro _ <;> first | contradiction | refine DW.pn 10 rfl rfl rfl ?_ | refine DW.pu 10 rfl rfl rfl ?_ | refine DW.py 10 rfl rfl rfl (fun _ => QK.mv) ?_)) <;> (first | refine DW.pn 11 rfl rfl rfl ?_ | refine DW.pu 11 rfl rfl rfl ?_ | refine DW.py 11 rfl rfl rfl (fun _ => QK.eqi) ?_) <;> (first | refine DW.pn 12 rfl rfl rfl ?_ | refine DW.pu 12 rfl rfl rfl ?_ | refine DW.py 12 rfl rfl rfl (fun _ => QK.mv) ?_) <;> (first | refine DW.pn 13 rfl rfl rfl ?_ | refine DW.pu 13 rfl rfl rfl ?_ | refine DW.py 13 rfl rfl rfl (fun _ => QK.mv) ?_ | ((first | refine DW.sP (t := 57) ?_ ?_ | refine DW.s (t := 57) ?_ ?_) <;> intro _ <;> first | contradiction | refine DW.pn 13 rfl rfl rfl ?_ | refine DW.pu 13 rfl rfl rfl ?_ | refine DW.py 13 rfl rfl rfl (fun _ => QK.mv) ?_)) <;> (first | refine DW.pn 14 rfl rfl rfl ?_ | refine DW.pu 14 rfl rfl rfl ?_ | refine DW.py 14 rfl rfl rfl (fun _ => QK.mv) ?_) <;> (first | refine DW.pn 15 rfl rfl rfl ?_ | refine DW.pu 15 rfl rfl rfl ?_ | refine DW.py 15 rfl rfl rfl (fun _ => (by first | exact QY.same (QY.sub64 rfl rfl (by omega)) hsub | exact QK.sub)) ?_) <;> (first | refine DW.pn 18 rfl rfl rfl ?_ | refine DW.pu 18 rfl rfl rfl ?_ | refine DW.py 18 rfl rfl rfl (fun _ => QK.mv) ?_) <;> (first | refine DW.pn 19 rfl rfl rfl ?_ | refine DW.pu 19 rfl rfl rfl ?_ | refine DW.py 19 rfl rfl rfl (fun _ => QK.mv) ?_) <;> (first | refine DW.mn 16 rfl rfl rfl ?_ | refine DW.mu 16 rfl rfl rfl ?_ | refine DW.my 16 rfl rfl rfl QK.ia ?_) <;> (first | refine DW.mn 17 rfl rfl rfl ?_ | refine DW.mu 17 rfl rfl rfl ?_ | refine DW.my 17 rfl rfl rfl (by first | exact QY.load_a rfl (Rd.ro (by with_reducible first | exact m0 | exact m1 | exact m2 | exact m3 | exact m4 | exact m5 | fail)) (Reads.row RowL.rrow hx) (by rfl) | exact QY.load_a rfl (Rd.ro (by with_reducible first | exact m0 | exact m1 | exact m2 | exact m3 | exact m4 | exact m5 | fail)) (Reads.row RowL.rrow hy) (by rfl) | exact QK.lda) ?_) <;> (first | refine DW.mn 20 rfl rfl rfl ?_ | refine DW.mu 20 rfl rfl rfl ?_ | refine DW.my 20 rfl rfl rfl QK.ia ?_) <;> (first | refine DW.mn 21 rfl rfl rfl ?_ | refine DW.mu 21 rfl rfl rfl ?_ | refine DW.my 21 rfl rfl rfl (by first | exact QY.load_a rfl (Rd.ro (by with_reducible first | exact m0 | exact m1 | exact m2 | exact m3 | exact m4 | exact m5 | fail)) (Reads.row RowL.rrow hx) (by rfl) | exact QY.load_a rfl (Rd.ro (by with_reducible first | exact m0 | exact m1 | exact m2 | exact m3 | exact m4 | exact m5 | fail)) (Reads.row RowL.rrow hy) (by rfl) | exact QK.lda) ?_) <;> (first | (refine DW.exn 22 rfl rfl rfl ?_; intro hdk; refine DK.mk hdk .nil ?_; clear hdk) | (refine DW.exy 22 rfl rfl rfl ?_; intro hdk; ((refine EK.call (less_spec (a := x) (b := y)) ?_); repeat' first | refine CP.r ?_ | refine CP.r0 ?_ | refine CP.exP fun e67 => ?_ | refine CP.puP fun h67 => ?_); all_goals (refine DK.mk hdk .nil ?_; clear hdk))) <;> (first | refine DW.pn 23 rfl rfl rfl ?_ | refine DW.pu 23 rfl rfl rfl ?_ | refine DW.py 23 rfl rfl rfl (fun _ => QK.pk) ?_) <;> refine DW.p 24 rfl (fun _ => QK.pk) ?_ <;> refine DW.p 25 rfl (fun _ => QK.as) ?_ <;> refine DW.zz ?_)
    | (refine CW.region (i := 9) ?_ <;> refine KP.q QK.mv ?_ <;> refine KP.q QK.add ?_ <;> refine KP.q QK.as ?_ <;> refine KP.list_nil ?_)
    | ((with_reducible apply KP.fin1); (· rfl); (· rfl)))
            rw [hr false (by simpa [hd] using hkp)]
            exact KA.round (i + 1 + 1) (by omega)
    · obtain rfl : i = first.length := by omega
      have hmp := mp_put (first := first) (seq := seq)
      have hnz : okF first first.length = true → first ≠ [] := fun h e => by subst e; simp [okF] at h
      generalize okF first first.length = g at hmp hnz ⊢
      repeat' (first
    | (with_reducible refine CW.seq ?_)
    | (with_reducible refine KP.then_code ?_)
    | (with_reducible refine CW.skip ?_)
    | (with_reducible refine CW.ret ?_)
    | (with_reducible refine KP.then_ret ?_)
    | (with_reducible refine KP.block_ret ?_)
    | (with_reducible refine CW.block ?_)
    | (with_reducible refine KP.block_normal ?_)
    | (with_reducible refine CW.exit ?_)
    | (with_reducible refine KP.then_exit ?_)
    | (with_reducible refine KP.block_hit ?_)
    | refine KP.bm ?_
    | refine CW.ct ?_
    | refine CW.cf ?_
    | (refine CW.cP ?_ ?_ <;> intro _ <;> try contradiction)
    | (refine CW.cs ?_ ?_ <;> intro _ <;> try contradiction)
    | (refine CW.region (i := 8) ?_ <;> refine KP.q QK.mv ?_ <;> refine KP.q QK.mv ?_ <;> refine KP.q QK.len ?_ <;> refine KP.q QK.lss ?_ <;> refine KP.list_nil ?_)
    | ((with_reducible apply KP.fin1); (· rfl); (· rfl)))
      refine CW.mid2 (X := Bool) (fun _ => [(0, va), (1, vb'), (2, iv seq), (7, qp e22)]) (fun b => [Mg e22 (stB first b)]) (fun b => b = true → first ≠ []) ?_ ?_
      · 
        cases g
        · simp only [Bool.false_and] at hmp
          repeat' (first
    | (with_reducible refine CW.seq ?_)
    | (with_reducible refine KP.then_code ?_)
    | (with_reducible refine CW.skip ?_)
    | (with_reducible refine CW.ret ?_)
    | (with_reducible refine KP.then_ret ?_)
    | (with_reducible refine KP.block_ret ?_)
    | (with_reducible refine CW.block ?_)
    | (with_reducible refine KP.block_normal ?_)
    | (with_reducible refine CW.exit ?_)
    | (with_reducible refine KP.then_exit ?_)
    | (with_reducible refine KP.block_hit ?_)
    | refine KP.bm ?_
    | refine CW.ct ?_
    | refine CW.cf ?_
    | (refine CW.cP ?_ ?_ <;> intro _ <;> try contradiction)
    | (refine CW.cs ?_ ?_ <;> intro _ <;> try contradiction)
    | (refine CW.region (i := 11) ?_ <;> refine KP.q QK.mv ?_ <;> refine KP.q QK.mv ?_ <;> refine KP.q QK.mv ?_ <;> (refine KP.e ?_; ((refine EK.call (putE hmp) ?_); repeat' first | refine CP.r ?_ | refine CP.r0 ?_ | refine CP.exP fun e73 => ?_ | refine CP.puP fun h73 => ?_)) <;> refine KP.q QK.mv ?_ <;> refine KP.q QK.mv ?_ <;> (first | refine KP.gn ?_ | refine KP.gu ?_ | refine KP.qy QK.mv ?_ | ((first | refine KP.gsP (t := 75) ?_ ?_ | refine KP.gs (t := 75) ?_ ?_) <;> intro _ <;> first | contradiction | refine KP.gn ?_ | refine KP.qy QK.mv ?_)) <;> (first | refine KP.gn ?_ | refine KP.gu ?_ | refine KP.qy QK.eqi ?_) <;> refine KP.q QK.pk ?_ <;> refine KP.q QK.neb ?_ <;> refine KP.list_nil ?_)
    | ((with_reducible apply KP.fin1); (· rfl); (· rfl)))
          exact KA.joint false (by simp)
        · by_cases hs : seq = 0
          · simp only [hs, decide_true, Bool.and_self] at hmp
            subst hs
            repeat' (first
    | (with_reducible refine CW.seq ?_)
    | (with_reducible refine KP.then_code ?_)
    | (with_reducible refine CW.skip ?_)
    | (with_reducible refine CW.ret ?_)
    | (with_reducible refine KP.then_ret ?_)
    | (with_reducible refine KP.block_ret ?_)
    | (with_reducible refine CW.block ?_)
    | (with_reducible refine KP.block_normal ?_)
    | (with_reducible refine CW.exit ?_)
    | (with_reducible refine KP.then_exit ?_)
    | (with_reducible refine KP.block_hit ?_)
    | refine KP.bm ?_
    | refine CW.ct ?_
    | refine CW.cf ?_
    | (refine CW.cP ?_ ?_ <;> intro _ <;> try contradiction)
    | (refine CW.cs ?_ ?_ <;> intro _ <;> try contradiction)
    | (refine CW.region (i := 11) ?_ <;> refine KP.q QK.mv ?_ <;> refine KP.q QK.mv ?_ <;> refine KP.q QK.mv ?_ <;> (refine KP.e ?_; ((refine EK.call (putE hmp) ?_); repeat' first | refine CP.r ?_ | refine CP.r0 ?_ | refine CP.exP fun e73 => ?_ | refine CP.puP fun h73 => ?_)) <;> refine KP.q QK.mv ?_ <;> refine KP.q QK.mv ?_ <;> (first | refine KP.gn ?_ | refine KP.gu ?_ | refine KP.qy QK.mv ?_ | ((first | refine KP.gsP (t := 75) ?_ ?_ | refine KP.gs (t := 75) ?_ ?_) <;> intro _ <;> first | contradiction | refine KP.gn ?_ | refine KP.qy QK.mv ?_)) <;> (first | refine KP.gn ?_ | refine KP.gu ?_ | refine KP.qy QK.eqi ?_) <;> refine KP.q QK.pk ?_ <;> refine KP.q QK.neb ?_ <;> refine KP.list_nil ?_)
    | ((with_reducible apply KP.fin1); (· rfl); (· rfl)))
            exact KA.joint true (fun _ => hnz rfl)
          · simp only [hs, decide_false, Bool.and_false] at hmp
            repeat' (first
    | (with_reducible refine CW.seq ?_)
    | (with_reducible refine KP.then_code ?_)
    | (with_reducible refine CW.skip ?_)
    | (with_reducible refine CW.ret ?_)
    | (with_reducible refine KP.then_ret ?_)
    | (with_reducible refine KP.block_ret ?_)
    | (with_reducible refine CW.block ?_)
    | (with_reducible refine KP.block_normal ?_)
    | (with_reducible refine CW.exit ?_)
    | (with_reducible refine KP.then_exit ?_)
    | (with_reducible refine KP.block_hit ?_)
    | refine KP.bm ?_
    | refine CW.ct ?_
    | refine CW.cf ?_
    | (refine CW.cP ?_ ?_ <;> intro _ <;> try contradiction)
    | (refine CW.cs ?_ ?_ <;> intro _ <;> try contradiction)
    | (refine CW.region (i := 11) ?_ <;> refine KP.q QK.mv ?_ <;> refine KP.q QK.mv ?_ <;> refine KP.q QK.mv ?_ <;> (refine KP.e ?_; ((refine EK.call (putE hmp) ?_); repeat' first | refine CP.r ?_ | refine CP.r0 ?_ | refine CP.exP fun e73 => ?_ | refine CP.puP fun h73 => ?_)) <;> refine KP.q QK.mv ?_ <;> refine KP.q QK.mv ?_ <;> (first | refine KP.gn ?_ | refine KP.gu ?_ | refine KP.qy QK.mv ?_ | ((first | refine KP.gsP (t := 75) ?_ ?_ | refine KP.gs (t := 75) ?_ ?_) <;> intro _ <;> first | contradiction | refine KP.gn ?_ | refine KP.qy QK.mv ?_)) <;> (first | refine KP.gn ?_ | refine KP.gu ?_ | refine KP.qy QK.eqi ?_) <;> refine KP.q QK.pk ?_ <;> refine KP.q QK.neb ?_ <;> refine KP.list_nil ?_)
    | ((with_reducible apply KP.fin1); (· rfl); (· rfl)))
            exact KA.joint false (by simp)
      · intro b hb
        refine CW.add (B := rrow 2 eI (.slice none 0 0) []) rrow.none ?_
        have ht0 : (stB first b).told.length = 0 := rfl
        have hw := wantsM (m := e22) (st := stB first b)
        generalize (stB first b).wants = wb at hw
        have p2 : (stB first b).put 2 0 more true = (false, stB first b) := put_out (.inr (by simp [stB]))
        have p3 : (stB first b).put (-1) 0 more true = (false, stB first b) := put_out (.inl (by decide))
        have p4 : (stB first b).put 1 0 [] false = (false, stB first b) := put_no (i := 1) (s := (mkSh 2).p) rfl (by simp [MS.takes])
        
        
        
        cases b
        · have p1 : (stB first false).put 0 1 more true = (false, stB first false) := put_no (i := 0) (s := (mkSh 1).p) rfl (by simp [MS.takes, mkSh])
          
          
          repeat' (first
    | (with_reducible refine CW.seq ?_)
    | (with_reducible refine KP.then_code ?_)
    | (with_reducible refine CW.skip ?_)
    | (with_reducible refine CW.ret ?_)
    | (with_reducible refine KP.then_ret ?_)
    | (with_reducible refine KP.block_ret ?_)
    | (with_reducible refine CW.block ?_)
    | (with_reducible refine KP.block_normal ?_)
    | (with_reducible refine CW.exit ?_)
    | (with_reducible refine KP.then_exit ?_)
    | (with_reducible refine KP.block_hit ?_)
    | refine KP.bm ?_
    | refine CW.ct ?_
    | refine CW.cf ?_
    | (refine CW.cP ?_ ?_ <;> intro _ <;> try contradiction)
    | (refine CW.cs ?_ ?_ <;> intro _ <;> try contradiction)
    | (refine CW.region (i := 13) ?_ <;> refine KP.q QK.mv ?_ <;> (refine KP.e ?_; ((refine EK.call (hw) ?_); repeat' first | refine CP.r ?_ | refine CP.r0 ?_ | refine CP.exP fun e81 => ?_ | refine CP.puP fun h81 => ?_)) <;> refine KP.q QK.mv ?_ <;> (refine KP.e ?_; ((refine EK.call (seqM (i := 0) (p := (mkSh 1).p) rfl) ?_); repeat' first | refine CP.r ?_ | refine CP.r0 ?_ | refine CP.exP fun e83 => ?_ | refine CP.puP fun h83 => ?_)) <;> refine KP.q QK.as ?_ <;> refine KP.q QK.as ?_ <;> refine KP.list_nil ?_)
    | (refine CW.region (i := 14) ?_ <;> refine KP.q QK.mv ?_ <;> refine KP.q QK.mv ?_ <;> refine KP.q QK.add ?_ <;> refine KP.q QK.mv ?_ <;> (refine KP.e ?_; ((first | refine EK.call (putE p1) ?_ | refine EK.call (putE p2) ?_ | refine EK.call (putE p3) ?_ | refine EK.call (putE p4) ?_ | refine EK.call (putE hmp) ?_); repeat' first | refine CP.r ?_ | refine CP.r0 ?_ | refine CP.exP fun e88 => ?_ | refine CP.puP fun h88 => ?_)) <;> refine KP.q QK.mv ?_ <;> (first | refine KP.gn ?_ | refine KP.gu ?_ | refine KP.qy QK.mv ?_ | ((first | refine KP.gsP (t := 89) ?_ ?_ | refine KP.gs (t := 89) ?_ ?_) <;> intro _ <;> first | contradiction | refine KP.gn ?_ | refine KP.qy QK.mv ?_)) <;> (first | refine KP.gn ?_ | refine KP.gu ?_ | refine KP.qy QK.mv ?_) <;> (first | refine KP.gn ?_ | refine KP.gu ?_ | (refine KP.gy ?_; refine KP.e ?_; ((first | refine EK.call (putE p1) ?_ | refine EK.call (putE p2) ?_ | refine EK.call (putE p3) ?_ | refine EK.call (putE p4) ?_ | refine EK.call (putE hmp) ?_); repeat' first | refine CP.r ?_ | refine CP.r0 ?_ | refine CP.exP fun e92 => ?_ | refine CP.puP fun h92 => ?_))) <;> refine KP.q QK.pk ?_ <;> refine KP.q QK.mv ?_ <;> (first | refine KP.gn ?_ | refine KP.gu ?_ | refine KP.qy QK.mv ?_ | ((first | refine KP.gsP (t := 94) ?_ ?_ | refine KP.gs (t := 94) ?_ ?_) <;> intro _ <;> first | contradiction | refine KP.gn ?_ | refine KP.qy QK.mv ?_)) <;> (first | refine KP.gn ?_ | refine KP.gu ?_ | refine KP.qy QK.mv ?_) <;> (first | refine KP.gn ?_ | refine KP.gu ?_ | (refine KP.gy ?_; refine KP.e ?_; ((first | refine EK.call (putE p1) ?_ | refine EK.call (putE p2) ?_ | refine EK.call (putE p3) ?_ | refine EK.call (putE p4) ?_ | refine EK.call (putE hmp) ?_); repeat' first | refine CP.r ?_ | refine CP.r0 ?_ | refine CP.exP fun e97 => ?_ | refine CP.puP fun h97 => ?_))) <;> refine KP.q QK.pk ?_ <;> refine KP.q QK.mv ?_ <;> (first | refine KP.gn ?_ | refine KP.gu ?_ | refine KP.qy QK.mv ?_ | ((first | refine KP.gsP (t := 99) ?_ ?_ | refine KP.gs (t := 99) ?_ ?_) <;> intro _ <;> first | contradiction | refine KP.gn ?_ | refine KP.qy QK.mv ?_)) <;> (first | refine KP.gn ?_ | refine KP.gu ?_ | (refine KP.gy ?_; refine KP.e ?_; ((first | refine EK.call (putE p1) ?_ | refine EK.call (putE p2) ?_ | refine EK.call (putE p3) ?_ | refine EK.call (putE p4) ?_ | refine EK.call (putE hmp) ?_); repeat' first | refine CP.r ?_ | refine CP.r0 ?_ | refine CP.exP fun e101 => ?_ | refine CP.puP fun h101 => ?_))) <;> refine KP.q QK.pk ?_ <;> refine KP.list_nil ?_)
    | (refine CW.region (i := 16) ?_ <;> refine KP.q QK.mv ?_ <;> refine KP.q QK.eqi ?_ <;> refine KP.q QK.mv ?_ <;> (first | refine KP.gn ?_ | refine KP.gu ?_ | refine KP.qy QK.mv ?_ | ((first | refine KP.gsP (t := 105) ?_ ?_ | refine KP.gs (t := 105) ?_ ?_) <;> intro _ <;> first | contradiction | refine KP.gn ?_ | refine KP.qy QK.mv ?_)) <;> (first | refine KP.gn ?_ | refine KP.gu ?_ | refine KP.qy QK.mv ?_) <;> (first | refine KP.gn ?_ | refine KP.gu ?_ | (refine KP.gy ?_; refine KP.e ?_; ((first | refine EK.call (putE p1) ?_ | refine EK.call (putE p2) ?_ | refine EK.call (putE p3) ?_ | refine EK.call (putE p4) ?_ | refine EK.call (putE hmp) ?_); repeat' first | refine CP.r ?_ | refine CP.r0 ?_ | refine CP.exP fun e108 => ?_ | refine CP.puP fun h108 => ?_))) <;> refine KP.q QK.pk ?_ <;> refine KP.list_nil ?_)
    | (refine CW.region (i := 18) ?_ <;> refine KP.q QK.mv ?_ <;> (refine KP.e ?_; ((refine EK.call (hw) ?_); repeat' first | refine CP.r ?_ | refine CP.r0 ?_ | refine CP.exP fun e111 => ?_ | refine CP.puP fun h111 => ?_)) <;> refine KP.q QK.mv ?_ <;> (refine KP.e ?_; ((refine EK.call (sameNE (xs := wb)) ?_); repeat' first | refine CP.r ?_ | refine CP.r0 ?_ | refine CP.exP fun e113 => ?_ | refine CP.puP fun h113 => ?_)) <;> refine KP.q QK.mv ?_ <;> (first | refine KP.gn ?_ | refine KP.gu ?_ | refine KP.qy QK.mv ?_ | ((first | refine KP.gsP (t := 114) ?_ ?_ | refine KP.gs (t := 114) ?_ ?_) <;> intro _ <;> first | contradiction | refine KP.gn ?_ | refine KP.qy QK.mv ?_)) <;> (first | refine KP.gn ?_ | refine KP.gu ?_ | (refine KP.gy ?_; refine KP.e ?_; ((refine EK.call (seqM (i := 0) (p := (mkSh 1).p) rfl) ?_); repeat' first | refine CP.r ?_ | refine CP.r0 ?_ | refine CP.exP fun e116 => ?_ | refine CP.puP fun h116 => ?_))) <;> (first | refine KP.gn ?_ | refine KP.gu ?_ | refine KP.qy QK.mv ?_) <;> (first | refine KP.gn ?_ | refine KP.gu ?_ | refine KP.qy QK.eqi ?_) <;> refine KP.q QK.pk ?_ <;> refine KP.q QK.mv ?_ <;> (first | refine KP.gn ?_ | refine KP.gu ?_ | refine KP.qy QK.mv ?_ | ((first | refine KP.gsP (t := 120) ?_ ?_ | refine KP.gs (t := 120) ?_ ?_) <;> intro _ <;> first | contradiction | refine KP.gn ?_ | refine KP.qy QK.mv ?_)) <;> (first | refine KP.gn ?_ | refine KP.gu ?_ | (refine KP.gy ?_; refine KP.e ?_; ((refine EK.call (toldM) ?_); repeat' first | refine CP.r ?_ | refine CP.r0 ?_ | refine CP.exP fun e122 => ?_ | refine CP.puP fun h122 => ?_))) <;> (first | refine KP.gn ?_ | refine KP.gu ?_ | refine KP.qy QK.len ?_) <;> (first | refine KP.gn ?_ | refine KP.gu ?_ | refine KP.qy QK.eqi ?_) <;> refine KP.q QK.pk ?_ <;> refine KP.q QK.mv ?_ <;> (first | refine KP.gn ?_ | refine KP.gu ?_ | (refine KP.gy ?_; refine KP.e ?_; ((refine EK.call (awakeM) ?_); repeat' first | refine CP.r ?_ | refine CP.r0 ?_ | refine CP.exP fun e127 => ?_ | refine CP.puP fun h127 => ?_)) | ((first | refine KP.gsP (t := 126) ?_ ?_ | refine KP.gs (t := 126) ?_ ?_) <;> intro _ <;> first | contradiction | refine KP.gn ?_ | (refine KP.gy ?_; refine KP.e ?_; ((refine EK.call (awakeM) ?_); repeat' first | refine CP.r ?_ | refine CP.r0 ?_ | refine CP.exP fun e127 => ?_ | refine CP.puP fun h127 => ?_)))) <;> refine KP.q QK.pk ?_ <;> refine KP.q QK.as ?_ <;> refine KP.list_nil ?_)
    | ((with_reducible apply KP.fin1); (· rfl); (· rfl)))
          exact FA.ret
        · have p1 : (stB first true).put 0 2 more true = (false, stB first true) := put_no (i := 0) (s := ⟨1, 1, false, true, first.getLast?.getD Item.zero, first⟩) rfl (by simp [MS.takes])
          have p5 : (stB first true).put 0 1 more true = (false, stB first true) := put_no (i := 0) (s := ⟨1, 1, false, true, first.getLast?.getD Item.zero, first⟩) rfl (by simp [MS.takes, PSh.wanted, hb rfl])
          
          
          repeat' (first
    | (with_reducible refine CW.seq ?_)
    | (with_reducible refine KP.then_code ?_)
    | (with_reducible refine CW.skip ?_)
    | (with_reducible refine CW.ret ?_)
    | (with_reducible refine KP.then_ret ?_)
    | (with_reducible refine KP.block_ret ?_)
    | (with_reducible refine CW.block ?_)
    | (with_reducible refine KP.block_normal ?_)
    | (with_reducible refine CW.exit ?_)
    | (with_reducible refine KP.then_exit ?_)
    | (with_reducible refine KP.block_hit ?_)
    | refine KP.bm ?_
    | refine CW.ct ?_
    | refine CW.cf ?_
    | (refine CW.cP ?_ ?_ <;> intro _ <;> try contradiction)
    | (refine CW.cs ?_ ?_ <;> intro _ <;> try contradiction)
    | (refine CW.region (i := 13) ?_ <;> refine KP.q QK.mv ?_ <;> (refine KP.e ?_; ((refine EK.call (hw) ?_); repeat' first | refine CP.r ?_ | refine CP.r0 ?_ | refine CP.exP fun e81 => ?_ | refine CP.puP fun h81 => ?_)) <;> refine KP.q QK.mv ?_ <;> (refine KP.e ?_; ((first | refine EK.call (seqM (i := 0) (p := ⟨1, 1, false, true, first.getLast?.getD Item.zero, first⟩) rfl) ?_ | refine EK.call (seqM (i := 0) (p := (mkSh 1).p) rfl) ?_); repeat' first | refine CP.r ?_ | refine CP.r0 ?_ | refine CP.exP fun e83 => ?_ | refine CP.puP fun h83 => ?_)) <;> refine KP.q QK.as ?_ <;> refine KP.q QK.as ?_ <;> refine KP.list_nil ?_)
    | (refine CW.region (i := 14) ?_ <;> refine KP.q QK.mv ?_ <;> refine KP.q QK.mv ?_ <;> refine KP.q QK.add ?_ <;> refine KP.q QK.mv ?_ <;> (refine KP.e ?_; ((first | refine EK.call (putE p1) ?_ | refine EK.call (putE p2) ?_ | refine EK.call (putE p3) ?_ | refine EK.call (putE p4) ?_ | refine EK.call (putE p5) ?_ | refine EK.call (putE p1) ?_ | refine EK.call (putE p2) ?_ | refine EK.call (putE p3) ?_ | refine EK.call (putE p4) ?_ | refine EK.call (putE hmp) ?_); repeat' first | refine CP.r ?_ | refine CP.r0 ?_ | refine CP.exP fun e88 => ?_ | refine CP.puP fun h88 => ?_)) <;> refine KP.q QK.mv ?_ <;> (first | refine KP.gn ?_ | refine KP.gu ?_ | refine KP.qy QK.mv ?_ | ((first | refine KP.gsP (t := 89) ?_ ?_ | refine KP.gs (t := 89) ?_ ?_) <;> intro _ <;> first | contradiction | refine KP.gn ?_ | refine KP.qy QK.mv ?_)) <;> (first | refine KP.gn ?_ | refine KP.gu ?_ | refine KP.qy QK.mv ?_) <;> (first | refine KP.gn ?_ | refine KP.gu ?_ | (refine KP.gy ?_; refine KP.e ?_; ((first | refine EK.call (putE p1) ?_ | refine EK.call (putE p2) ?_ | refine EK.call (putE p3) ?_ | refine EK.call (putE p4) ?_ | refine EK.call (putE p5) ?_ | refine EK.call (putE p1) ?_ | refine EK.call (putE p2) ?_ | refine EK.call (putE p3) ?_ | refine EK.call (putE p4) ?_ | refine EK.call (putE hmp) ?_); repeat' first | refine CP.r ?_ | refine CP.r0 ?_ | refine CP.exP fun e92 => ?_ | refine CP.puP fun h92 => ?_))) <;> refine KP.q QK.pk ?_ <;> refine KP.q QK.mv ?_ <;> (first | refine KP.gn ?_ | refine KP.gu ?_ | refine KP.qy QK.mv ?_ | ((first | refine KP.gsP (t := 94) ?_ ?_ | refine KP.gs (t := 94) ?_ ?_) <;> intro _ <;> first | contradiction | refine KP.gn ?_ | refine KP.qy QK.mv ?_)) <;> (first | refine KP.gn ?_ | refine KP.gu ?_ | refine KP.qy QK.mv ?_) <;> (first | refine KP.gn ?_ | refine KP.gu ?_ | (refine KP.gy ?_; refine KP.e ?_; ((first | refine EK.call (putE p1) ?_ | refine EK.call (putE p2) ?_ | refine EK.call (putE p3) ?_ | refine EK.call (putE p4) ?_ | refine EK.call (putE p5) ?_ | refine EK.call (putE p1) ?_ | refine EK.call (putE p2) ?_ | refine EK.call (putE p3) ?_ | refine EK.call (putE p4) ?_ | refine EK.call (putE hmp) ?_); repeat' first | refine CP.r ?_ | refine CP.r0 ?_ | refine CP.exP fun e97 => ?_ | refine CP.puP fun h97 => ?_))) <;> refine KP.q QK.pk ?_ <;> refine KP.q QK.mv ?_ <;> (first | refine KP.gn ?_ | refine KP.gu ?_ | refine KP.qy QK.mv ?_ | ((first | refine KP.gsP (t := 99) ?_ ?_ | refine KP.gs (t := 99) ?_ ?_) <;> intro _ <;> first | contradiction | refine KP.gn ?_ | refine KP.qy QK.mv ?_)) <;> (first | refine KP.gn ?_ | refine KP.gu ?_ | (refine KP.gy ?_; refine KP.e ?_; ((first | refine EK.call (putE p1) ?_ | refine EK.call (putE p2) ?_ | refine EK.call (putE p3) ?_ | refine EK.call (putE p4) ?_ | refine EK.call (putE p5) ?_ | refine EK.call (putE p1) ?_ | refine EK.call (putE p2) ?_ | refine EK.call (putE p3) ?_ | refine EK.call (putE p4) ?_ | refine EK.call (putE hmp) ?_); repeat' first | refine CP.r ?_ | refine CP.r0 ?_ | refine CP.exP fun e101 => ?_ | refine CP.puP fun h101 => ?_))) <;> refine KP.q QK.pk ?_ <;> refine KP.list_nil ?_)
    | (refine CW.region (i := 16) ?_ <;> refine KP.q QK.mv ?_ <;> refine KP.q QK.eqi ?_ <;> refine KP.q QK.mv ?_ <;> (first | refine KP.gn ?_ | refine KP.gu ?_ | refine KP.qy QK.mv ?_ | ((first | refine KP.gsP (t := 105) ?_ ?_ | refine KP.gs (t := 105) ?_ ?_) <;> intro _ <;> first | contradiction | refine KP.gn ?_ | refine KP.qy QK.mv ?_)) <;> (first | refine KP.gn ?_ | refine KP.gu ?_ | refine KP.qy QK.mv ?_) <;> (first | refine KP.gn ?_ | refine KP.gu ?_ | (refine KP.gy ?_; refine KP.e ?_; ((first | refine EK.call (putE p1) ?_ | refine EK.call (putE p2) ?_ | refine EK.call (putE p3) ?_ | refine EK.call (putE p4) ?_ | refine EK.call (putE p5) ?_ | refine EK.call (putE p1) ?_ | refine EK.call (putE p2) ?_ | refine EK.call (putE p3) ?_ | refine EK.call (putE p4) ?_ | refine EK.call (putE hmp) ?_); repeat' first | refine CP.r ?_ | refine CP.r0 ?_ | refine CP.exP fun e108 => ?_ | refine CP.puP fun h108 => ?_))) <;> refine KP.q QK.pk ?_ <;> refine KP.list_nil ?_)
    | (refine CW.region (i := 18) ?_ <;> refine KP.q QK.mv ?_ <;> (refine KP.e ?_; ((refine EK.call (hw) ?_); repeat' first | refine CP.r ?_ | refine CP.r0 ?_ | refine CP.exP fun e111 => ?_ | refine CP.puP fun h111 => ?_)) <;> refine KP.q QK.mv ?_ <;> (refine KP.e ?_; ((refine EK.call (sameNE (xs := wb)) ?_); repeat' first | refine CP.r ?_ | refine CP.r0 ?_ | refine CP.exP fun e113 => ?_ | refine CP.puP fun h113 => ?_)) <;> refine KP.q QK.mv ?_ <;> (first | refine KP.gn ?_ | refine KP.gu ?_ | refine KP.qy QK.mv ?_ | ((first | refine KP.gsP (t := 114) ?_ ?_ | refine KP.gs (t := 114) ?_ ?_) <;> intro _ <;> first | contradiction | refine KP.gn ?_ | refine KP.qy QK.mv ?_)) <;> (first | refine KP.gn ?_ | refine KP.gu ?_ | (refine KP.gy ?_; refine KP.e ?_; ((first | refine EK.call (seqM (i := 0) (p := ⟨1, 1, false, true, first.getLast?.getD Item.zero, first⟩) rfl) ?_ | refine EK.call (seqM (i := 0) (p := (mkSh 1).p) rfl) ?_); repeat' first | refine CP.r ?_ | refine CP.r0 ?_ | refine CP.exP fun e116 => ?_ | refine CP.puP fun h116 => ?_))) <;> (first | refine KP.gn ?_ | refine KP.gu ?_ | refine KP.qy QK.mv ?_) <;> (first | refine KP.gn ?_ | refine KP.gu ?_ | refine KP.qy QK.eqi ?_) <;> refine KP.q QK.pk ?_ <;> refine KP.q QK.mv ?_ <;> (first | refine KP.gn ?_ | refine KP.gu ?_ | refine KP.qy QK.mv ?_ | ((first | refine KP.gsP (t := 120) ?_ ?_ | refine KP.gs (t := 120) ?_ ?_) <;> intro _ <;> first | contradiction | refine KP.gn ?_ | refine KP.qy QK.mv ?_)) <;> (first | refine KP.gn ?_ | refine KP.gu ?_ | (refine KP.gy ?_; refine KP.e ?_; ((refine EK.call (toldM) ?_); repeat' first | refine CP.r ?_ | refine CP.r0 ?_ | refine CP.exP fun e122 => ?_ | refine CP.puP fun h122 => ?_))) <;> (first | refine KP.gn ?_ | refine KP.gu ?_ | refine KP.qy QK.len ?_) <;> (first | refine KP.gn ?_ | refine KP.gu ?_ | refine KP.qy QK.eqi ?_) <;> refine KP.q QK.pk ?_ <;> refine KP.q QK.mv ?_ <;> (first | refine KP.gn ?_ | refine KP.gu ?_ | (refine KP.gy ?_; refine KP.e ?_; ((refine EK.call (awakeM) ?_); repeat' first | refine CP.r ?_ | refine CP.r0 ?_ | refine CP.exP fun e127 => ?_ | refine CP.puP fun h127 => ?_)) | ((first | refine KP.gsP (t := 126) ?_ ?_ | refine KP.gs (t := 126) ?_ ?_) <;> intro _ <;> first | contradiction | refine KP.gn ?_ | (refine KP.gy ?_; refine KP.e ?_; ((refine EK.call (awakeM) ?_); repeat' first | refine CP.r ?_ | refine CP.r0 ?_ | refine CP.exP fun e127 => ?_ | refine CP.puP fun h127 => ?_)))) <;> refine KP.q QK.pk ?_ <;> refine KP.q QK.as ?_ <;> refine KP.list_nil ?_)
    | ((with_reducible apply KP.fin1); (· rfl); (· rfl)))
          exact FA.ret

end Go.Proofs.Ytpmhelfdmhjnbaa
