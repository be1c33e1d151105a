import Derived.Test.YtpmhelfdmhjnbaaR2
/- GreatTexts, the rank's awake, RankOrder. -/
namespace Go.Proofs.Ytpmhelfdmhjnbaa
open Go Go.Ink Go.Plain
set_option linter.unusedVariables false
set_option linter.unusedSimpArgs false
attribute [local irreducible] KP QY EW CW DW QG CP Spc DK Fina wpList lessF


theorem greatT_spec {v : Value} {xs : List ByteArray} : Spc Try.prog 20 #[v] [rrow 1 eS v xs] [] (ret (.bool (greatT xs)) []) := by
  refine Spc.enter' (args := [v]) (T0 := [(0, v)]) Try.func20 rfl Try.ntmps20 (Nat.le_of_ble_eq_true rfl) rfl ?_
  intro w0 own
  refine CW.roFact (List.Mem.head _) (fun _ h => rrow.le h) fun hxs => ?_
  repeat' (first
    | (with_reducible refine CW.seq ?_)
    | (with_reducible refine KP.then_code ?_)
    | (with_reducible refine CW.skip ?_)
    | (with_reducible refine CW.ret ?_)
    | (with_reducible refine KP.then_ret ?_)
    | (with_reducible refine KP.block_ret ?_)
    | (with_reducible refine CW.block ?_)
    | (with_reducible refine KP.block_normal ?_)
    | (with_reducible refine CW.exit ?_)
    | (with_reducible refine KP.then_exit ?_)
    | (with_reducible refine KP.block_hit ?_)
    | refine KP.bm ?_
    | refine CW.ct ?_
    | refine CW.cf ?_
    | (refine CW.cP ?_ ?_ <;> intro _ <;> try contradiction)
    | (refine CW.cs ?_ ?_ <;> intro _ <;> try contradiction)
    | (refine CW.region (i := 0) ?_ <;> refine KP.q QK.as ?_ <;> refine KP.list_nil ?_)
    | (refine CW.region (i := 1) ?_ <;> refine KP.q QK.as ?_ <;> refine KP.list_nil ?_)
    | ((with_reducible apply KP.fin1); (· rfl); (· rfl)))
  refine CA.loop (X := Nat) (fun i => [(0, v), (3, iv i)]) (fun _ => []) (fun i => i ≤ xs.length ∧ ∀ c ∈ xs.take i, bigT c = false) (fun i => xs.length - i) 0 ⟨by simp, by simp⟩ ?_
  rintro i ⟨hi, hb⟩
  try dsimp only at hi hb ⊢
  have hall : xs.length ≤ 80 → xs.length ≤ i → greatT xs = false := fun h1 h2 => by
    rw [List.take_of_length_le h2] at hb
    unfold greatT
    rw [Bool.or_eq_false_iff]
    exact ⟨by simp; omega, by rw [List.any_eq_false]; intro c hc; simp [hb c hc]⟩
  rcases Nat.lt_or_ge i xs.length with hlt | hge
  · obtain ⟨c, hc⟩ := at_lt hlt
    by_cases h80 : xs.length ≤ 80
    · repeat' (first
    | (with_reducible refine CW.seq ?_)
    | (with_reducible refine KP.then_code ?_)
    | (with_reducible refine CW.skip ?_)
    | (with_reducible refine CW.ret ?_)
    | (with_reducible refine KP.then_ret ?_)
    | (with_reducible refine KP.block_ret ?_)
    | (with_reducible refine CW.block ?_)
    | (with_reducible refine KP.block_normal ?_)
    | (with_reducible refine CW.exit ?_)
    | (with_reducible refine KP.then_exit ?_)
    | (with_reducible refine KP.block_hit ?_)
    | refine KP.bm ?_
    | refine CW.ct ?_
    | refine CW.cf ?_
    | (refine CW.cP ?_ ?_ <;> intro _ <;> try contradiction)
    | (refine CW.cs ?_ ?_ <;> intro _ <;> try contradiction)
    | (refine CW.region (i := 2) ?_ <;> refine KP.q QK.mv ?_ <;> refine KP.q QK.mv ?_ <;> refine KP.q QK.len ?_ <;> refine KP.q QK.lss ?_ <;> refine KP.q QK.mv ?_ <;> (first | refine KP.gn ?_ | refine KP.gu ?_ | refine KP.qy QK.mv ?_ | ((first | refine KP.gsP (t := 8) ?_ ?_ | refine KP.gs (t := 8) ?_ ?_) <;> intro _ <;> first | contradiction | refine KP.gn ?_ | refine KP.qy QK.mv ?_)) <;> (first | refine KP.gn ?_ | refine KP.gu ?_ | refine KP.qy QK.len ?_) <;> (first | refine KP.gn ?_ | refine KP.gu ?_ | refine KP.qy QK.leq ?_) <;> refine KP.q QK.pk ?_ <;> refine KP.list_nil ?_)
    | (refine CW.region (i := 4) ?_ <;> refine KP.q QK.mv ?_ <;> refine KP.q QK.mv ?_ <;> refine KP.q QK.ia ?_ <;> refine KP.q QK.lds ?_ <;> refine KP.q QK.len ?_ <;> refine KP.q QK.gtr ?_ <;> refine KP.list_nil ?_)
    | (refine CW.region (i := 5) ?_ <;> refine KP.q QK.as ?_ <;> refine KP.list_nil ?_)
    | (refine CW.region (i := 3) ?_ <;> refine KP.q QK.mv ?_ <;> refine KP.q QK.add ?_ <;> refine KP.q QK.as ?_ <;> refine KP.list_nil ?_)
    | ((with_reducible apply KP.fin1); (· rfl); (· rfl)))
      · refine FA.ret' ?_
        have : greatT xs = true := by
          unfold greatT; rw [Bool.or_eq_true]; right
          exact List.any_eq_true.2 ⟨c, List.mem_of_getElem? hc, by simp [bigT]; omega⟩
        rw [this]
      · refine KA.round (i + 1) ⟨by omega, fun d hd => ?_⟩
        rw [List.take_add_one, hc] at hd
        rcases List.mem_append.1 hd with hd | hd
        · exact hb d hd
        · simp at hd; subst hd; simp [bigT]; omega
    · repeat' (first
    | (with_reducible refine CW.seq ?_)
    | (with_reducible refine KP.then_code ?_)
    | (with_reducible refine CW.skip ?_)
    | (with_reducible refine CW.ret ?_)
    | (with_reducible refine KP.then_ret ?_)
    | (with_reducible refine KP.block_ret ?_)
    | (with_reducible refine CW.block ?_)
    | (with_reducible refine KP.block_normal ?_)
    | (with_reducible refine CW.exit ?_)
    | (with_reducible refine KP.then_exit ?_)
    | (with_reducible refine KP.block_hit ?_)
    | refine KP.bm ?_
    | refine CW.ct ?_
    | refine CW.cf ?_
    | (refine CW.cP ?_ ?_ <;> intro _ <;> try contradiction)
    | (refine CW.cs ?_ ?_ <;> intro _ <;> try contradiction)
    | (refine CW.region (i := 2) ?_ <;> refine KP.q QK.mv ?_ <;> refine KP.q QK.mv ?_ <;> refine KP.q QK.len ?_ <;> refine KP.q QK.lss ?_ <;> refine KP.q QK.mv ?_ <;> (first | refine KP.gn ?_ | refine KP.gu ?_ | refine KP.qy QK.mv ?_ | ((first | refine KP.gsP (t := 8) ?_ ?_ | refine KP.gs (t := 8) ?_ ?_) <;> intro _ <;> first | contradiction | refine KP.gn ?_ | refine KP.qy QK.mv ?_)) <;> (first | refine KP.gn ?_ | refine KP.gu ?_ | refine KP.qy QK.len ?_) <;> (first | refine KP.gn ?_ | refine KP.gu ?_ | refine KP.qy QK.leq ?_) <;> refine KP.q QK.pk ?_ <;> refine KP.list_nil ?_)
    | (refine CW.region (i := 6) ?_ <;> refine KP.q QK.mv ?_ <;> refine KP.q QK.len ?_ <;> refine KP.q QK.gtr ?_ <;> refine KP.q QK.as ?_ <;> refine KP.list_nil ?_)
    | ((with_reducible apply KP.fin1); (· rfl); (· rfl)))
      refine FA.ret' ?_
      have : greatT xs = true := by unfold greatT; simp; omega
      rw [this]
  · repeat' (first
    | (with_reducible refine CW.seq ?_)
    | (with_reducible refine KP.then_code ?_)
    | (with_reducible refine CW.skip ?_)
    | (with_reducible refine CW.ret ?_)
    | (with_reducible refine KP.then_ret ?_)
    | (with_reducible refine KP.block_ret ?_)
    | (with_reducible refine CW.block ?_)
    | (with_reducible refine KP.block_normal ?_)
    | (with_reducible refine CW.exit ?_)
    | (with_reducible refine KP.then_exit ?_)
    | (with_reducible refine KP.block_hit ?_)
    | refine KP.bm ?_
    | refine CW.ct ?_
    | refine CW.cf ?_
    | (refine CW.cP ?_ ?_ <;> intro _ <;> try contradiction)
    | (refine CW.cs ?_ ?_ <;> intro _ <;> try contradiction)
    | (refine CW.region (i := 2) ?_ <;> refine KP.q QK.mv ?_ <;> refine KP.q QK.mv ?_ <;> refine KP.q QK.len ?_ <;> refine KP.q QK.lss ?_ <;> refine KP.q QK.mv ?_ <;> (first | refine KP.gn ?_ | refine KP.gu ?_ | refine KP.qy QK.mv ?_ | ((first | refine KP.gsP (t := 8) ?_ ?_ | refine KP.gs (t := 8) ?_ ?_) <;> intro _ <;> first | contradiction | refine KP.gn ?_ | refine KP.qy QK.mv ?_)) <;> (first | refine KP.gn ?_ | refine KP.gu ?_ | refine KP.qy QK.len ?_) <;> (first | refine KP.gn ?_ | refine KP.gu ?_ | refine KP.qy QK.leq ?_) <;> refine KP.q QK.pk ?_ <;> refine KP.list_nil ?_)
    | (refine CW.region (i := 6) ?_ <;> refine KP.q QK.mv ?_ <;> refine KP.q QK.len ?_ <;> refine KP.q QK.gtr ?_ <;> refine KP.q QK.as ?_ <;> refine KP.list_nil ?_)
    | ((with_reducible apply KP.fin1); (· rfl); (· rfl)))
    all_goals refine FA.ret' ?_
    all_goals by_cases h80 : xs.length ≤ 80
    all_goals first | (rw [hall h80 hge]; done) | (rw [hall h80 hge]; simp; omega) | (have hgt : greatT xs = true := by unfold greatT; simp; omega
                                                                                      rw [hgt]; simp; omega)

abbrev txt1 : ByteArray := ⟨#[97, 98]⟩
abbrev txt2 : ByteArray := ⟨#[97, 98, 99]⟩
abbrev txt3 : ByteArray := ⟨#[98]⟩
theorem runes1 : runesF txt1 = [97, 98] := by
  unfold runesF
  rw [decs_step (by decide), decs_step (by decide), decs_end (by decide)]
  decide
theorem runes2 : runesF txt2 = [97, 98, 99] := by
  unfold runesF
  rw [decs_step (by decide), decs_step (by decide), decs_step (by decide), decs_end (by decide)]
  decide
theorem runes3 : runesF txt3 = [98] := by
  unfold runesF
  rw [decs_step (by decide), decs_end (by decide)]
  decide
theorem fine1 : fine txt1 = true := by unfold fine; rw [runes1]; decide
theorem fine2 : fine txt2 = true := by unfold fine; rw [runes2]; decide
theorem fine3 : fine txt3 = true := by unfold fine; rw [runes3]; decide
theorem near1 : nearF txt1 txt1 1 = some 0 := by
  unfold nearF; rw [runes1, fine1]; simp [dist, lev]
theorem near2 : nearF txt1 txt2 1 = some 1 := by
  unfold nearF; rw [runes1, runes2, fine1, fine2]; simp [dist, lev]
theorem near3 : nearF txt1 txt3 1 = some 1 := by
  unfold nearF; rw [runes1, runes3, fine1, fine3]; simp [dist, lev]
theorem sortF_id {l : List Item} (h : SortedI l) : sortF l = l := sorted_unique less_total (sortF_sorted l) h (sortF_perm l)
theorem aw_top : topF [txt1, txt2, txt3] ⟨txt1, 1, 2⟩ = [⟨0, txt1⟩, ⟨1, txt2⟩] := by
  have hm : mayF ⟨txt1, 1, 2⟩ = true := by unfold mayF askedF lenF; rw [fine1, runes1]; decide
  rw [topF, hm, if_pos rfl]
  have : nearsF txt1 1 [txt1, txt2, txt3] = [⟨0, txt1⟩, ⟨1, txt2⟩, ⟨1, txt3⟩] := by simp [nearsF, near1, near2, near3]
  unfold allF
  rw [this, sortF_id (by unfold SortedI Sorted; decide +kernel)]
  rfl
theorem topE {v : Value} {ts : List ByteArray} {x : Qy} {l : List Item} (hq : x.text.size ≤ 1000000) (hl : ts.length ≤ 50000) (ht : ∀ t ∈ ts, t.size ≤ 1000000) (h : topF ts x = l) : Spc Try.prog 23 #[v, .agg (eQ x).toArray] [rrow 1 eS v ts] [] (exP fun v' => puP (v'.oneCell' = true) (ret v' [row 39 2 eI v' l])) := h ▸ top_spec hq hl ht
theorem may0 : mayF ⟨⟨#[]⟩, 0, 1⟩ = true := by
  have h0 : runesF ⟨#[]⟩ = [] := decs_end (by decide)
  have h1 : fine ⟨#[]⟩ = true := by unfold fine; rw [h0]; decide
  unfold mayF askedF lenF; rw [h1, h0]; decide
theorem may1 : mayF ⟨⟨#[]⟩, 0, 0⟩ = false := by
  unfold mayF; simp




theorem awakeR : Spc Try.prog 21 #[] [] [] (ret (.bool true) []) := by
  refine Spc.enter' (args := []) (T0 := []) Try.func21 rfl Try.ntmps21 (Nat.le_of_ble_eq_true rfl) rfl ?_
  intro w0 own
  repeat' (first
    | (with_reducible refine CW.seq ?_)
    | (with_reducible refine KP.then_code ?_)
    | (with_reducible refine CW.skip ?_)
    | (with_reducible refine CW.ret ?_)
    | (with_reducible refine KP.then_ret ?_)
    | (with_reducible refine KP.block_ret ?_)
    | (with_reducible refine CW.block ?_)
    | (with_reducible refine KP.block_normal ?_)
    | (with_reducible refine CW.exit ?_)
    | (with_reducible refine KP.then_exit ?_)
    | (with_reducible refine KP.block_hit ?_)
    | refine KP.bm ?_
    | refine CW.ct ?_
    | refine CW.cf ?_
    | (refine CW.cP ?_ ?_ <;> intro _ <;> try contradiction)
    | (refine CW.cs ?_ ?_ <;> intro _ <;> try contradiction)
    | (refine CW.region (i := 0) ?_ <;> refine KP.q QK.as ?_ <;> refine KP.list_nil ?_)
    | (refine CW.region (i := 1) ?_ <;> (refine KP.e ?_; ((first | refine EW.buildSlice (by decide) rfl (by decide) (by decide) (by repeat (first | exact Fills.nil | (apply Fills.scal; (· rfl); (· rfl); (· first | rfl | assumption); (· (repeat (first | exact SetAt.head | apply SetAt.tail)))) | (apply Fills.agg; (· rfl); (· rfl); (· rfl); (· (repeat (first | exact SplAt.done | apply SplAt.put | apply SplAt.skip)))))) ?_ | refine EW.buildSlice1_s (by decide) rfl (by first | rfl | assumption) rfl ?_ | refine EW.buildSlice1_a (by decide) rfl (by rfl) (by rfl) (by decide) (by decide) ?_); intro b2)) <;> refine KP.q QK.bd ?_ <;> (refine KP.e ?_; ((refine EK.call (topE (x := ⟨txt1, 1, 2⟩) (ts := [txt1, txt2, txt3]) (by decide) (by decide) (by decide) aw_top) ?_); repeat' first | refine CP.r ?_ | refine CP.r0 ?_ | refine CP.exP fun e4 => ?_ | refine CP.puP fun h4 => ?_)) <;> refine KP.q QK.as ?_ <;> refine KP.list_nil ?_)
    | (refine CW.region (i := 2) ?_ <;> refine KP.q QK.mv ?_ <;> refine KP.q QK.bd ?_ <;> refine KP.q QK.bd ?_ <;> (refine KP.e ?_; ((first | refine EW.buildSlice (by decide) rfl (by decide) (by decide) (by repeat (first | exact Fills.nil | (apply Fills.scal; (· rfl); (· rfl); (· first | rfl | assumption); (· (repeat (first | exact SetAt.head | apply SetAt.tail)))) | (apply Fills.agg; (· rfl); (· rfl); (· rfl); (· (repeat (first | exact SplAt.done | apply SplAt.put | apply SplAt.skip)))))) ?_ | refine EW.buildSlice1_s (by decide) rfl (by first | rfl | assumption) rfl ?_ | refine EW.buildSlice1_a (by decide) rfl (by rfl) (by rfl) (by decide) (by decide) ?_); intro b8)) <;> (refine KP.e ?_; ((refine EK.call (sameE (xs := [⟨0, txt1⟩, ⟨1, txt2⟩])) ?_); repeat' first | refine CP.r ?_ | refine CP.r0 ?_ | refine CP.exP fun e9 => ?_ | refine CP.puP fun h9 => ?_)) <;> refine KP.q QK.mv ?_ <;> (first | refine KP.gn ?_ | refine KP.gu ?_ | refine KP.qy QK.bd ?_ | ((first | refine KP.gsP (t := 10) ?_ ?_ | refine KP.gs (t := 10) ?_ ?_) <;> intro _ <;> first | contradiction | refine KP.gn ?_ | refine KP.qy QK.bd ?_)) <;> (first | refine KP.gn ?_ | refine KP.gu ?_ | (refine KP.gy ?_; refine KP.e ?_; ((first | refine EK.call (mayE (x := ⟨⟨#[]⟩, 0, 1⟩) (by decide) may0) ?_ | refine EK.call (mayE (x := ⟨⟨#[]⟩, 0, 0⟩) (by decide) may1) ?_); repeat' first | refine CP.r ?_ | refine CP.r0 ?_ | refine CP.exP fun e12 => ?_ | refine CP.puP fun h12 => ?_))) <;> refine KP.q QK.pk ?_ <;> refine KP.q QK.mv ?_ <;> (first | refine KP.gn ?_ | refine KP.gu ?_ | refine KP.qy QK.bd ?_ | ((first | refine KP.gsP (t := 14) ?_ ?_ | refine KP.gs (t := 14) ?_ ?_) <;> intro _ <;> first | contradiction | refine KP.gn ?_ | refine KP.qy QK.bd ?_)) <;> (first | refine KP.gn ?_ | refine KP.gu ?_ | (refine KP.gy ?_; refine KP.e ?_; ((first | refine EK.call (mayE (x := ⟨⟨#[]⟩, 0, 1⟩) (by decide) may0) ?_ | refine EK.call (mayE (x := ⟨⟨#[]⟩, 0, 0⟩) (by decide) may1) ?_); repeat' first | refine CP.r ?_ | refine CP.r0 ?_ | refine CP.exP fun e16 => ?_ | refine CP.puP fun h16 => ?_))) <;> (first | refine KP.gn ?_ | refine KP.gu ?_ | refine KP.qy QK.not ?_) <;> refine KP.q QK.pk ?_ <;> refine KP.q QK.as ?_ <;> refine KP.list_nil ?_)
    | ((with_reducible apply KP.fin1); (· rfl); (· rfl)))
  exact FA.ret


theorem rankOrder_spec {a b c : Item} : Spc Try.prog 6 #[Iv a, Iv b, Iv c] [] [] (ret (.bool true) []) := by
  refine Spc.enter' (args := [Iv a, Iv b, Iv c]) (T0 := [(0, Iv a), (1, Iv b), (2, Iv c)]) Try.func6 rfl Try.ntmps6 (Nat.le_of_ble_eq_true rfl) rfl ?_
  intro w0 own
  by_cases hbig : 100 < (a.word.size : Int) ∨ 100 < (b.word.size : Int) ∨ 100 < (c.word.size : Int)
  · repeat' (first
    | (with_reducible refine CW.seq ?_)
    | (with_reducible refine KP.then_code ?_)
    | (with_reducible refine CW.skip ?_)
    | (with_reducible refine CW.ret ?_)
    | (with_reducible refine KP.then_ret ?_)
    | (with_reducible refine KP.block_ret ?_)
    | (with_reducible refine CW.block ?_)
    | (with_reducible refine KP.block_normal ?_)
    | (with_reducible refine CW.exit ?_)
    | (with_reducible refine KP.then_exit ?_)
    | (with_reducible refine KP.block_hit ?_)
    | refine KP.bm ?_
    | refine CW.ct ?_
    | refine CW.cf ?_
    | (refine CW.cP ?_ ?_ <;> intro _ <;> try contradiction)
    | (refine CW.cs ?_ ?_ <;> intro _ <;> try contradiction)
    | (refine CW.region (i := 0) ?_ <;> (refine KP.e ?_; (refine EK.box_a ?_; intro b3)) <;> (refine KP.e ?_; (refine EK.box_a ?_; intro b4)) <;> (refine KP.e ?_; (refine EK.box_a ?_; intro b5)) <;> refine KP.q QK.as ?_ <;> refine KP.list_nil ?_)
    | (refine CW.region (i := 1) ?_ <;> refine KP.q QK.fa ?_ <;> refine KP.q QK.lds ?_ <;> refine KP.q QK.len ?_ <;> refine KP.q QK.gtr ?_ <;> refine KP.q QK.mv ?_ <;> (first | refine KP.gn ?_ | refine KP.gu ?_ | refine KP.qy QK.fa ?_ | ((first | refine KP.gsP (t := 13) ?_ ?_ | refine KP.gs (t := 13) ?_ ?_) <;> intro _ <;> first | contradiction | refine KP.gn ?_ | refine KP.qy QK.fa ?_)) <;> (first | refine KP.gn ?_ | refine KP.gu ?_ | refine KP.qy QK.lds ?_) <;> (first | refine KP.gn ?_ | refine KP.gu ?_ | refine KP.qy QK.len ?_) <;> (first | refine KP.gn ?_ | refine KP.gu ?_ | refine KP.qy QK.gtr ?_) <;> refine KP.q QK.pk ?_ <;> refine KP.q QK.mv ?_ <;> (first | refine KP.gn ?_ | refine KP.gu ?_ | refine KP.qy QK.fa ?_ | ((first | refine KP.gsP (t := 19) ?_ ?_ | refine KP.gs (t := 19) ?_ ?_) <;> intro _ <;> first | contradiction | refine KP.gn ?_ | refine KP.qy QK.fa ?_)) <;> (first | refine KP.gn ?_ | refine KP.gu ?_ | refine KP.qy QK.lds ?_) <;> (first | refine KP.gn ?_ | refine KP.gu ?_ | refine KP.qy QK.len ?_) <;> (first | refine KP.gn ?_ | refine KP.gu ?_ | refine KP.qy QK.gtr ?_) <;> refine KP.q QK.pk ?_ <;> refine KP.list_nil ?_)
    | (refine CW.region (i := 2) ?_ <;> (refine KP.e ?_; ((refine EK.call (awakeR) ?_); repeat' first | refine CP.r ?_ | refine CP.r0 ?_ | refine CP.exP fun e25 => ?_ | refine CP.puP fun h25 => ?_)) <;> refine KP.q QK.as ?_ <;> refine KP.list_nil ?_)
    | ((with_reducible apply KP.fin1); (· rfl); (· rfl)))
    all_goals exact FA.ret
  
  have h0 : lessF a a = false := by
    cases h : lessF a a with
    | false => rfl
    | true => rw [less_asym h] at h; exact h.symm
  have h1 : (lessF a b != lessF b a) = decide (a ≠ b) := by
    by_cases e : a = b
    · subst e; simp
    · have h2 := @less_asym a b
      have h3 := @less_asym b a
      have h4 := less_total.conn a b
      cases hab : lessF a b <;> cases hba : lessF b a <;> simp_all
  have h2 : lessF a b = true → lessF b a = false := less_asym
  have h3 : lessF a b = true → lessF b c = true → lessF a c = true := less_trans
  repeat' (first
    | (with_reducible refine CW.seq ?_)
    | (with_reducible refine KP.then_code ?_)
    | (with_reducible refine CW.skip ?_)
    | (with_reducible refine CW.ret ?_)
    | (with_reducible refine KP.then_ret ?_)
    | (with_reducible refine KP.block_ret ?_)
    | (with_reducible refine CW.block ?_)
    | (with_reducible refine KP.block_normal ?_)
    | (with_reducible refine CW.exit ?_)
    | (with_reducible refine KP.then_exit ?_)
    | (with_reducible refine KP.block_hit ?_)
    | refine KP.bm ?_
    | refine CW.ct ?_
    | refine CW.cf ?_
    | (refine CW.cP ?_ ?_ <;> intro _ <;> try contradiction)
    | (refine CW.cs ?_ ?_ <;> intro _ <;> try contradiction)
    | (refine CW.region (i := 0) ?_ <;> (refine KP.e ?_; (refine EK.box_a ?_; intro b3)) <;> (refine KP.e ?_; (refine EK.box_a ?_; intro b4)) <;> (refine KP.e ?_; (refine EK.box_a ?_; intro b5)) <;> refine KP.q QK.as ?_ <;> refine KP.list_nil ?_)
    | (refine CW.region (i := 1) ?_ <;> refine KP.q QK.fa ?_ <;> refine KP.q QK.lds ?_ <;> refine KP.q QK.len ?_ <;> refine KP.q QK.gtr ?_ <;> refine KP.q QK.mv ?_ <;> (first | refine KP.gn ?_ | refine KP.gu ?_ | refine KP.qy QK.fa ?_ | ((first | refine KP.gsP (t := 13) ?_ ?_ | refine KP.gs (t := 13) ?_ ?_) <;> intro _ <;> first | contradiction | refine KP.gn ?_ | refine KP.qy QK.fa ?_)) <;> (first | refine KP.gn ?_ | refine KP.gu ?_ | refine KP.qy QK.lds ?_) <;> (first | refine KP.gn ?_ | refine KP.gu ?_ | refine KP.qy QK.len ?_) <;> (first | refine KP.gn ?_ | refine KP.gu ?_ | refine KP.qy QK.gtr ?_) <;> refine KP.q QK.pk ?_ <;> refine KP.q QK.mv ?_ <;> (first | refine KP.gn ?_ | refine KP.gu ?_ | refine KP.qy QK.fa ?_ | ((first | refine KP.gsP (t := 19) ?_ ?_ | refine KP.gs (t := 19) ?_ ?_) <;> intro _ <;> first | contradiction | refine KP.gn ?_ | refine KP.qy QK.fa ?_)) <;> (first | refine KP.gn ?_ | refine KP.gu ?_ | refine KP.qy QK.lds ?_) <;> (first | refine KP.gn ?_ | refine KP.gu ?_ | refine KP.qy QK.len ?_) <;> (first | refine KP.gn ?_ | refine KP.gu ?_ | refine KP.qy QK.gtr ?_) <;> refine KP.q QK.pk ?_ <;> refine KP.list_nil ?_)
    | (((with_reducible refine CW.draw (i := 3) ?_ [[], [], [0, 1], [], [], [0, 1, 2, 3, 4], [0, 1, 2, 3, 4, 5], [0, 1, 2, 3, 4, 5, 6]] ?_ ?_ ?_ ?_); (· rfl); (· kernel_rfl); (· kernel_rfl); (· repeat (first | exact NoHang.post | refine NoHang.then ?_ | refine NoHang.block ?_))) <;> refine DW.m 0 rfl QK.lda ?_ <;> refine DW.m 1 rfl QK.lda ?_ <;> refine DW.m 3 rfl QK.lda ?_ <;> refine DW.m 4 rfl QK.lda ?_ <;> (refine DW.ex 2 rfl ?_; intro hdk; ((first | refine EK.call (less_spec (a := a) (b := b)) ?_ | refine EK.call (less_spec (a := b) (b := a)) ?_ | refine EK.call (less_spec (a := b) (b := c)) ?_ | refine EK.call (less_spec (a := a) (b := c)) ?_ | refine EK.call (less_spec (a := a) (b := a)) ?_); repeat' first | refine CP.r ?_ | refine CP.r0 ?_ | refine CP.exP fun e28 => ?_ | refine CP.puP fun h28 => ?_); all_goals (refine DK.mk hdk (by refine Ob.ap rfl QK.lda ?_; refine Ob.ap rfl QK.lda ?_; exact .nil) ?_; clear hdk)) <;> (refine DW.ex 5 rfl ?_; intro hdk; ((first | refine EK.call (less_spec (a := a) (b := b)) ?_ | refine EK.call (less_spec (a := b) (b := a)) ?_ | refine EK.call (less_spec (a := b) (b := c)) ?_ | refine EK.call (less_spec (a := a) (b := c)) ?_ | refine EK.call (less_spec (a := a) (b := a)) ?_); repeat' first | refine CP.r ?_ | refine CP.r0 ?_ | refine CP.exP fun e31 => ?_ | refine CP.puP fun h31 => ?_); all_goals (refine DK.mk hdk .nil ?_; clear hdk)) <;> refine DW.p 6 rfl (fun _ => QK.as) ?_ <;> refine DW.p 7 rfl (fun _ => QK.as) ?_ <;> refine DW.zz ?_)
    | (refine CW.region (i := 4) ?_ <;> refine KP.q QK.mv ?_ <;> refine KP.q QK.mv ?_ <;> refine KP.q QK.neb ?_ <;> refine KP.q QK.lda ?_ <;> refine KP.q QK.lda ?_ <;> refine KP.q QK.nea ?_ <;> refine KP.q QK.eqb ?_ <;> refine KP.q QK.mv ?_ <;> (first | refine KP.gn ?_ | refine KP.gu ?_ | refine KP.qy QK.mv ?_ | ((first | refine KP.gsP (t := 39) ?_ ?_ | refine KP.gs (t := 39) ?_ ?_) <;> intro _ <;> first | contradiction | refine KP.gn ?_ | refine KP.qy QK.mv ?_)) <;> (first | refine KP.gn ?_ | refine KP.gu ?_ | refine KP.qy QK.mv ?_) <;> (first | refine KP.gn ?_ | refine KP.gu ?_ | refine KP.qy QK.mv ?_ | ((first | refine KP.gsP (t := 41) ?_ ?_ | refine KP.gs (t := 41) ?_ ?_) <;> intro _ <;> first | contradiction | refine KP.gn ?_ | refine KP.qy QK.mv ?_)) <;> (first | refine KP.gn ?_ | refine KP.gu ?_ | refine KP.qy QK.pk ?_) <;> (first | refine KP.gn ?_ | refine KP.gu ?_ | refine KP.qy QK.not ?_) <;> refine KP.q QK.pk ?_ <;> refine KP.q QK.mv ?_ <;> (first | refine KP.gn ?_ | refine KP.gu ?_ | refine KP.qy QK.mv ?_ | ((first | refine KP.gsP (t := 46) ?_ ?_ | refine KP.gs (t := 46) ?_ ?_) <;> intro _ <;> first | contradiction | refine KP.gn ?_ | refine KP.qy QK.mv ?_)) <;> (first | refine KP.gn ?_ | refine KP.gu ?_ | refine KP.qy QK.not ?_) <;> (first | refine KP.gn ?_ | refine KP.gu ?_ | refine KP.qy QK.mv ?_) <;> (first | refine KP.gn ?_ | refine KP.gu ?_ | refine KP.qy QK.lda ?_ | ((first | refine KP.gsP (t := 49) ?_ ?_ | refine KP.gs (t := 49) ?_ ?_) <;> intro _ <;> first | contradiction | refine KP.gn ?_ | refine KP.qy QK.lda ?_)) <;> (first | refine KP.gn ?_ | refine KP.gu ?_ | refine KP.qy QK.lda ?_) <;> (first | refine KP.gn ?_ | refine KP.gu ?_ | (refine KP.gy ?_; refine KP.e ?_; ((first | refine EK.call (less_spec (a := a) (b := b)) ?_ | refine EK.call (less_spec (a := b) (b := a)) ?_ | refine EK.call (less_spec (a := b) (b := c)) ?_ | refine EK.call (less_spec (a := a) (b := c)) ?_ | refine EK.call (less_spec (a := a) (b := a)) ?_); repeat' first | refine CP.r ?_ | refine CP.r0 ?_ | refine CP.exP fun e52 => ?_ | refine CP.puP fun h52 => ?_))) <;> (first | refine KP.gn ?_ | refine KP.gu ?_ | refine KP.qy QK.not ?_) <;> (first | refine KP.gn ?_ | refine KP.gu ?_ | refine KP.qy QK.pk ?_) <;> (first | refine KP.gn ?_ | refine KP.gu ?_ | refine KP.qy QK.mv ?_) <;> (first | refine KP.gn ?_ | refine KP.gu ?_ | refine KP.qy QK.lda ?_ | ((first | refine KP.gsP (t := 55) ?_ ?_ | refine KP.gs (t := 55) ?_ ?_) <;> intro _ <;> first | contradiction | refine KP.gn ?_ | refine KP.qy QK.lda ?_)) <;> (first | refine KP.gn ?_ | refine KP.gu ?_ | refine KP.qy QK.lda ?_) <;> (first | refine KP.gn ?_ | refine KP.gu ?_ | (refine KP.gy ?_; refine KP.e ?_; ((first | refine EK.call (less_spec (a := a) (b := b)) ?_ | refine EK.call (less_spec (a := b) (b := a)) ?_ | refine EK.call (less_spec (a := b) (b := c)) ?_ | refine EK.call (less_spec (a := a) (b := c)) ?_ | refine EK.call (less_spec (a := a) (b := a)) ?_); repeat' first | refine CP.r ?_ | refine CP.r0 ?_ | refine CP.exP fun e58 => ?_ | refine CP.puP fun h58 => ?_))) <;> (first | refine KP.gn ?_ | refine KP.gu ?_ | refine KP.qy QK.pk ?_) <;> refine KP.q QK.pk ?_ <;> refine KP.q QK.mv ?_ <;> (first | refine KP.gn ?_ | refine KP.gu ?_ | refine KP.qy QK.lda ?_ | ((first | refine KP.gsP (t := 61) ?_ ?_ | refine KP.gs (t := 61) ?_ ?_) <;> intro _ <;> first | contradiction | refine KP.gn ?_ | refine KP.qy QK.lda ?_)) <;> (first | refine KP.gn ?_ | refine KP.gu ?_ | refine KP.qy QK.lda ?_) <;> (first | refine KP.gn ?_ | refine KP.gu ?_ | (refine KP.gy ?_; refine KP.e ?_; ((first | refine EK.call (less_spec (a := a) (b := b)) ?_ | refine EK.call (less_spec (a := b) (b := a)) ?_ | refine EK.call (less_spec (a := b) (b := c)) ?_ | refine EK.call (less_spec (a := a) (b := c)) ?_ | refine EK.call (less_spec (a := a) (b := a)) ?_); repeat' first | refine CP.r ?_ | refine CP.r0 ?_ | refine CP.exP fun e64 => ?_ | refine CP.puP fun h64 => ?_))) <;> (first | refine KP.gn ?_ | refine KP.gu ?_ | refine KP.qy QK.not ?_) <;> refine KP.q QK.pk ?_ <;> refine KP.q QK.mv ?_ <;> (first | refine KP.gn ?_ | refine KP.gu ?_ | (refine KP.gy ?_; refine KP.e ?_; ((refine EK.call (awakeR) ?_); repeat' first | refine CP.r ?_ | refine CP.r0 ?_ | refine CP.exP fun e68 => ?_ | refine CP.puP fun h68 => ?_)) | ((first | refine KP.gsP (t := 67) ?_ ?_ | refine KP.gs (t := 67) ?_ ?_) <;> intro _ <;> first | contradiction | refine KP.gn ?_ | (refine KP.gy ?_; refine KP.e ?_; ((refine EK.call (awakeR) ?_); repeat' first | refine CP.r ?_ | refine CP.r0 ?_ | refine CP.exP fun e68 => ?_ | refine CP.puP fun h68 => ?_)))) <;> refine KP.q QK.pk ?_ <;> refine KP.q QK.as ?_ <;> refine KP.list_nil ?_)
    | ((with_reducible apply KP.fin1); (· rfl); (· rfl)))
  all_goals first | exact FA.ret | (refine FA.ret' ?_; simp_all)

end Go.Proofs.Ytpmhelfdmhjnbaa
