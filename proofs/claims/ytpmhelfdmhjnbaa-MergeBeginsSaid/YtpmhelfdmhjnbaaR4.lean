import Derived.Test.YtpmhelfdmhjnbaaR3
/- RankMore. -/
namespace Go.Proofs.Ytpmhelfdmhjnbaa
open Go Go.Ink Go.Plain
set_option linter.unusedVariables false
set_option linter.unusedSimpArgs false

/-! ### the plain part -/
theorem less_dist {x y : Item} (h : lessF y x = false) : x.dist ≤ y.dist := by
  by_cases hc : y.dist < x.dist
  · exfalso
    have : lessF y x = true := by unfold lessF compareF cmpI; simp [hc]
    rw [this] at h; cases h
  · omega
theorem sorted_split {k : Int} : ∀ {l : List Item}, SortedI l → l = l.filter (fun x => decide (x.dist ≤ k)) ++ l.filter (fun x => !decide (x.dist ≤ k))
  | [], _ => rfl
  | x :: l, h => by
    unfold SortedI Sorted at h
    have hp := List.pairwise_cons.1 h
    have ih := sorted_split (k := k) (l := l) hp.2
    by_cases hx : x.dist ≤ k
    · rw [List.filter_cons_of_pos (by simpa using hx), List.filter_cons_of_neg (by simpa using hx), List.cons_append, ← ih]
    · have he : l.filter (fun x => decide (x.dist ≤ k)) = [] := by
        rw [List.filter_eq_nil_iff]
        intro y hy
        have := less_dist (hp.1 y hy)
        simp; omega
      rw [List.filter_cons_of_neg (by simpa using hx), List.filter_cons_of_pos (by simpa using hx), he, List.nil_append]
      rw [he, List.nil_append] at ih
      rw [← ih]
theorem near_less {q t : ByteArray} {k : Int} : nearF q t k = (nearF q t (k + 1)).filter fun d : Nat => decide ((d : Int) ≤ k) := by
  unfold nearF
  by_cases h1 : fine q = true
  · by_cases h2 : fine t = true
    · by_cases h3 : (dist (runesF q) (runesF t) : Int) ≤ k
      · rw [if_pos ⟨h1, h2, h3⟩, if_pos ⟨h1, h2, by omega⟩]; simp [Option.filter, h3]
      · rw [if_neg (fun h => h3 h.2.2)]
        by_cases h4 : (dist (runesF q) (runesF t) : Int) ≤ k + 1
        · rw [if_pos ⟨h1, h2, h4⟩]; simp [Option.filter, h3]
        · rw [if_neg (fun h => h4 h.2.2)]; rfl
    · rw [if_neg (fun h => h2 h.2.1), if_neg (fun h => h2 h.2.1)]; rfl
  · rw [if_neg (fun h => h1 h.1), if_neg (fun h => h1 h.1)]; rfl
theorem nears_less (q : ByteArray) (k : Int) : ∀ ts, nearsF q k ts = (nearsF q (k + 1) ts).filter fun x => decide (x.dist ≤ k)
  | [] => rfl
  | t :: ts => by
    have ih := nears_less q k ts
    unfold nearsF at ih ⊢
    rw [List.filterMap_cons, List.filterMap_cons, near_less]
    cases h : nearF q t (k + 1) with
    | none => simpa using ih
    | some d =>
      by_cases hd : (d : Int) ≤ k
      · simp [Option.filter, hd, ih]
      · simp [Option.filter, hd, ih]
/-- What is near is the beginning of what is a little less near. -/
theorem all_more (ts : List ByteArray) (q : ByteArray) (k : Int) : ∃ r, allF ts q (k + 1) = allF ts q k ++ r := by
  have hs := sortF_sorted (nearsF q (k + 1) ts)
  refine ⟨(allF ts q (k + 1)).filter (fun x => !decide (x.dist ≤ k)), ?_⟩
  have h1 := sorted_split (k := k) hs
  have h2 : (sortF (nearsF q (k + 1) ts)).filter (fun x => decide (x.dist ≤ k)) = sortF (nearsF q k ts) := by
    apply sort_eq
    · rw [nears_less q k ts]
      exact (sortF_perm _).filter _
    · exact List.Pairwise.filter _ hs
  rw [h2] at h1
  exact h1
theorem take_more {A : List Item} {m n : Nat} (h : m ≤ n) : (A.take n).take (A.take m).length = A.take m := by
  rw [List.length_take, List.take_take]
  rw [show min (min m A.length) n = min m A.length by omega]
  rcases Nat.le_total m A.length with h1 | h1
  · rw [Nat.min_eq_left h1]
  · rw [Nat.min_eq_right h1, List.take_length, List.take_of_length_le h1]
theorem take_more_len {A : List Item} {m n : Nat} (h : m ≤ n) : (A.take m).length ≤ (A.take n).length := by simp; omega
theorem take_far {A r : List Item} {m : Nat} : ((A ++ r).take m).take (A.take m).length = A.take m := by
  rw [List.length_take, List.take_take, List.take_append_of_le_length (by omega)]
  rw [show min (min m A.length) m = min m A.length by omega]
  rcases Nat.le_total m A.length with h1 | h1
  · rw [Nat.min_eq_left h1]
  · rw [Nat.min_eq_right h1, List.take_length, List.take_of_length_le h1]
theorem take_far_len {A r : List Item} {m : Nat} : (A.take m).length ≤ ((A ++ r).take m).length := by simp; omega

attribute [local irreducible] KP QY EW CW DW QG CP Spc DK Fina wpList lessF
theorem low2_spec {x : Int} {n : Nat} (h0 : 0 < n) (h1 : n ≤ 1000000) : Spc Try.prog 32 #[iv x, iv (n : Nat)] [] [] (exP fun k : Nat => puP (k < n) (ret (iv (k : Nat)) [])) := by
  refine Spc.enter' (args := [iv x, iv (n : Nat)]) (T0 := [(0, iv x), (1, iv (n : Nat))]) Try.func32 rfl Try.ntmps32 (Nat.le_of_ble_eq_true rfl) rfl ?_
  intro w0 own
  have hw : IntKind.wrap .u64 (n : Int) = n := wrap_u64 (by omega)
  have h2 : (0 : Int) ≤ IntKind.wrap .u64 x := Int.emod_nonneg _ (by decide)
  
  repeat' (first
    | (with_reducible refine CW.seq ?_)
    | (with_reducible refine KP.then_code ?_)
    | (with_reducible refine CW.skip ?_)
    | (with_reducible refine CW.ret ?_)
    | (with_reducible refine KP.then_ret ?_)
    | (with_reducible refine KP.block_ret ?_)
    | (with_reducible refine CW.block ?_)
    | (with_reducible refine KP.block_normal ?_)
    | (with_reducible refine CW.exit ?_)
    | (with_reducible refine KP.then_exit ?_)
    | (with_reducible refine KP.block_hit ?_)
    | refine KP.bm ?_
    | refine CW.ct ?_
    | refine CW.cf ?_
    | (refine CW.cP ?_ ?_ <;> intro _ <;> try contradiction)
    | (refine CW.cs ?_ ?_ <;> intro _ <;> try contradiction)
    | (refine CW.region (i := 0) ?_ <;> refine KP.q QK.as ?_ <;> refine KP.list_nil ?_)
    | (refine CW.region (i := 1) ?_ <;> refine KP.q QK.mv ?_ <;> refine KP.q QK.cv ?_ <;> refine KP.q QK.mv ?_ <;> refine KP.q QK.cv ?_ <;> refine KP.q (by first | exact QY.rem_nn rfl rfl (by rw [hw]; omega) h2 | exact QK.rem) ?_ <;> refine KP.q QK.cv ?_ <;> refine KP.q QK.as ?_ <;> refine KP.list_nil ?_)
    | ((with_reducible apply KP.fin1); (· rfl); (· rfl)))
  rw [hw]
  have h3 := Int.emod_nonneg (IntKind.wrap .u64 x) (show (n : Int) ≠ 0 by omega)
  have h4 := Int.emod_lt_of_pos (IntKind.wrap .u64 x) (show (0 : Int) < n by omega)
  rw [IntWalk.i64_in _ (by omega)]
  obtain ⟨k, hk⟩ := Int.eq_ofNat_of_zero_le h3
  rw [hk] at h4 ⊢
  refine Fina.exP k (Fina.puP (by omega) ?_)
  exact FA.ret

theorem greatE {v : Value} {xs : List ByteArray} {b : Bool} (h : greatT xs = b) : Spc Try.prog 20 #[v] [rrow 1 eS v xs] [] (ret (.bool b) []) := h ▸ greatT_spec

theorem rankMore_spec {v : Value} {ts : List ByteArray} {x : Qy} {more : Int} : Spc Try.prog 4 #[v, .agg (eQ x).toArray, iv more] [rrow 1 eS v ts] [] (ret (.bool true) []) := by
  refine Spc.enter' (args := [v, .agg (eQ x).toArray, iv more]) (T0 := [(0, v), (1, .agg (eQ x).toArray), (2, iv more)]) Try.func4 rfl Try.ntmps4 (Nat.le_of_ble_eq_true rfl) rfl ?_
  intro w0 own
  refine CW.roFact (List.Mem.head _) (fun _ h => rrow.le h) fun hxs => ?_
  cases hg : greatT ts
  rotate_left
  · 
    repeat' (first
    | (with_reducible refine CW.seq ?_)
    | (with_reducible refine KP.then_code ?_)
    | (with_reducible refine CW.skip ?_)
    | (with_reducible refine CW.ret ?_)
    | (with_reducible refine KP.then_ret ?_)
    | (with_reducible refine KP.block_ret ?_)
    | (with_reducible refine CW.block ?_)
    | (with_reducible refine KP.block_normal ?_)
    | (with_reducible refine CW.exit ?_)
    | (with_reducible refine KP.then_exit ?_)
    | (with_reducible refine KP.block_hit ?_)
    | refine KP.bm ?_
    | refine CW.ct ?_
    | refine CW.cf ?_
    | (refine CW.cP ?_ ?_ <;> intro _ <;> try contradiction)
    | (refine CW.cs ?_ ?_ <;> intro _ <;> try contradiction)
    | (refine CW.region (i := 0) ?_ <;> (refine KP.e ?_; (refine EK.box_a ?_; intro b4)) <;> refine KP.q QK.as ?_ <;> refine KP.list_nil ?_)
    | (refine CW.region (i := 1) ?_ <;> refine KP.q QK.mv ?_ <;> (refine KP.e ?_; ((refine EK.call (greatE hg) ?_); repeat' first | refine CP.r ?_ | refine CP.r0 ?_ | refine CP.exP fun e13 => ?_ | refine CP.puP fun h13 => ?_)) <;> refine KP.q QK.mv ?_ <;> (first | refine KP.gn ?_ | refine KP.gu ?_ | refine KP.qy QK.fa ?_ | ((first | refine KP.gsP (t := 14) ?_ ?_ | refine KP.gs (t := 14) ?_ ?_) <;> intro _ <;> first | contradiction | refine KP.gn ?_ | refine KP.qy QK.fa ?_)) <;> (first | refine KP.gn ?_ | refine KP.gu ?_ | refine KP.qy QK.lds ?_) <;> (first | refine KP.gn ?_ | refine KP.gu ?_ | refine KP.qy QK.len ?_) <;> (first | refine KP.gn ?_ | refine KP.gu ?_ | refine KP.qy QK.gtr ?_) <;> refine KP.q QK.pk ?_ <;> refine KP.q QK.mv ?_ <;> (first | refine KP.gn ?_ | refine KP.gu ?_ | refine KP.qy QK.lda ?_ | ((first | refine KP.gsP (t := 20) ?_ ?_ | refine KP.gs (t := 20) ?_ ?_) <;> intro _ <;> first | contradiction | refine KP.gn ?_ | refine KP.qy QK.lda ?_)) <;> (first | refine KP.gn ?_ | refine KP.gu ?_ | (refine KP.gy ?_; refine KP.e ?_; ((fail "no rule f25"); repeat' first | refine CP.r ?_ | refine CP.r0 ?_ | refine CP.exP fun e22 => ?_ | refine CP.puP fun h22 => ?_))) <;> (first | refine KP.gn ?_ | refine KP.gu ?_ | refine KP.qy QK.not ?_) <;> refine KP.q QK.pk ?_ <;> refine KP.list_nil ?_)
    | (refine CW.region (i := 2) ?_ <;> (refine KP.e ?_; ((refine EK.call (awakeR) ?_); repeat' first | refine CP.r ?_ | refine CP.r0 ?_ | refine CP.exP fun e25 => ?_ | refine CP.puP fun h25 => ?_)) <;> refine KP.q QK.as ?_ <;> refine KP.list_nil ?_)
    | ((with_reducible apply KP.fin1); (· rfl); (· rfl)))
    exact FA.ret
  have hl := greatT_len hg
  have ht := greatT_size hg
  
  by_cases hq0 : 100 < (x.text.size : Int)
  · repeat' (first
    | (with_reducible refine CW.seq ?_)
    | (with_reducible refine KP.then_code ?_)
    | (with_reducible refine CW.skip ?_)
    | (with_reducible refine CW.ret ?_)
    | (with_reducible refine KP.then_ret ?_)
    | (with_reducible refine KP.block_ret ?_)
    | (with_reducible refine CW.block ?_)
    | (with_reducible refine KP.block_normal ?_)
    | (with_reducible refine CW.exit ?_)
    | (with_reducible refine KP.then_exit ?_)
    | (with_reducible refine KP.block_hit ?_)
    | refine KP.bm ?_
    | refine CW.ct ?_
    | refine CW.cf ?_
    | (refine CW.cP ?_ ?_ <;> intro _ <;> try contradiction)
    | (refine CW.cs ?_ ?_ <;> intro _ <;> try contradiction)
    | (refine CW.region (i := 0) ?_ <;> (refine KP.e ?_; (refine EK.box_a ?_; intro b4)) <;> refine KP.q QK.as ?_ <;> refine KP.list_nil ?_)
    | (refine CW.region (i := 1) ?_ <;> refine KP.q QK.mv ?_ <;> (refine KP.e ?_; ((first | refine EK.call (greatE hg) ?_ | refine EK.call (greatE hg) ?_); repeat' first | refine CP.r ?_ | refine CP.r0 ?_ | refine CP.exP fun e13 => ?_ | refine CP.puP fun h13 => ?_)) <;> refine KP.q QK.mv ?_ <;> (first | refine KP.gn ?_ | refine KP.gu ?_ | refine KP.qy QK.fa ?_ | ((first | refine KP.gsP (t := 14) ?_ ?_ | refine KP.gs (t := 14) ?_ ?_) <;> intro _ <;> first | contradiction | refine KP.gn ?_ | refine KP.qy QK.fa ?_)) <;> (first | refine KP.gn ?_ | refine KP.gu ?_ | refine KP.qy QK.lds ?_) <;> (first | refine KP.gn ?_ | refine KP.gu ?_ | refine KP.qy QK.len ?_) <;> (first | refine KP.gn ?_ | refine KP.gu ?_ | refine KP.qy QK.gtr ?_) <;> refine KP.q QK.pk ?_ <;> refine KP.q QK.mv ?_ <;> (first | refine KP.gn ?_ | refine KP.gu ?_ | refine KP.qy QK.lda ?_ | ((first | refine KP.gsP (t := 20) ?_ ?_ | refine KP.gs (t := 20) ?_ ?_) <;> intro _ <;> first | contradiction | refine KP.gn ?_ | refine KP.qy QK.lda ?_)) <;> (first | refine KP.gn ?_ | refine KP.gu ?_ | (refine KP.gy ?_; refine KP.e ?_; ((fail "no rule f25"); repeat' first | refine CP.r ?_ | refine CP.r0 ?_ | refine CP.exP fun e22 => ?_ | refine CP.puP fun h22 => ?_))) <;> (first | refine KP.gn ?_ | refine KP.gu ?_ | refine KP.qy QK.not ?_) <;> refine KP.q QK.pk ?_ <;> refine KP.list_nil ?_)
    | (refine CW.region (i := 2) ?_ <;> (refine KP.e ?_; ((refine EK.call (awakeR) ?_); repeat' first | refine CP.r ?_ | refine CP.r0 ?_ | refine CP.exP fun e25 => ?_ | refine CP.puP fun h25 => ?_)) <;> refine KP.q QK.as ?_ <;> refine KP.list_nil ?_)
    | ((with_reducible apply KP.fin1); (· rfl); (· rfl)))
    exact FA.ret
  have hq : x.text.size ≤ 1000000 := by omega
  cases hm : mayF x
  · 
    repeat' (first
    | (with_reducible refine CW.seq ?_)
    | (with_reducible refine KP.then_code ?_)
    | (with_reducible refine CW.skip ?_)
    | (with_reducible refine CW.ret ?_)
    | (with_reducible refine KP.then_ret ?_)
    | (with_reducible refine KP.block_ret ?_)
    | (with_reducible refine CW.block ?_)
    | (with_reducible refine KP.block_normal ?_)
    | (with_reducible refine CW.exit ?_)
    | (with_reducible refine KP.then_exit ?_)
    | (with_reducible refine KP.block_hit ?_)
    | refine KP.bm ?_
    | refine CW.ct ?_
    | refine CW.cf ?_
    | (refine CW.cP ?_ ?_ <;> intro _ <;> try contradiction)
    | (refine CW.cs ?_ ?_ <;> intro _ <;> try contradiction)
    | (refine CW.region (i := 0) ?_ <;> (refine KP.e ?_; (refine EK.box_a ?_; intro b4)) <;> refine KP.q QK.as ?_ <;> refine KP.list_nil ?_)
    | (refine CW.region (i := 1) ?_ <;> refine KP.q QK.mv ?_ <;> (refine KP.e ?_; ((first | refine EK.call (greatE hg) ?_ | refine EK.call (greatE hg) ?_); repeat' first | refine CP.r ?_ | refine CP.r0 ?_ | refine CP.exP fun e13 => ?_ | refine CP.puP fun h13 => ?_)) <;> refine KP.q QK.mv ?_ <;> (first | refine KP.gn ?_ | refine KP.gu ?_ | refine KP.qy QK.fa ?_ | ((first | refine KP.gsP (t := 14) ?_ ?_ | refine KP.gs (t := 14) ?_ ?_) <;> intro _ <;> first | contradiction | refine KP.gn ?_ | refine KP.qy QK.fa ?_)) <;> (first | refine KP.gn ?_ | refine KP.gu ?_ | refine KP.qy QK.lds ?_) <;> (first | refine KP.gn ?_ | refine KP.gu ?_ | refine KP.qy QK.len ?_) <;> (first | refine KP.gn ?_ | refine KP.gu ?_ | refine KP.qy QK.gtr ?_) <;> refine KP.q QK.pk ?_ <;> refine KP.q QK.mv ?_ <;> (first | refine KP.gn ?_ | refine KP.gu ?_ | refine KP.qy QK.lda ?_ | ((first | refine KP.gsP (t := 20) ?_ ?_ | refine KP.gs (t := 20) ?_ ?_) <;> intro _ <;> first | contradiction | refine KP.gn ?_ | refine KP.qy QK.lda ?_)) <;> (first | refine KP.gn ?_ | refine KP.gu ?_ | (refine KP.gy ?_; refine KP.e ?_; ((refine EK.call (mayE hq hm) ?_); repeat' first | refine CP.r ?_ | refine CP.r0 ?_ | refine CP.exP fun e22 => ?_ | refine CP.puP fun h22 => ?_))) <;> (first | refine KP.gn ?_ | refine KP.gu ?_ | refine KP.qy QK.not ?_) <;> refine KP.q QK.pk ?_ <;> refine KP.list_nil ?_)
    | (refine CW.region (i := 2) ?_ <;> (refine KP.e ?_; ((refine EK.call (awakeR) ?_); repeat' first | refine CP.r ?_ | refine CP.r0 ?_ | refine CP.exP fun e25 => ?_ | refine CP.puP fun h25 => ?_)) <;> refine KP.q QK.as ?_ <;> refine KP.list_nil ?_)
    | ((with_reducible apply KP.fin1); (· rfl); (· rfl)))
    exact FA.ret
  
  have hb : (0 ≤ x.most ∧ x.most ≤ 4) ∧ 1 ≤ x.many ∧ x.many ≤ 10 := by
    have := hm
    unfold mayF at this
    simp only [Bool.and_eq_true, decide_eq_true_eq] at this
    omega
  obtain ⟨m, hmm⟩ : ∃ m : Nat, x.many = m := ⟨x.many.toNat, by omega⟩
  have hlow : iv (10 - x.many + 1) = iv ((11 - m : Nat) : Int) := by congr 1; omega
  have hl1 : topF ts x = (allF ts x.text x.most).take m := by rw [topF, hm, if_pos rfl, hmm]; rfl
  
  
  repeat' (first
    | (with_reducible refine CW.seq ?_)
    | (with_reducible refine KP.then_code ?_)
    | (with_reducible refine CW.skip ?_)
    | (with_reducible refine CW.ret ?_)
    | (with_reducible refine KP.then_ret ?_)
    | (with_reducible refine KP.block_ret ?_)
    | (with_reducible refine CW.block ?_)
    | (with_reducible refine KP.block_normal ?_)
    | (with_reducible refine CW.exit ?_)
    | (with_reducible refine KP.then_exit ?_)
    | (with_reducible refine KP.block_hit ?_)
    | refine KP.bm ?_
    | refine CW.ct ?_
    | refine CW.cf ?_
    | (refine CW.cP ?_ ?_ <;> intro _ <;> try contradiction)
    | (refine CW.cs ?_ ?_ <;> intro _ <;> try contradiction)
    | (refine CW.region (i := 0) ?_ <;> (refine KP.e ?_; (refine EK.box_a ?_; intro b4)) <;> refine KP.q QK.as ?_ <;> refine KP.list_nil ?_)
    | (refine CW.region (i := 1) ?_ <;> refine KP.q QK.mv ?_ <;> (refine KP.e ?_; ((first | refine EK.call (greatE hg) ?_ | refine EK.call (greatE hg) ?_); repeat' first | refine CP.r ?_ | refine CP.r0 ?_ | refine CP.exP fun e13 => ?_ | refine CP.puP fun h13 => ?_)) <;> refine KP.q QK.mv ?_ <;> (first | refine KP.gn ?_ | refine KP.gu ?_ | refine KP.qy QK.fa ?_ | ((first | refine KP.gsP (t := 14) ?_ ?_ | refine KP.gs (t := 14) ?_ ?_) <;> intro _ <;> first | contradiction | refine KP.gn ?_ | refine KP.qy QK.fa ?_)) <;> (first | refine KP.gn ?_ | refine KP.gu ?_ | refine KP.qy QK.lds ?_) <;> (first | refine KP.gn ?_ | refine KP.gu ?_ | refine KP.qy QK.len ?_) <;> (first | refine KP.gn ?_ | refine KP.gu ?_ | refine KP.qy QK.gtr ?_) <;> refine KP.q QK.pk ?_ <;> refine KP.q QK.mv ?_ <;> (first | refine KP.gn ?_ | refine KP.gu ?_ | refine KP.qy QK.lda ?_ | ((first | refine KP.gsP (t := 20) ?_ ?_ | refine KP.gs (t := 20) ?_ ?_) <;> intro _ <;> first | contradiction | refine KP.gn ?_ | refine KP.qy QK.lda ?_)) <;> (first | refine KP.gn ?_ | refine KP.gu ?_ | (refine KP.gy ?_; refine KP.e ?_; ((first | refine EK.call (mayE hq hm) ?_ | refine EK.call (mayE hq hm) ?_); repeat' first | refine CP.r ?_ | refine CP.r0 ?_ | refine CP.exP fun e22 => ?_ | refine CP.puP fun h22 => ?_))) <;> (first | refine KP.gn ?_ | refine KP.gu ?_ | refine KP.qy QK.not ?_) <;> refine KP.q QK.pk ?_ <;> refine KP.list_nil ?_)
    | (refine CW.region (i := 3) ?_ <;> refine KP.q QK.lda ?_ <;> (refine KP.e ?_; (refine EK.alloc ?_; intro b7)) <;> (refine KP.e ?_; (first | refine EK.st_a ?_ | refine EK.st_ra ?_ | refine EK.st_p ?_)) <;> refine KP.list_nil ?_)
    | (((with_reducible refine CW.draw (i := 4) ?_ [[], [0], [], [], [3], [3, 4], [3, 4, 5], [2, 3, 4, 5, 6], [0, 1, 2, 3, 4, 5, 6, 7], [0, 1, 2, 3, 4, 5, 6, 7, 8], [0, 1, 2, 3, 4, 5, 6, 7, 8, 9]] ?_ ?_ ?_ ?_); (· rfl); (· kernel_rfl); (· kernel_rfl); (· repeat (first | exact NoHang.post | refine NoHang.then ?_ | refine NoHang.block ?_))) <;> refine DW.p 0 rfl (fun _ => QK.fa) ?_ <;> refine DW.p 2 rfl (fun _ => QK.mv) ?_ <;> refine DW.p 3 rfl (fun _ => QK.fa) ?_ <;> refine DW.m 1 rfl QK.lds ?_ <;> refine DW.m 4 rfl QK.lds ?_ <;> refine DW.p 5 rfl (fun _ => QK.sub) ?_ <;> refine DW.p 6 rfl (fun _ => (by first | exact QY.same (QY.add64 rfl rfl (by omega)) hlow | exact QK.add)) ?_ <;> (refine DW.ex 7 rfl ?_; intro hdk; ((refine EK.call (low2_spec (n := 11 - m) (by omega) (by omega)) ?_); repeat' first | refine CP.r ?_ | refine CP.r0 ?_ | refine CP.exP fun e34 => ?_ | refine CP.puP fun h34 => ?_); all_goals (refine DK.mk hdk (by refine Ob.ap rfl QK.lds ?_; exact .nil) ?_; clear hdk)) <;> refine DW.p 8 rfl (fun _ => (by first | exact QY.same (QY.add64 rfl rfl (by omega)) hlow | exact QK.add)) ?_ <;> refine DW.p 9 rfl (fun _ => QK.fa) ?_ <;> (refine DW.ex 10 rfl ?_; intro hdk; (first | refine EK.st_s ?_ | refine EK.st_rf ?_ | refine EK.st_rf0 ?_); all_goals (refine DK.mk hdk .nil ?_; clear hdk)) <;> refine DW.zz ?_)
    | ((with_reducible apply KP.fin1); (· rfl); (· rfl)))
  have hm2 : mayF ⟨x.text, x.most, x.many + (e34 : Nat)⟩ = true := by
    unfold mayF at hm ⊢
    simp only [Bool.and_eq_true, decide_eq_true_eq] at hm ⊢
    exact ⟨⟨⟨⟨hm.1.1.1.1, by omega⟩, by omega⟩, by omega⟩, by omega⟩
  have hl2 : topF ts ⟨x.text, x.most, x.many + (e34 : Nat)⟩ = (allF ts x.text x.most).take (m + e34) := by
    rw [topF, hm2, if_pos rfl]
    congr 1
    show (x.many + (e34 : Nat) : Int).toNat = _
    omega
  have hlen : (topF ts x).length ≤ (topF ts ⟨x.text, x.most, x.many + (e34 : Nat)⟩).length := by rw [hl1, hl2]; exact take_more_len (by omega)
  have htk : (topF ts ⟨x.text, x.most, x.many + (e34 : Nat)⟩).take (topF ts x).length = topF ts x := by rw [hl1, hl2]; exact take_more (by omega)
  have hfar : x.most ≠ 4 → (topF ts x).length ≤ (topF ts ⟨x.text, x.most + 1, x.many⟩).length ∧ (topF ts ⟨x.text, x.most + 1, x.many⟩).take (topF ts x).length = topF ts x := fun h4 => by
    have hm3 : mayF ⟨x.text, x.most + 1, x.many⟩ = true := by
      unfold mayF at hm ⊢
      simp only [Bool.and_eq_true, decide_eq_true_eq] at hm ⊢
      exact ⟨⟨⟨⟨hm.1.1.1.1, by omega⟩, by omega⟩, by omega⟩, by omega⟩
    have hl3 : topF ts ⟨x.text, x.most + 1, x.many⟩ = (allF ts x.text (x.most + 1)).take m := by
      rw [topF, hm3, if_pos rfl]
      congr 1
      show x.many.toNat = _
      omega
    obtain ⟨r, hr⟩ := all_more ts x.text x.most
    rw [hl1, hl3, hr]
    exact ⟨take_far_len, take_far⟩
  have hll : (topF ts x).length ≤ 100000 := by
    rw [hl1, List.length_take]; omega
  generalize h1 : topF ts x = l1 at *
  generalize h2 : topF ts ⟨x.text, x.most, x.many + (e34 : Nat)⟩ = l2 at *
  generalize h3 : topF ts ⟨x.text, x.most + 1, x.many⟩ = l3 at *
  
  repeat' (first
    | (with_reducible refine CW.seq ?_)
    | (with_reducible refine KP.then_code ?_)
    | (with_reducible refine CW.skip ?_)
    | (with_reducible refine CW.ret ?_)
    | (with_reducible refine KP.then_ret ?_)
    | (with_reducible refine KP.block_ret ?_)
    | (with_reducible refine CW.block ?_)
    | (with_reducible refine KP.block_normal ?_)
    | (with_reducible refine CW.exit ?_)
    | (with_reducible refine KP.then_exit ?_)
    | (with_reducible refine KP.block_hit ?_)
    | refine KP.bm ?_
    | refine CW.ct ?_
    | refine CW.cf ?_
    | (refine CW.cP ?_ ?_ <;> intro _ <;> try contradiction)
    | (refine CW.cs ?_ ?_ <;> intro _ <;> try contradiction)
    | (((with_reducible refine CW.draw (i := 5) ?_ [[], [], [0, 1], [], [], [0, 1, 2, 3, 4], [0, 1, 2, 3, 4, 5], [0, 1, 2, 3, 4, 5, 6]] ?_ ?_ ?_ ?_); (· rfl); (· kernel_rfl); (· kernel_rfl); (· repeat (first | exact NoHang.post | refine NoHang.then ?_ | refine NoHang.block ?_))) <;> refine DW.p 0 rfl (fun _ => QK.mv) ?_ <;> refine DW.p 3 rfl (fun _ => QK.mv) ?_ <;> refine DW.m 1 rfl QK.lda ?_ <;> refine DW.m 4 rfl QK.lda ?_ <;> (refine DW.ex 2 rfl ?_; intro hdk; ((first | refine EK.call (topE (x := x) hq (by omega) ht h1) ?_ | refine EK.call (topE (x := ⟨x.text, x.most, x.many + (e34 : Nat)⟩) hq (by omega) ht h2) ?_); repeat' first | refine CP.r ?_ | refine CP.r0 ?_ | refine CP.exP fun e39 => ?_ | refine CP.puP fun h39 => ?_); all_goals (refine DK.mk hdk (by refine Ob.ap rfl QK.lda ?_; exact .nil) ?_; clear hdk)) <;> (refine DW.ex 5 rfl ?_; intro hdk; ((first | refine EK.call (topE (x := x) hq (by omega) ht h1) ?_ | refine EK.call (topE (x := ⟨x.text, x.most, x.many + (e34 : Nat)⟩) hq (by omega) ht h2) ?_); repeat' first | refine CP.r ?_ | refine CP.r0 ?_ | refine CP.exP fun e42 => ?_ | refine CP.puP fun h42 => ?_); all_goals (refine DK.mk hdk .nil ?_; clear hdk)) <;> refine DW.p 6 rfl (fun _ => QK.as) ?_ <;> refine DW.p 7 rfl (fun _ => QK.as) ?_ <;> refine DW.zz ?_)
    | ((with_reducible apply KP.fin1); (· rfl); (· rfl)))
  have hv2 : ∀ h, row 39 2 eI e42 l2 h → rrow 2 eI (slv 2 e42 0 l1.length) l1 h := fun _ r => by
    have := (row.rrow _ r).cut (Nat.zero_le l1.length) hlen
    rw [List.drop_zero, Nat.sub_zero, htk] at this
    exact this
  
  
  by_cases h4 : x.most = 4
  · repeat' (first
    | (with_reducible refine CW.seq ?_)
    | (with_reducible refine KP.then_code ?_)
    | (with_reducible refine CW.skip ?_)
    | (with_reducible refine CW.ret ?_)
    | (with_reducible refine KP.then_ret ?_)
    | (with_reducible refine KP.block_ret ?_)
    | (with_reducible refine CW.block ?_)
    | (with_reducible refine KP.block_normal ?_)
    | (with_reducible refine CW.exit ?_)
    | (with_reducible refine KP.then_exit ?_)
    | (with_reducible refine KP.block_hit ?_)
    | refine KP.bm ?_
    | refine CW.ct ?_
    | refine CW.cf ?_
    | (refine CW.cP ?_ ?_ <;> intro _ <;> try contradiction)
    | (refine CW.cs ?_ ?_ <;> intro _ <;> try contradiction)
    | (refine CW.region (i := 6) ?_ <;> refine KP.q QK.mv ?_ <;> refine KP.q QK.len ?_ <;> refine KP.q QK.mv ?_ <;> refine KP.q QK.len ?_ <;> refine KP.q QK.lss ?_ <;> refine KP.q QK.mv ?_ <;> (first | refine KP.gn ?_ | refine KP.gu ?_ | refine KP.qy QK.mv ?_ | ((first | refine KP.gsP (t := 48) ?_ ?_ | refine KP.gs (t := 48) ?_ ?_) <;> intro _ <;> first | contradiction | refine KP.gn ?_ | refine KP.qy QK.mv ?_)) <;> (first | refine KP.gn ?_ | refine KP.gu ?_ | refine KP.qy QK.mv ?_) <;> (first | refine KP.gn ?_ | refine KP.gu ?_ | refine KP.qy QK.mv ?_) <;> (first | refine KP.gn ?_ | refine KP.gu ?_ | refine KP.qy QK.len ?_) <;> (first | refine KP.gn ?_ | refine KP.gu ?_ | refine KP.qy (by first | exact QY.cut_hi (hi := l1.length) rfl rfl (Rd.own (by with_reducible first | exact k0 | exact k1 | exact k2 | exact k3 | exact k4 | exact k5 | exact k6 | exact k7 | exact k8 | exact k9 | fail)) RowL.row hlen | exact QK.sl_hi) ?_) <;> (first | refine KP.gn ?_ | refine KP.gu ?_ | (refine KP.gy ?_; refine KP.e ?_; ((refine EK.call (sameE (xs := l1)) ?_ rfl Split.nil (.cons (.via (fun _ r => row.rrow _ r) (by with_reducible first | exact k0 | exact k1 | exact k2 | exact k3 | exact k4 | exact k5 | exact k6 | exact k7 | exact k8 | exact k9 | fail)) (.cons (.via hv2 (by with_reducible first | exact k0 | exact k1 | exact k2 | exact k3 | exact k4 | exact k5 | exact k6 | exact k7 | exact k8 | exact k9 | fail)) .nil))); repeat' first | refine CP.r ?_ | refine CP.r0 ?_ | refine CP.exP fun e54 => ?_ | refine CP.puP fun h54 => ?_))) <;> (first | refine KP.gn ?_ | refine KP.gu ?_ | refine KP.qy QK.not ?_) <;> refine KP.q QK.pk ?_ <;> refine KP.list_nil ?_)
    | (refine CW.region (i := 8) ?_ <;> refine KP.q QK.fa ?_ <;> refine KP.q QK.lds ?_ <;> refine KP.q QK.eqi ?_ <;> refine KP.list_nil ?_)
    | (refine CW.region (i := 9) ?_ <;> (refine KP.e ?_; ((refine EK.call (awakeR) ?_); repeat' first | refine CP.r ?_ | refine CP.r0 ?_ | refine CP.exP fun e60 => ?_ | refine CP.puP fun h60 => ?_)) <;> refine KP.q QK.as ?_ <;> refine KP.list_nil ?_)
    | ((with_reducible apply KP.fin1); (· rfl); (· rfl)))
    exact FA.ret
  obtain ⟨hlen3, htk3⟩ := hfar h4
  
  repeat' (first
    | (with_reducible refine CW.seq ?_)
    | (with_reducible refine KP.then_code ?_)
    | (with_reducible refine CW.skip ?_)
    | (with_reducible refine CW.ret ?_)
    | (with_reducible refine KP.then_ret ?_)
    | (with_reducible refine KP.block_ret ?_)
    | (with_reducible refine CW.block ?_)
    | (with_reducible refine KP.block_normal ?_)
    | (with_reducible refine CW.exit ?_)
    | (with_reducible refine KP.then_exit ?_)
    | (with_reducible refine KP.block_hit ?_)
    | refine KP.bm ?_
    | refine CW.ct ?_
    | refine CW.cf ?_
    | (refine CW.cP ?_ ?_ <;> intro _ <;> try contradiction)
    | (refine CW.cs ?_ ?_ <;> intro _ <;> try contradiction)
    | (refine CW.region (i := 6) ?_ <;> refine KP.q QK.mv ?_ <;> refine KP.q QK.len ?_ <;> refine KP.q QK.mv ?_ <;> refine KP.q QK.len ?_ <;> refine KP.q QK.lss ?_ <;> refine KP.q QK.mv ?_ <;> (first | refine KP.gn ?_ | refine KP.gu ?_ | refine KP.qy QK.mv ?_ | ((first | refine KP.gsP (t := 48) ?_ ?_ | refine KP.gs (t := 48) ?_ ?_) <;> intro _ <;> first | contradiction | refine KP.gn ?_ | refine KP.qy QK.mv ?_)) <;> (first | refine KP.gn ?_ | refine KP.gu ?_ | refine KP.qy QK.mv ?_) <;> (first | refine KP.gn ?_ | refine KP.gu ?_ | refine KP.qy QK.mv ?_) <;> (first | refine KP.gn ?_ | refine KP.gu ?_ | refine KP.qy QK.len ?_) <;> (first | refine KP.gn ?_ | refine KP.gu ?_ | refine KP.qy (by first | exact QY.cut_hi (hi := l1.length) rfl rfl (Rd.own (by with_reducible first | exact k0 | exact k1 | exact k2 | exact k3 | exact k4 | exact k5 | exact k6 | exact k7 | exact k8 | exact k9 | fail)) RowL.row hlen | exact QK.sl_hi) ?_) <;> (first | refine KP.gn ?_ | refine KP.gu ?_ | (refine KP.gy ?_; refine KP.e ?_; ((refine EK.call (sameE (xs := l1)) ?_ rfl Split.nil (.cons (.via (fun _ r => row.rrow _ r) (by with_reducible first | exact k0 | exact k1 | exact k2 | exact k3 | exact k4 | exact k5 | exact k6 | exact k7 | exact k8 | exact k9 | fail)) (.cons (.via hv2 (by with_reducible first | exact k0 | exact k1 | exact k2 | exact k3 | exact k4 | exact k5 | exact k6 | exact k7 | exact k8 | exact k9 | fail)) .nil))); repeat' first | refine CP.r ?_ | refine CP.r0 ?_ | refine CP.exP fun e54 => ?_ | refine CP.puP fun h54 => ?_))) <;> (first | refine KP.gn ?_ | refine KP.gu ?_ | refine KP.qy QK.not ?_) <;> refine KP.q QK.pk ?_ <;> refine KP.list_nil ?_)
    | (refine CW.region (i := 8) ?_ <;> refine KP.q QK.fa ?_ <;> refine KP.q QK.lds ?_ <;> refine KP.q QK.eqi ?_ <;> refine KP.list_nil ?_)
    | (refine CW.region (i := 10) ?_ <;> refine KP.q QK.lda ?_ <;> (refine KP.e ?_; (refine EK.alloc ?_; intro b10)) <;> (refine KP.e ?_; (first | refine EK.st_a ?_ | refine EK.st_ra ?_ | refine EK.st_p ?_)) <;> refine KP.list_nil ?_)
    | (refine CW.region (i := 11) ?_ <;> refine KP.q QK.fa ?_ <;> refine KP.q QK.lds ?_ <;> refine KP.q (by first | exact QY.same (QY.add64 rfl rfl (by omega)) hlow | exact QK.add) ?_ <;> refine KP.q QK.fa ?_ <;> (refine KP.e ?_; (first | refine EK.st_s ?_ | refine EK.st_rf ?_ | refine EK.st_rf0 ?_)) <;> refine KP.list_nil ?_)
    | (refine CW.region (i := 12) ?_ <;> refine KP.q QK.mv ?_ <;> refine KP.q QK.lda ?_ <;> (refine KP.e ?_; ((first | refine EK.call (topE (x := ⟨x.text, x.most + 1, x.many⟩) hq (by omega) ht h3) ?_ | refine EK.call (topE (x := x) hq (by omega) ht h1) ?_ | refine EK.call (topE (x := ⟨x.text, x.most, x.many + (e34 : Nat)⟩) hq (by omega) ht h2) ?_); repeat' first | refine CP.r ?_ | refine CP.r0 ?_ | refine CP.exP fun e68 => ?_ | refine CP.puP fun h68 => ?_)) <;> refine KP.q QK.as ?_ <;> refine KP.list_nil ?_)
    | ((with_reducible apply KP.fin1); (· rfl); (· rfl)))
  have hv3 : ∀ h, row 39 2 eI e68 l3 h → rrow 2 eI (slv 2 e68 0 l1.length) l1 h := fun _ r => by
    have := (row.rrow _ r).cut (Nat.zero_le l1.length) hlen3
    rw [List.drop_zero, Nat.sub_zero, htk3] at this
    exact this
  
  
  repeat' (first
    | (with_reducible refine CW.seq ?_)
    | (with_reducible refine KP.then_code ?_)
    | (with_reducible refine CW.skip ?_)
    | (with_reducible refine CW.ret ?_)
    | (with_reducible refine KP.then_ret ?_)
    | (with_reducible refine KP.block_ret ?_)
    | (with_reducible refine CW.block ?_)
    | (with_reducible refine KP.block_normal ?_)
    | (with_reducible refine CW.exit ?_)
    | (with_reducible refine KP.then_exit ?_)
    | (with_reducible refine KP.block_hit ?_)
    | refine KP.bm ?_
    | refine CW.ct ?_
    | refine CW.cf ?_
    | (refine CW.cP ?_ ?_ <;> intro _ <;> try contradiction)
    | (refine CW.cs ?_ ?_ <;> intro _ <;> try contradiction)
    | (refine CW.region (i := 13) ?_ <;> refine KP.q QK.mv ?_ <;> refine KP.q QK.len ?_ <;> refine KP.q QK.mv ?_ <;> refine KP.q QK.len ?_ <;> refine KP.q QK.geq ?_ <;> refine KP.q QK.mv ?_ <;> (first | refine KP.gn ?_ | refine KP.gu ?_ | refine KP.qy QK.mv ?_ | ((first | refine KP.gsP (t := 74) ?_ ?_ | refine KP.gs (t := 74) ?_ ?_) <;> intro _ <;> first | contradiction | refine KP.gn ?_ | refine KP.qy QK.mv ?_)) <;> (first | refine KP.gn ?_ | refine KP.gu ?_ | refine KP.qy QK.mv ?_) <;> (first | refine KP.gn ?_ | refine KP.gu ?_ | refine KP.qy QK.mv ?_) <;> (first | refine KP.gn ?_ | refine KP.gu ?_ | refine KP.qy QK.len ?_) <;> (first | refine KP.gn ?_ | refine KP.gu ?_ | refine KP.qy (by first | exact QY.cut_hi (hi := l1.length) rfl rfl (Rd.own (by with_reducible first | exact k0 | exact k1 | exact k2 | exact k3 | exact k4 | exact k5 | exact k6 | exact k7 | exact k8 | exact k9 | fail)) RowL.row hlen3 | exact QY.cut_hi (hi := l1.length) rfl rfl (Rd.own (by with_reducible first | exact k0 | exact k1 | exact k2 | exact k3 | exact k4 | exact k5 | exact k6 | exact k7 | exact k8 | exact k9 | fail)) RowL.row hlen | exact QK.sl_hi) ?_) <;> (first | refine KP.gn ?_ | refine KP.gu ?_ | (refine KP.gy ?_; refine KP.e ?_; ((first | refine EK.call (sameE (xs := l1)) ?_ rfl Split.nil (.cons (.via (fun _ r => row.rrow _ r) (by with_reducible first | exact k0 | exact k1 | exact k2 | exact k3 | exact k4 | exact k5 | exact k6 | exact k7 | exact k8 | exact k9 | fail)) (.cons (.via hv3 (by with_reducible first | exact k0 | exact k1 | exact k2 | exact k3 | exact k4 | exact k5 | exact k6 | exact k7 | exact k8 | exact k9 | fail)) .nil)) | refine EK.call (sameE (xs := l1)) ?_ rfl Split.nil (.cons (.via (fun _ r => row.rrow _ r) (by with_reducible first | exact k0 | exact k1 | exact k2 | exact k3 | exact k4 | exact k5 | exact k6 | exact k7 | exact k8 | exact k9 | fail)) (.cons (.via hv2 (by with_reducible first | exact k0 | exact k1 | exact k2 | exact k3 | exact k4 | exact k5 | exact k6 | exact k7 | exact k8 | exact k9 | fail)) .nil))); repeat' first | refine CP.r ?_ | refine CP.r0 ?_ | refine CP.exP fun e80 => ?_ | refine CP.puP fun h80 => ?_))) <;> refine KP.q QK.pk ?_ <;> refine KP.q QK.mv ?_ <;> (first | refine KP.gn ?_ | refine KP.gu ?_ | (refine KP.gy ?_; refine KP.e ?_; ((refine EK.call (awakeR) ?_); repeat' first | refine CP.r ?_ | refine CP.r0 ?_ | refine CP.exP fun e83 => ?_ | refine CP.puP fun h83 => ?_)) | ((first | refine KP.gsP (t := 82) ?_ ?_ | refine KP.gs (t := 82) ?_ ?_) <;> intro _ <;> first | contradiction | refine KP.gn ?_ | (refine KP.gy ?_; refine KP.e ?_; ((refine EK.call (awakeR) ?_); repeat' first | refine CP.r ?_ | refine CP.r0 ?_ | refine CP.exP fun e83 => ?_ | refine CP.puP fun h83 => ?_)))) <;> refine KP.q QK.pk ?_ <;> refine KP.q QK.as ?_ <;> refine KP.list_nil ?_)
    | ((with_reducible apply KP.fin1); (· rfl); (· rfl)))
  exact FA.ret

end Go.Proofs.Ytpmhelfdmhjnbaa
