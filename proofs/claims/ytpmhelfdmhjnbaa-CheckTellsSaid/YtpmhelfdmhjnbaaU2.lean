import Derived.Test.YtpmhelfdmhjnbaaU1
/- The reference's Put and Sort; RankSorts. -/
namespace Go.Proofs.Ytpmhelfdmhjnbaa
open Go Go.Ink Go.Plain
set_option linter.unusedVariables false
set_option linter.unusedSimpArgs false
attribute [local irreducible] KP QY EW CW DW DX QG CP Spc DK Fina wpList lessF lent

def putF (x : Item) : List Item → List Item
  | [] => [x]
  | y :: l => if lessF x y then x :: y :: l else y :: putF x l
theorem put_perm (x : Item) : ∀ l, (putF x l).Perm (x :: l)
  | [] => List.Perm.refl _
  | y :: l => by
    rw [putF]
    split
    · exact List.Perm.refl _
    · exact ((put_perm x l).cons y).trans (List.Perm.swap _ _ _)
theorem put_sortd {x : Item} : ∀ {l : List Item}, SortedI l → SortedI (putF x l)
  | [], _ => List.pairwise_singleton _ _
  | y :: l, h => by
    have hp := List.pairwise_cons.1 h
    rw [putF]
    split
    · rename_i hxy
      refine List.pairwise_cons.2 ⟨fun z hz => ?_, h⟩
      rcases List.mem_cons.1 hz with rfl | hz
      · exact less_asym hxy
      · exact less_asym (less_le hxy (hp.1 z hz))
    · rename_i hxy
      refine List.pairwise_cons.2 ⟨fun z hz => ?_, put_sortd hp.2⟩
      rcases List.mem_cons.1 ((put_perm x l).mem_iff.1 hz) with rfl | hz
      · simpa using hxy
      · exact hp.1 z hz
theorem put_sort (x : Item) (l : List Item) : putF x (sortF l) = sortF (l ++ [x]) := by
  apply sort_eq
  · exact (put_perm x _).trans (((sortF_perm l).cons x).trans (List.perm_append_comm : ([x] ++ l).Perm (l ++ [x])))
  · exact put_sortd (sortF_sorted l)
theorem put_len (x : Item) (l : List Item) : (putF x l).length = l.length + 1 := (put_perm x l).length_eq
set_option maxHeartbeats 4000000 in
theorem refPut_spec {v : Value} {x : Item} {l : List Item} (hx : x.word.size ≤ 1000000) (hw : ∀ y ∈ l, y.word.size ≤ 1000000) (hl : l.length ≤ 50000) : Spc Try.prog 77 #[v, Iv x] [rrow 2 eI v l] [] (exP fun v' => puP (v'.oneCell' = true) (ret v' [row 39 2 eI v' (putF x l)])) := by
  refine Spc.enter' (args := [v, Iv x]) (T0 := [(0, v), (1, Iv x)]) Try.func77 rfl Try.ntmps77 (Nat.le_of_ble_eq_true rfl) rfl ?_
  intro w0 own
  repeat' (first
    | (with_reducible refine CW.seq ?_)
    | (with_reducible refine KP.then_code ?_)
    | (with_reducible refine CW.skip ?_)
    | (with_reducible refine CW.ret ?_)
    | (with_reducible refine KP.then_ret ?_)
    | (with_reducible refine KP.block_ret ?_)
    | (with_reducible refine CW.block ?_)
    | (with_reducible refine KP.block_normal ?_)
    | (with_reducible refine CW.exit ?_)
    | (with_reducible refine KP.then_exit ?_)
    | (with_reducible refine KP.block_hit ?_)
    | refine KP.bm ?_
    | refine CW.ct ?_
    | refine CW.cf ?_
    | (refine CW.cP ?_ ?_ <;> intro _ <;> try contradiction)
    | (refine CW.cs ?_ ?_ <;> intro _ <;> try contradiction)
    | (refine CW.region (i := 0) ?_ <;> (refine KP.e ?_; (refine EK.box_a ?_; intro b3)) <;> refine KP.q QK.as ?_ <;> refine KP.list_nil ?_)
    | (refine CW.region (i := 1) ?_ <;> refine KP.q QK.as ?_ <;> refine KP.list_nil ?_)
    | (refine CW.region (i := 2) ?_ <;> refine KP.q QK.as ?_ <;> refine KP.list_nil ?_)
    | (refine CW.region (i := 3) ?_ <;> refine KP.q QK.as ?_ <;> refine KP.list_nil ?_)
    | ((with_reducible apply KP.fin1); (· rfl); (· rfl)))
  refine CW.add (B := row 39 2 eI (.slice none 0 0) []) row.none ?_
  refine CA.loop (X := Nat × Bool × Value × List Item) (fun z => [(0, v), (3, qp b3), (5, z.2.2.1), (6, .bool z.2.1), (7, iv (z.1 : Nat))]) (fun z => [pt b3 39 (eI x), row 39 2 eI z.2.2.1 z.2.2.2]) (fun z => z.1 ≤ l.length ∧ z.2.2.2 ++ (if z.2.1 then l.drop z.1 else putF x (l.drop z.1)) = putF x l ∧ z.2.2.1.oneCell' = true) (fun z => l.length - z.1) (0, false, .slice none 0 0, []) ⟨by simp, by simp, rfl⟩ ?_
  rintro ⟨i, inn, r, acc⟩ ⟨hi, he, hr⟩
  try dsimp only at hi he hr ⊢
  have hal : acc.length ≤ l.length + 1 := by
    have := congrArg List.length he
    rw [put_len, List.length_append] at this
    omega
  have hb1 : (acc.length + 1) * 24 ≤ 140737488355328 := by omega
  rcases Nat.lt_or_ge i l.length with hlt | hge
  · obtain ⟨y, hy⟩ := at_lt hlt
    have hyw := hw y (List.mem_of_getElem? hy)
    rw [drop_at hy] at he
    
    cases inn
    · rw [if_neg (by decide), putF] at he
      cases hc : lessF x y
      · rw [if_neg (by rw [hc]; decide)] at he
        
        
        repeat' (first
    | (with_reducible refine CW.seq ?_)
    | (with_reducible refine KP.then_code ?_)
    | (with_reducible refine CW.skip ?_)
    | (with_reducible refine CW.ret ?_)
    | (with_reducible refine KP.then_ret ?_)
    | (with_reducible refine KP.block_ret ?_)
    | (with_reducible refine CW.block ?_)
    | (with_reducible refine KP.block_normal ?_)
    | (with_reducible refine CW.exit ?_)
    | (with_reducible refine KP.then_exit ?_)
    | (with_reducible refine KP.block_hit ?_)
    | refine KP.bm ?_
    | refine CW.ct ?_
    | refine CW.cf ?_
    | (refine CW.cP ?_ ?_ <;> intro _ <;> try contradiction)
    | (refine CW.cs ?_ ?_ <;> intro _ <;> try contradiction)
    | (refine CW.region (i := 4) ?_ <;> refine KP.q QK.mv ?_ <;> refine KP.q QK.mv ?_ <;> refine KP.q QK.len ?_ <;> refine KP.q QK.lss ?_ <;> refine KP.list_nil ?_)
    | (((with_reducible refine CW.draw (i := 6) ?_ [[], [0], [0, 1], [0, 1, 2], [0, 1, 2], [0, 1, 2], [0, 1, 2, 4, 5], [0, 1, 2, 4, 5, 6], [0, 1, 2, 3, 4, 5, 6, 7], [0, 1, 2, 3, 4, 5, 6, 7, 8]] ?_ ?_ ?_ ?_); (· rfl); (· kernel_rfl); (· kernel_rfl); (· repeat (first | exact NoHang.post | refine NoHang.then ?_ | refine NoHang.block ?_))) <;> refine DW.p 0 rfl (fun _ => QK.mv) ?_ <;> refine DW.p 1 rfl (fun _ => QK.not) ?_ <;> refine DW.p 2 rfl (fun _ => QK.mv) ?_ <;> (first | refine DW.pn 4 rfl rfl rfl ?_ | refine DW.pu 4 rfl rfl rfl ?_ | refine DW.py 4 rfl rfl rfl (fun _ => QK.mv) ?_ | ((first | refine DW.sP (t := 16) ?_ ?_ | refine DW.s (t := 16) ?_ ?_) <;> intro _ <;> first | contradiction | refine DW.pn 4 rfl rfl rfl ?_ | refine DW.pu 4 rfl rfl rfl ?_ | refine DW.py 4 rfl rfl rfl (fun _ => QK.mv) ?_)) <;> (first | refine DW.pn 5 rfl rfl rfl ?_ | refine DW.pu 5 rfl rfl rfl ?_ | refine DW.py 5 rfl rfl rfl (fun _ => QK.mv) ?_) <;> (first | refine DW.mn 3 rfl rfl rfl ?_ | refine DW.mu 3 rfl rfl rfl ?_ | refine DW.my 3 rfl rfl rfl (by first | exact QY.load_a rfl (Rd.ro (by with_reducible first | exact m0 | exact m1 | exact m2 | exact m3 | exact m4 | exact m5 | fail)) (Reads.row RowL.rrow hy) rfl | exact QK.lda) ?_) <;> (first | refine DW.mn 6 rfl rfl rfl ?_ | refine DW.mu 6 rfl rfl rfl ?_ | refine DW.my 6 rfl rfl rfl QK.ia ?_) <;> (first | refine DW.mn 7 rfl rfl rfl ?_ | refine DW.mu 7 rfl rfl rfl ?_ | refine DW.my 7 rfl rfl rfl (by first | exact QY.load_a rfl (Rd.ro (by with_reducible first | exact m0 | exact m1 | exact m2 | exact m3 | exact m4 | exact m5 | fail)) (Reads.row RowL.rrow hy) rfl | exact QK.lda) ?_) <;> (first | (refine DW.exn 8 rfl rfl rfl ?_; intro hdk; refine DK.mk hdk .nil ?_; clear hdk) | (refine DW.exy 8 rfl rfl rfl ?_; intro hdk; ((refine EK.call ((show Spc Try.prog 39 #[Iv x, Iv y] [] [] (ret (.bool false) []) from hc ▸ refLess_spec hx hyw)) ?_); repeat' first | refine CP.r ?_ | refine CP.r0 ?_ | refine CP.exP fun e22 => ?_ | refine CP.puP fun h22 => ?_); all_goals (refine DK.mk hdk .nil ?_; clear hdk))) <;> refine DW.p 9 rfl (fun _ => QK.pk) ?_ <;> refine DW.zz ?_)
    | (refine CW.region (i := 9) ?_ <;> refine KP.q QK.mv ?_ <;> refine KP.q QK.mv ?_ <;> refine KP.q QK.mv ?_ <;> refine KP.q QK.ia ?_ <;> refine KP.q (by first | exact QY.load_a rfl (Rd.ro (by with_reducible first | exact m0 | exact m1 | exact m2 | exact m3 | exact m4 | exact m5 | fail)) (Reads.row RowL.rrow hy) rfl | exact QK.lda) ?_ <;> (refine KP.e ?_; ((first | refine EW.buildSlice1_s (by decide) rfl (by first | rfl | assumption) rfl ?_ | refine EW.buildSlice1_a (by decide) rfl (by rfl) (by rfl) (by decide) (by decide) ?_); intro b33)) <;> (refine KP.e ?_; (first | (refine EK.app1 (enc := eI) y ?_; intro w34 o34) | (refine EK.app1 _ ?_; intro w34 o34))) <;> refine KP.q QK.as ?_ <;> refine KP.list_nil ?_)
    | (refine CW.region (i := 5) ?_ <;> refine KP.q QK.mv ?_ <;> refine KP.q QK.add ?_ <;> refine KP.q QK.as ?_ <;> refine KP.list_nil ?_)
    | ((with_reducible apply KP.fin1); (· rfl); (· rfl)))
        exact KA.round (i + 1, false, w34, acc ++ [y]) ⟨by simp only; omega, by simpa using he, by assumption⟩
      · rw [if_pos hc] at he
        
        
        
        repeat' (first
    | (with_reducible refine CW.seq ?_)
    | (with_reducible refine KP.then_code ?_)
    | (with_reducible refine CW.skip ?_)
    | (with_reducible refine CW.ret ?_)
    | (with_reducible refine KP.then_ret ?_)
    | (with_reducible refine KP.block_ret ?_)
    | (with_reducible refine CW.block ?_)
    | (with_reducible refine KP.block_normal ?_)
    | (with_reducible refine CW.exit ?_)
    | (with_reducible refine KP.then_exit ?_)
    | (with_reducible refine KP.block_hit ?_)
    | refine KP.bm ?_
    | refine CW.ct ?_
    | refine CW.cf ?_
    | (refine CW.cP ?_ ?_ <;> intro _ <;> try contradiction)
    | (refine CW.cs ?_ ?_ <;> intro _ <;> try contradiction)
    | (refine CW.region (i := 4) ?_ <;> refine KP.q QK.mv ?_ <;> refine KP.q QK.mv ?_ <;> refine KP.q QK.len ?_ <;> refine KP.q QK.lss ?_ <;> refine KP.list_nil ?_)
    | (((with_reducible refine CW.draw (i := 6) ?_ [[], [0], [0, 1], [0, 1, 2], [0, 1, 2], [0, 1, 2], [0, 1, 2, 4, 5], [0, 1, 2, 4, 5, 6], [0, 1, 2, 3, 4, 5, 6, 7], [0, 1, 2, 3, 4, 5, 6, 7, 8]] ?_ ?_ ?_ ?_); (· rfl); (· kernel_rfl); (· kernel_rfl); (· repeat (first | exact NoHang.post | refine NoHang.then ?_ | refine NoHang.block ?_))) <;> refine DW.p 0 rfl (fun _ => QK.mv) ?_ <;> refine DW.p 1 rfl (fun _ => QK.not) ?_ <;> refine DW.p 2 rfl (fun _ => QK.mv) ?_ <;> (first | refine DW.pn 4 rfl rfl rfl ?_ | refine DW.pu 4 rfl rfl rfl ?_ | refine DW.py 4 rfl rfl rfl (fun _ => QK.mv) ?_ | ((first | refine DW.sP (t := 16) ?_ ?_ | refine DW.s (t := 16) ?_ ?_) <;> intro _ <;> first | contradiction | refine DW.pn 4 rfl rfl rfl ?_ | refine DW.pu 4 rfl rfl rfl ?_ | refine DW.py 4 rfl rfl rfl (fun _ => QK.mv) ?_)) <;> (first | refine DW.pn 5 rfl rfl rfl ?_ | refine DW.pu 5 rfl rfl rfl ?_ | refine DW.py 5 rfl rfl rfl (fun _ => QK.mv) ?_) <;> (first | refine DW.mn 3 rfl rfl rfl ?_ | refine DW.mu 3 rfl rfl rfl ?_ | refine DW.my 3 rfl rfl rfl (by first | exact QY.load_a rfl (Rd.ro (by with_reducible first | exact m0 | exact m1 | exact m2 | exact m3 | exact m4 | exact m5 | fail)) (Reads.row RowL.rrow hy) rfl | exact QK.lda) ?_) <;> (first | refine DW.mn 6 rfl rfl rfl ?_ | refine DW.mu 6 rfl rfl rfl ?_ | refine DW.my 6 rfl rfl rfl QK.ia ?_) <;> (first | refine DW.mn 7 rfl rfl rfl ?_ | refine DW.mu 7 rfl rfl rfl ?_ | refine DW.my 7 rfl rfl rfl (by first | exact QY.load_a rfl (Rd.ro (by with_reducible first | exact m0 | exact m1 | exact m2 | exact m3 | exact m4 | exact m5 | fail)) (Reads.row RowL.rrow hy) rfl | exact QK.lda) ?_) <;> (first | (refine DW.exn 8 rfl rfl rfl ?_; intro hdk; refine DK.mk hdk .nil ?_; clear hdk) | (refine DW.exy 8 rfl rfl rfl ?_; intro hdk; ((refine EK.call ((show Spc Try.prog 39 #[Iv x, Iv y] [] [] (ret (.bool true) []) from hc ▸ refLess_spec hx hyw)) ?_); repeat' first | refine CP.r ?_ | refine CP.r0 ?_ | refine CP.exP fun e22 => ?_ | refine CP.puP fun h22 => ?_); all_goals (refine DK.mk hdk .nil ?_; clear hdk))) <;> refine DW.p 9 rfl (fun _ => QK.pk) ?_ <;> refine DW.zz ?_)
    | (refine CW.region (i := 7) ?_ <;> refine KP.q QK.mv ?_ <;> refine KP.q (by first | exact QY.load_a rfl (Rd.ro (by with_reducible first | exact m0 | exact m1 | exact m2 | exact m3 | exact m4 | exact m5 | fail)) (Reads.row RowL.rrow hy) rfl | exact QK.lda) ?_ <;> (refine KP.e ?_; ((first | refine EW.buildSlice1_s (by decide) rfl (by first | rfl | assumption) rfl ?_ | refine EW.buildSlice1_a (by decide) rfl (by rfl) (by rfl) (by decide) (by decide) ?_); intro b26)) <;> (refine KP.e ?_; (first | (refine EK.app1 (enc := eI) x ?_; intro w27 o27) | (refine EK.app1 _ ?_; intro w27 o27))) <;> refine KP.q QK.as ?_ <;> refine KP.list_nil ?_)
    | (refine CW.region (i := 8) ?_ <;> refine KP.q QK.as ?_ <;> refine KP.list_nil ?_)
    | ((with_reducible apply KP.fin1); (· rfl); (· rfl)))
        
        have hb2 : ((acc ++ [x]).length + 1) * 24 ≤ 140737488355328 := by
          have e : (acc ++ [x]).length = acc.length + 1 := by simp
          omega
        
        repeat' (first
    | (with_reducible refine CW.seq ?_)
    | (with_reducible refine KP.then_code ?_)
    | (with_reducible refine CW.skip ?_)
    | (with_reducible refine CW.ret ?_)
    | (with_reducible refine KP.then_ret ?_)
    | (with_reducible refine KP.block_ret ?_)
    | (with_reducible refine CW.block ?_)
    | (with_reducible refine KP.block_normal ?_)
    | (with_reducible refine CW.exit ?_)
    | (with_reducible refine KP.then_exit ?_)
    | (with_reducible refine KP.block_hit ?_)
    | refine KP.bm ?_
    | refine CW.ct ?_
    | refine CW.cf ?_
    | (refine CW.cP ?_ ?_ <;> intro _ <;> try contradiction)
    | (refine CW.cs ?_ ?_ <;> intro _ <;> try contradiction)
    | (refine CW.region (i := 9) ?_ <;> refine KP.q QK.mv ?_ <;> refine KP.q QK.mv ?_ <;> refine KP.q QK.mv ?_ <;> refine KP.q QK.ia ?_ <;> refine KP.q (by first | exact QY.load_a rfl (Rd.ro (by with_reducible first | exact m0 | exact m1 | exact m2 | exact m3 | exact m4 | exact m5 | fail)) (Reads.row RowL.rrow hy) rfl | exact QK.lda) ?_ <;> (refine KP.e ?_; ((first | refine EW.buildSlice1_s (by decide) rfl (by first | rfl | assumption) rfl ?_ | refine EW.buildSlice1_a (by decide) rfl (by rfl) (by rfl) (by decide) (by decide) ?_); intro b33)) <;> (refine KP.e ?_; (first | (refine EK.app1 (enc := eI) y ?_ (hb := hb2); intro w34 o34) | (refine EK.app1 _ ?_; intro w34 o34))) <;> refine KP.q QK.as ?_ <;> refine KP.list_nil ?_)
    | (refine CW.region (i := 5) ?_ <;> refine KP.q QK.mv ?_ <;> refine KP.q QK.add ?_ <;> refine KP.q QK.as ?_ <;> refine KP.list_nil ?_)
    | ((with_reducible apply KP.fin1); (· rfl); (· rfl)))
        exact KA.round (i + 1, true, w34, acc ++ [x] ++ [y]) ⟨by simp only; omega, by simpa using he, by assumption⟩
    · rw [if_pos rfl] at he
      
      
      repeat' (first
    | (with_reducible refine CW.seq ?_)
    | (with_reducible refine KP.then_code ?_)
    | (with_reducible refine CW.skip ?_)
    | (with_reducible refine CW.ret ?_)
    | (with_reducible refine KP.then_ret ?_)
    | (with_reducible refine KP.block_ret ?_)
    | (with_reducible refine CW.block ?_)
    | (with_reducible refine KP.block_normal ?_)
    | (with_reducible refine CW.exit ?_)
    | (with_reducible refine KP.then_exit ?_)
    | (with_reducible refine KP.block_hit ?_)
    | refine KP.bm ?_
    | refine CW.ct ?_
    | refine CW.cf ?_
    | (refine CW.cP ?_ ?_ <;> intro _ <;> try contradiction)
    | (refine CW.cs ?_ ?_ <;> intro _ <;> try contradiction)
    | (refine CW.region (i := 4) ?_ <;> refine KP.q QK.mv ?_ <;> refine KP.q QK.mv ?_ <;> refine KP.q QK.len ?_ <;> refine KP.q QK.lss ?_ <;> refine KP.list_nil ?_)
    | (((with_reducible refine CW.draw (i := 6) ?_ [[], [0], [0, 1], [0, 1, 2], [0, 1, 2], [0, 1, 2], [0, 1, 2, 4, 5], [0, 1, 2, 4, 5, 6], [0, 1, 2, 3, 4, 5, 6, 7], [0, 1, 2, 3, 4, 5, 6, 7, 8]] ?_ ?_ ?_ ?_); (· rfl); (· kernel_rfl); (· kernel_rfl); (· repeat (first | exact NoHang.post | refine NoHang.then ?_ | refine NoHang.block ?_))) <;> refine DW.p 0 rfl (fun _ => QK.mv) ?_ <;> refine DW.p 1 rfl (fun _ => QK.not) ?_ <;> refine DW.p 2 rfl (fun _ => QK.mv) ?_ <;> (first | refine DW.pn 4 rfl rfl rfl ?_ | refine DW.pu 4 rfl rfl rfl ?_ | refine DW.py 4 rfl rfl rfl (fun _ => QK.mv) ?_ | ((first | refine DW.sP (t := 16) ?_ ?_ | refine DW.s (t := 16) ?_ ?_) <;> intro _ <;> first | contradiction | refine DW.pn 4 rfl rfl rfl ?_ | refine DW.pu 4 rfl rfl rfl ?_ | refine DW.py 4 rfl rfl rfl (fun _ => QK.mv) ?_)) <;> (first | refine DW.pn 5 rfl rfl rfl ?_ | refine DW.pu 5 rfl rfl rfl ?_ | refine DW.py 5 rfl rfl rfl (fun _ => QK.mv) ?_) <;> (first | refine DW.mn 3 rfl rfl rfl ?_ | refine DW.mu 3 rfl rfl rfl ?_ | refine DW.my 3 rfl rfl rfl (by first | exact QY.load_a rfl (Rd.ro (by with_reducible first | exact m0 | exact m1 | exact m2 | exact m3 | exact m4 | exact m5 | fail)) (Reads.row RowL.rrow hy) rfl | exact QK.lda) ?_) <;> (first | refine DW.mn 6 rfl rfl rfl ?_ | refine DW.mu 6 rfl rfl rfl ?_ | refine DW.my 6 rfl rfl rfl QK.ia ?_) <;> (first | refine DW.mn 7 rfl rfl rfl ?_ | refine DW.mu 7 rfl rfl rfl ?_ | refine DW.my 7 rfl rfl rfl (by first | exact QY.load_a rfl (Rd.ro (by with_reducible first | exact m0 | exact m1 | exact m2 | exact m3 | exact m4 | exact m5 | fail)) (Reads.row RowL.rrow hy) rfl | exact QK.lda) ?_) <;> (first | (refine DW.exn 8 rfl rfl rfl ?_; intro hdk; refine DK.mk hdk .nil ?_; clear hdk) | (refine DW.exy 8 rfl rfl rfl ?_; intro hdk; ((refine EK.call ((show Spc Try.prog 39 #[Iv x, Iv y] [] [] (ret (.bool true) []) from hc ▸ refLess_spec hx hyw)) ?_); repeat' first | refine CP.r ?_ | refine CP.r0 ?_ | refine CP.exP fun e22 => ?_ | refine CP.puP fun h22 => ?_); all_goals (refine DK.mk hdk .nil ?_; clear hdk))) <;> refine DW.p 9 rfl (fun _ => QK.pk) ?_ <;> refine DW.zz ?_)
    | (refine CW.region (i := 9) ?_ <;> refine KP.q QK.mv ?_ <;> refine KP.q QK.mv ?_ <;> refine KP.q QK.mv ?_ <;> refine KP.q QK.ia ?_ <;> refine KP.q (by first | exact QY.load_a rfl (Rd.ro (by with_reducible first | exact m0 | exact m1 | exact m2 | exact m3 | exact m4 | exact m5 | fail)) (Reads.row RowL.rrow hy) rfl | exact QK.lda) ?_ <;> (refine KP.e ?_; ((first | refine EW.buildSlice1_s (by decide) rfl (by first | rfl | assumption) rfl ?_ | refine EW.buildSlice1_a (by decide) rfl (by rfl) (by rfl) (by decide) (by decide) ?_); intro b33)) <;> (refine KP.e ?_; (first | (refine EK.app1 (enc := eI) y ?_; intro w34 o34) | (refine EK.app1 _ ?_; intro w34 o34))) <;> refine KP.q QK.as ?_ <;> refine KP.list_nil ?_)
    | (refine CW.region (i := 5) ?_ <;> refine KP.q QK.mv ?_ <;> refine KP.q QK.add ?_ <;> refine KP.q QK.as ?_ <;> refine KP.list_nil ?_)
    | ((with_reducible apply KP.fin1); (· rfl); (· rfl)))
      exact KA.round (i + 1, true, w34, acc ++ [y]) ⟨by simp only; omega, by simpa using he, by assumption⟩
  · obtain rfl : i = l.length := by omega
    rw [List.drop_length] at he
    cases inn
    · rw [if_neg (by decide), putF] at he
      rw [← he]
      
      
      repeat' (first
    | (with_reducible refine CW.seq ?_)
    | (with_reducible refine KP.then_code ?_)
    | (with_reducible refine CW.skip ?_)
    | (with_reducible refine CW.ret ?_)
    | (with_reducible refine KP.then_ret ?_)
    | (with_reducible refine KP.block_ret ?_)
    | (with_reducible refine CW.block ?_)
    | (with_reducible refine KP.block_normal ?_)
    | (with_reducible refine CW.exit ?_)
    | (with_reducible refine KP.then_exit ?_)
    | (with_reducible refine KP.block_hit ?_)
    | refine KP.bm ?_
    | refine CW.ct ?_
    | refine CW.cf ?_
    | (refine CW.cP ?_ ?_ <;> intro _ <;> try contradiction)
    | (refine CW.cs ?_ ?_ <;> intro _ <;> try contradiction)
    | (refine CW.region (i := 4) ?_ <;> refine KP.q QK.mv ?_ <;> refine KP.q QK.mv ?_ <;> refine KP.q QK.len ?_ <;> refine KP.q QK.lss ?_ <;> refine KP.list_nil ?_)
    | (refine CW.region (i := 10) ?_ <;> refine KP.q QK.mv ?_ <;> refine KP.q QK.not ?_ <;> refine KP.list_nil ?_)
    | (refine CW.region (i := 11) ?_ <;> refine KP.q QK.mv ?_ <;> refine KP.q (by first | exact QY.load_a rfl (Rd.ro (by with_reducible first | exact m0 | exact m1 | exact m2 | exact m3 | exact m4 | exact m5 | fail)) (Reads.row RowL.rrow hy) rfl | exact QK.lda) ?_ <;> (refine KP.e ?_; ((first | refine EW.buildSlice1_s (by decide) rfl (by first | rfl | assumption) rfl ?_ | refine EW.buildSlice1_a (by decide) rfl (by rfl) (by rfl) (by decide) (by decide) ?_); intro b39)) <;> (refine KP.e ?_; (first | (refine EK.app1 (enc := eI) x ?_; intro w40 o40) | (refine EK.app1 _ ?_; intro w40 o40))) <;> refine KP.q QK.as ?_ <;> refine KP.list_nil ?_)
    | (refine CW.region (i := 12) ?_ <;> refine KP.q QK.mv ?_ <;> refine KP.q QK.as ?_ <;> refine KP.list_nil ?_)
    | ((with_reducible apply KP.fin1); (· rfl); (· rfl)))
      refine Fina.exP w40 (Fina.puP (by assumption) ?_)
      exact FA.ret
    · rw [if_pos rfl, List.append_nil] at he
      rw [← he]
      repeat' (first
    | (with_reducible refine CW.seq ?_)
    | (with_reducible refine KP.then_code ?_)
    | (with_reducible refine CW.skip ?_)
    | (with_reducible refine CW.ret ?_)
    | (with_reducible refine KP.then_ret ?_)
    | (with_reducible refine KP.block_ret ?_)
    | (with_reducible refine CW.block ?_)
    | (with_reducible refine KP.block_normal ?_)
    | (with_reducible refine CW.exit ?_)
    | (with_reducible refine KP.then_exit ?_)
    | (with_reducible refine KP.block_hit ?_)
    | refine KP.bm ?_
    | refine CW.ct ?_
    | refine CW.cf ?_
    | (refine CW.cP ?_ ?_ <;> intro _ <;> try contradiction)
    | (refine CW.cs ?_ ?_ <;> intro _ <;> try contradiction)
    | (refine CW.region (i := 4) ?_ <;> refine KP.q QK.mv ?_ <;> refine KP.q QK.mv ?_ <;> refine KP.q QK.len ?_ <;> refine KP.q QK.lss ?_ <;> refine KP.list_nil ?_)
    | (refine CW.region (i := 10) ?_ <;> refine KP.q QK.mv ?_ <;> refine KP.q QK.not ?_ <;> refine KP.list_nil ?_)
    | (refine CW.region (i := 12) ?_ <;> refine KP.q QK.mv ?_ <;> refine KP.q QK.as ?_ <;> refine KP.list_nil ?_)
    | ((with_reducible apply KP.fin1); (· rfl); (· rfl)))
      refine Fina.exP r (Fina.puP hr ?_)
      exact FA.ret

theorem sortF_nil : sortF [] = [] := List.eq_nil_of_length_eq_zero (sortF_len [])
set_option maxHeartbeats 4000000 in
theorem refSort_spec {v : Value} {xs : List Item} (hw : ∀ y ∈ xs, y.word.size ≤ 1000000) (hl : xs.length ≤ 40000) : Spc Try.prog 36 #[v] [rrow 2 eI v xs] [] (exP fun v' => puP (v'.oneCell' = true) (ret v' [row 39 2 eI v' (sortF xs)])) := by
  refine Spc.enter' (args := [v]) (T0 := [(0, v)]) Try.func36 rfl Try.ntmps36 (Nat.le_of_ble_eq_true rfl) rfl ?_
  intro w0 own
  repeat' (first
    | (with_reducible refine CW.seq ?_)
    | (with_reducible refine KP.then_code ?_)
    | (with_reducible refine CW.skip ?_)
    | (with_reducible refine CW.ret ?_)
    | (with_reducible refine KP.then_ret ?_)
    | (with_reducible refine KP.block_ret ?_)
    | (with_reducible refine CW.block ?_)
    | (with_reducible refine KP.block_normal ?_)
    | (with_reducible refine CW.exit ?_)
    | (with_reducible refine KP.then_exit ?_)
    | (with_reducible refine KP.block_hit ?_)
    | refine KP.bm ?_
    | refine CW.ct ?_
    | refine CW.cf ?_
    | (refine CW.cP ?_ ?_ <;> intro _ <;> try contradiction)
    | (refine CW.cs ?_ ?_ <;> intro _ <;> try contradiction)
    | (refine CW.region (i := 0) ?_ <;> refine KP.q QK.as ?_ <;> refine KP.list_nil ?_)
    | (refine CW.region (i := 1) ?_ <;> refine KP.q QK.as ?_ <;> refine KP.list_nil ?_)
    | (refine CW.region (i := 2) ?_ <;> refine KP.q QK.as ?_ <;> refine KP.list_nil ?_)
    | ((with_reducible apply KP.fin1); (· rfl); (· rfl)))
  refine CW.add (B := row 39 2 eI (.slice none 0 0) (sortF (xs.take 0))) (by rw [List.take_zero, sortF_nil]; exact row.none) ?_
  refine CA.loop (X := Nat × Value) (fun z => [(0, v), (3, z.2), (4, iv (z.1 : Nat))]) (fun z => [row 39 2 eI z.2 (sortF (xs.take z.1))]) (fun z => z.1 ≤ xs.length ∧ z.2.oneCell' = true) (fun z => xs.length - z.1) (0, .slice none 0 0) ⟨by simp, rfl⟩ ?_
  rintro ⟨i, r⟩ ⟨hi, hr⟩
  try dsimp only at hi hr ⊢
  rcases Nat.lt_or_ge i xs.length with hlt | hge
  · obtain ⟨y, hy⟩ := at_lt hlt
    have hst := put_sort y (xs.take i)
    rw [show xs.take i ++ [y] = xs.take (i + 1) by rw [List.take_add_one, hy]; rfl] at hst
    have hlen : (sortF (xs.take i)).length ≤ 50000 := by rw [sortF_len, List.length_take]; omega
    have hwm : ∀ z ∈ sortF (xs.take i), z.word.size ≤ 1000000 := fun z hz => hw z (List.mem_of_mem_take ((sortF_perm _).mem_iff.1 hz))
    
    
    repeat' (first
    | (with_reducible refine CW.seq ?_)
    | (with_reducible refine KP.then_code ?_)
    | (with_reducible refine CW.skip ?_)
    | (with_reducible refine CW.ret ?_)
    | (with_reducible refine KP.then_ret ?_)
    | (with_reducible refine KP.block_ret ?_)
    | (with_reducible refine CW.block ?_)
    | (with_reducible refine KP.block_normal ?_)
    | (with_reducible refine CW.exit ?_)
    | (with_reducible refine KP.then_exit ?_)
    | (with_reducible refine KP.block_hit ?_)
    | refine KP.bm ?_
    | refine CW.ct ?_
    | refine CW.cf ?_
    | (refine CW.cP ?_ ?_ <;> intro _ <;> try contradiction)
    | (refine CW.cs ?_ ?_ <;> intro _ <;> try contradiction)
    | (refine CW.region (i := 3) ?_ <;> refine KP.q QK.mv ?_ <;> refine KP.q QK.mv ?_ <;> refine KP.q QK.len ?_ <;> refine KP.q QK.lss ?_ <;> refine KP.list_nil ?_)
    | (refine CW.region (i := 5) ?_ <;> refine KP.q QK.mv ?_ <;> refine KP.q QK.mv ?_ <;> refine KP.q QK.mv ?_ <;> refine KP.q QK.ia ?_ <;> refine KP.q (by first | exact QY.load_a rfl (Rd.ro (by with_reducible first | exact m0 | exact m1 | exact m2 | exact m3 | exact m4 | exact m5 | fail)) (Reads.row RowL.rrow hy) rfl | exact QK.lda) ?_ <;> (refine KP.e ?_; ((refine EK.call (refPut_spec (x := y) (l := sortF (xs.take i)) (hw y (List.mem_of_getElem? hy)) hwm hlen) ?_); repeat' first | refine CP.r ?_ | refine CP.r0 ?_ | refine CP.exP fun e16 => ?_ | refine CP.puP fun h16 => ?_)) <;> refine KP.q QK.as ?_ <;> refine KP.list_nil ?_)
    | (refine CW.region (i := 4) ?_ <;> refine KP.q QK.mv ?_ <;> refine KP.q QK.add ?_ <;> refine KP.q QK.as ?_ <;> refine KP.list_nil ?_)
    | ((with_reducible apply KP.fin1); (· rfl); (· rfl)))
    rw [hst]
    exact KA.round (i + 1, e16) ⟨by simp only; omega, by assumption⟩
  · obtain rfl : i = xs.length := by omega
    rw [List.take_length]
    repeat' (first
    | (with_reducible refine CW.seq ?_)
    | (with_reducible refine KP.then_code ?_)
    | (with_reducible refine CW.skip ?_)
    | (with_reducible refine CW.ret ?_)
    | (with_reducible refine KP.then_ret ?_)
    | (with_reducible refine KP.block_ret ?_)
    | (with_reducible refine CW.block ?_)
    | (with_reducible refine KP.block_normal ?_)
    | (with_reducible refine CW.exit ?_)
    | (with_reducible refine KP.then_exit ?_)
    | (with_reducible refine KP.block_hit ?_)
    | refine KP.bm ?_
    | refine CW.ct ?_
    | refine CW.cf ?_
    | (refine CW.cP ?_ ?_ <;> intro _ <;> try contradiction)
    | (refine CW.cs ?_ ?_ <;> intro _ <;> try contradiction)
    | (refine CW.region (i := 3) ?_ <;> refine KP.q QK.mv ?_ <;> refine KP.q QK.mv ?_ <;> refine KP.q QK.len ?_ <;> refine KP.q QK.lss ?_ <;> refine KP.list_nil ?_)
    | (refine CW.region (i := 6) ?_ <;> refine KP.q QK.mv ?_ <;> refine KP.q QK.as ?_ <;> refine KP.list_nil ?_)
    | ((with_reducible apply KP.fin1); (· rfl); (· rfl)))
    refine Fina.exP r (Fina.puP hr ?_)
    exact FA.ret

end Go.Proofs.Ytpmhelfdmhjnbaa
