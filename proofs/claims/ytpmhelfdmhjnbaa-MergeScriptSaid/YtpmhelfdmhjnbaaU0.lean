import Derived.Test.YtpmhelfdmhjnbaaR3
import Derived.Test.YtpmhelfdmhjnbaaT5
import Derived.Test.YtpmhelfdmhjnbaaInkG
/- What is lent, and kept: items and texts. -/
namespace Go.Proofs.Ytpmhelfdmhjnbaa
open Go Go.Ink Go.Plain
set_option linter.unusedVariables false
set_option linter.unusedSimpArgs false
attribute [local irreducible] KP QY EW CW DW DX QG CP Spc DK Fina wpList lessF lent

abbrev lentV (b n : Nat) : Value := .slice (some ⟨b, 0, none⟩) n (n + 3)
def mark7 : Item := ⟨-7, ⟨#[]⟩⟩
theorem flat_rep {α : Type _} {enc : α → List Value} {z : α} : ∀ k : Nat, (List.replicate k (enc z)).flatten = (List.replicate k z).flatMap enc
  | 0 => rfl
  | k + 1 => by rw [List.replicate_succ, List.replicate_succ, List.flatten_cons, List.flatMap_cons, flat_rep k]
theorem lent_new {α : Type _} {enc : α → List Value} {n b : Nat} {e : TypeId} [E : Enc enc n] {xs : List α} {z : α} (hl : xs.length + 3 ≤ maxLen) :
    ∀ hh, pt b e (xs.flatMap enc ++ ((List.replicate (xs.length + 3) (enc z)).flatten).drop (xs.length * n)) hh → lent e n enc b xs [z, z, z] hh := by
  refine lent.of ?_ hl
  rw [List.flatMap_append, flat_rep]
  congr 1
  have h := flatMap_length E.len (List.replicate xs.length z)
  rw [List.length_replicate] at h
  rw [show xs.length + 3 = xs.length + 3 from rfl, ← List.replicate_append_replicate, List.flatMap_append, ← h, List.drop_left]
  rfl
theorem marks3 {α : Type _} {ys : List α} {m : α} (hl : ys.length = 3) (h : ∀ j, j < 3 → ys[j]? = some m) : ys = [m, m, m] := by
  match ys, hl with
  | [a, b, c], _ =>
    have h0 := h 0 (by omega); have h1 := h 1 (by omega); have h2 := h 2 (by omega)
    simp at h0 h1 h2
    rw [h0, h1, h2]
theorem rep_len {α : Type _} {z : List α} {k n : Nat} (h : z.length = n) : (List.replicate k z).flatten.length = k * n := by
  induction k with
  | zero => simp
  | succ k ih => rw [List.replicate_succ, List.flatten_cons, List.length_append, ih, h, Nat.add_mul]; omega
/-! ### items -/

theorem lendI_spec {v : Value} {xs : List Item} (hl : xs.length ≤ 100000) : Spc Try.prog 34 #[v] [rrow 2 eI v xs] [] (exP fun b : Nat => ret (lentV b xs.length) [lent 39 2 eI b xs [mark7, mark7, mark7]]) := by
  refine Spc.enter' (args := [v]) (T0 := [(0, v)]) Try.func34 rfl Try.ntmps34 (Nat.le_of_ble_eq_true rfl) rfl ?_
  intro w0 own
  
  repeat' (first
    | (with_reducible refine CW.seq ?_)
    | (with_reducible refine KP.then_code ?_)
    | (with_reducible refine CW.skip ?_)
    | (with_reducible refine CW.ret ?_)
    | (with_reducible refine KP.then_ret ?_)
    | (with_reducible refine KP.block_ret ?_)
    | (with_reducible refine CW.block ?_)
    | (with_reducible refine KP.block_normal ?_)
    | (with_reducible refine CW.exit ?_)
    | (with_reducible refine KP.then_exit ?_)
    | (with_reducible refine KP.block_hit ?_)
    | refine KP.bm ?_
    | refine CW.ct ?_
    | refine CW.cf ?_
    | (refine CW.cP ?_ ?_ <;> intro _ <;> try contradiction)
    | (refine CW.cs ?_ ?_ <;> intro _ <;> try contradiction)
    | (refine CW.region (i := 0) ?_ <;> refine KP.q QK.as ?_ <;> refine KP.list_nil ?_)
    | (refine CW.region (i := 1) ?_ <;> refine KP.q QK.mv ?_ <;> refine KP.q QK.len ?_ <;> refine KP.q (by first | exact QY.addN (n := 3) rfl rfl (by omega) | exact QK.add) ?_ <;> (refine KP.e ?_; (first | (refine EW.makeSlice (l := 0) (cp := xs.length + 3) (by decide) rfl rfl rfl (by omega) (by omega) (by decide) (fun b9 => ?_)))) <;> refine KP.q QK.as ?_ <;> refine KP.list_nil ?_)
    | ((with_reducible apply KP.fin1); (· rfl); (· rfl)))
  
  repeat' (first
    | (with_reducible refine CW.seq ?_)
    | (with_reducible refine KP.then_code ?_)
    | (with_reducible refine CW.skip ?_)
    | (with_reducible refine CW.ret ?_)
    | (with_reducible refine KP.then_ret ?_)
    | (with_reducible refine KP.block_ret ?_)
    | (with_reducible refine CW.block ?_)
    | (with_reducible refine KP.block_normal ?_)
    | (with_reducible refine CW.exit ?_)
    | (with_reducible refine KP.then_exit ?_)
    | (with_reducible refine KP.block_hit ?_)
    | refine KP.bm ?_
    | refine CW.ct ?_
    | refine CW.cf ?_
    | (refine CW.cP ?_ ?_ <;> intro _ <;> try contradiction)
    | (refine CW.cs ?_ ?_ <;> intro _ <;> try contradiction)
    | (refine CW.region (i := 2) ?_ <;> refine KP.q QK.mv ?_ <;> refine KP.q QK.mv ?_ <;> (refine KP.e ?_; (first | refine EW.append_in (enc := eI) (ys := xs) (cp := xs.length + 3) rfl rfl (by with_reducible first | exact k0 | exact k1 | exact k2 | exact k3 | exact k4 | exact k5 | exact k6 | exact k7 | exact k8 | exact k9 | fail) (Rd.ro (by with_reducible first | exact m0 | exact m1 | exact m2 | exact m3 | exact m4 | exact m5 | fail)) RowL.rrow (by exact rep_len rfl) (by omega) (by decide) ?_ | (refine EK.app1 _ ?_; intro w12 o12))) <;> refine KP.q QK.as ?_ <;> refine KP.list_nil ?_)
    | ((with_reducible apply KP.fin1); (· rfl); (· rfl)))
  refine CW.kp (KP.imp (B := lent 39 2 eI b9 xs [Item.zero, Item.zero, Item.zero]) (lent_new (enc := eI) (z := Item.zero) (by simp only [maxLen]; omega)) (CW.pk ?_))
  
  repeat' (first
    | (with_reducible refine CW.seq ?_)
    | (with_reducible refine KP.then_code ?_)
    | (with_reducible refine CW.skip ?_)
    | (with_reducible refine CW.ret ?_)
    | (with_reducible refine KP.then_ret ?_)
    | (with_reducible refine KP.block_ret ?_)
    | (with_reducible refine CW.block ?_)
    | (with_reducible refine KP.block_normal ?_)
    | (with_reducible refine CW.exit ?_)
    | (with_reducible refine KP.then_exit ?_)
    | (with_reducible refine KP.block_hit ?_)
    | refine KP.bm ?_
    | refine CW.ct ?_
    | refine CW.cf ?_
    | (refine CW.cP ?_ ?_ <;> intro _ <;> try contradiction)
    | (refine CW.cs ?_ ?_ <;> intro _ <;> try contradiction)
    | (refine CW.region (i := 3) ?_ <;> refine KP.q QK.mv ?_ <;> refine KP.q QK.mv ?_ <;> refine KP.q QK.len ?_ <;> refine KP.q QK.mv ?_ <;> refine KP.q QK.len ?_ <;> refine KP.q (by first | exact QY.addN (n := 3) rfl rfl (by omega) | exact QK.add) ?_ <;> refine KP.q (by first | exact QY.cut_room (m' := 3) rfl rfl rfl (by omega) | exact QK.sl) ?_ <;> refine KP.q QK.as ?_ <;> refine KP.list_nil ?_)
    | (refine CW.region (i := 4) ?_ <;> refine KP.q QK.as ?_ <;> refine KP.list_nil ?_)
    | ((with_reducible apply KP.fin1); (· rfl); (· rfl)))
  refine CA.loop (X := Nat × List Item) (fun z => [(0, v), (3, lentV b9 xs.length), (4, .slice (some ⟨b9, xs.length * 2, none⟩) 3 3), (5, iv (z.1 : Nat))]) (fun z => [lent 39 2 eI b9 xs z.2]) (fun z => z.1 ≤ 3 ∧ z.2.length = 3 ∧ ∀ j, j < z.1 → z.2[j]? = some mark7) (fun z => 3 - z.1) (0, [Item.zero, Item.zero, Item.zero]) ⟨by simp, rfl, fun j h => by simp at h⟩ ?_
  rintro ⟨i, ys⟩ ⟨hi, hy, hm⟩
  try dsimp only at hi hy hm ⊢
  rcases Nat.lt_or_ge i 3 with hlt | hge
  · 
    
    repeat' (first
    | (with_reducible refine CW.seq ?_)
    | (with_reducible refine KP.then_code ?_)
    | (with_reducible refine CW.skip ?_)
    | (with_reducible refine CW.ret ?_)
    | (with_reducible refine KP.then_ret ?_)
    | (with_reducible refine KP.block_ret ?_)
    | (with_reducible refine CW.block ?_)
    | (with_reducible refine KP.block_normal ?_)
    | (with_reducible refine CW.exit ?_)
    | (with_reducible refine KP.then_exit ?_)
    | (with_reducible refine KP.block_hit ?_)
    | refine KP.bm ?_
    | refine CW.ct ?_
    | refine CW.cf ?_
    | (refine CW.cP ?_ ?_ <;> intro _ <;> try contradiction)
    | (refine CW.cs ?_ ?_ <;> intro _ <;> try contradiction)
    | (refine CW.region (i := 5) ?_ <;> refine KP.q QK.mv ?_ <;> refine KP.q QK.lss ?_ <;> refine KP.list_nil ?_)
    | (refine CW.region (i := 7) ?_ <;> refine KP.q QK.mv ?_ <;> refine KP.q QK.mv ?_ <;> refine KP.q QK.bd ?_ <;> refine KP.q (by first | exact QY.index_room (l := xs.length) (m' := 3) rfl rfl (by omega) | exact QK.ia) ?_ <;> (refine KP.e ?_; (first | refine EK.st_room (enc := eI) (xs := xs) (ys := ys) (i := i) (y' := mark7) ?_ | refine EK.st_a ?_ | refine EK.st_ra ?_ | refine EK.st_p ?_)) <;> refine KP.list_nil ?_)
    | (refine CW.region (i := 6) ?_ <;> refine KP.q QK.mv ?_ <;> refine KP.q (by first | exact QY.addN (n := 3) rfl rfl (by omega) | exact QK.add) ?_ <;> refine KP.q QK.as ?_ <;> refine KP.list_nil ?_)
    | ((with_reducible apply KP.fin1); (· rfl); (· rfl)))
    refine KA.round (i + 1, ys.set i mark7) ⟨by simp only; omega, by simp [hy], fun j hj => ?_⟩
    by_cases e : j = i
    · subst e; exact List.getElem?_set_self (by omega)
    · rw [List.getElem?_set_ne (by omega)]; exact hm j (by simp only at hj; omega)
  · obtain rfl : i = 3 := by omega
    rw [marks3 hy hm]
    repeat' (first
    | (with_reducible refine CW.seq ?_)
    | (with_reducible refine KP.then_code ?_)
    | (with_reducible refine CW.skip ?_)
    | (with_reducible refine CW.ret ?_)
    | (with_reducible refine KP.then_ret ?_)
    | (with_reducible refine KP.block_ret ?_)
    | (with_reducible refine CW.block ?_)
    | (with_reducible refine KP.block_normal ?_)
    | (with_reducible refine CW.exit ?_)
    | (with_reducible refine KP.then_exit ?_)
    | (with_reducible refine KP.block_hit ?_)
    | refine KP.bm ?_
    | refine CW.ct ?_
    | refine CW.cf ?_
    | (refine CW.cP ?_ ?_ <;> intro _ <;> try contradiction)
    | (refine CW.cs ?_ ?_ <;> intro _ <;> try contradiction)
    | (refine CW.region (i := 5) ?_ <;> refine KP.q QK.mv ?_ <;> refine KP.q QK.lss ?_ <;> refine KP.list_nil ?_)
    | (refine CW.region (i := 8) ?_ <;> refine KP.q QK.mv ?_ <;> refine KP.q QK.as ?_ <;> refine KP.list_nil ?_)
    | ((with_reducible apply KP.fin1); (· rfl); (· rfl)))
    refine Fina.exP b9 ?_
    exact FA.ret

theorem keptI_spec {b : Nat} {v : Value} {xs ys : List Item} (hl : xs.length ≤ 100000) : Spc Try.prog 37 #[lentV b xs.length, v] [lent 39 2 eI b xs [mark7, mark7, mark7], rrow 2 eI v ys] [] (ret (.bool (decide (xs = ys))) []) := by
  refine Spc.enter' (args := [lentV b xs.length, v]) (T0 := [(0, lentV b xs.length), (1, v)]) Try.func37 rfl Try.ntmps37 (Nat.le_of_ble_eq_true rfl) rfl ?_
  intro w0 own
  
  
  repeat' (first
    | (with_reducible refine CW.seq ?_)
    | (with_reducible refine KP.then_code ?_)
    | (with_reducible refine CW.skip ?_)
    | (with_reducible refine CW.ret ?_)
    | (with_reducible refine KP.then_ret ?_)
    | (with_reducible refine KP.block_ret ?_)
    | (with_reducible refine CW.block ?_)
    | (with_reducible refine KP.block_normal ?_)
    | (with_reducible refine CW.exit ?_)
    | (with_reducible refine KP.then_exit ?_)
    | (with_reducible refine KP.block_hit ?_)
    | refine KP.bm ?_
    | refine CW.ct ?_
    | refine CW.cf ?_
    | (refine CW.cP ?_ ?_ <;> intro _ <;> try contradiction)
    | (refine CW.cs ?_ ?_ <;> intro _ <;> try contradiction)
    | (refine CW.region (i := 0) ?_ <;> refine KP.q QK.as ?_ <;> refine KP.list_nil ?_)
    | (refine CW.region (i := 1) ?_ <;> refine KP.q QK.mv ?_ <;> refine KP.q QK.mv ?_ <;> refine KP.q QK.len ?_ <;> refine KP.q QK.mv ?_ <;> refine KP.q QK.len ?_ <;> refine KP.q (by first | exact QY.addN (n := 3) rfl rfl (by omega) | exact QK.add) ?_ <;> refine KP.q (by first | exact QY.cut_room (m' := 3) rfl rfl rfl (by omega) | exact QK.sl) ?_ <;> refine KP.q QK.as ?_ <;> refine KP.list_nil ?_)
    | (refine CW.region (i := 2) ?_ <;> refine KP.q QK.as ?_ <;> refine KP.list_nil ?_)
    | ((with_reducible apply KP.fin1); (· rfl); (· rfl)))
  refine CA.loop (X := Nat) (fun z => [(0, lentV b xs.length), (1, v), (5, .slice (some ⟨b, xs.length * 2, none⟩) 3 3), (6, iv (z : Nat))]) (fun _ => []) (fun z => z ≤ 3) (fun z => 3 - z) 0 (by simp) ?_
  rintro i hi
  try dsimp only at hi ⊢
  rcases Nat.lt_or_ge i 3 with hlt | hge
  · have hm : ([mark7, mark7, mark7] : List Item)[i]? = some mark7 := by
      obtain rfl | rfl | rfl : i = 0 ∨ i = 1 ∨ i = 2 := by omega
      all_goals rfl
    have hrl : RowL (lent 39 2 eI b xs [mark7, mark7, mark7]) 2 eI (.slice (some ⟨b, xs.length * 2, none⟩) 3 3) [mark7, mark7, mark7] := RowL.room (by decide)
    
    
    
    repeat' (first
    | (with_reducible refine CW.seq ?_)
    | (with_reducible refine KP.then_code ?_)
    | (with_reducible refine CW.skip ?_)
    | (with_reducible refine CW.ret ?_)
    | (with_reducible refine KP.then_ret ?_)
    | (with_reducible refine KP.block_ret ?_)
    | (with_reducible refine CW.block ?_)
    | (with_reducible refine KP.block_normal ?_)
    | (with_reducible refine CW.exit ?_)
    | (with_reducible refine KP.then_exit ?_)
    | (with_reducible refine KP.block_hit ?_)
    | refine KP.bm ?_
    | refine CW.ct ?_
    | refine CW.cf ?_
    | (refine CW.cP ?_ ?_ <;> intro _ <;> try contradiction)
    | (refine CW.cs ?_ ?_ <;> intro _ <;> try contradiction)
    | (refine CW.region (i := 3) ?_ <;> refine KP.q QK.mv ?_ <;> refine KP.q QK.lss ?_ <;> refine KP.list_nil ?_)
    | (refine CW.region (i := 5) ?_ <;> refine KP.q QK.mv ?_ <;> refine KP.q QK.mv ?_ <;> refine KP.q (by first | exact QY.index rfl rfl (Rd.ro (by with_reducible first | exact m0 | exact m1 | exact m2 | exact m3 | exact m4 | exact m5 | fail)) hrl hlt | exact QK.ia) ?_ <;> refine KP.q (by first | exact QY.load_a rfl (Rd.ro (by with_reducible first | exact m0 | exact m1 | exact m2 | exact m3 | exact m4 | exact m5 | fail)) (Reads.row hrl hm) rfl | exact QK.lda) ?_ <;> refine KP.q QK.bd ?_ <;> refine KP.q (by first | exact QY.same (QY.ne_agg (enc := eI) (p := mark7) (q := mark7) rfl rfl) (dec_f (fun h => h rfl)) | exact QK.nea) ?_ <;> refine KP.list_nil ?_)
    | (refine CW.region (i := 4) ?_ <;> refine KP.q QK.mv ?_ <;> refine KP.q (by first | exact QY.addN (n := 3) rfl rfl (by omega) | exact QK.add) ?_ <;> refine KP.q QK.as ?_ <;> refine KP.list_nil ?_)
    | ((with_reducible apply KP.fin1); (· rfl); (· rfl)))
    exact KA.round (i + 1) (by omega)
  · 
    repeat' (first
    | (with_reducible refine CW.seq ?_)
    | (with_reducible refine KP.then_code ?_)
    | (with_reducible refine CW.skip ?_)
    | (with_reducible refine CW.ret ?_)
    | (with_reducible refine KP.then_ret ?_)
    | (with_reducible refine KP.block_ret ?_)
    | (with_reducible refine CW.block ?_)
    | (with_reducible refine KP.block_normal ?_)
    | (with_reducible refine CW.exit ?_)
    | (with_reducible refine KP.then_exit ?_)
    | (with_reducible refine KP.block_hit ?_)
    | refine KP.bm ?_
    | refine CW.ct ?_
    | refine CW.cf ?_
    | (refine CW.cP ?_ ?_ <;> intro _ <;> try contradiction)
    | (refine CW.cs ?_ ?_ <;> intro _ <;> try contradiction)
    | (refine CW.region (i := 3) ?_ <;> refine KP.q QK.mv ?_ <;> refine KP.q QK.lss ?_ <;> refine KP.list_nil ?_)
    | (refine CW.region (i := 7) ?_ <;> refine KP.q QK.mv ?_ <;> refine KP.q QK.mv ?_ <;> (refine KP.e ?_; ((refine EK.call (same_spec (xs := xs) (ys := ys)) ?_ rfl Split.nil (.cons (.ro (B := lent 39 2 eI b xs [mark7, mark7, mark7]) (by simp) (RowL.lent (by simp))) (.cons (.pass (by simp)) .nil))); repeat' first | refine CP.r ?_ | refine CP.r0 ?_ | refine CP.exP fun e26 => ?_ | refine CP.puP fun h26 => ?_)) <;> refine KP.q QK.as ?_ <;> refine KP.list_nil ?_)
    | ((with_reducible apply KP.fin1); (· rfl); (· rfl)))
    exact FA.ret

end Go.Proofs.Ytpmhelfdmhjnbaa
