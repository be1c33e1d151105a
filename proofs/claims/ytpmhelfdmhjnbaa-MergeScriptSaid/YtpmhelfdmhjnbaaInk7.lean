/- Ink7: struct and slice literals, make, equal structs, least and greatest, strings, keys. -/
import Derived.Test.YtpmhelfdmhjnbaaInk6
namespace Go.Ink
open Go
set_option linter.unusedVariables false
set_option linter.unusedSimpArgs false

section
variable {P : Program} {c : Cx} {N : Nat} {T : Tm} {L M L1 : List Asrt} {K : Act → World → Prop} {R : Exit → Act → World → Prop} {w : World} {A B : Asrt}
variable {dst : Option Tmp} {gd : Option (Nat × Bool)} {x y s : Operand} {u v : Value} {ty t e : TypeId} {pos : String} {aft : Array Edge} {b off o n d : Nat} {cs : List Value}
variable {α : Type _} {enc : α → List Value} {xs ys : List α} {k : IntKind} {m : Int}

/-! ### literals -/
theorem foldl_set (off : Nat) : ∀ (vs : List Value) (j : Nat) (cs : Array Value), off + j + vs.length ≤ cs.size →
    ((vs.zipIdx j).foldl (fun cs (p : Value × Nat) => cs.setIfInBounds (off + p.2) p.1) cs).toList = splice cs.toList (off + j) vs
  | [], j, cs, _ => by simp [splice]
  | v :: vs, j, cs, h => by
    simp only [List.zipIdx_cons, List.foldl_cons]
    rw [foldl_set off vs (j + 1) _ (by simp at h ⊢; omega)]
    have := list_seg_step cs.toList (off + j) v vs (by simp at h ⊢; omega)
    simp only [splice, Array.toList_setIfInBounds]
    rw [← Nat.add_assoc, this]
    simp [Nat.add_assoc]
theorem fill_step {pl : Nat → Option (Nat × Nat)} {cs : List Value} {i o n : Nat} {v : Value} {rest : List (Nat × Value)} (hp : pl i = some (o, n)) (hv : v.cells.toList.length = n) (ho : o + n ≤ cs.length) :
    Instr.fill pl cs.toArray ((i, v) :: rest) = Instr.fill pl (splice cs o v.cells.toList).toArray rest := by
  have h1 : v.cells.size = n := by simpa using hv
  simp only [Instr.fill, hp]
  rw [if_neg (by simp [h1]; omega)]
  congr 1
  apply Array.ext'
  rw [← Array.foldl_toList, Array.toList_zipIdx]
  have := foldl_set o v.cells.toList 0 cs.toArray (by simp [h1]; omega)
  simpa using this

def placesB (P : Program) (t : TypeId) : Option (List (Nat × Nat)) := match P.underlying t with
  | some (.struct fs) => fs.toList.mapM fun f => (P.info? f.type).map fun i => (f.offset, i.size)
  | _ => none
class Places (P : Program) (t : TypeId) (pl : outParam (List (Nat × Nat))) : Prop where
  out : placesB P t = some pl
theorem run_places : ∀ (fs : List Field) (pl : List (Nat × Nat)) (w : World), (fs.mapM fun f => (P.info? f.type).map fun i => (f.offset, i.size)) = some pl →
    (fs.mapM (m := Sem) fun f => do pure (f.offset, ← sizeOf f.type)).run P w = .ok pl w
  | [], pl, w, h => by simp at h; subst h; simp
  | f :: fs, pl, w, h => by
    simp only [List.mapM_cons] at h ⊢
    cases hi : P.info? f.type with
    | none => simp [hi] at h
    | some i =>
      cases hm : (fs.mapM fun f => (P.info? f.type).map fun i => (f.offset, i.size)) with
      | none => simp [hi, hm] at h
      | some pl' =>
        simp [hi, hm] at h
        subst h
        have ih := run_places fs pl' w hm
        simp only [bind_pure_comp] at ih ⊢
        simp [sizeOf, typeInfo, hi] at ih ⊢
        simp [ih]

/-- Parts put into a zero value, one after another. -/
inductive Fills (pl : List (Nat × Nat)) (T : Tm) : List Value → List (Nat × Operand) → List Value → Prop
  | nil {cs : List Value} : Fills pl T cs [] cs
  | scal {cs cs' ds : List Value} {i o : Nat} {x : Operand} {v : Value} {rest : List (Nat × Operand)} (hp : pl[i]? = some (o, 1)) (hx : ev T x = some v) (h1 : v.oneCell' = true) (hs : SetAt cs o v cs') (r : Fills pl T cs' rest ds) : Fills pl T cs ((i, x) :: rest) ds
  | agg {cs cs' ds vs : List Value} {i o n : Nat} {x : Operand} {rest : List (Nat × Operand)} (hp : pl[i]? = some (o, n)) (hx : ev T x = some (.agg vs.toArray)) (hn : vs.length = n) (hs : SplAt cs o vs cs') (r : Fills pl T cs' rest ds) : Fills pl T cs ((i, x) :: rest) ds
theorem Fills.run {pl : List (Nat × Nat)} {cs ds : List Value} {ps : List (Nat × Operand)} (f : Fills pl T cs ps ds) {a : Act} (g : Ag N a T) : Instr.fill (fun i => pl[i]?) cs.toArray (ps.map fun p => (p.1, a.eval p.2)) = some ds.toArray := by
  induction f with
  | nil => rfl
  | scal hp hx h1 hs r ih =>
    rename_i cs cs' ds i o x v rest
    have hc : v.cells = #[v] := by cases v <;> first | rfl | simp [Value.oneCell'] at h1
    simp only [List.map_cons, g.ev hx]
    have ho := hs.spec.2
    rw [fill_step (n := 1) hp (by simp [hc]) (by omega), hc, show (#[v] : Array Value).toList = [v] from rfl, splice_one ho, ← hs.spec.1]
    exact ih
  | agg hp hx hn hs r ih =>
    simp only [List.map_cons, g.ev hx]
    have ho := hs.spec.2
    rw [fill_step hp (by simpa [Value.cells] using hn) (by omega)]
    simp only [Value.cells, ← hs.spec.1]
    exact ih
theorem QY.build {pl : List (Nat × Nat)} {by_ : Nat} {z : Value} {zs ds : List Value} {ps : List (Nat × Operand)} [hp : Places P t pl] [hl : TyL P t zs] [TyI P t n by_ z] (f : Fills pl T zs ps ds) : QY P c N T L ⟨dst, .build t ps.toArray, ty, pos, aft, gd⟩ (.agg ds.toArray) := fun a w g _ => by
  have hz : z.cells = zs.toArray := by
    obtain ⟨i, h1, _, _, h4⟩ := info_of_ty (P := P) t
    have h5 := hl.out
    simp only [zlB, h1, h4, Option.map_some, Option.some.injEq] at h5
    rw [← h5]
  have h := hp.out
  unfold placesB at h
  split at h
  · rename_i fs hu
    have h1 := run_places (P := P) fs.toList pl w h
    have h2 : (fs.mapM (m := Sem) fun f => do pure (f.offset, ← sizeOf f.type)).run P w = .ok pl.toArray w := by
      rw [Array.mapM_eq_mapM_toList]
      simp only [Sem.run_map, h1, Result.andThen_ok]
    have h3 := f.run g
    have h4 : (fun i : Nat => pl.toArray[i]?) = fun i : Nat => pl[i]? := by funext i; simp
    simp only [bind_pure_comp] at h2
    simp [execOp, Instr.build, run_zero_ty t, run_underlying hu, h2, hz, h3]
  · simp at h

/-- '[]T{x}' of one element. -/
theorem EW.buildSlice1_s {by_ : Nat} {z : Value} [S : SliT P t e] [TyI P e 1 by_ z] (hd : d < N) (hx : ev T x = some v) (h1 : v.oneCell' = true) (hz : z.cells.size = 1)
    (h : ∀ g, KP c N ((d, .slice (some ⟨g, 0, none⟩) 1 1) :: T) (pt g e [v] :: L) K) : EW P c N T L ⟨some d, .buildSlice t 1 #[(0, x)], ty, pos, aft, gd⟩ R K := fun a w g st => by
  have hc : v.cells = #[v] := by cases v <;> first | rfl | simp [Value.oneCell'] at h1
  have hf : Instr.fill (fun i => some (i * 1, 1)) (Array.map (fun x => z.cells[x % z.cells.size]!) (Array.range (1 * 1))) [(0, v)] = some #[v] := by
    have hl : (Array.map (fun x => z.cells[x % z.cells.size]!) (Array.range (1 * 1))) = [z.cells[0 % z.cells.size]!].toArray := by simp [Array.range_succ, hz, show Array.range 0 = #[] from rfl]
    rw [hl, fill_step (n := 1) (o := 0) rfl (by simp [hc]) (by simp), hc]
    rfl
  have hr : (execOp a.eval ⟨some d, .buildSlice t 1 #[(0, x)], ty, pos, aft, gd⟩).run P w = .ok (.value (.slice (some ⟨w.heap.size, 0, none⟩) 1 1)) (w.alloc (.cells #[v] e)) := by
    simp only [Nat.mul_one] at hf
    simp [execOp, Instr.buildSlice, run_underlying S.out, run_sizeOf_ty (P := P) e, run_zero_ty (P := P) e, g.ev hx, hf, newRow]
  show Oper.upon P _ a K R _
  rw [hr]
  exact h _ _ _ (g.put hd _) (st.new rfl)
theorem EW.buildSlice1_a {by_ : Nat} {z : Value} {vs : List Value} [S : SliT P t e] [TyI P e n by_ z] (hd : d < N) (hx : ev T x = some (.agg vs.toArray)) (hn : vs.length = n) (hz : z.cells.size = n) (hn0 : n ≠ 0) (hn1 : n ≤ 16777216)
    (h : ∀ g, KP c N ((d, .slice (some ⟨g, 0, none⟩) 1 1) :: T) (pt g e vs :: L) K) : EW P c N T L ⟨some d, .buildSlice t 1 #[(0, x)], ty, pos, aft, gd⟩ R K := fun a w g st => by
  have hf : Instr.fill (fun i => some (i * n, n)) (Array.map (fun x => z.cells[x % z.cells.size]!) (Array.range n)) [(0, .agg vs.toArray)] = some vs.toArray := by
    have hl : (Array.map (fun x => z.cells[x % z.cells.size]!) (Array.range n)) = ((List.range n).map (fun x => z.cells[x % z.cells.size]!)).toArray := by
      apply Array.ext'; simp
    rw [hl, fill_step (n := n) (o := 0) (by simp) (by simpa [Value.cells] using hn) (by simp)]
    rw [splice_all (by simp [Value.cells, hn])]
    rfl
  have hr : (execOp a.eval ⟨some d, .buildSlice t 1 #[(0, x)], ty, pos, aft, gd⟩).run P w = .ok (.value (.slice (some ⟨w.heap.size, 0, none⟩) 1 1)) (w.alloc (.cells vs.toArray e)) := by
    simp [execOp, Instr.buildSlice, run_underlying S.out, run_sizeOf_ty (P := P) e, run_zero_ty (P := P) e, g.ev hx, hf, newRow, hn0, show ¬ (16777216 < n) by omega]
  show Oper.upon P _ a K R _
  rw [hr]
  exact h _ _ _ (g.put hd _) (st.new rfl)

/-! ### equal structs -/
class EqE (P : Program) (t : TypeId) {α : Type} [DecidableEq α] (enc : α → List Value) : Prop where
  guard : P.eqGuardType P.depth t = false
  eq : ∀ (w : World) (x y : α), (Op.equalIn 10000 t (.agg (enc x).toArray) (.agg (enc y).toArray)).run P w = .ok (decide (x = y)) w
theorem QY.eq_agg {α : Type} [DecidableEq α] {enc : α → List Value} [E : EqE P t enc] {p q : α} {yt : TypeId} (hx : ev T x = some (.agg (enc p).toArray)) (hy : ev T y = some (.agg (enc q).toArray)) : QY P c N T L ⟨dst, .binOp .eql t x y yt, ty, pos, aft, gd⟩ (.bool (decide (p = q))) := fun a w g _ => by
  simp [execOp, g.ev hx, g.ev hy, run_eqGuard_agg (P := P) w .eql t x y (enc p).toArray (enc q).toArray E.guard, run_eql_struct, E.eq w p q]
theorem QY.ne_agg {α : Type} [DecidableEq α] {enc : α → List Value} [E : EqE P t enc] {p q : α} {yt : TypeId} (hx : ev T x = some (.agg (enc p).toArray)) (hy : ev T y = some (.agg (enc q).toArray)) : QY P c N T L ⟨dst, .binOp .neq t x y yt, ty, pos, aft, gd⟩ (.bool (decide (p ≠ q))) := fun a w g _ => by
  simp [execOp, g.ev hx, g.ev hy, run_eqGuard_agg (P := P) w .neq t x y (enc p).toArray (enc q).toArray E.guard, run_neq_struct, E.eq w p q]

/-! ### least, greatest -/
theorem QY.min2 {m1 m2 : Int} {k' : IntKind} {ts : Array TypeId} (hx : ev T x = some (.int k m1)) (hy : ev T y = some (.int k' m2)) : QY P c N T L ⟨dst, .call { callee := .builtin .min, args := #[x, y], argTypes := ts }, ty, pos, aft, gd⟩ (.int k (min m1 m2)) := fun a w g _ => by
  have : (if m2 < m1 then m2 else m1) = min m1 m2 := by omega
  simp [execOp, resolve, invoke, builtin, g.ev hx, g.ev hy, run_min_int2, this]
theorem QY.max2 {m1 m2 : Int} {k' : IntKind} {ts : Array TypeId} (hx : ev T x = some (.int k m1)) (hy : ev T y = some (.int k' m2)) : QY P c N T L ⟨dst, .call { callee := .builtin .max, args := #[x, y], argTypes := ts }, ty, pos, aft, gd⟩ (.int k (max m1 m2)) := fun a w g _ => by
  have : (if m2 > m1 then m2 else m1) = max m1 m2 := by omega
  simp [execOp, resolve, invoke, builtin, g.ev hx, g.ev hy, run_max_int2, this]

/-! ### conversions between whole numbers -/
theorem QY.conv_int {dt st' : TypeId} {k' : IntKind} [h1 : IntT P dt k] [h2 : IntT P st' k'] (hx : ev T x = some (.int k' m)) : QY P c N T L ⟨dst, .convert st' dt x, ty, pos, aft, gd⟩ (.int k (k.wrap m)) := fun a w g _ => by
  simp [execOp, g.ev hx, convert, run_underlying h1.out, run_underlying h2.out, Conv.intToInt]

/-! ### keys -/
theorem findNow_int {kk : IntKind} (k0 : Int) : ∀ (ks : List Int) (es : List MapEntry) (i : Nat), es.map (·.key) = ks.map (.int kk) →
    Instr.findNow (.int kk) (.int kk k0) es i = some ((ks.findIdx? fun k' => decide (k' = k0)).bind fun j => (es[j]?).map fun e => (i + j, e.val))
  | [], [], i, _ => rfl
  | [], _ :: _, i, h => by simp at h
  | _ :: _, [], i, h => by simp at h
  | k1 :: ks, e :: es, i, h => by
    simp only [List.map_cons, List.cons.injEq] at h
    simp only [Instr.findNow, h.1, Instr.sameNow, if_true]
    by_cases hk : k1 = k0
    · subst hk; simp [List.findIdx?_cons]
    · have : (k0 == k1) = false := by simp; exact fun e => hk e.symm
      simp only [this, findNow_int k0 ks es (i + 1) h.2]
      simp only [List.findIdx?_cons, hk, decide_false, Bool.false_eq_true, if_false]
      cases ks.findIdx? fun k' => decide (k' = k0) with
      | none => rfl
      | some j => simp; cases es[j]? <;> simp; omega
theorem keyE_int {kt : TypeId} {kk : IntKind} [h : IntT P kt kk] : KeyE P kt (Value.int kk) where
  check e k w := by
    have : ∀ n, (Instr.checkKey e (n + 1) kt (.int kk k)).run P w = .ok () w := fun n => by simp [Instr.checkKey, run_underlying h.out]
    exact this 9999
  find k ks es w hk := by
    have := findNow_int (kk := kk) k ks es 0 hk
    simp [Instr.findKey, run_underlying h.out, this]
  bits k := by simp [Instr.sameBits]

/-- Keys that are compared one by one. -/
theorem find_asking {κ : Type} [DecidableEq κ] {kt : TypeId} {ek : κ → Value} (he : ∀ (k k' : κ) (w : World), (Op.equal kt (ek k) (ek k')).run P w = .ok (decide (k = k')) w) (k0 : κ) : ∀ (ks : List κ) (es : List MapEntry) (i : Nat) (w : World), es.map (·.key) = ks.map ek →
    (Instr.findAsking kt (ek k0) es i).run P w = .ok ((ks.findIdx? fun k' => decide (k' = k0)).bind fun j => (es[j]?).map fun e => (i + j, e.val)) w
  | [], [], i, w, _ => rfl
  | [], _ :: _, i, _, h => by simp at h
  | _ :: _, [], i, _, h => by simp at h
  | k1 :: ks, e :: es, i, w, h => by
    simp only [List.map_cons, List.cons.injEq] at h
    simp only [Instr.findAsking, h.1, Sem.run_bind, he, Result.andThen_ok]
    by_cases hk : k1 = k0
    · subst hk; simp [List.findIdx?_cons]
    · have hk' : ¬ k0 = k1 := fun e => hk e.symm
      simp only [hk', decide_false, Bool.false_eq_true, if_false, find_asking he k0 ks es (i + 1) w h.2]
      simp only [List.findIdx?_cons, hk, decide_false, Bool.false_eq_true, if_false]
      cases ks.findIdx? fun k' => decide (k' = k0) with
      | none => rfl
      | some j => simp; cases es[j]? <;> simp; omega
theorem findNow_none (d : TypeDesc) (k : Value) (hd : ∀ v, Instr.sameNow d k v = none) : ∀ (es : List MapEntry) (i : Nat), es ≠ [] → Instr.findNow d k es i = none
  | [], _, h => absurd rfl h
  | e :: es, i, _ => by simp [Instr.findNow, hd]
end
end Go.Ink
