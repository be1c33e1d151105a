/- InkB: rows of rows, parts of elements, literals of slices, make, strings' bytes and runes, comparisons of strings. -/
import Derived.Test.YtpmhelfdmhjnbaaInkA
import Derived.Lib.Bytealg
import Derived.Lib.OthersKept
import Derived.Laws.Externs
import Derived.Laws.MakeOwn
namespace Go.Ink
open Go
set_option linter.unusedVariables false
set_option linter.unusedSimpArgs false

/-! ### a list of assertions, one for each element -/
theorem Pick.at {α : Type _} {f : α → Asrt} : ∀ {l : List α} {i : Nat} {p : α}, l[i]? = some p → Pick (l.map f) (f p) ((l.eraseIdx i).map f)
  | [], i, p, h => by simp at h
  | x :: l, 0, p, h => by simp at h; subst h; exact .head
  | x :: l, i + 1, p, h => by simp only [List.map_cons, List.eraseIdx_cons_succ]; exact .tail (Pick.at (by simpa using h))
theorem Pick.back {L M : List Asrt} {A : Asrt} (p : Pick L A M) : ∀ {h : Frag}, SatL (A :: M) h → SatL L h := by
  induction p with
  | head => exact id
  | tail p ih =>
    rename_i A B L M
    rintro h ⟨h1, h2, d, a, b, x, ⟨k1, k2, d', a', b', y, z⟩⟩
    refine ⟨k1, (fun n => (h1 n).or (k2 n)), ?_, a'.trans b, ?_, y, ih ⟨h1, k2, ?_, ?_, ?_, x, z⟩⟩
    · intro n
      rcases d' n with e | e
      · exact .inl e
      · rcases d n with e1 | e1
        · right; simp [e, e1]
        · left; cases hk : k1 n with
          | none => rfl
          | some o => rw [a' _ _ hk] at e1; cases e1
    · intro n o hn
      simp only at hn
      cases h1n : h1 n with
      | none => rw [h1n] at hn; exact b _ _ (b' _ _ (by simpa using hn))
      | some u => rw [h1n] at hn; simp at hn; exact a _ _ (by rw [h1n, hn])
    · exact d.mono (Leq.refl _) b'
    · intro n o hn; simp [hn]
    · intro n o hn
      rcases d n with e | e
      · simp [e, hn]
      · rw [b' _ _ hn] at e; cases e
theorem Pick.set {α : Type _} {f : α → Asrt} {l : List α} {i : Nat} {p q : α} (h : l[i]? = some p) : Pick ((l.set i q).map f) (f q) ((l.eraseIdx i).map f) := by
  have h1 : (l.set i q)[i]? = some q := by rw [List.getElem?_set_self (List.getElem?_eq_some_iff.1 h).1]
  have h2 := Pick.at (f := f) h1
  rwa [List.eraseIdx_set_eq] at h2
abbrev BigA {α : Type _} (f : α → Asrt) (l : List α) : Asrt := LiA (l.map f)
/-- One element's assertion is taken out; whatever it is turned to is put back. -/
theorem BigA.put {α : Type _} {f : α → Asrt} {l : List α} {i : Nat} {p q : α} (h : l[i]? = some p) : ∀ {hh : Frag}, SatL [f q, BigA f (l.eraseIdx i)] hh → BigA f (l.set i q) hh := fun {hh} ⟨h1, h2, d, a, b, x, ⟨k1, k2, d', a', b', y, _⟩⟩ =>
  (Pick.set (f := f) (q := q) h).back ⟨h1, k1, d.mono (Leq.refl _) a', a, a'.trans b, x, y⟩
theorem BigA.same {α : Type _} {f : α → Asrt} {l : List α} {i : Nat} {p : α} (h : l[i]? = some p) : ∀ {hh : Frag}, SatL [f p, BigA f (l.eraseIdx i)] hh → BigA f l hh := fun {hh} ⟨h1, h2, d, a, b, x, ⟨k1, k2, d', a', b', y, _⟩⟩ =>
  (Pick.at (f := f) h).back ⟨h1, k1, d.mono (Leq.refl _) a', a, a'.trans b, x, y⟩
theorem BigA.add {α : Type _} {f : α → Asrt} {l : List α} {p : α} : ∀ {hh : Frag}, SatL [f p, BigA f l] hh → BigA f (l ++ [p]) hh := fun {hh} ⟨h1, h2, d, a, b, x, ⟨k1, k2, d', a', b', y, _⟩⟩ => by
  have : Pick ((l ++ [p]).map f) (f p) (l.map f) := by
    have h0 : (l ++ [p])[l.length]? = some p := by simp
    have h1 := Pick.at (f := f) h0
    rwa [show (l ++ [p]).eraseIdx l.length = l by rw [List.eraseIdx_append_of_length_le (Nat.le_refl _)]; simp] at h1
  exact this.back ⟨h1, k1, d.mono (Leq.refl _) a', a, a'.trans b, x, y⟩
theorem BigA.drop {α : Type _} {f : α → Asrt} {l : List α} {i : Nat} {p : α} (h : l[i]? = some p) : ∀ {hh : Frag}, BigA f l hh → BigA f (l.eraseIdx i) hh := fun {hh} x =>
  let ⟨h1, h2, d, a, b, y, z⟩ := (Pick.at (f := f) h).sat x
  SatL.mono z b
theorem BigA.turn {α : Type _} {f : α → Asrt} {l : List α} {i : Nat} {p q : α} (h : l[i]? = some p) (g : ∀ hh, f p hh → f q hh) : ∀ {hh : Frag}, BigA f l hh → BigA f (l.set i q) hh := fun {hh} x =>
  let ⟨h1, h2, d, a, b, y, z⟩ := (Pick.at (f := f) h).sat x
  BigA.put h ⟨h1, h2, d, a, b, g _ y, ⟨h2, fun _ => none, fun _ => .inr rfl, Leq.refl _, fun _ _ e => by simp at e, z, trivial⟩⟩
theorem BigA.nil {α : Type _} {f : α → Asrt} : BigA f [] (fun _ => none) := trivial

section
variable {P : Program} {c : Cx} {N : Nat} {T : Tm} {L L' M L1 : List Asrt} {K : Act → World → Prop} {R : Exit → Act → World → Prop} {w : World} {A B : Asrt} {code : Code}
variable {dst : Option Tmp} {gd : Option (Nat × Bool)} {x y s : Operand} {u v : Value} {ty t e : TypeId} {pos : String} {aft : Array Edge} {b off o n d : Nat} {cs : List Value}
variable {α β : Type _} {enc : α → List Value} {xs ys : List α} {k : IntKind} {m : Int} {f : β → Asrt} {l : List β}

theorem KP.bigAt {i : Nat} {p : β} (h : l[i]? = some p) (g : KP c N T (f p :: BigA f (l.eraseIdx i) :: L) K) : KP c N T (BigA f l :: L) K := fun a w ga ⟨hh, ⟨h1, h2, d, a1, b1, x, y⟩, s1, s2⟩ => by
  obtain ⟨k1, k2, d', a', b', hx, hy⟩ := (Pick.at (f := f) h).sat x
  refine g a w ga ⟨hh, ⟨k1, (fun n => (k2 n).or (h2 n)), ?_, a'.trans a1, ?_, hx, ⟨k2, h2, ?_, ?_, ?_, hy, y⟩⟩, s1, s2⟩
  · intro n
    rcases d' n with e | e
    · exact .inl e
    · rcases d n with e1 | e1
      · left; cases hk : k1 n with
        | none => rfl
        | some o => rw [a' _ _ hk] at e1; cases e1
      · right; simp [e, e1]
  · intro n o hn
    simp only at hn
    cases h1n : k2 n with
    | none => rw [h1n] at hn; exact b1 _ _ (by simpa using hn)
    | some u => rw [h1n] at hn; simp at hn; exact a1 _ _ (b' _ _ (by rw [h1n, hn]))
  · exact d.mono b' (Leq.refl _)
  · intro n o hn; simp [hn]
  · intro n o hn
    rcases d n with e | e
    · cases hk : k2 n with
      | none => simp [hk, hn]
      | some u => rw [b' _ _ hk] at e; cases e
    · rw [hn] at e; cases e
theorem CW.bigAt {i : Nat} {p : β} (h : l[i]? = some p) (g : CW P c N T (f p :: BigA f (l.eraseIdx i) :: L) code R) : CW P c N T (BigA f l :: L) code R := KP.bigAt h g
theorem Cells.mono {h k : Frag} (r : Cells h b off cs) (le : Leq h k) : Cells k b off cs := fun j v hj => let ⟨arr, e, fr, h1, h2⟩ := r j v hj; ⟨arr, e, fr, le _ _ h1, h2⟩
theorem rrow.mono {h k : Frag} (r : rrow n enc v xs h) (le : Leq h k) : rrow n enc v xs k := by
  rcases r with ⟨e, x⟩ | ⟨b, off, cap, hv, h1, h2, h3⟩
  · exact .inl ⟨e, x⟩
  · exact .inr ⟨b, off, cap, hv, h1, h2, h3.mono le⟩
/-- A row among many. -/
theorem RowL.big {i : Nat} {p : β} (h : l[i]? = some p) (r : RowL (f p) n enc v xs) : RowL (BigA f l) n enc v xs := fun hh ha => by
  obtain ⟨h1, h2, d, a, b, x, y⟩ := (Pick.at (f := f) h).sat ha
  exact (r _ x).mono a

/-! ### several cells of an element -/
theorem splice_mid {A zs B vs : List Value} {q : Nat} (hq : q + vs.length ≤ zs.length) : splice (A ++ (zs ++ B)) A.length (splice zs q vs) = splice (A ++ (zs ++ B)) (A.length + q) vs := by
  have hl : (splice zs q vs).length = zs.length := length_splice hq
  have e1 : (A ++ (zs ++ B)).drop (A.length + (splice zs q vs).length) = B := by
    rw [hl, List.drop_append, List.drop_append]
    rw [List.drop_of_length_le (show A.length ≤ A.length + zs.length by omega), show A.length + zs.length - A.length = zs.length by omega, List.drop_of_length_le (Nat.le_refl _), Nat.sub_self]; rfl
  have e2 : (A ++ (zs ++ B)).take A.length = A := by rw [List.take_append]; simp
  have e3 : (A ++ (zs ++ B)).take (A.length + q) = A ++ zs.take q := by
    rw [List.take_append, List.take_append, List.take_of_length_le (show A.length ≤ A.length + q by omega), show A.length + q - A.length = q by omega, show q - zs.length = 0 by omega]; simp
  have e4 : (A ++ (zs ++ B)).drop (A.length + q + vs.length) = zs.drop (q + vs.length) ++ B := by
    rw [List.drop_append, List.drop_append, List.drop_of_length_le (show A.length ≤ A.length + q + vs.length by omega), show A.length + q + vs.length - A.length = q + vs.length by omega, show q + vs.length - zs.length = 0 by omega]; simp
  rw [splice, e1, e2]
  conv => rhs; rw [splice, e3, e4]
  simp only [splice, List.append_assoc]
theorem splice_splice {cs zs vs : List Value} {p q : Nat} (hz : (cs.drop p).take zs.length = zs) (hp : p + zs.length ≤ cs.length) (hq : q + vs.length ≤ zs.length) : splice cs p (splice zs q vs) = splice cs (p + q) vs := by
  have hcs : cs = cs.take p ++ (zs ++ cs.drop (p + zs.length)) := by
    conv => lhs; rw [← List.take_append_drop p cs]
    congr 1
    conv => lhs; rw [← List.take_append_drop zs.length (cs.drop p)]
    rw [hz, List.drop_drop]
  have hA : (cs.take p).length = p := by simp; omega
  have := splice_mid (A := cs.take p) (B := cs.drop (p + zs.length)) hq
  rw [← hcs, hA] at this
  exact this
theorem EW.store_row_p {by_ : Nat} {z : Value} {i q : Nat} {x' y' : α} {vs : List Value} [E : Enc enc n] [TyI P t q by_ z] (hx : ev T x = some (.pointer (some ⟨vb v, vo v + i * n + o, none⟩))) (hy : ev T y = some (.agg vs.toArray)) (p : Pick L (row e n enc v xs) L1) (hi : xs[i]? = some x')
    (hq : vs.length = q) (hu : SplAt (enc x') o vs (enc y')) (h1 : vs.all Value.oneCell' = true) (h : KP c N T (row e n enc v (xs.set i y') :: L1) K) : EW P c N T L ⟨none, .store t x y, ty, pos, aft, gd⟩ R K := fun a w g st => by
  obtain ⟨hh, ha, hsub, sf⟩ := (st.pick p).focus
  have hi' : i < xs.length := (List.getElem?_eq_some_iff.1 hi).1
  obtain ⟨hu1, hu2⟩ := hu.spec
  rw [E.len] at hu2
  rcases ha with ⟨rfl, rfl⟩ | ⟨b, off, cap, cs, rfl, h1', h2, h3, h4, rfl⟩
  · simp at hi
  · have hg := hsub _ _ (one_self _ _)
    have hle : xs.length * n ≤ cap * n := Nat.mul_le_mul_right n h1'
    have hle2 : i * n + n ≤ xs.length * n := by rw [← Nat.succ_mul]; exact Nat.mul_le_mul_right n hi'
    have hr : (execOp a.eval ⟨none, .store t x y, ty, pos, aft, gd⟩).run P w = .ok .skip (w.setRow b (splice cs (off + (i * n + o)) vs).toArray) := by
      have := run_storeCells_pt (P := P) (vs := vs) (off := off + (i * n + o)) hg (by omega) (by simpa using h1)
      rw [← Nat.add_assoc] at this ⊢
      simp [execOp, Instr.storeAt, Instr.sureAddr, g.ev hx, g.ev hy, storeVar, Value.cells, run_sizeOf_ty t, this, vb, vo, hq]
    show Oper.upon P _ a K R _
    rw [hr]
    refine h _ _ g (sf.upd (b := b) (o := .cells cs.toArray e) (fun _ h' => by rw [h']; exact one_self _ _) (fun _ h' => ?_) (updAt_setRow w b _ _ e hg))
    subst h'
    refine .inr ⟨b, off, cap, splice cs (off + (i * n + o)) vs, by rw [List.length_set], by rw [List.length_set]; exact h1', h2, ?_, ?_, ?_⟩
    · rw [length_splice (by omega)]; exact h3
    · have hfl := flatMap_length E.len xs
      rw [List.length_set, splice_in (by omega) (by omega), h4, flatMap_set E.len _ _ _ hi', hu1]
      refine (splice_splice ?_ (by rw [E.len]; omega) (by rw [E.len]; omega)).symm
      rw [E.len]
      have := flatMap_cut E.len xs i 1
      rw [Nat.one_mul] at this
      rw [← this]
      have h5 : (xs.drop i).take 1 = [x'] := by
        rw [List.drop_eq_getElem_cons hi', (List.getElem?_eq_some_iff.1 hi).2]; rfl
      rw [h5]; simp
    · funext k; simp only [one]; split <;> rfl
theorem EK.st_rp {zv : Value} {by_ i q : Nat} {x' y' : α} {vs : List Value} [E0 : Enc enc n] [TyI P t q by_ zv] (h : KP c N T (row e n enc v (xs.set i y') :: L1) K) (hx : ev T x = some (.pointer (some ⟨vb v, vo v + i * n + o, none⟩)) := by rfl) (hy : ev T y = some (.agg vs.toArray) := by rfl)
    (p : Pick L (row e n enc v xs) L1 := by with_reducible first | exact k0 | exact k1 | exact k2 | exact k3 | exact k4 | exact k5 | exact k6 | exact k7 | exact k8 | exact k9 | exact k10 | exact k11 | exact k12 | exact k13 | fail) (hi : xs[i]? = some x' := by assumption) (hq : vs.length = q := by rfl)
    (hu : SplAt (enc x') o vs (enc y') := by repeat (first | exact SplAt.done | apply SplAt.put | apply SplAt.skip)) (h1 : vs.all Value.oneCell' = true := by first | rfl | decide) : EW P c N T L ⟨none, .store t x y, ty, pos, aft, gd⟩ R K := EW.store_row_p hx hy p hi hq hu h1 h

/-! ### literals of slices -/
theorem fill_congr {f1 f2 : Nat → Option (Nat × Nat)} (hf : ∀ i p, f1 i = some p → f2 i = some p) : ∀ (l : List (Nat × Value)) (cs ds : Array Value), Instr.fill f1 cs l = some ds → Instr.fill f2 cs l = some ds
  | [], cs, ds, h => h
  | (i, v) :: l, cs, ds, h => by
    simp only [Instr.fill] at h ⊢
    cases hp : f1 i with
    | none => simp [hp] at h
    | some p =>
      simp only [hp, hf i p hp] at h ⊢
      split at h
      · simp at h
      · rename_i hc
        rw [if_neg hc]
        exact fill_congr hf l _ _ h
def placesN (n len : Nat) : List (Nat × Nat) := (List.range len).map fun i => (i * n, n)
theorem EW.buildSlice {by_ len : Nat} {z : Value} {zs ds : List Value} {ps : List (Nat × Operand)} [S : SliT P t e] [hl : TyL P e zs] [TyI P e n by_ z] (hd : d < N) (hn : zs.length = n) (h0 : ¬ len * n = 0) (h24 : len * n ≤ 16777216) (f : Fills (placesN n len) T (List.replicate len zs).flatten ps ds)
    (h : ∀ g, KP c N ((d, .slice (some ⟨g, 0, none⟩) len len) :: T) (pt g e ds :: L) K) : EW P c N T L ⟨some d, .buildSlice t len ps.toArray, ty, pos, aft, gd⟩ R K := fun a w g st => by
  have hz : z.cells = zs.toArray := by
    obtain ⟨i, h1, _, _, h4⟩ := info_of_ty (P := P) e
    have h5 := hl.out
    simp only [zlB, h1, h4, Option.map_some, Option.some.injEq] at h5
    rw [← h5]
  have hzn : z.cells.size = n := by rw [hz]; simpa using hn
  have hzl : (Array.map (fun x => z.cells[x % z.cells.size]!) (Array.range (len * n))) = ((List.replicate len zs).flatten).toArray := by
    have := zeroCells_list z.cells zs hz len
    rw [Builtin.zeroCells, hzn] at this
    rw [hzn]
    apply Array.ext'
    simpa using this
  have hf : Instr.fill (fun i => some (i * n, n)) ((List.replicate len zs).flatten).toArray (ps.map fun p => (p.1, a.eval p.2)) = some ds.toArray := by
    refine fill_congr (fun i p hp => ?_) _ _ _ (f.run g)
    simp only [placesN, List.getElem?_map, List.getElem?_range] at hp
    by_cases hi : i < len
    · simp [hi] at hp; simp [hp]
    · simp [show len ≤ i by omega] at hp
  have hr : (execOp a.eval ⟨some d, .buildSlice t len ps.toArray, ty, pos, aft, gd⟩).run P w = .ok (.value (.slice (some ⟨w.heap.size, 0, none⟩) len len)) (w.alloc (.cells ds.toArray e)) := by
    have h1 : ¬ (16777216 < len * n) := by omega
    simp only [execOp, Instr.buildSlice, run_underlying S.out, run_sizeOf_ty (P := P) e, Sem.run_bind, Sem.run_pure, Result.andThen]
    simp [h1, h0, run_zero_ty (P := P) e, hzl, hf, newRow]
  show Oper.upon P _ a K R _
  rw [hr]
  exact h _ _ _ (g.put hd _) (st.new rfl)
theorem EW.buildSlice0 {by_ : Nat} {z : Value} [S : SliT P t e] [TyI P e n by_ z] (hd : d < N)
    (h : ∀ g, KP c N ((d, .slice (some ⟨g, 0, none⟩) 0 0) :: T) (pt g e [] :: L) K) : EW P c N T L ⟨some d, .buildSlice t 0 #[], ty, pos, aft, gd⟩ R K := fun a w g st => by
  have hr : (execOp a.eval ⟨some d, .buildSlice t 0 #[], ty, pos, aft, gd⟩).run P w = .ok (.value (.slice (some ⟨w.heap.size, 0, none⟩) 0 0)) (w.alloc (.cells #[] e)) := by
    simp only [execOp, Instr.buildSlice, run_underlying S.out, run_sizeOf_ty (P := P) e, Sem.run_bind, Sem.run_pure, Result.andThen]
    simp [Instr.fill, newRow, show Array.range 0 = #[] from rfl]
  show Oper.upon P _ a K R _
  rw [hr]
  exact h _ _ _ (g.put hd _) (st.new rfl)
/-- A block as a row that is owned. -/
theorem pt_row [E : Enc enc n] {ds : List Value} {xs : List α} (h : ds = xs.flatMap enc) (hl : xs.length ≤ maxLen) : ∀ hh, pt b e ds hh → row e n enc (.slice (some ⟨b, 0, none⟩) xs.length xs.length) xs hh := fun hh ha => by
  subst ha
  have := flatMap_length E.len xs
  exact .inr ⟨b, 0, xs.length, ds, rfl, Nat.le_refl _, hl, by rw [h]; omega, by rw [h]; simp [List.take_of_length_le, this], rfl⟩

theorem row_pt0 [E : Enc enc n] : row e n enc (.slice (some ⟨b, 0, none⟩) 0 0) ([] : List α) (one b (.cells #[] e)) := .inr ⟨b, 0, 0, [], rfl, Nat.le_refl _, Nat.zero_le _, by simp, by simp, rfl⟩
/-- '[]T{}', as a row. -/
theorem EW.buildSlice0r {by_ : Nat} {z : Value} [S : SliT P t e] [TyI P e n by_ z] (enc : α → List Value) [E : Enc enc n] (hd : d < N)
    (h : ∀ g, KP c N ((d, .slice (some ⟨g, 0, none⟩) 0 0) :: T) (row e n enc (.slice (some ⟨g, 0, none⟩) 0 0) [] :: L) K) : EW P c N T L ⟨some d, .buildSlice t 0 #[], ty, pos, aft, gd⟩ R K :=
  EW.buildSlice0 hd fun g => KP.imp (fun _ ha => by subst ha; exact row_pt0) (h g)
/-- A slice's elements, as far as they can be read. -/
structure RdRow (c : Cx) (L : List Asrt) (n : Nat) (enc : α → List Value) (v : Value) (xs : List α) : Prop where
  out : ∃ A, Rd c L A ∧ RowL A n enc v xs
theorem RdRow.mk' {A : Asrt} (r : Rd c L A) (rl : RowL A n enc v xs) : RdRow c L n enc v xs := ⟨A, r, rl⟩
/-- append of a slice to a slice. -/
theorem EK.app2 {by_ : Nat} {zv : Value} [E0 : Enc enc n] [SliT P t e] [TyI P e n by_ zv] (h : ∀ v', v'.oneCell' = true → KP c N ((d, v') :: T) (row e n enc v' (xs ++ ys) :: L1) K) (hz : zv.cells.size = n := by rfl) (hp : 0 < by_ := by decide) (hs : ev T s = some v := by rfl) (hx : ev T x = some u := by rfl)
    (p : Pick L (row e n enc v xs) L1 := by with_reducible first | exact k0 | exact k1 | exact k2 | exact k3 | exact k4 | exact k5 | exact k6 | exact k7 | exact k8 | exact k9 | exact k10 | exact k11 | exact k12 | exact k13 | fail) (r : RdRow c L1 n enc u ys := by first | exact RdRow.mk' (Rd.ro (by with_reducible first | exact m0 | exact m1 | exact m2 | exact m3 | exact m4 | exact m5 | fail)) RowL.rrow | exact RdRow.mk' (Rd.own (by with_reducible first | exact k0 | exact k1 | exact k2 | exact k3 | exact k4 | exact k5 | exact k6 | exact k7 | exact k8 | exact k9 | exact k10 | exact k11 | exact k12 | exact k13 | fail)) RowL.row | exact RdRow.mk' (Rd.own (by with_reducible first | exact k0 | exact k1 | exact k2 | exact k3 | exact k4 | exact k5 | exact k6 | exact k7 | exact k8 | exact k9 | exact k10 | exact k11 | exact k12 | exact k13 | fail)) RowL.rrow | exact RdRow.mk' (Rd.ro (by with_reducible first | exact m0 | exact m1 | exact m2 | exact m3 | exact m4 | exact m5 | fail)) RowL.row) (hb : (xs.length + ys.length) * by_ ≤ 140737488355328 := by first | omega | (simp; omega)) (hd : d < N := by decide) :
    EW P c N T L ⟨some d, .call { callee := .builtin .append, args := #[s, x], argTypes := #[t, t] }, ty, pos, aft, gd⟩ R K := by
  obtain ⟨A, r, rl⟩ := r
  exact EW.append hz hs hx p r rl (by
    have : (xs.length + ys.length) * 1 ≤ (xs.length + ys.length) * by_ := Nat.mul_le_mul_left _ hp
    simp only [maxLen]; omega) hb hd h

/-! ### make -/
theorem EW.makeSlice {by_ l cp : Nat} {z : Value} {zs : List Value} {kl kc : IntKind} [S : SliT P t e] [hl : TyL P e zs] [TyI P e n by_ z] (hd : d < N) (hx : ev T x = some (.int kl (l : Nat))) (hy : ev T y = some (.int kc (cp : Nat))) (hn : zs.length = n) (hlc : l ≤ cp) (hb : by_ * cp ≤ 140737488355328) (hp : 0 < by_)
    (h : ∀ g, KP c N ((d, .slice (some ⟨g, 0, none⟩) l cp) :: T) (pt g e (List.replicate cp zs).flatten :: L) K) : EW P c N T L ⟨some d, .makeSlice t x y, ty, pos, aft, gd⟩ R K := fun a w g st => by
  obtain ⟨i, hi, hi1, hi2, hi3⟩ := info_eq (P := P) e
  have hz : z.cells = zs.toArray := by
    have h5 := hl.out
    simp only [zlB, hi, hi3, Option.map_some, Option.some.injEq] at h5
    rw [← h5]
  have hcp : cp ≤ by_ * cp := Nat.le_mul_of_pos_left _ hp
  have hb2 : (i.bytes : Int) * (cp : Int) ≤ 281474976710656 := by
    have : ((by_ * cp : Nat) : Int) ≤ 140737488355328 := by omega
    rw [Int.natCast_mul] at this
    rw [hi2]; omega
  have hm := run_make (P := P) w t e i z S.out hi hi3 kl kc (l : Int) (cp : Int) (by omega) (by omega) hb2 (by omega)
  have e1 : madeCells z.cells (cp * i.size) = ((List.replicate cp zs).flatten).toArray := by
    have := zeroCells_list z.cells zs hz cp
    rw [Builtin.zeroCells] at this
    apply Array.ext'
    have hs : z.cells.size = i.size := by rw [hz, hi1, ← hn]; simp
    rw [hs] at this
    rw [madeCells, hs]
    exact this
  simp only [Int.toNat_natCast] at hm
  rw [e1] at hm
  have hr : (execOp a.eval ⟨some d, .makeSlice t x y, ty, pos, aft, gd⟩).run P w = .ok (.value (.slice (some ⟨w.heap.size, 0, none⟩) l cp)) (w.alloc (.cells ((List.replicate cp zs).flatten).toArray e)) := by
    simp [execOp, g.ev hx, g.ev hy, hm]
  show Oper.upon P _ a K R _
  rw [hr]
  exact h _ _ _ (g.put hd _) (st.new rfl)

/-! ### strings -/
class CmpF (P : Program) (f : FuncId) : Prop where
  out : ∀ (a b : ByteArray) (w : World), (callFunc f #[.string a, .string b]).run P w = .ok (.value (.int .i64 (Lib.compareBytes a.data.toList b.data.toList))) w
theorem EW.cmpstr {fi : FuncId} [S : CmpF P fi] {p q : ByteArray} {ts : Array TypeId} (hd : d < N) (hx : ev T x = some (.string p)) (hy : ev T y = some (.string q)) (h : KP c N ((d, .int .i64 (Lib.compareBytes p.data.toList q.data.toList)) :: T) L K) :
    EW P c N T L ⟨some d, .call { callee := .value (.func fi), args := #[x, y], argTypes := ts }, ty, pos, aft, gd⟩ R K := fun a w g st => by
  have hr : (execOp a.eval ⟨some d, .call { callee := .value (.func fi), args := #[x, y], argTypes := ts }, ty, pos, aft, gd⟩).run P w = .ok (.value (.int .i64 (Lib.compareBytes p.data.toList q.data.toList))) w := by
    have h2 : evs T [x, y] = some [.string p, .string q] := by simp [evs, hx, hy]
    have h3 := g.evs h2
    have h4 := S.out p q w
    rw [show (#[.string p, .string q] : Array Value) = List.toArray [.string p, .string q] from rfl, ← h3] at h4
    simpa [execOp, resolve, Act.eval, Deferred.ofValue, invoke] using h4
  show Oper.upon P _ a K R _
  rw [hr]
  exact h _ _ (g.put hd _) st
theorem QY.index_str {i : Nat} {s : ByteArray} {b8 : UInt8} [S : StrT P t] (hx : ev T x = some (.string s)) (hy : ev T y = some (.int k (i : Int))) (hb : s[i]? = some b8) : QY P c N T L ⟨dst, .index t x y, ty, pos, aft, gd⟩ (.int .u8 b8.toNat) := fun a w g _ => by
  simp [execOp, g.ev hx, g.ev hy, Instr.index, asIntOf, run_underlying S.out, hb]
def itA (b : Nat) (s : ByteArray) (p : Nat) : Asrt := fun h => h = one b (.stringIter s p)
theorem EW.range_str {s : ByteArray} [S : StrT P t] (hd : d < N) (hx : ev T x = some (.string s)) (h : ∀ g, KP c N ((d, .pointer (some ⟨g, 0, none⟩)) :: T) (itA g s 0 :: L) K) : EW P c N T L ⟨some d, .range t x, ty, pos, aft, gd⟩ R K := fun a w g st => by
  have hr : (execOp a.eval ⟨some d, .range t x, ty, pos, aft, gd⟩).run P w = .ok (.value (.pointer (some ⟨w.heap.size, 0, none⟩))) (w.alloc (.stringIter s 0)) := by
    simp [execOp, g.ev hx, Instr.range, run_underlying S.out, run_newObj_alloc]
  show Oper.upon P _ a K R _
  rw [hr]
  exact h _ _ _ (g.put hd _) (st.new rfl)
theorem EW.next_str {s : ByteArray} {p : Nat} (hd : d < N) (hx : ev T x = some (.pointer (some ⟨b, 0, none⟩))) (pk : Pick L (itA b s p) L1) (hp : p < s.size)
    (h : KP c N ((d, .tuple #[.bool true, .int .i64 p, .int .i32 (Utf8.decode s p).1]) :: T) (itA b s (p + (Utf8.decode s p).2) :: L1) K) : EW P c N T L ⟨some d, .next x true, ty, pos, aft, gd⟩ R K := fun a w g st => by
  obtain ⟨hh, ha, hsub, sf⟩ := (st.pick pk).focus
  subst ha
  have hg := hsub _ _ (one_self _ _)
  have hr : (execOp a.eval ⟨some d, .next x true, ty, pos, aft, gd⟩).run P w = .ok (.value (.tuple #[.bool true, .int .i64 p, .int .i32 (Utf8.decode s p).1])) { w with heap := w.heap.setIfInBounds b (.stringIter s (p + (Utf8.decode s p).2)) } := by
    simp [execOp, g.ev hx, Lib.run_next_any_at w b s p ty hg hp]; rfl
  show Oper.upon P _ a K R _
  rw [hr]
  refine h _ _ (g.put hd _) (sf.upd (b := b) (o := .stringIter s p) (o' := .stringIter s (p + (Utf8.decode s p).2)) (fun _ h' => by rw [h']; exact one_self _ _) (fun _ h' => ?_) ⟨rfl, rfl, rfl, by simp, by simp [lt_of_heap hg], fun k hk => by simp [Array.getElem?_setIfInBounds, Ne.symm hk]⟩)
  subst h'
  funext k; simp only [one]; split <;> rfl
theorem EW.next_end {s : ByteArray} {p : Nat} (hd : d < N) (hx : ev T x = some (.pointer (some ⟨b, 0, none⟩))) (pk : Pick L (itA b s p) L1) (hp : s.size ≤ p)
    (h : KP c N ((d, .tuple #[.bool false]) :: T) L K) : EW P c N T L ⟨some d, .next x true, ty, pos, aft, gd⟩ R K := fun a w g st => by
  obtain ⟨hh, ha, hsub, sf⟩ := (st.pick pk).focus
  subst ha
  have hg := hsub _ _ (one_self _ _)
  have hr : (execOp a.eval ⟨some d, .next x true, ty, pos, aft, gd⟩).run P w = .ok (.value (.tuple #[.bool false])) w := by
    simp [execOp, g.ev hx, Lib.run_next_end_at w b s p ty hg (show ¬ p < s.size by omega)]
  show Oper.upon P _ a K R _
  rw [hr]
  exact h _ _ (g.put hd _) st
end

/-! ### a function that only reads, called with what is owned -/
def starP (Q : Post) (A : Asrt) : Post := fun v h => ∃ h1 h2, Disj h1 h2 ∧ Leq h1 h ∧ Leq h2 h ∧ Q v h1 ∧ A h2
theorem Spc.mono {P : Program} {f : FuncId} {args : Array Value} {ros L : List Asrt} {Q Q' : Post} (sp : Spc P f args ros L Q) (h : ∀ v k, Q v k → Q' v k) : Spc P f args ros L Q' := fun w h0 a b c =>
  Calls.mono (sp w h0 a b c) fun e w' ⟨v, k, he, q, x, y⟩ => ⟨v, k, he, h v k q, x, y⟩
theorem Spc.mine {P : Program} {f : FuncId} {args : Array Value} {A : Asrt} {Q : Post} (hA : ∀ h, A h → ∃ ros, Spc P f args ros [] Q ∧ ∀ B ∈ ros, ∃ hr, B hr ∧ Leq hr h) : Spc P f args [] [A] (starP Q A) := by
  rintro w h ⟨h1, h2, d, l1, l2, ha, -⟩ hs -
  obtain ⟨ros, sp, hr⟩ := hA h1 ha
  refine Calls.mono (sp w (fun _ => none) trivial (fun _ _ e => by simp at e) fun B hB => ?_) ?_
  · obtain ⟨k, hb, le⟩ := hr B hB
    exact ⟨k, hb, (hs.mono l1).mono le, fun _ => .inr rfl⟩
  · rintro e w' ⟨v, k, rfl, q, hsub, tr⟩
    have hlt : ∀ n o, h1 n = some o → n < w.heap.size := fun n o ho => lt_of_heap (hs _ _ (l1 _ _ ho))
    have hk : ∀ n o, h1 n = some o → k n = none := fun n o ho => (tr.block n (hlt n o ho) rfl).2
    refine ⟨v, fun n => (k n).or (h1 n), rfl, ⟨k, h1, ?_, ?_, ?_, q, ha⟩, ?_, ⟨tr.os, tr.tape, tr.output, tr.size, ?_⟩⟩
    · intro n
      cases e : h1 n with
      | none => exact .inr rfl
      | some o => exact .inl (hk n o e)
    · intro n o hn; simp [hn]
    · intro n o hn; simp [hk n o hn, hn]
    · intro n o hn
      simp only at hn
      cases e : k n with
      | some u => rw [e] at hn; simp at hn; subst hn; exact hsub _ _ e
      | none =>
        rw [e] at hn
        have hn' : h1 n = some o := by simpa using hn
        rw [(tr.block n (hlt n o hn') rfl).1]
        exact hs _ _ (l1 _ _ hn')
    · intro b hb hn
      obtain ⟨t1, t2⟩ := tr.block b hb rfl
      refine ⟨t1, ?_⟩
      cases e : h1 b with
      | none => simp [t2]
      | some u => rw [l1 _ _ e] at hn; cases hn
theorem star_ret {v0 : Value} {M : List Asrt} {A : Asrt} : ∀ v h, starP (Ink.ret v0 M) A v h → Ink.ret v0 (A :: M) v h := fun v h ⟨h1, h2, d, a, b, ⟨e, m⟩, x⟩ => ⟨e, h2, h1, d.symm, b, a, x, m⟩
theorem Spc.mine0 {P : Program} {f : FuncId} {args : Array Value} {A : Asrt} {v0 : Value} (hA : ∀ h, A h → ∃ ros, Spc P f args ros [] (Ink.ret v0 []) ∧ ∀ B ∈ ros, ∃ hr, B hr ∧ Leq hr h) : Spc P f args [] [A] (Ink.ret v0 [A]) := (Spc.mine hA).mono star_ret
theorem Spc.mine1 {P : Program} {f : FuncId} {args : Array Value} {A : Asrt} {p : Value → Prop} {B : Value → Asrt} (hA : ∀ h, A h → ∃ ros, Spc P f args ros [] (Ink.exP fun v' => Ink.puP (p v') (Ink.ret v' [B v'])) ∧ ∀ B ∈ ros, ∃ hr, B hr ∧ Leq hr h) : Spc P f args [] [A] (Ink.exP fun v' => Ink.puP (p v') (Ink.ret v' [A, B v'])) :=
  (Spc.mine hA).mono fun v h ⟨h1, h2, d, a, b, ⟨v', hp, q⟩, x⟩ => ⟨v', hp, star_ret v h ⟨h1, h2, d, a, b, q, x⟩⟩
/-- Each of a list's assertions has its part. -/
theorem SatL.parts : ∀ {L : List Asrt} {h : Frag}, SatL L h → ∀ B ∈ L, ∃ hr, B hr ∧ Leq hr h
  | [], _, _, B, hB => by simp at hB
  | A :: L, h, ⟨h1, h2, d, a, b, x, y⟩, B, hB => by
    rcases List.mem_cons.1 hB with rfl | hB
    · exact ⟨h1, x, a⟩
    · obtain ⟨k, hk, le⟩ := SatL.parts y B hB
      exact ⟨k, hk, le.trans b⟩
end Go.Ink
