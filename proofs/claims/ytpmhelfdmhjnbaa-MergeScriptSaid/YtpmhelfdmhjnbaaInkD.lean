/- InkD: arguments that hold slices in structs, and slices of such structs: what they hold. -/
import Derived.Test.YtpmhelfdmhjnbaaInk9
import Derived.Test.YtpmhelfdmhjnbaaInkB
namespace Go.Ink
open Go Go.ChangeShapes Go.WideShapes Go.Deep Go.RowKit
set_option linter.unusedVariables false
set_option linter.unusedSimpArgs false

section
variable {H : Type} {enc : TypeId × Value → H} {P : Program} {w : World} {base : Nat} {spare : Nat → Bool} {held : Bool}
variable {α : Type _} {en : α → List Value} {n : Nat}

/-- A slice that was trod: its elements, each told by 'hel'. -/
theorem row_of_trod {t e : TypeId} {fuel : Nat} {v : Value} {x : DataW H × List MemPlace} {R : α → Prop} (ht : P.underlying t = some (.slice e)) (hC : P.cellsOf e = n) [E : Enc en n]
    (hel : ∀ fuel cs x, DataW.trod enc P w base spare held fuel e cs = some x → ∃ z, en z = cs ∧ R z) (h : DataW.trod enc P w base spare held fuel t [v] = some x) : ∃ xs, rrow n en v xs (fun b => w.heap[b]?) ∧ ∀ z ∈ xs, R z := by
  rcases open_slice ht h with ⟨hcs, _⟩ | ⟨a, len, cap, m, nn, D, Pl, hcs, _, hl, hm, hmm, _, hi⟩
  · simp at hcs
    subst hcs
    exact ⟨[], .inl ⟨.inl rfl, rfl⟩, by simp⟩
  · simp at hcs
    subst hcs
    have hlm : len ≤ m := by rw [hmm]; split <;> omega
    have hpos := E.pos
    rcases Nat.eq_zero_or_pos len with h0 | h0
    · subst h0
      exact ⟨[], .inl ⟨.inr ⟨a, cap, rfl, hm⟩, rfl⟩, by simp⟩
    · have hsp : a.spot = none := by
        obtain ⟨cs', hc, ht'⟩ := hi 0 (by omega)
        obtain ⟨z, hz, _⟩ := hel _ _ _ ht'
        obtain ⟨_, hcl, hat⟩ := World.cells?_some hc
        have hl' : 0 < cs'.length := by rw [← hz, E.len]; exact hpos
        have := hat 0 (by omega)
        simp only [Nat.zero_mul] at this
        have e0 : (a.add 0).add 0 = a := by simp [Addr.add]
        rw [e0, List.getElem?_eq_getElem hl'] at this
        exact World.cell?_spot this
      obtain ⟨b, off, sp⟩ := a
      simp only at hsp
      subst hsp
      have hcell : ∀ i, i < len → ∃ z, R z ∧ ∀ j u, (en z)[j]? = some u → w.cell? ⟨b, off + (i * n + j), none⟩ = some u := by
        intro i hil
        obtain ⟨cs', hc, ht'⟩ := hi i (by omega)
        obtain ⟨z, hz, hR⟩ := hel _ _ _ ht'
        refine ⟨z, hR, fun j u hj => ?_⟩
        obtain ⟨_, hcl, hat⟩ := World.cells?_some hc
        rw [hz] at hj
        have hjl : j < cs'.length := (List.getElem?_eq_some_iff.1 hj).1
        have := hat j (by omega)
        rw [hj, hC, Addr.add_lit, Addr.add_lit] at this
        rw [← Nat.add_assoc]; exact this
      have hex : ∀ q, q ≤ len → ∃ xs : List α, xs.length = q ∧ (∀ z ∈ xs, R z) ∧ ∀ i z, xs[i]? = some z → ∀ j u, (en z)[j]? = some u → w.cell? ⟨b, off + (i * n + j), none⟩ = some u := by
        intro q
        induction q with
        | zero => intro _; exact ⟨[], rfl, by simp, by simp⟩
        | succ q ih =>
          intro hn
          obtain ⟨xs, hxl, hR, hxs⟩ := ih (by omega)
          obtain ⟨z, hRz, hz⟩ := hcell q (by omega)
          refine ⟨xs ++ [z], by simp [hxl], fun y hy => ?_, fun i y hy => ?_⟩
          · rcases List.mem_append.1 hy with hy | hy
            · exact hR y hy
            · simp at hy; subst hy; exact hRz
          rcases Nat.lt_or_ge i q with hlt | hge
          · rw [List.getElem?_append_left (by omega)] at hy; exact hxs i y hy
          · rw [List.getElem?_append_right (by omega)] at hy
            have : i = q := by
              have := (List.getElem?_eq_some_iff.1 hy).1
              simp at this; omega
            subst this
            simp [hxl] at hy
            subst hy; exact hz
      obtain ⟨xs, hxl, hR, hxs⟩ := hex len (Nat.le_refl _)
      subst hxl
      refine ⟨xs, .inr ⟨b, off, _, rfl, hl, hm, fun j u hj => ?_⟩, hR⟩
      have hfl := flatMap_length E.len xs
      have hjl : j < xs.length * n := by rw [← hfl]; exact (List.getElem?_eq_some_iff.1 hj).1
      have hq : j / n < xs.length := Nat.div_lt_of_lt_mul (by rw [Nat.mul_comm]; exact hjl)
      have hdm := Nat.div_add_mod j n
      rw [Nat.mul_comm] at hdm
      obtain ⟨z, hz⟩ : ∃ z, xs[j / n]? = some z := ⟨xs[j / n], by simp [hq]⟩
      have h1 := flatMap_at E.len xs (j / n) (j % n) z hz (Nat.mod_lt _ E.pos)
      rw [hdm, hj] at h1
      have h2 := hxs _ z hz _ u h1.symm
      rw [hdm] at h2
      simp only [World.cell?] at h2
      split at h2
      · rename_i arr e' fr he
        exact ⟨arr, e', fr, he, by simpa using h2⟩
      · cases h2

/-- A cell of a struct: plain, or a slice of flat things. -/
inductive FS where
  | b (k : FK)
  | s (ks : List FK)
  deriving DecidableEq
def FlatV (ks : List FK) : Type := { cs : List Value // Fits ks cs }
def fvals {ks : List FK} (x : FlatV ks) : List Value := x.1
theorem fit_one {k : FK} {v : Value} (h : fitK k v) : v.oneCell' = true := by
  cases k with
  | int k => obtain ⟨n, rfl, _⟩ := h; rfl
  | bool => obtain ⟨n, rfl⟩ := h; rfl
  | str => obtain ⟨n, rfl, _⟩ := h; rfl
theorem Fits.one {ks : List FK} {vs : List Value} (f : Fits ks vs) : ∀ u ∈ vs, u.oneCell' = true := by
  induction f with
  | nil => simp
  | cons h _ ih =>
    intro u hu
    rcases List.mem_cons.1 hu with rfl | hu
    · exact fit_one h
    · exact ih u hu
theorem enc_flat {ks : List FK} (h : 0 < ks.length) : Enc (fvals (ks := ks)) ks.length := ⟨fun x => x.2.length, h, fun x u hu => x.2.one u hu⟩
def fitS (h : Frag) : FS → Value → Prop
  | .b k, v => fitK k v
  | .s ks, v => v.oneCell' = true ∧ ∃ xs : List (FlatV ks), rrow ks.length fvals v xs h
inductive FitsS (h : Frag) : List FS → List Value → Prop
  | nil : FitsS h [] []
  | cons {k : FS} {v : Value} {ks : List FS} {vs : List Value} (f : fitS h k v) (r : FitsS h ks vs) : FitsS h (k :: ks) (v :: vs)
theorem FitsS.length {h : Frag} {ks : List FS} {vs : List Value} (f : FitsS h ks vs) : vs.length = ks.length := by
  induction f with
  | nil => rfl
  | cons _ _ ih => simp [ih]
theorem FitsS.append {h : Frag} {ks ks' : List FS} {vs vs' : List Value} (f : FitsS h ks vs) (g : FitsS h ks' vs') : FitsS h (ks ++ ks') (vs ++ vs') := by
  induction f with
  | nil => exact g
  | cons h _ ih => exact .cons h ih
theorem Fits.toS {h : Frag} {ks : List FK} {vs : List Value} (f : Fits ks vs) : FitsS h (ks.map .b) vs := by
  induction f with
  | nil => exact .nil
  | cons h _ ih => exact .cons h ih
/-- The kinds of cells of a field's type: flat, or a slice of what is flat. -/
def fldS (P : Program) (t : TypeId) : Option (List FS) := match P.underlying t with
  | some (.slice e) => (flatK P 20 e).bind fun ks => if P.cellsOf e = ks.length ∧ 0 < ks.length ∧ P.cellsOf t = 1 then some [.s ks] else none
  | _ => (flatK P 20 t).map fun ks => ks.map .b
def flatSF (P : Program) : Nat → List Field → Option (List FS)
  | _, [] => some []
  | off, f :: fs => if f.offset = off then (fldS P f.type).bind fun a => if P.cellsOf f.type = a.length then (flatSF P (off + a.length) fs).map fun r => a ++ r else none else none
def flatS (P : Program) (t : TypeId) : Option (List FS) := match P.underlying t with
  | some (.struct fs) => (flatSF P 0 fs.toList).bind fun r => if P.cellsOf t = r.length then some r else none
  | _ => none
theorem fldS_trod {t : TypeId} {ks : List FS} {fuel : Nat} {cs : List Value} {x : DataW H × List MemPlace} (hk : fldS P t = some ks) (hl : cs.length = P.cellsOf t) (h : DataW.trod enc P w base spare held fuel t cs = some x) : FitsS (fun b => w.heap[b]?) ks cs := by
  unfold fldS at hk
  split at hk
  · rename_i e ht
    cases hf : flatK P 20 e with
    | none => simp [hf] at hk
    | some kk =>
      simp only [hf, Option.bind_some] at hk
      split at hk
      · rename_i hc
        obtain ⟨h1, h2, h3⟩ := hc
        simp only [Option.some.injEq] at hk; subst hk
        rw [h3] at hl
        obtain ⟨v, rfl⟩ := List.length_eq_one_iff.1 hl
        have E := enc_flat h2
        obtain ⟨xs, hx, _⟩ := row_of_trod (R := fun _ => True) (en := fvals (ks := kk)) ht h1 (fun fuel cs x hh => ⟨⟨cs, flat_trod _ _ _ _ _ _ hf hh⟩, rfl, trivial⟩) h
        exact .cons ⟨hx.one, xs, hx⟩ .nil
      · cases hk
  · cases hf : flatK P 20 t with
    | none => simp [hf] at hk
    | some kk =>
      simp only [hf, Option.map_some, Option.some.injEq] at hk; subst hk
      exact (flat_trod _ _ _ _ _ _ hf h).toS
theorem flatSF_trod {nn : Nat} {cs : List Value} : ∀ (fs : List Field) (off : Nat) (ks : List FS), flatSF P off fs = some ks → cs.length = off + ks.length → (∀ (i : Nat) (f : Field), fs[i]? = some f → ∃ y, DataW.trod enc P w base spare held nn f.type ((cs.drop f.offset).take (P.cellsOf f.type)) = some y) → FitsS (fun b => w.heap[b]?) ks (cs.drop off)
  | [], off, ks, hk, hl, _ => by
    simp only [flatSF, Option.some.injEq] at hk; subst hk
    simp at hl
    rw [List.drop_of_length_le (by omega)]; exact .nil
  | f :: fs, off, ks, hk, hl, hf => by
    simp only [flatSF] at hk
    split at hk
    · rename_i ho
      cases ha : fldS P f.type with
      | none => simp [ha] at hk
      | some a =>
        simp only [ha, Option.bind_some] at hk
        split at hk
        · rename_i hc
          cases hr : flatSF P (off + a.length) fs with
          | none => simp [hr] at hk
          | some r =>
            simp only [hr, Option.map_some, Option.some.injEq] at hk; subst hk
            simp at hl
            obtain ⟨y, hy⟩ := hf 0 f rfl
            have h1 := fldS_trod ha (by simp; omega) hy
            have h2 := flatSF_trod fs (off + a.length) r hr (by omega) (fun i f' hi => hf (i + 1) f' (by simpa using hi))
            rw [ho, hc] at h1
            have h3 := h1.append h2
            rw [← List.drop_drop, List.take_append_drop] at h3
            exact h3
        · cases hk
    · cases hk
theorem flatS_trod {t : TypeId} {ks : List FS} {fuel : Nat} {cs : List Value} {x : DataW H × List MemPlace} (hk : flatS P t = some ks) (h : DataW.trod enc P w base spare held fuel t cs = some x) : FitsS (fun b => w.heap[b]?) ks cs := by
  unfold flatS at hk
  split at hk
  · rename_i fs hu
    cases hr : flatSF P 0 fs.toList with
    | none => simp [hr] at hk
    | some r =>
      simp only [hr, Option.bind_some] at hk
      split at hk
      · rename_i hc
        simp only [Option.some.injEq] at hk; subst hk
        obtain ⟨xs, n, _, _, hlen, hxl, hf⟩ := DataW.trod_struct hu h
        have := flatSF_trod (cs := cs) (nn := n) fs.toList 0 r hr (by rw [hlen, hc]; simp) (fun i f hi => by
          have hi' : fs[i]? = some f := by simpa using hi
          have hlt : i < fs.size := (Array.getElem?_eq_some_iff.1 hi').1
          exact ⟨_, (hf i f hi').trans (List.getElem?_eq_getElem (by omega))⟩)
        simpa using this
      · cases hk
  · cases hk
/-- A row of flat things, told by an encoding of one's own. -/
theorem rrow_dec {ks : List FK} {v : Value} {h : Frag} {xs : List (FlatV ks)} (dec : ∀ cs, Fits ks cs → ∃ z, en z = cs) (r : rrow ks.length fvals v xs h) : ∃ ys : List α, rrow ks.length en v ys h := by
  have hex : ∀ xs : List (FlatV ks), ∃ ys : List α, ys.length = xs.length ∧ ys.flatMap en = xs.flatMap fvals := by
    intro xs
    induction xs with
    | nil => exact ⟨[], rfl, rfl⟩
    | cons x xs ih =>
      obtain ⟨ys, h1, h2⟩ := ih
      obtain ⟨z, hz⟩ := dec x.1 x.2
      exact ⟨z :: ys, by simp [h1], by simp only [List.flatMap_cons, h2, hz]; rfl⟩
  obtain ⟨ys, h1, h2⟩ := hex xs
  refine ⟨ys, ?_⟩
  rcases r with ⟨e, rfl⟩ | ⟨b, off, cap, hv, h3, h4, h5⟩
  · exact .inl ⟨e, List.length_eq_zero_iff.1 (by simpa using h1)⟩
  · exact .inr ⟨b, off, cap, by rw [h1]; exact hv, by rw [h1]; exact h3, h4, by rw [h2]; exact h5⟩

variable {r : Reach} {b0 : Nat}
/-- A struct with slices, as an argument. -/
theorem open_st {t : TypeId} {fs : Array Field} {ks : List FS} {v : Value} {dd : DataW H} {p : List MemPlace} {R : α → Prop} (ht : P.underlying t = some (.struct fs)) (hk : flatS P t = some ks) (dec : ∀ cs, FitsS (fun b => w.heap[b]?) ks cs → ∃ z, en z = cs ∧ R z)
    (hv : Value.okWide P w r b0 t v) (h : DataW.Trod enc P w base (fun _ => true) true t v dd p) : ∃ z, v = .agg (en z).toArray ∧ R z := by
  obtain ⟨⟨cs⟩, rfl, _⟩ := okWide_struct ht hv
  obtain ⟨fuel, hf⟩ := h
  obtain ⟨z, hz, hR⟩ := dec _ (flatS_trod hk hf)
  exact ⟨z, by rw [hz]; rfl, hR⟩
/-- A slice of structs with slices, as an argument. -/
theorem open_rowS {t e : TypeId} {ks : List FS} {v : Value} {dd : DataW H} {p : List MemPlace} {R : α → Prop} (ht : P.underlying t = some (.slice e)) (hk : flatS P e = some ks) (hC : P.cellsOf e = n) [E : Enc en n] (dec : ∀ cs, FitsS (fun b => w.heap[b]?) ks cs → ∃ z, en z = cs ∧ R z)
    (hv : Value.okWide P w r b0 t v) (h : DataW.Trod enc P w base (fun _ => true) true t v dd p) : ∃ xs, rrow n en v xs (fun b => w.heap[b]?) ∧ ∀ z ∈ xs, R z := by
  obtain ⟨a, len, cap, rfl⟩ := okWide_slice ht hv
  obtain ⟨fuel, hf⟩ := h
  exact row_of_trod ht hC (fun fuel cs x hh => dec cs (flatS_trod hk hh)) (by simpa [Value.cells] using hf)
end

/-- For each element, an assertion that is only read: they may share. -/
def AllA {α : Type _} (f : α → Asrt) (l : List α) : Asrt := fun h => ∀ x ∈ l, f x h
theorem AllA.at {α : Type _} {f : α → Asrt} {l : List α} {i : Nat} {x : α} (h : l[i]? = some x) : ∀ hh, AllA f l hh → f x hh := fun hh a => a x (List.mem_of_getElem? h)
end Go.Ink
