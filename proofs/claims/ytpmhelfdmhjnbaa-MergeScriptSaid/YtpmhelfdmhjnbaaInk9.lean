/- Ink9: from a contract to a row: arguments opened by their kinds of cells, and shut again behind a call that writes only what is new. -/
import Derived.Test.YtpmhelfdmhjnbaaInk8
import Derived.ProofKit
import Derived.Below
import Derived.ChangeOld
import Derived.Deep.Slices
import Derived.ChangeArms
namespace Go.Ink
open Go Go.ChangeShapes Go.WideShapes Go.Deep Go.RowKit
set_option linter.unusedVariables false
set_option linter.unusedSimpArgs false

/-- What a cell of an argument may be. -/
inductive FK where
  | int (k : IntKind)
  | bool
  | str
  deriving DecidableEq
def fitK : FK → Value → Prop
  | .int k, v => ∃ n, v = .int k n ∧ (Lit.int k n).wf = true
  | .bool, v => ∃ b, v = .bool b
  | .str, v => ∃ s : ByteArray, v = .string s ∧ s.size ≤ maxLen
inductive Fits : List FK → List Value → Prop
  | nil : Fits [] []
  | cons {k : FK} {v : Value} {ks : List FK} {vs : List Value} (h : fitK k v) (r : Fits ks vs) : Fits (k :: ks) (v :: vs)
theorem Fits.length {ks : List FK} {vs : List Value} (f : Fits ks vs) : vs.length = ks.length := by
  induction f with
  | nil => rfl
  | cons _ _ ih => simp [ih]
theorem Fits.append {ks ks' : List FK} {vs vs' : List Value} (f : Fits ks vs) (g : Fits ks' vs') : Fits (ks ++ ks') (vs ++ vs') := by
  induction f with
  | nil => exact g
  | cons h _ ih => exact .cons h ih

def flatFs (P : Program) (rec : TypeId → Option (List FK)) : Nat → List Field → Option (List FK)
  | _, [] => some []
  | off, f :: fs => if f.offset = off then (rec f.type).bind fun a => if P.cellsOf f.type = a.length then (flatFs P rec (off + a.length) fs).map fun r => a ++ r else none else none
/-- The kinds of cells of a type that holds no addresses. -/
def flatK (P : Program) : Nat → TypeId → Option (List FK)
  | 0, _ => none
  | d + 1, t => match P.underlying t with
    | some (.int k) => some [.int k]
    | some .bool => some [.bool]
    | some .string => some [.str]
    | some (.struct fs) => (flatFs P (flatK P d) 0 fs.toList).bind fun ks => if P.cellsOf t = ks.length then some ks else none
    | _ => none

section
variable {H : Type} {enc : TypeId × Value → H} {P : Program} {w : World} {base : Nat} {spare : Nat → Bool} {held : Bool}
theorem flat_fs {rec : TypeId → Option (List FK)} {n : Nat} {cs : List Value} (hrec : ∀ t ks cs' y, rec t = some ks → DataW.trod enc P w base spare held n t cs' = some y → Fits ks cs') :
    ∀ (fs : List Field) (off : Nat) (r : List FK), flatFs P rec off fs = some r → off + r.length = cs.length →
      (∀ (i : Nat) (f : Field), fs[i]? = some f → ∃ y, DataW.trod enc P w base spare held n f.type ((cs.drop f.offset).take (P.cellsOf f.type)) = some y) → Fits r (cs.drop off)
  | [], off, r, h, hl, _ => by
    simp only [flatFs, Option.some.injEq] at h
    subst h
    rw [List.drop_of_length_le (by simp at hl; omega)]; exact .nil
  | f :: fs, off, r, h, hl, hf => by
    unfold flatFs at h
    split at h
    · rename_i ho
      cases ha : rec f.type with
      | none => simp [ha] at h
      | some a =>
        simp only [ha, Option.bind_some] at h
        split at h
        · rename_i hc
          cases hr : flatFs P rec (off + a.length) fs with
          | none => simp [hr] at h
          | some r' =>
            simp only [hr, Option.map_some, Option.some.injEq] at h
            subst h
            obtain ⟨y, hy⟩ := hf 0 f rfl
            rw [ho, hc] at hy
            have h1 := hrec _ _ _ _ ha hy
            have h2 := flat_fs hrec fs (off + a.length) r' hr (by simp at hl; omega) (fun i g hg => hf (i + 1) g (by simpa using hg))
            have e : cs.drop off = (cs.drop off).take a.length ++ cs.drop (off + a.length) := by
              rw [← List.drop_drop, List.take_append_drop]
            rw [e]; exact h1.append h2
        · cases h
    · cases h
theorem flat_trod : ∀ (d : Nat) (t : TypeId) (ks : List FK) (fuel : Nat) (cs : List Value) (x : DataW H × List MemPlace), flatK P d t = some ks → DataW.trod enc P w base spare held fuel t cs = some x → Fits ks cs
  | 0, _, _, _, _, _, h, _ => by simp [flatK] at h
  | d + 1, t, ks, fuel, cs, x, h, ht => by
    unfold flatK at h
    split at h
    · rename_i k hu
      simp only [Option.some.injEq] at h; subst h
      obtain ⟨n, rfl, _, hw⟩ := DataW.trod_int hu ht
      exact .cons ⟨n, rfl, hw⟩ .nil
    · rename_i hu
      simp only [Option.some.injEq] at h; subst h
      obtain ⟨b, rfl, _⟩ := DataW.trod_bool hu ht
      exact .cons ⟨b, rfl⟩ .nil
    · rename_i hu
      simp only [Option.some.injEq] at h; subst h
      obtain ⟨s, rfl, _, hs⟩ := DataW.trod_string hu ht
      exact .cons ⟨s, rfl, hs⟩ .nil
    · rename_i fs hu
      cases hr : flatFs P (flatK P d) 0 fs.toList with
      | none => simp [hr] at h
      | some r =>
        simp only [hr, Option.bind_some] at h
        split at h
        · rename_i hc
          simp only [Option.some.injEq] at h; subst h
          obtain ⟨xs, n, _, _, hlen, hxl, hf⟩ := DataW.trod_struct hu ht
          have := flat_fs (cs := cs) (n := n) (fun t ks cs' y h1 h2 => flat_trod d t ks n cs' y h1 h2) fs.toList 0 r hr (by rw [hlen, hc]; simp) (fun i f hi => by
            have hi' : fs[i]? = some f := by simpa using hi
            have hlt : i < fs.size := (Array.getElem?_eq_some_iff.1 hi').1
            exact ⟨_, (hf i f hi').trans (List.getElem?_eq_getElem (by omega))⟩)
          simpa using this
        · cases h
    · cases h

variable {α : Type _} {en : α → List Value} {r : Reach} {b0 : Nat}
/-- A slice of such a type, as an argument: what it holds. -/
theorem open_row {t e : TypeId} {ks : List FK} {d : Nat} {v : Value} {dd : DataW H} {p : List MemPlace} (ht : P.underlying t = some (.slice e)) (hk : flatK P d e = some ks) (hC : P.cellsOf e = ks.length) [E : Enc en ks.length] (dec : ∀ cs, Fits ks cs → ∃ z, en z = cs)
    (hv : Value.okWide P w r b0 t v) (h : DataW.Trod enc P w base (fun _ => true) true t v dd p) : ∃ xs, rrow ks.length en v xs (fun b => w.heap[b]?) := by
  obtain ⟨a, len, cap, rfl⟩ := okWide_slice ht hv
  obtain ⟨fuel, hf⟩ := h
  rcases open_slice ht hf with ⟨hcs, _⟩ | ⟨x, l, c, m, n, D, Pl, hcs, _, hl, hm, hmm, _, hi⟩
  · simp only [Value.cells] at hcs
    simp at hcs
    obtain ⟨rfl, rfl, rfl⟩ := hcs
    exact ⟨[], .inl ⟨.inl rfl, rfl⟩⟩
  · simp only [Value.cells] at hcs
    simp at hcs
    obtain ⟨rfl, rfl, rfl⟩ := hcs
    simp at hmm
    subst hmm
    have hsp : x.spot = none := by
      simp only [Value.okWide, ht, Cell.okWide, Cell.ok] at hv
      exact hv.2.2.2.1
    obtain ⟨b, off, sp⟩ := x
    simp only at hsp
    subst hsp
    have hcell : ∀ i, i < len → ∃ z, ∀ j u, (en z)[j]? = some u → w.cell? ⟨b, off + (i * ks.length + j), none⟩ = some u := by
      intro i hil
      obtain ⟨cs', hc, ht'⟩ := hi i (by omega)
      obtain ⟨z, hz⟩ := dec cs' (flat_trod _ _ _ _ _ _ hk ht')
      refine ⟨z, fun j u hj => ?_⟩
      obtain ⟨_, hcl, hat⟩ := World.cells?_some hc
      rw [hz] at hj
      have hjl : j < cs'.length := (List.getElem?_eq_some_iff.1 hj).1
      have := hat j (by omega)
      rw [hj, hC, Addr.add_lit, Addr.add_lit] at this
      rw [← Nat.add_assoc]; exact this
    have hex : ∀ n, n ≤ len → ∃ xs : List α, xs.length = n ∧ ∀ i z, xs[i]? = some z → ∀ j u, (en z)[j]? = some u → w.cell? ⟨b, off + (i * ks.length + j), none⟩ = some u := by
      intro n
      induction n with
      | zero => intro _; exact ⟨[], rfl, by simp⟩
      | succ n ih =>
        intro hn
        obtain ⟨xs, hxl, hxs⟩ := ih (by omega)
        obtain ⟨z, hz⟩ := hcell n (by omega)
        refine ⟨xs ++ [z], by simp [hxl], fun i y hy => ?_⟩
        rcases Nat.lt_or_ge i n with hlt | hge
        · rw [List.getElem?_append_left (by omega)] at hy; exact hxs i y hy
        · rw [List.getElem?_append_right (by omega)] at hy
          have : i = n := by
            have := (List.getElem?_eq_some_iff.1 hy).1
            simp at this; omega
          subst this
          simp [hxl] at hy
          subst hy; exact hz
    obtain ⟨xs, hxl, hxs⟩ := hex len (Nat.le_refl _)
    subst hxl
    refine ⟨xs, .inr ⟨b, off, _, rfl, hl, hm, fun j u hj => ?_⟩⟩
    have hfl := flatMap_length E.len xs
    have hjl : j < xs.length * ks.length := by rw [← hfl]; exact (List.getElem?_eq_some_iff.1 hj).1
    have hq : j / ks.length < xs.length := Nat.div_lt_of_lt_mul (by rw [Nat.mul_comm]; exact hjl)
    have hdm := Nat.div_add_mod j ks.length
    rw [Nat.mul_comm] at hdm
    obtain ⟨z, hz⟩ : ∃ z, xs[j / ks.length]? = some z := ⟨xs[j / ks.length], by simp [hq]⟩
    have h1 := flatMap_at E.len xs (j / ks.length) (j % ks.length) z hz (Nat.mod_lt _ E.pos)
    rw [hdm, hj] at h1
    have h2 := hxs _ z hz _ u h1.symm
    rw [hdm] at h2
    simp only [World.cell?] at h2
    split at h2
    · rename_i arr e' fr he
      exact ⟨arr, e', fr, he, by simpa using h2⟩
    · cases h2
/-- A value of such a type, as an argument. -/
theorem open_flat {t : TypeId} {fs : Array Field} {ks : List FK} {d : Nat} {v : Value} {dd : DataW H} {p : List MemPlace} (ht : P.underlying t = some (.struct fs)) (hk : flatK P d t = some ks) (dec : ∀ cs, Fits ks cs → ∃ z, en z = cs)
    (hv : Value.okWide P w r b0 t v) (h : DataW.Trod enc P w base (fun _ => true) true t v dd p) : ∃ z, v = .agg (en z).toArray := by
  obtain ⟨⟨cs⟩, rfl, _⟩ := okWide_struct ht hv
  obtain ⟨fuel, hf⟩ := h
  obtain ⟨z, hz⟩ := dec _ (flat_trod _ _ _ _ _ _ hk hf)
  exact ⟨z, by rw [hz]; rfl⟩

theorem Spc.law {f : FuncId} {args : Array Value} {ros : List Asrt} {v0 : Value} (sp : Spc P f args ros [] (ret v0 [])) (hro : ∀ A ∈ ros, A (fun b => w.heap[b]?)) : Calls P f args w fun e w' => e = .returned v0 ∧ Below w.heap.size w w' := by
  refine Calls.mono (sp w (fun _ => none) trivial (fun _ _ e => by simp at e) (fun A m => ⟨_, hro A m, fun _ _ e => e, fun _ => .inr rfl⟩)) ?_
  rintro e w' ⟨v, h', rfl, ⟨rfl, _⟩, _, tr⟩
  exact ⟨rfl, tr.os, tr.tape, tr.output, tr.size, fun k hk => (tr.block k hk rfl).1⟩
end
end Go.Ink
