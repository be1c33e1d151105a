/- Ink8: equal structs field by field, struct keys, clear, make of slices. -/
import Derived.Test.YtpmhelfdmhjnbaaInk7
namespace Go.Ink
open Go
set_option linter.unusedVariables false
set_option linter.unusedSimpArgs false

section
variable {P : Program} {c : Cx} {N : Nat} {T : Tm} {L M L1 : List Asrt} {K : Act → World → Prop} {R : Exit → Act → World → Prop} {w : World} {A B : Asrt}
variable {dst : Option Tmp} {gd : Option (Nat × Bool)} {x y s : Operand} {u v : Value} {ty t e : TypeId} {pos : String} {aft : Array Edge} {b off o n d : Nat} {cs : List Value}
variable {α : Type _} {enc : α → List Value} {xs ys : List α} {k : IntKind} {m : Int}

def fldsB (P : Program) (t : TypeId) : Option (List (TypeId × Nat)) := match P.underlying t with
  | some (.struct fs) => if fs.toList.all (fun f => f.name != "_") && !P.stoodInHeld t then some (fs.toList.map fun f => (f.type, f.offset)) else none
  | _ => none
class StructF (P : Program) (t : TypeId) (l : outParam (List (TypeId × Nat))) : Prop where
  out : fldsB P t = some l
def eqF (d : Nat) (xs ys : Array Value) : List (TypeId × Nat) → Sem Bool
  | [] => pure true
  | f :: fs => do
      let a ← part f.1 xs f.2
      let b ← part f.1 ys f.2
      let r ← Op.equalIn d f.1 a b
      if (!r) = true then pure false else eqF d xs ys fs
theorem eqFields_eqF (d : Nat) (xs ys : Array Value) : ∀ fs : List Field, (fs.all fun f => f.name != "_") = true → Op.eqFields d xs ys fs = eqF d xs ys (fs.map fun f => (f.type, f.offset))
  | [], _ => rfl
  | f :: fs, h => by
    simp only [List.all_cons, Bool.and_eq_true, bne_iff_ne, ne_eq] at h
    have ih := eqFields_eqF d xs ys fs (by simpa using h.2)
    simp only [Op.eqFields, ne_eq, h.1, not_false_eq_true, if_true, ih, List.map_cons, eqF]
theorem run_equalIn_F {l : List (TypeId × Nat)} [S : StructF P t l] (d : Nat) (xs ys : Array Value) (w : World) : (Op.equalIn (d + 1) t (.agg xs) (.agg ys)).run P w = (eqF d xs ys l).run P w := by
  have h := S.out
  unfold fldsB at h
  split at h
  · rename_i fs hu
    split at h
    · rename_i hc
      simp only [Bool.and_eq_true, Bool.not_eq_true'] at hc
      have hf : P.fieldsOf t = fs := by simp [Program.fieldsOf, hu]
      rw [run_equalIn_agg w d t xs ys (by rw [hf]; exact hu) hc.2, hf, eqFields_eqF d xs ys _ hc.1]
      rw [Option.some.inj h]
    · simp at h
  · simp at h
theorem run_part_s [Scal P t] (h : cs[o]? = some v) (w : World) : (part t cs.toArray o).run P w = .ok v w := by
  simp [part, run_isAgg_scal t, h]
theorem run_part_a [AggT P t n] (w : World) : (part t cs.toArray o).run P w = .ok (.agg ((cs.drop o).take n).toArray) w := by
  have e : (cs.toArray.extract o (o + n)) = ((cs.drop o).take n).toArray := by
    apply Array.ext'
    simp [Array.toList_extract, List.extract, List.drop_take]
  simp [part, run_isAgg_agg t, run_sizeOf_agg t, e]
variable {c1 c2 : List Value} {l : List (TypeId × Nat)} {q : Bool}
theorem eqF_nil : (eqF d c1.toArray c2.toArray []).run P w = .ok true w := by simp [eqF]
theorem eqF_s [Scal P t] {p : Bool} {a a' : Value} (ha : c1[o]? = some a) (hb : c2[o]? = some a') (hq : (Op.equalIn d t a a').run P w = .ok p w) (r : (eqF d c1.toArray c2.toArray l).run P w = .ok q w) : (eqF d c1.toArray c2.toArray ((t, o) :: l)).run P w = .ok (p && q) w := by
  simp only [eqF, Sem.run_bind, run_part_s ha, run_part_s hb, hq, Result.andThen_ok]
  cases p <;> simp [r]
theorem eqF_int [Scal P t] [I : IntT P t k] {a a' : Int} (ha : c1[o]? = some (.int k a)) (hb : c2[o]? = some (.int k a')) (r : (eqF (d + 1) c1.toArray c2.toArray l).run P w = .ok q w) : (eqF (d + 1) c1.toArray c2.toArray ((t, o) :: l)).run P w = .ok (decide (a = a') && q) w :=
  eqF_s ha hb (by rw [run_equalIn_int w d t k k a a' I.out]; congr 1) r
theorem eqF_str [Scal P t] [I : StrT P t] {a a' : ByteArray} (ha : c1[o]? = some (.string a)) (hb : c2[o]? = some (.string a')) (r : (eqF (d + 1) c1.toArray c2.toArray l).run P w = .ok q w) : (eqF (d + 1) c1.toArray c2.toArray ((t, o) :: l)).run P w = .ok (decide (a = a') && q) w :=
  eqF_s ha hb (by rw [run_equalIn_string w d t a a' I.out, toList_beq]) r
theorem eqF_bool [Scal P t] [I : BoolT P t] {a a' : Bool} (ha : c1[o]? = some (.bool a)) (hb : c2[o]? = some (.bool a')) (r : (eqF (d + 1) c1.toArray c2.toArray l).run P w = .ok q w) : (eqF (d + 1) c1.toArray c2.toArray ((t, o) :: l)).run P w = .ok (decide (a = a') && q) w :=
  eqF_s ha hb (by rw [run_equalIn_bool' w d t a a' I.out]; cases a <;> cases a' <;> rfl) r
theorem eqF_agg [AggT P t n] {p : Bool} (hq : (Op.equalIn d t (.agg ((c1.drop o).take n).toArray) (.agg ((c2.drop o).take n).toArray)).run P w = .ok p w) (r : (eqF d c1.toArray c2.toArray l).run P w = .ok q w) : (eqF d c1.toArray c2.toArray ((t, o) :: l)).run P w = .ok (p && q) w := by
  simp only [eqF, Sem.run_bind, run_part_a, hq, Result.andThen_ok]
  cases p <;> simp [r]

/-! ### keys that are structs -/
def keyB (P : Program) (t : TypeId) : Bool := match P.underlying t with | some (.int _) | some .string | some .bool => true | _ => false
class KeyT (P : Program) (t : TypeId) : Prop where
  out : keyB P t = true
theorem run_checkKey_T [S : KeyT P t] (em : Bool) (d : Nat) (v : Value) (w : World) : (Instr.checkKey em (d + 1) t v).run P w = .ok () w := by
  have h := S.out
  unfold keyB at h
  split at h
  · rename_i hu; simp [Instr.checkKey, run_underlying hu]
  · rename_i hu; simp [Instr.checkKey, run_underlying hu]
  · rename_i hu; simp [Instr.checkKey, run_underlying hu]
  · simp at h
def ckF (em : Bool) (d : Nat) (xs : Array Value) : List (TypeId × Nat) → Sem Unit
  | [] => pure ()
  | f :: fs => do
      let a ← part f.1 xs f.2
      Instr.checkKey em d f.1 a
      ckF em d xs fs
theorem run_checkKey_F {l : List (TypeId × Nat)} [S : StructF P t l] (em : Bool) (d : Nat) (xs : Array Value) (w : World) : (Instr.checkKey em (d + 1) t (.agg xs)).run P w = (ckF em d xs l).run P w := by
  have h := S.out
  unfold fldsB at h
  split at h
  · rename_i fs hu
    split at h
    · rename_i hc
      simp only [Bool.and_eq_true, Bool.not_eq_true'] at hc
      have h1 := hc.1
      have h2 := Option.some.inj h
      simp only [Instr.checkKey, Sem.run_bind, run_underlying hu, Result.andThen_ok]
      rw [← Array.forIn_toList]
      clear h hc hu
      generalize fs.toList = fl at *
      subst h2
      induction fl generalizing w with
      | nil => simp [ckF]
      | cons f fs ih =>
        simp only [List.all_cons, Bool.and_eq_true, bne_iff_ne, ne_eq] at h1
        have ih' := fun w => ih w (by simpa using h1.2)
        simp only [List.forIn_cons, List.map_cons, ckF, Sem.run_bind, ne_eq, h1.1, not_false_eq_true, if_true]
        generalize (part f.type xs f.offset).run P w = r1
        cases r1 with
        | ok a w1 =>
          simp only [Result.andThen_ok]
          generalize (Instr.checkKey em d f.type a).run P w1 = r2
          cases r2 with
          | ok b w2 => simp only [Result.andThen_ok, Sem.run_pure]; exact ih' w2
          | halt x w2 => simp [Result.andThen]
        | halt x w1 => simp [Result.andThen]
    · simp at h
  · simp at h
theorem ckF_nil {em : Bool} : (ckF em d c1.toArray []).run P w = .ok () w := by simp [ckF]
theorem ckF_s {em : Bool} [Scal P t] [KeyT P t] {a : Value} (ha : c1[o]? = some a) (r : (ckF em (d + 1) c1.toArray l).run P w = .ok () w) : (ckF em (d + 1) c1.toArray ((t, o) :: l)).run P w = .ok () w := by
  simp only [ckF, Sem.run_bind, run_part_s ha, Result.andThen_ok, run_checkKey_T, r]
theorem sameNow_struct {P : Program} {t : TypeId} {l : List (TypeId × Nat)} [S : StructF P t l] {dd : TypeDesc} (hu : P.underlying t = some dd) (k v : Value) : Instr.sameNow dd k v = none := by
  have h := S.out
  unfold fldsB at h
  split at h
  · rename_i fs hf
    rw [hf] at hu
    cases hu
    simp [Instr.sameNow]
  · simp at h
theorem under_struct {l : List (TypeId × Nat)} [S : StructF P t l] : ∃ dd, P.underlying t = some dd := by
  have h := S.out
  unfold fldsB at h
  split at h
  · rename_i fs hf; exact ⟨_, hf⟩
  · simp at h
theorem keyE_struct {κ : Type} [DecidableEq κ] {ek : κ → List Value} {l : List (TypeId × Nat)} [StructF P t l] (hc : ∀ (e : Bool) (k : κ) (w : World), (Instr.checkKey e 10000 t (.agg (ek k).toArray)).run P w = .ok () w) [E : EqE P t ek] (hb : ∀ k, Instr.sameBits 10000 (.agg (ek k).toArray) (.agg (ek k).toArray) = true) : KeyE P t (fun k => .agg (ek k).toArray) where
  check := hc
  find k ks es w hk := by
    obtain ⟨dd, hu⟩ := under_struct (P := P) (t := t)
    cases es with
    | nil =>
      simp only [List.map_nil] at hk
      have : ks = [] := by cases ks with | nil => rfl | cons a b => simp at hk
      subst this
      simp [Instr.findKey, run_underlying hu, Instr.findNow]
    | cons e es =>
      have h1 := findNow_none dd (.agg (ek k).toArray) (fun v => sameNow_struct (P := P) (t := t) hu _ v) (e :: es) 0 (by simp)
      have h2 := find_asking (kt := t) (ek := fun k => .agg (ek k).toArray) (P := P) (fun k k' w => by simpa [Op.equal, Op.maxDepth] using E.eq w k k') k ks (e :: es) 0 w hk
      simp only [Nat.zero_add] at h2
      simp only [Instr.findKey, Sem.run_bind, run_underlying hu, Result.andThen_ok, h1]
      exact h2
  bits := hb

/-! ### clear of a tail -/
theorem zeroCells_list (z : Array Value) (zs : List Value) (hz : z = zs.toArray) : ∀ m : Nat, (Builtin.zeroCells z m).toList = (List.replicate m zs).flatten := by
  subst hz
  intro m
  by_cases h0 : zs = []
  · subst h0; simp [Builtin.zeroCells]
  have hp : 0 < zs.length := List.length_pos_iff.2 h0
  apply List.ext_getElem?
  intro i
  induction m generalizing i with
  | zero => simp [Builtin.zeroCells]
  | succ m ih =>
    rw [List.replicate_succ, List.flatten_cons]
    by_cases hi : i < zs.length
    · rw [List.getElem?_append_left hi]
      have h1 : i < (m + 1) * zs.length := Nat.lt_of_lt_of_le hi (Nat.le_mul_of_pos_left _ (by omega))
      simp [Builtin.zeroCells, h1, Nat.mod_eq_of_lt hi, hi]
    · rw [List.getElem?_append_right (by omega), ← ih]
      have e1 : (m + 1) * zs.length = m * zs.length + zs.length := by rw [Nat.add_mul]; omega
      by_cases h2 : i < (m + 1) * zs.length
      · have h3 : i - zs.length < m * zs.length := by omega
        have h4 : i % zs.length = (i - zs.length) % zs.length := by
          conv => lhs; rw [show i = (i - zs.length) + zs.length by omega]
          simp
        simp [Builtin.zeroCells, h2, h3, h4]
      · have h3 : ¬ i - zs.length < m * zs.length := by omega
        simp [Builtin.zeroCells, h2, h3]
theorem flatMap_replicate (m : Nat) (x : α) : (List.replicate m x).flatMap enc = (List.replicate m (enc x)).flatten := by
  simp [List.flatMap, List.map_replicate]
theorem flatMap_take (hl : ∀ x, (enc x).length = n) (xs : List α) (lo : Nat) (h : lo ≤ xs.length) : (xs.take lo).flatMap enc = (xs.flatMap enc).take (lo * n) := by
  have := flatMap_cut hl xs 0 lo
  simpa using this
theorem EW.clear_cut {by_ : Nat} {z : Value} {lo : Nat} {z0 : α} [E : Enc enc n] [S : SliT P t e] [TyI P e n by_ z] (hz : z.cells = (enc z0).toArray) (hx : ev T x = some (slv n v lo xs.length)) (p : Pick L (row e n enc v xs) L1) (hlo : lo ≤ xs.length)
    (h : KP c N T (row e n enc v (xs.take lo ++ List.replicate (xs.length - lo) z0) :: L1) K) : EW P c N T L ⟨none, .call { callee := .builtin .clear, args := #[x], argTypes := #[t] }, ty, pos, aft, gd⟩ R K := fun a w g st => by
  obtain ⟨hh, ha, hsub, sf⟩ := (st.pick p).focus
  show Oper.upon P _ a K R _
  rcases ha with ⟨rfl, rfl⟩ | ⟨b, off, cap, cs, rfl, h1, h2, h3, h4, rfl⟩
  · have hr : (execOp a.eval ⟨none, .call { callee := .builtin .clear, args := #[x], argTypes := #[t] }, ty, pos, aft, gd⟩).run P w = .ok (.value (.tuple #[])) w := by
      simp [execOp, resolve, invoke, builtin, g.ev hx, Builtin.clear_, run_underlying S.out, slv]
    rw [hr]
    refine h _ _ g ?_
    have := st.pick p
    simpa using this
  · rw [slv_some] at hx
    by_cases he : xs.length - lo = 0
    · have hr : (execOp a.eval ⟨none, .call { callee := .builtin .clear, args := #[x], argTypes := #[t] }, ty, pos, aft, gd⟩).run P w = .ok (.value (.tuple #[])) w := by
        rw [he] at hx
        simp [execOp, resolve, invoke, builtin, g.ev hx, Builtin.clear_, run_underlying S.out]
      rw [hr]
      refine h _ _ g ?_
      have e1 : xs.take lo ++ List.replicate (xs.length - lo) z0 = xs := by rw [he, List.take_of_length_le (by omega)]; simp
      rw [e1]
      exact st.pick p
    · have hne : ¬ cap = lo := by omega
      rw [if_neg hne] at hx
      have hg := hsub _ _ (one_self _ _)
      have hle : xs.length * n ≤ cap * n := Nat.mul_le_mul_right n h1
      have hle2 : lo * n + (xs.length - lo) * n = xs.length * n := by rw [← Nat.add_mul, show lo + (xs.length - lo) = xs.length by omega]
      have hzl := zeroCells_list z.cells (enc z0) hz (xs.length - lo)
      have hzlen : ((List.replicate (xs.length - lo) (enc z0)).flatten).length = (xs.length - lo) * n := by simp [E.len]
      have hr : (execOp a.eval ⟨none, .call { callee := .builtin .clear, args := #[x], argTypes := #[t] }, ty, pos, aft, gd⟩).run P w = .ok (.value (.tuple #[])) (w.setRow b (splice cs (off + lo * n) (List.replicate (xs.length - lo) (enc z0)).flatten).toArray) := by
        have := run_storeCells_pt (P := P) (vs := (List.replicate (xs.length - lo) (enc z0)).flatten) (off := off + lo * n) hg (by rw [hzlen]; omega) (fun u hu => by
          obtain ⟨l, hl, hu⟩ := List.mem_flatten.1 hu
          obtain ⟨_, rfl⟩ := List.mem_replicate.1 hl
          exact E.one _ _ hu)
        have hb : (Builtin.clear_ #[t] ty #[.slice (some ⟨b, off + lo * n, none⟩) (xs.length - lo) (cap - lo)]).run P w = .ok (.tuple #[]) (w.setRow b (splice cs (off + lo * n) (List.replicate (xs.length - lo) (enc z0)).flatten).toArray) := by
          have hd : (xs.length - lo) ≠ 0 := he
          obtain ⟨q, hq⟩ : ∃ q, xs.length - lo = q + 1 := ⟨xs.length - lo - 1, by omega⟩
          rw [hq] at hzl this ⊢
          simp [Builtin.clear_, run_underlying S.out, run_zero_ty (P := P) e, hzl, this]
        simp [execOp, resolve, invoke, builtin, g.ev hx, hb]
      rw [hr]
      refine h _ _ g (sf.upd (b := b) (o := .cells cs.toArray e) (fun _ h' => by rw [h']; exact one_self _ _) (fun _ h' => ?_) (updAt_setRow w b _ _ e hg))
      subst h'
      have hlen : (xs.take lo ++ List.replicate (xs.length - lo) z0).length = xs.length := by simp; omega
      refine .inr ⟨b, off, cap, splice cs (off + lo * n) (List.replicate (xs.length - lo) (enc z0)).flatten, by rw [hlen], by rw [hlen]; exact h1, h2, ?_, ?_, ?_⟩
      · rw [length_splice (by rw [hzlen]; omega)]; exact h3
      · rw [hlen, ← hle2, take_splice (by omega) hzlen (by omega), List.flatMap_append, flatMap_replicate, flatMap_take E.len _ _ hlo, ← h4, List.take_take]
        congr 2; omega
      · funext k; simp only [one]; split <;> rfl
theorem RoOf.same {A : Asrt} {M : List Asrt} (p : Pick L A M) : RoOf c L A := .own p fun _ h => h
theorem RoOf.pass {A : Asrt} (m : A ∈ c.ros) : RoOf c L A := .ro m fun _ h => h
theorem RoOf.via {A B : Asrt} {M : List Asrt} (i : ∀ h, B h → A h) (p : Pick L B M) : RoOf c L A := .own p i

/-! ### results that are read from blocks -/
theorem getD_of {a : Array Value} {t : Nat} {v : Value} (h : a[t]? = some v) : a.getD t undef = v := by
  simp [h]
theorem KP.fin_ct {fn : Func} {Q : Post} {p u : Nat} {ty : TypeId} {xv : Value} [AggT P ty n] (hr : fn.results = #[.cell p ty, .tmp u]) (hv : T.lookup p = some (.pointer (some ⟨b, 0, none⟩))) (hx : T.lookup u = some xv)
    (r : Rd c L (pt b e cs)) (hl : cs.length = n) (f : Fina L (.tuple #[.agg cs.toArray, xv]) Q) : KP c N T L (bodyPost P fn (PostE c Q) .ret) := fun a w g s => by
  obtain ⟨h, ha, hs⟩ := r.frag s
  have hc := Reads.cell (A := pt b e cs) (off := 0) Reads.pt_all ha hs
  have hrd := run_loadCells_list (P := P) w ⟨b, 0, none⟩ cs (fun j v hj => by rw [Addr.add_lit]; exact hc j v hj)
  rw [hl] at hrd
  refine bodyPost_ret (v := .tuple #[.agg cs.toArray, xv]) ?_ g.defers (f.done s)
  rw [results_cell_tmp hr, getD_of (g.at_ p _ hv), getD_of (g.at_ u _ hx)]
  simp [asAddr, loadVar, run_isAgg_agg ty, run_sizeOf_agg ty, hrd]

/-! ### bundles -/
section
variable {fn : Func} {Q : Post} {code : Code}
theorem LiA.of {M : List Asrt} {h : Frag} (s : SatL M h) : LiA M h := s
theorem St.gather {M L' : List Asrt} (s : Split L M L') (i : ∀ h, SatL M h → B h) (st : St c L w) : St c (B :: L') w := by
  obtain ⟨h, x, y, z⟩ := st
  obtain ⟨h1, h2, dj, l1, l2, a, b⟩ := s.sat x
  exact ⟨h, ⟨h1, h2, dj, l1, l2, i _ a, b⟩, y, z⟩
theorem KP.gather {M L' : List Asrt} (s : Split L M L') (i : ∀ h, SatL M h → B h) (h : KP c N T (B :: L') K) : KP c N T L K := fun a w g st => h a w g (st.gather s i)
theorem Fina.gather {M L' : List Asrt} (s : Split L M L') (i : ∀ h, SatL M h → B h) (f : Fina (B :: L') v Q) : Fina L v Q := fun h x => by
  obtain ⟨h1, h2, dj, l1, l2, a, b⟩ := s.sat x
  exact f h ⟨h1, h2, dj, l1, l2, i _ a, b⟩
theorem KP.open1 {β : Sort _} {f : β → List Asrt} {p : β → Prop} (i : ∀ h, A h → ∃ z, p z ∧ SatL (f z) h) (h : ∀ z, p z → KP c N T (f z ++ L) K) : KP c N T (A :: L) K := fun a w g s => by
  obtain ⟨hh, ⟨h1, h2, d, aa, b, x, y⟩, hs, hf⟩ := s
  obtain ⟨z, hp, hz⟩ := i _ x
  exact h z hp a w g ⟨hh, SatL.append d aa b hz y, hs, hf⟩
theorem SatL.add (hB : B (fun _ => none)) {h : Frag} (x : SatL L h) : SatL (B :: L) h := ⟨fun _ => none, h, fun _ => .inl rfl, fun _ _ e => by simp at e, Leq.refl _, hB, x⟩
theorem KP.add (hB : B (fun _ => none)) (h : KP c N T (B :: L) K) : KP c N T L K := fun a w g ⟨hh, x, y, z⟩ => h a w g ⟨hh, SatL.add hB x, y, z⟩
theorem Fina.turn {A' B' : Asrt} {M : List Asrt} (p : Pick L A' M) (i : ∀ h, A' h → B' h) (f : Fina (B' :: M) v Q) : Fina L v Q := fun h x => by
  obtain ⟨h1, h2, dj, l1, l2, a, b⟩ := p.sat x
  exact f h ⟨h1, h2, dj, l1, l2, i _ a, b⟩
theorem CW.roFact {p : Prop} (m : A ∈ c.ros) (i : ∀ h, A h → p) (h : p → CW P c N T L code R) : CW P c N T L code R := fun a w g s => by
  obtain ⟨hh, x, y, z⟩ := s
  obtain ⟨hr, ha, _⟩ := z.ros A m
  exact h (i _ ha) a w g ⟨hh, x, y, z⟩
theorem CW.ownFact {p : Prop} {M : List Asrt} (m : Pick L A M) (i : ∀ h, A h → p) (h : p → CW P c N T L code R) : CW P c N T L code R := fun a w g s => by
  obtain ⟨h1, ha, _⟩ := (s.pick m).sub1
  exact h (i _ ha) a w g s
theorem rrow.le {h : Frag} (r : rrow n enc v xs h) : xs.length ≤ 9223372036854775807 := by
  rcases r with ⟨_, rfl⟩ | ⟨b, off, cap, _, h1, h2, _⟩
  · simp
  · simp only [maxLen] at h2; omega
theorem row.le {h : Frag} (r : row t n enc v xs h) : xs.length ≤ 9223372036854775807 := rrow.le (row.rrow h r)
theorem rrow.one {h : Frag} (r : rrow n enc v xs h) : v.oneCell' = true := by
  rcases r with ⟨rfl | ⟨a, cap, rfl, _⟩, _⟩ | ⟨b, off, cap, rfl, _⟩ <;> rfl
theorem CW.add (hB : B (fun _ => none)) (h : CW P c N T (B :: L) code R) : CW P c N T L code R := KP.add hB h
theorem Fina.add (hB : B (fun _ => none)) (f : Fina (B :: L) v Q) : Fina L v Q := fun h x => f h (SatL.add hB x)
theorem row.none : row t n enc (.slice none 0 0) [] (fun _ => none) := .inl ⟨rfl, rfl⟩
theorem rrow.none : rrow n enc (.slice none 0 0) [] (fun _ => none) := .inl ⟨.inl rfl, rfl⟩
theorem CW.kp (h : KP c N T L (fun a w => code.wp P R a w)) : CW P c N T L code R := h
theorem CW.pk (h : CW P c N T L code R) : KP c N T L (fun a w => code.wp P R a w) := h
theorem Fina.of {A' : Asrt} (f : ∀ h, SatL L h → Q v h) : Fina L v Q := fun h s => ⟨h, Leq.refl _, f h s⟩
end
end
end Go.Ink
