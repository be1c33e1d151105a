/- Ink1: the rules for single operations. -/
import Derived.Test.YtpmhelfdmhjnbaaInk0
namespace Go.Ink
open Go
set_option linter.unusedVariables false
set_option linter.unusedSimpArgs false

section
variable {P : Program} {c : Cx} {N : Nat} {T : Tm} {L : List Asrt} {K : Act → World → Prop} {R : Exit → Act → World → Prop}
variable {ops : Array Oper} {rest : List Oper} {d : Nat} {op : Op} {ty : TypeId} {pos : String} {aft : Array Edge}

/-- A quiet operation: its value, the world as it was. -/
def QY (P : Program) (c : Cx) (N : Nat) (T : Tm) (L : List Asrt) (o : Oper) (v : Value) : Prop := ∀ a w, Ag N a T → St c L w → (execOp a.eval o).run P w = .ok (.value v) w
/-- Any operation, with what follows. -/
def EW (P : Program) (c : Cx) (N : Nat) (T : Tm) (L : List Asrt) (o : Oper) (R : Exit → Act → World → Prop) (K : Act → World → Prop) : Prop := KP c N T L (fun a w => o.wp P a w K R)

theorem QY.ew {o : Oper} {v : Value} (ho : o.dst = some d) (hd : d < N) (q : QY P c N T L o v) (h : KP c N ((d, v) :: T) L K) : EW P c N T L o R K := fun a w g s => by
  show o.upon P a K R ((execOp a.eval o).run P w)
  rw [q a w g s]
  show K (a.put o.dst v) w
  rw [ho]
  exact h _ _ (g.put hd v) s

theorem KP.quiet {v : Value} (q : QY P c N T L ⟨some d, op, ty, pos, aft, none⟩ v) (hd : d < N) (h : KP c N ((d, v) :: T) L (wpList P ops R rest)) :
    KP c N T L (wpList P ops R (⟨some d, op, ty, pos, aft, none⟩ :: rest)) := fun a w g s =>
  wpList_plain rfl fun K' hK' => q.ew (R := R) rfl hd (h.mono hK') a w g s
theorem KP.eff {dst : Option Tmp} (e : EW P c N T L ⟨dst, op, ty, pos, aft, none⟩ R (wpList P ops R rest)) :
    KP c N T L (wpList P ops R (⟨dst, op, ty, pos, aft, none⟩ :: rest)) := fun a w g s =>
  wpList_plain rfl fun K' hK' => Oper.wp_mono hK' (e a w g s)
theorem KP.list_nil (h : KP c N T L (R .normal)) : KP c N T L (wpList P ops R []) := h

theorem CW.region {i : Nat} {l : List Oper} (h : KP c N T L (wpList P l.toArray R l)) : CW P c N T L (.region i l.toArray false) R := fun a w g s => wp_region_lit (h a w g s)

/-! ### guards -/
theorem yielded_at {a : Act} {j t : Nat} {v : Value} (g : Ag N a T) (hj : (ops[j]?).bind (·.dst) = some t) (hv : T.lookup t = some v) :
    yielded ops a.tmps j = match v with | .bool b => some b | _ => none := by
  unfold yielded
  rw [hj]
  simp only [Option.bind_some, g.at_ t v hv]
  cases v <;> rfl
theorem KP.guard_yes {dst : Option Tmp} {j t : Nat} {b : Bool} (hj : (ops[j]?).bind (·.dst) = some t) (hv : T.lookup t = some (.bool b))
    (h : KP c N T L (wpList P ops R (⟨dst, op, ty, pos, aft, none⟩ :: rest))) : KP c N T L (wpList P ops R (⟨dst, op, ty, pos, aft, some (j, b)⟩ :: rest)) := fun a w g s => by
  have h1 := h a w g s
  have hw : Region.wanted (⟨dst, op, ty, pos, aft, some (j, b)⟩ : Oper) (yielded ops a.tmps) = true := by
    simp [Region.wanted, yielded_at g hj hv]
  have hn : Region.wanted (⟨dst, op, ty, pos, aft, none⟩ : Oper) (yielded ops a.tmps) = true := rfl
  unfold wpList at h1 ⊢
  rw [if_pos hw]
  rw [if_pos hn] at h1
  exact h1
theorem KP.guard_skip {dst : Option Tmp} {j t : Nat} {v : Value} {b : Bool} (hj : (ops[j]?).bind (·.dst) = some t) (hv : T.lookup t = some v) (hne : v = .bool (!b) ∨ v = undef)
    (h : KP c N T L (fun a w => wpList P ops R rest (a.put dst undef) w)) : KP c N T L (wpList P ops R (⟨dst, op, ty, pos, aft, some (j, b)⟩ :: rest)) := fun a w g s => by
  have hw : Region.wanted (⟨dst, op, ty, pos, aft, some (j, b)⟩ : Oper) (yielded ops a.tmps) = false := by
    rcases hne with rfl | rfl
    · simp only [Region.wanted, yielded_at g hj hv]; cases b <;> rfl
    · simp only [Region.wanted, yielded_at g hj hv]; rfl
  unfold wpList
  rw [if_neg (by rw [hw]; simp)]
  exact h a w g s
theorem KP.guard_no {d : Nat} {j t : Nat} {b : Bool} (hj : (ops[j]?).bind (·.dst) = some t) (hv : T.lookup t = some (.bool (!b))) (hd : d < N)
    (h : KP c N ((d, undef) :: T) L (wpList P ops R rest)) : KP c N T L (wpList P ops R (⟨some d, op, ty, pos, aft, some (j, b)⟩ :: rest)) :=
  KP.guard_skip hj hv (.inl rfl) fun a w g s => h _ _ (g.put hd undef) s
theorem KP.guard_un {d : Nat} {j t : Nat} {b : Bool} (hj : (ops[j]?).bind (·.dst) = some t) (hv : T.lookup t = some undef) (hd : d < N)
    (h : KP c N ((d, undef) :: T) L (wpList P ops R rest)) : KP c N T L (wpList P ops R (⟨some d, op, ty, pos, aft, some (j, b)⟩ :: rest)) :=
  KP.guard_skip hj hv (.inr rfl) fun a w g s => h _ _ (g.put hd undef) s
theorem KP.guard_no0 {j t : Nat} {b : Bool} (hj : (ops[j]?).bind (·.dst) = some t) (hv : T.lookup t = some (.bool (!b)))
    (h : KP c N T L (wpList P ops R rest)) : KP c N T L (wpList P ops R (⟨none, op, ty, pos, aft, some (j, b)⟩ :: rest)) :=
  KP.guard_skip hj hv (.inl rfl) fun a w g s => h _ _ g s
theorem KP.guard_un0 {j t : Nat} {b : Bool} (hj : (ops[j]?).bind (·.dst) = some t) (hv : T.lookup t = some undef)
    (h : KP c N T L (wpList P ops R rest)) : KP c N T L (wpList P ops R (⟨none, op, ty, pos, aft, some (j, b)⟩ :: rest)) :=
  KP.guard_skip hj hv (.inr rfl) fun a w g s => h _ _ g s
/-- A slot that holds an undecided test: both ways. -/
theorem KP.parts {t : Nat} {b : Bool} (hv : T.lookup t = some (.bool b)) (h1 : b = true → KP c N ((t, .bool true) :: T) L K) (h0 : b = false → KP c N ((t, .bool false) :: T) L K) : KP c N T L K := fun a w g s => by
  have hs : ∀ b', b = b' → Ag N a ((t, .bool b') :: T) := fun b' e => by
    subst e
    exact g.sub fun u v hu => by
      simp only [List.lookup] at hu
      by_cases e : u = t
      · subst e; simp at hu; rw [← hu]; exact hv
      · have : (u == t) = false := by simpa using e
        rw [this] at hu; exact hu
  cases b with
  | true => exact h1 rfl a w (hs true rfl) s
  | false => exact h0 rfl a w (hs false rfl) s
theorem KP.partsP {t : Nat} {p : Prop} [Decidable p] (hv : T.lookup t = some (.bool (decide p))) (h1 : p → KP c N ((t, .bool true) :: T) L K) (h0 : ¬ p → KP c N ((t, .bool false) :: T) L K) : KP c N T L K :=
  KP.parts hv (fun e => h1 (of_decide_eq_true e)) (fun e => h0 (of_decide_eq_false e))

/-! ### operations that look at no memory -/
variable {dst : Option Tmp} {gd : Option (Nat × Bool)} {x y z : Operand} {u v : Value}
theorem QY.move (h : ev T x = some v) : QY P c N T L ⟨dst, .move x, ty, pos, aft, gd⟩ v := fun a w g _ => by simp [execOp, g.ev h]
theorem QY.assign (h : ev T x = some v) : QY P c N T L ⟨dst, .assign x, ty, pos, aft, gd⟩ v := fun a w g _ => by simp [execOp, g.ev h]
theorem QY.pick_t (hc : ev T x = some (.bool true)) (h : ev T y = some v) : QY P c N T L ⟨dst, .pick x y z, ty, pos, aft, gd⟩ v := fun a w g _ => by simp [execOp, g.ev h, g.ev hc, asBool]
theorem QY.pick_f (hc : ev T x = some (.bool false)) (h : ev T z = some v) : QY P c N T L ⟨dst, .pick x y z, ty, pos, aft, gd⟩ v := fun a w g _ => by simp [execOp, g.ev h, g.ev hc, asBool]
theorem QY.nilCheck_ptr {ad : Addr} (h : ev T x = some (.pointer (some ad))) : QY P c N T L ⟨dst, .nilCheck x, ty, pos, aft, gd⟩ (.pointer (some ad)) := fun a w g _ => by simp [execOp, g.ev h]
theorem QY.nilCheck_iface {t : TypeId} (h : ev T x = some (.iface t v)) : QY P c N T L ⟨dst, .nilCheck x, ty, pos, aft, gd⟩ (.iface t v) := fun a w g _ => by simp [execOp, g.ev h]
theorem QY.nilCheck_func {f : FuncId} {fs cs : Array Value} (h : ev T x = some (.func (.func f) fs cs)) : QY P c N T L ⟨dst, .nilCheck x, ty, pos, aft, gd⟩ (.func (.func f) fs cs) := fun a w g _ => by simp [execOp, g.ev h]
theorem QY.makeFunc0 {f : Fn} : QY P c N T L ⟨dst, .makeFunc f #[] #[], ty, pos, aft, gd⟩ (.func f #[] #[]) := fun a w _ _ => by simp [execOp, Instr.makeFunc]
def evs (T : Tm) : List Operand → Option (List Value)
  | [] => some []
  | x :: xs => match ev T x, evs T xs with | some v, some vs => some (v :: vs) | _, _ => none
theorem Ag.evs {a : Act} (g : Ag N a T) : ∀ {xs : List Operand} {vs : List Value}, evs T xs = some vs → xs.map a.eval = vs
  | [], vs, h => by simp [Ink.evs] at h; simp [h]
  | x :: xs, vs, h => by
    simp only [Ink.evs] at h
    cases h1 : Ink.ev T x with
    | none => simp [h1] at h
    | some v1 => cases h2 : Ink.evs T xs with
      | none => simp [h1, h2] at h
      | some v2 => simp [h1, h2] at h; subst h; simp [g.ev h1, Ag.evs g h2]
theorem QY.makeFunc {f : Fn} {xs : List Operand} {vs : List Value} (h : evs T xs = some vs) : QY P c N T L ⟨dst, .makeFunc f #[] xs.toArray, ty, pos, aft, gd⟩ (.func f #[] vs.toArray) := fun a w g _ => by
  have := g.evs h
  simp [execOp, Instr.makeFunc, ← this]
theorem QY.extract {l : List Value} {i : Nat} (h : ev T x = some (.tuple l.toArray)) (hv : l[i]? = some v) : QY P c N T L ⟨dst, .extract x i, ty, pos, aft, gd⟩ v := fun a w g _ => by
  simp [execOp, g.ev h, Instr.extract, hv]

/-! numbers -/
variable {k : IntKind} {m n : Int} {xt yt : TypeId}
theorem QY.add (hx : ev T x = some (.int k m)) (hy : ev T y = some (.int k n)) : QY P c N T L ⟨dst, .binOp .add xt x y yt, ty, pos, aft, gd⟩ (.int k (k.wrap (m + n))) := fun a w g _ => by
  simp [execOp, g.ev hx, g.ev hy, eqGuard_add, binOp_add, Op.intArith]
theorem QY.sub (hx : ev T x = some (.int k m)) (hy : ev T y = some (.int k n)) : QY P c N T L ⟨dst, .binOp .sub xt x y yt, ty, pos, aft, gd⟩ (.int k (k.wrap (m - n))) := fun a w g _ => by
  simp [execOp, g.ev hx, g.ev hy, eqGuard_sub, binOp_sub, Op.intArith]
theorem QY.mul (hx : ev T x = some (.int k m)) (hy : ev T y = some (.int k n)) : QY P c N T L ⟨dst, .binOp .mul xt x y yt, ty, pos, aft, gd⟩ (.int k (k.wrap (m * n))) := fun a w g _ => by
  simp [execOp, g.ev hx, g.ev hy, eqGuard_mul, binOp_mul, Op.intArith]
theorem QY.add64 (hx : ev T x = some (.int .i64 m)) (hy : ev T y = some (.int .i64 n)) (hb : -9223372036854775808 ≤ m + n ∧ m + n ≤ 9223372036854775807) : QY P c N T L ⟨dst, .binOp .add xt x y yt, ty, pos, aft, gd⟩ (.int .i64 (m + n)) := by
  have := QY.add (P := P) (c := c) (N := N) (T := T) (L := L) (dst := dst) (ty := ty) (pos := pos) (aft := aft) (gd := gd) (xt := xt) (yt := yt) hx hy
  rw [IntWalk.i64_in _ hb] at this; exact this
theorem QY.sub64 (hx : ev T x = some (.int .i64 m)) (hy : ev T y = some (.int .i64 n)) (hb : -9223372036854775808 ≤ m - n ∧ m - n ≤ 9223372036854775807) : QY P c N T L ⟨dst, .binOp .sub xt x y yt, ty, pos, aft, gd⟩ (.int .i64 (m - n)) := by
  have := QY.sub (P := P) (c := c) (N := N) (T := T) (L := L) (dst := dst) (ty := ty) (pos := pos) (aft := aft) (gd := gd) (xt := xt) (yt := yt) hx hy
  rw [IntWalk.i64_in _ hb] at this; exact this
theorem QY.mul64 (hx : ev T x = some (.int .i64 m)) (hy : ev T y = some (.int .i64 n)) (hb : -9223372036854775808 ≤ m * n ∧ m * n ≤ 9223372036854775807) : QY P c N T L ⟨dst, .binOp .mul xt x y yt, ty, pos, aft, gd⟩ (.int .i64 (m * n)) := by
  have := QY.mul (P := P) (c := c) (N := N) (T := T) (L := L) (dst := dst) (ty := ty) (pos := pos) (aft := aft) (gd := gd) (xt := xt) (yt := yt) hx hy
  rw [IntWalk.i64_in _ hb] at this; exact this
/-- 'i++' of a counter. -/
theorem QY.inc64 {i : Nat} (hx : ev T x = some (.int .i64 (i : Int))) (hy : ev T y = some (.int .i64 1)) (hb : i < 9223372036854775807) : QY P c N T L ⟨dst, .binOp .add xt x y yt, ty, pos, aft, gd⟩ (.int .i64 ((i + 1 : Nat) : Int)) := by
  have := QY.add64 (P := P) (c := c) (N := N) (T := T) (L := L) (dst := dst) (ty := ty) (pos := pos) (aft := aft) (gd := gd) (xt := xt) (yt := yt) hx hy (by omega)
  exact this
theorem QY.quo (hx : ev T x = some (.int k m)) (hy : ev T y = some (.int k n)) (hn : n ≠ 0) : QY P c N T L ⟨dst, .binOp .quo xt x y yt, ty, pos, aft, gd⟩ (.int k (k.wrap (m.tdiv n))) := fun a w g _ => by
  simp [execOp, g.ev hx, g.ev hy, eqGuard_quo, binOp_quo, Op.intDiv, hn]
theorem QY.quo64 (hx : ev T x = some (.int .i64 m)) (hy : ev T y = some (.int .i64 n)) (hb : 0 ≤ m ∧ m ≤ 9223372036854775807 ∧ 1 ≤ n) : QY P c N T L ⟨dst, .binOp .quo xt x y yt, ty, pos, aft, gd⟩ (.int .i64 (m / n)) := by
  have := QY.quo (P := P) (c := c) (N := N) (T := T) (L := L) (dst := dst) (ty := ty) (pos := pos) (aft := aft) (gd := gd) (xt := xt) (yt := yt) hx hy (by omega)
  rw [IntWalk.i64_quo _ _ hb] at this; exact this
theorem QY.rem (hx : ev T x = some (.int k m)) (hy : ev T y = some (.int k n)) (hn : n ≠ 0) : QY P c N T L ⟨dst, .binOp .rem xt x y yt, ty, pos, aft, gd⟩ (.int k (m.tmod n)) := fun a w g _ => by
  simp [execOp, g.ev hx, g.ev hy, eqGuard_rem, binOp_rem, Op.intDiv, hn]
theorem QY.rem_nn (hx : ev T x = some (.int k m)) (hy : ev T y = some (.int k n)) (hn : n ≠ 0) (hm : 0 ≤ m) : QY P c N T L ⟨dst, .binOp .rem xt x y yt, ty, pos, aft, gd⟩ (.int k (m % n)) := by
  have := QY.rem (P := P) (c := c) (N := N) (T := T) (L := L) (dst := dst) (ty := ty) (pos := pos) (aft := aft) (gd := gd) (xt := xt) (yt := yt) hx hy hn
  rw [Int.tmod_eq_emod_of_nonneg hm] at this; exact this
theorem QY.lss (hx : ev T x = some (.int k m)) (hy : ev T y = some (.int k n)) : QY P c N T L ⟨dst, .binOp .lss xt x y yt, ty, pos, aft, gd⟩ (.bool (decide (m < n))) := fun a w g _ => by
  simp [execOp, g.ev hx, g.ev hy, eqGuard_lss, binOp_lss]
theorem QY.leq (hx : ev T x = some (.int k m)) (hy : ev T y = some (.int k n)) : QY P c N T L ⟨dst, .binOp .leq xt x y yt, ty, pos, aft, gd⟩ (.bool (decide (m ≤ n))) := fun a w g _ => by
  simp [execOp, g.ev hx, g.ev hy, eqGuard_leq, binOp_leq]
theorem QY.gtr (hx : ev T x = some (.int k m)) (hy : ev T y = some (.int k n)) : QY P c N T L ⟨dst, .binOp .gtr xt x y yt, ty, pos, aft, gd⟩ (.bool (decide (n < m))) := fun a w g _ => by
  simp [execOp, g.ev hx, g.ev hy, eqGuard_gtr, binOp_gtr]
theorem QY.geq (hx : ev T x = some (.int k m)) (hy : ev T y = some (.int k n)) : QY P c N T L ⟨dst, .binOp .geq xt x y yt, ty, pos, aft, gd⟩ (.bool (decide (n ≤ m))) := fun a w g _ => by
  simp [execOp, g.ev hx, g.ev hy, eqGuard_geq, binOp_geq]
theorem QY.eql (hx : ev T x = some (.int k m)) (hy : ev T y = some (.int k n)) : QY P c N T L ⟨dst, .binOp .eql xt x y yt, ty, pos, aft, gd⟩ (.bool (decide (m = n))) := fun a w g _ => by
  simp [execOp, g.ev hx, g.ev hy, eqGuard_at_int, binOp_eql]; rfl
theorem QY.neq (hx : ev T x = some (.int k m)) (hy : ev T y = some (.int k n)) : QY P c N T L ⟨dst, .binOp .neq xt x y yt, ty, pos, aft, gd⟩ (.bool (decide (m ≠ n))) := fun a w g _ => by
  simp [execOp, g.ev hx, g.ev hy, eqGuard_at_int, binOp_neq, bne]; rfl
theorem QY.same {o : Oper} (h : QY P c N T L o u) (e : u = v) : QY P c N T L o v := e ▸ h
theorem dec_t {p : Prop} [Decidable p] (h : p) : Value.bool (decide p) = .bool true := by simp [h]
theorem dec_f {p : Prop} [Decidable p] (h : ¬ p) : Value.bool (decide p) = .bool false := by simp [h]
theorem QY.not {b : Bool} (hx : ev T x = some (.bool b)) : QY P c N T L ⟨dst, .unOp .not xt x, ty, pos, aft, gd⟩ (.bool (!b)) := fun a w g _ => by
  simp [execOp, g.ev hx, Op.unary]
theorem QY.notP {p : Prop} [Decidable p] (hx : ev T x = some (.bool (decide p))) : QY P c N T L ⟨dst, .unOp .not xt x, ty, pos, aft, gd⟩ (.bool (decide (¬ p))) :=
  (QY.not hx).same (by simp)
theorem QY.not_t (hx : ev T x = some (.bool true)) : QY P c N T L ⟨dst, .unOp .not xt x, ty, pos, aft, gd⟩ (.bool false) := (QY.not hx).same rfl
theorem QY.not_f (hx : ev T x = some (.bool false)) : QY P c N T L ⟨dst, .unOp .not xt x, ty, pos, aft, gd⟩ (.bool true) := (QY.not hx).same rfl
theorem QY.neg (hx : ev T x = some (.int k m)) : QY P c N T L ⟨dst, .unOp .neg xt x, ty, pos, aft, gd⟩ (.int k (k.wrap (0 - m))) := fun a w g _ => by
  simp [execOp, g.ev hx, Op.unary, Op.intArith]

/-! ### facts on types, told once a program -/
def scalB (P : Program) (t : TypeId) : Bool := match P.underlying t with | some (.struct _) | some (.array _ _) | none => false | some _ => true
/-- A type of one cell that is no struct and no array. -/
class Scal (P : Program) (t : TypeId) : Prop where
  out : scalB P t = true
def aggB (P : Program) (t : TypeId) : Option Nat := match P.underlying t with | some (.struct _) | some (.array _ _) => (P.info? t).map (·.size) | _ => none
class AggT (P : Program) (t : TypeId) (n : outParam Nat) : Prop where
  out : aggB P t = some n
def szB (P : Program) (t : TypeId) : Option (Nat × Nat × Value) := match P.info? t with | some i => (i.zero.map fun z => (i.size, i.bytes, z)) | none => none
class TyI (P : Program) (t : TypeId) (n : outParam Nat) (by_ : outParam Nat) (z : outParam Value) : Prop where
  out : szB P t = some (n, by_, z)
def zlB (P : Program) (t : TypeId) : Option (List Value) := match P.info? t with | some i => i.zero.map fun z => z.cells.toList | none => none
/-- The zero cells of a type, one by one. -/
class TyL (P : Program) (t : TypeId) (zs : outParam (List Value)) : Prop where
  out : zlB P t = some zs
class SliT (P : Program) (t : TypeId) (e : outParam TypeId) : Prop where
  out : P.underlying t = some (.slice e)
class MapT (P : Program) (t : TypeId) (ke e : outParam TypeId) : Prop where
  out : P.underlying t = some (.map ke e)
def fldB (P : Program) (s f : Nat) : Option (Nat × Nat) := match P.underlying s with
  | some (.struct fs) => match fs[f]? with
    | some fl => match P.info? fl.type with
      | some i => if i.size = 0 then none else some (fl.offset, fl.type)
      | none => none
    | none => none
  | _ => none
/-- Field f of the struct s begins at cell o and is of type t. -/
class Fld (P : Program) (s : TypeId) (f : Nat) (o : outParam Nat) (t : outParam TypeId) : Prop where
  out : fldB P s f = some (o, t)
class IntT (P : Program) (t : TypeId) (k : outParam IntKind) : Prop where
  out : P.underlying t = some (.int k)
class StrT (P : Program) (t : TypeId) : Prop where
  out : P.underlying t = some .string
class BoolT (P : Program) (t : TypeId) : Prop where
  out : P.underlying t = some .bool
class PtrT (P : Program) (t : TypeId) : Prop where
  out : ∃ e, P.underlying t = some (.pointer e)
def funB (P : Program) (f : FuncId) : Bool := match P.funcs[f]? with | some fn => !(fn.name == "runtime.NumGoroutine") && fn.body.isSome | none => false
class FunI (P : Program) (f : FuncId) : Prop where
  out : funB P f = true

theorem run_isAgg_scal (t : TypeId) [h : Scal P t] (w : World) : (isAgg t).run P w = .ok false w := by
  have := h.out
  unfold scalB at this
  cases hu : P.underlying t with
  | none => simp [hu] at this
  | some d => cases d <;> simp [hu] at this <;> simp [isAgg, run_underlying hu]
theorem run_isAgg_agg (t : TypeId) {n : Nat} [h : AggT P t n] (w : World) : (isAgg t).run P w = .ok true w := by
  have := h.out
  unfold aggB at this
  cases hu : P.underlying t with
  | none => simp [hu] at this
  | some d => cases d <;> simp [hu] at this <;> simp [isAgg, run_underlying hu]
theorem info_of_agg (t : TypeId) {n : Nat} [h : AggT P t n] : ∃ i, P.info? t = some i ∧ i.size = n := by
  have := h.out
  unfold aggB at this
  cases hu : P.underlying t with
  | none => simp [hu] at this
  | some d => cases d <;> simp [hu] at this <;> exact this
theorem run_sizeOf_agg (t : TypeId) {n : Nat} [AggT P t n] (w : World) : (sizeOf t).run P w = .ok n w := by
  obtain ⟨i, hi, hn⟩ := info_of_agg (P := P) t
  simp [sizeOf, typeInfo, hi, hn]
theorem info_of_ty (t : TypeId) {n b : Nat} {z : Value} [h : TyI P t n b z] : ∃ i, P.info? t = some i ∧ i.size = n ∧ i.bytes = b ∧ i.zero = some z := by
  have := h.out
  unfold szB at this
  cases hi : P.info? t with
  | none => simp [hi] at this
  | some i =>
    simp [hi] at this
    obtain ⟨u, h1, h2, h3, rfl⟩ := this
    exact ⟨i, rfl, h2, h3, h1⟩
theorem run_sizeOf_ty (t : TypeId) {n b : Nat} {z : Value} [TyI P t n b z] (w : World) : (sizeOf t).run P w = .ok n w := by
  obtain ⟨i, hi, h1, _, _⟩ := info_of_ty (P := P) t
  simp [sizeOf, typeInfo, hi, h1]
theorem run_zero_ty (t : TypeId) {n b : Nat} {z : Value} [TyI P t n b z] (w : World) : (zeroValue t).run P w = .ok z w := by
  obtain ⟨i, hi, _, _, h⟩ := info_of_ty (P := P) t
  simp [zeroValue, typeInfo, hi, h]

/-! ### addresses of fields, fields of a value -/
variable {s f o : Nat} {t : TypeId} {b off : Nat}
theorem fld_parts (s f : Nat) {o : Nat} {t : TypeId} [h : Fld P s f o t] : ∃ fs fl i, P.underlying s = some (.struct fs) ∧ fs[f]? = some fl ∧ fl.offset = o ∧ fl.type = t ∧ P.info? t = some i ∧ i.size ≠ 0 := by
  have := h.out
  unfold fldB at this
  split at this
  · rename_i fs hs
    split at this
    · rename_i fl hf
      split at this
      · rename_i i hi
        split at this
        · simp at this
        · rename_i hz
          simp at this
          exact ⟨fs, fl, i, hs, hf, this.1, this.2, this.2 ▸ hi, hz⟩
      · simp at this
    · simp at this
  · simp at this
theorem QY.fieldAddr [Fld P s f o t] (hx : ev T x = some (.pointer (some ⟨b, off, none⟩))) : QY P c N T L ⟨dst, .fieldAddr s x f, ty, pos, aft, gd⟩ (.pointer (some ⟨b, off + o, none⟩)) := fun a w g _ => by
  obtain ⟨fs, fl, i, h1, h2, h3, h4, h5, h6⟩ := fld_parts (P := P) s f
  simp [execOp, g.ev hx, Instr.fieldAt, run_underlying h1, h2, Instr.sureAddr, fieldPlace, sizeOf, typeInfo, h4, h5, h6, h3, Addr.add_lit]
/-- .. of the first field: the address as it is. -/
theorem QY.fieldAddr0 [Fld P s f 0 t] (hx : ev T x = some (.pointer (some ⟨b, off, none⟩))) : QY P c N T L ⟨dst, .fieldAddr s x f, ty, pos, aft, gd⟩ (.pointer (some ⟨b, off, none⟩)) :=
  (QY.fieldAddr (o := 0) hx).same rfl
theorem QY.field_s [Fld P s f o t] [Scal P t] {cs : List Value} (hx : ev T x = some (.agg cs.toArray)) (hv : cs[o]? = some v) : QY P c N T L ⟨dst, .field s x f, ty, pos, aft, gd⟩ v := fun a w g _ => by
  obtain ⟨fs, fl, i, h1, h2, h3, h4, h5, h6⟩ := fld_parts (P := P) s f
  simp [execOp, g.ev hx, Instr.field, run_underlying h1, h2, asAgg, part, h4, run_isAgg_scal t, h3, hv]
theorem QY.field_a [Fld P s f o t] {n : Nat} [AggT P t n] {cs : List Value} (hx : ev T x = some (.agg cs.toArray)) : QY P c N T L ⟨dst, .field s x f, ty, pos, aft, gd⟩ (.agg ((cs.drop o).take n).toArray) := fun a w g _ => by
  obtain ⟨fs, fl, i, h1, h2, h3, h4, h5, h6⟩ := fld_parts (P := P) s f
  have e : (cs.toArray.extract o (o + n)) = ((cs.drop o).take n).toArray := by
    apply Array.ext'
    simp [Array.toList_extract, List.extract, List.drop_take]
  simp [execOp, g.ev hx, Instr.field, run_underlying h1, h2, asAgg, part, h4, run_isAgg_agg t, h3, run_sizeOf_agg t, e]
end
end Go.Ink
