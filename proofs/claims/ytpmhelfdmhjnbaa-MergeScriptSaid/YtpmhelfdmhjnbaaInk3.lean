/- Ink3: rows (slices of elements told by 'enc'), their reads and writes; append; cuts; make; lengths; comparisons with nil. -/
import Derived.Test.YtpmhelfdmhjnbaaInk2
namespace Go.Ink
open Go
set_option linter.unusedVariables false
set_option linter.unusedSimpArgs false

class Enc {α : Type _} (enc : α → List Value) (n : outParam Nat) : Prop where
  len : ∀ x, (enc x).length = n
  pos : 0 < n
  one : ∀ x u, u ∈ enc x → u.oneCell' = true

def vb : Value → Nat | .slice (some a) _ _ => a.block | _ => 0
def vo : Value → Nat | .slice (some a) _ _ => a.off | _ => 0

section
variable {α : Type _} {enc : α → List Value} {n : Nat}

theorem flatMap_length (hl : ∀ x, (enc x).length = n) : ∀ xs : List α, (xs.flatMap enc).length = xs.length * n
  | [] => by simp
  | x :: xs => by simp [List.flatMap_cons, hl x, flatMap_length hl xs, Nat.add_mul]; omega
theorem flatMap_at (hl : ∀ x, (enc x).length = n) : ∀ (xs : List α) (i j : Nat) (x : α), xs[i]? = some x → j < n → (xs.flatMap enc)[i * n + j]? = (enc x)[j]?
  | [], i, j, x, h, _ => by simp at h
  | y :: xs, 0, j, x, h, hj => by
    simp at h; subst h
    simp only [List.flatMap_cons, Nat.zero_mul, Nat.zero_add]
    rw [List.getElem?_append_left (by rw [hl]; exact hj)]
  | y :: xs, i + 1, j, x, h, hj => by
    simp only [List.flatMap_cons]
    rw [List.getElem?_append_right (by rw [hl, Nat.add_mul]; omega), hl]
    have := flatMap_at hl xs i j x (by simpa using h) hj
    rw [← this]; congr 1; rw [Nat.add_mul]; omega

/-- The cells from off on, as far as cs goes. -/
def Cells (h : Frag) (b off : Nat) (cs : List Value) : Prop := ∀ j v, cs[j]? = some v → ∃ arr e fr, h b = some (.cells arr e fr) ∧ arr[off + j]? = some v

/-- A slice that is only read. -/
def rrow (n : Nat) (enc : α → List Value) (v : Value) (xs : List α) : Asrt := fun h =>
  ((v = .slice none 0 0 ∨ ∃ a cap, v = .slice (some a) 0 cap ∧ cap ≤ maxLen) ∧ xs = []) ∨ ∃ b off cap, v = .slice (some ⟨b, off, none⟩) xs.length cap ∧ xs.length ≤ cap ∧ cap ≤ maxLen ∧ Cells h b off (xs.flatMap enc)
/-- A slice that is owned, with all of its block. -/
def row (t : TypeId) (n : Nat) (enc : α → List Value) (v : Value) (xs : List α) : Asrt := fun h =>
  (v = .slice none 0 0 ∧ xs = []) ∨ ∃ (b off cap : Nat) (cs : List Value), v = .slice (some ⟨b, off, none⟩) xs.length cap ∧ xs.length ≤ cap ∧ cap ≤ maxLen ∧ off + cap * n ≤ cs.length ∧ (cs.drop off).take (xs.length * n) = xs.flatMap enc ∧ h = one b (.cells cs.toArray t)

theorem row.rrow {t : TypeId} {v : Value} {xs : List α} : ∀ h, row t n enc v xs h → rrow n enc v xs h := by
  rintro h (⟨e, x⟩ | ⟨b, off, cap, cs, hv, h1, h2, h3, h4, rfl⟩)
  · exact .inl ⟨.inl e, x⟩
  · refine .inr ⟨b, off, cap, hv, h1, h2, fun j v hj => ⟨cs.toArray, t, (0, 0), one_self _ _, ?_⟩⟩
    rw [← h4, List.getElem?_take] at hj
    split at hj
    · simpa [List.getElem?_drop] using hj
    · simp at hj

/-- An assertion that tells a slice's elements. -/
def RowL (A : Asrt) (n : Nat) (enc : α → List Value) (v : Value) (xs : List α) : Prop := ∀ h, A h → rrow n enc v xs h
theorem RowL.row {t : TypeId} {v : Value} {xs : List α} : RowL (row t n enc v xs) n enc v xs := row.rrow
theorem RowL.rrow {v : Value} {xs : List α} : RowL (rrow n enc v xs) n enc v xs := fun _ h => h
theorem RowL.nil {A : Asrt} : RowL A n enc (.slice none 0 0) [] := fun _ _ => .inl ⟨.inl rfl, rfl⟩
theorem RowL.pt {b : Nat} {t : TypeId} {cs : List Value} {xs : List α} (h : cs = xs.flatMap enc) (hl : xs.length ≤ maxLen) : RowL (pt b t cs) n enc (.slice (some ⟨b, 0, none⟩) xs.length xs.length) xs := by
  rintro _ rfl
  exact .inr ⟨b, 0, xs.length, rfl, Nat.le_refl _, hl, fun j v hj => ⟨cs.toArray, t, (0, 0), one_self _ _, by rw [h]; simpa using hj⟩⟩

theorem RowL.len {A : Asrt} {v : Value} {xs : List α} (r : RowL A n enc v xs) {h : Frag} (ha : A h) : ∃ a cap, v = .slice a xs.length cap ∧ xs.length ≤ cap ∧ cap ≤ maxLen := by
  rcases r h ha with ⟨e | ⟨a, cap, e, hc⟩, x⟩ | ⟨b, off, cap, hv, h1, h2, _⟩
  · exact ⟨none, 0, by rw [e, x]; rfl, by simp [x], Nat.zero_le _⟩
  · exact ⟨some a, cap, by rw [e, x]; rfl, by simp [x], hc⟩
  · exact ⟨_, _, hv, h1, h2⟩
theorem Reads.row [E : Enc enc n] {A : Asrt} {v : Value} {xs : List α} (r : RowL A n enc v xs) {i : Nat} {x : α} (hx : xs[i]? = some x) : Reads A (vb v) (vo v + i * n) (enc x) := by
  intro h ha j u hj
  have hjn : j < n := by rw [← E.len x]; exact (List.getElem?_eq_some_iff.1 hj).1
  rcases r h ha with ⟨e, xe⟩ | ⟨b, off, cap, hv, h1, h2, hc⟩
  · subst xe; simp at hx
  · subst hv
    obtain ⟨arr, e, fr, h3, h4⟩ := hc (i * n + j) u (by rw [flatMap_at E.len xs i j x hx hjn]; exact hj)
    exact ⟨arr, e, fr, h3, by simp only [vo]; rw [Nat.add_assoc]; exact h4⟩
theorem Reads.row1 [E : Enc enc n] {A : Asrt} {v u : Value} {xs : List α} (r : RowL A n enc v xs) {i o : Nat} {x : α} (hx : xs[i]? = some x) (ho : (enc x)[o]? = some u) : Reads A (vb v) (vo v + i * n + o) [u] := by
  intro h ha j w hj
  cases j with
  | succ j => simp at hj
  | zero =>
    simp at hj; subst hj
    have := Reads.row r hx h ha o u ho
    simpa using this
/-- .. at the element's first cell. -/
theorem Reads.row0 [E : Enc enc n] {A : Asrt} {v u : Value} {xs : List α} (r : RowL A n enc v xs) {i : Nat} {x : α} (hx : xs[i]? = some x) (ho : (enc x)[0]? = some u) : Reads A (vb v) (vo v + i * n) [u] := Reads.row1 (o := 0) r hx ho
end

section
variable {P : Program} {c : Cx} {N : Nat} {T : Tm} {L M : List Asrt} {K : Act → World → Prop} {R : Exit → Act → World → Prop} {w : World} {A B : Asrt}
variable {dst : Option Tmp} {gd : Option (Nat × Bool)} {x y z : Operand} {u v : Value} {ty t e : TypeId} {pos : String} {aft : Array Edge} {b off o n d : Nat} {cs : List Value}
variable {α : Type _} {enc : α → List Value} {xs ys : List α} {k : IntKind} {m : Int}

/-! lengths -/
theorem run_len (t ty : TypeId) [h : SliT P t e] (a : Option Addr) (l cp : Nat) (w : World) : (Builtin.len_ #[t] ty #[.slice a l cp]).run P w = .ok (.int .i64 l) w := by
  simp [Builtin.len_, run_underlying h.out, goInt]
theorem QY.len [SliT P t e] {a : Option Addr} {l cp : Nat} (hx : ev T x = some (.slice a l cp)) : QY P c N T L ⟨dst, .call { callee := .builtin .len, args := #[x], argTypes := #[t] }, ty, pos, aft, gd⟩ (.int .i64 l) := fun aa w g _ => by
  simp [execOp, resolve, invoke, builtin, g.ev hx, run_len (P := P) t ty a l cp w]
theorem QY.len_row [SliT P t e] (hx : ev T x = some v) (r : Rd c L A) (rl : RowL A n enc v xs) : QY P c N T L ⟨dst, .call { callee := .builtin .len, args := #[x], argTypes := #[t] }, ty, pos, aft, gd⟩ (.int .i64 xs.length) := fun aa w g s => by
  obtain ⟨h, ha, _⟩ := r.frag s
  obtain ⟨a, cp, rfl, _⟩ := rl.len ha
  simp [execOp, resolve, invoke, builtin, g.ev hx, run_len (P := P) t ty a xs.length cp w]
theorem QY.len_str [S : StrT P t] {s : ByteArray} (hx : ev T x = some (.string s)) : QY P c N T L ⟨dst, .call { callee := .builtin .len, args := #[x], argTypes := #[t] }, ty, pos, aft, gd⟩ (.int .i64 s.size) := fun aa w g _ => by
  simp [execOp, resolve, invoke, builtin, g.ev hx, Builtin.len_, run_underlying S.out, goInt]

/-! addresses of elements -/
theorem run_index (t : TypeId) {by_ : Nat} {z : Value} [S : SliT P t e] [TyI P e n by_ z] (b off l cp i : Nat) (k : IntKind) (hi : i < l) (w : World) : (Instr.indexAt t (.slice (some ⟨b, off, none⟩) l cp) (.int k (i : Int))).run P w = .ok (.pointer (some ⟨b, off + i * n, none⟩)) w := by
  have h1 : (0 : Int) ≤ (i : Int) ∧ (i : Int) < (l : Int) := by omega
  simp [Instr.indexAt, asIntOf, run_underlying S.out, run_sizeOf_ty e, Addr.add_lit]
  omega
theorem QY.index {by_ : Nat} {z : Value} [SliT P t e] [TyI P e n by_ z] {i : Nat} (hx : ev T x = some v) (hy : ev T y = some (.int k (i : Int))) (r : Rd c L A) (rl : RowL A n enc v xs) (hi : i < xs.length) :
    QY P c N T L ⟨dst, .indexAddr t x y, ty, pos, aft, gd⟩ (.pointer (some ⟨vb v, vo v + i * n, none⟩)) := fun aa w g s => by
  obtain ⟨h, ha, _⟩ := r.frag s
  rcases rl h ha with ⟨e, xe⟩ | ⟨b, off, cap, hv, h1, h2, _⟩
  · subst xe; simp at hi
  · subst hv
    simp [execOp, g.ev hx, g.ev hy, run_index (P := P) t b off xs.length cap i k hi w, vb, vo]
/-- .. where the index is a number that is no cast. -/
theorem QY.indexI {by_ : Nat} {z : Value} [SliT P t e] [TyI P e n by_ z] (hx : ev T x = some v) (hy : ev T y = some (.int k m)) (r : Rd c L A) (rl : RowL A n enc v xs) (h0 : 0 ≤ m) (hi : m < xs.length) :
    QY P c N T L ⟨dst, .indexAddr t x y, ty, pos, aft, gd⟩ (.pointer (some ⟨vb v, vo v + m.toNat * n, none⟩)) := by
  obtain ⟨i, rfl⟩ := Int.eq_ofNat_of_zero_le h0
  exact QY.index hx hy r rl (by omega)
/-- .. the first element. -/
theorem QY.index0 {by_ : Nat} {z : Value} [SliT P t e] [TyI P e n by_ z] (hx : ev T x = some v) (hy : ev T y = some (.int k 0)) (r : Rd c L A) (rl : RowL A n enc v xs) (hi : 0 < xs.length) :
    QY P c N T L ⟨dst, .indexAddr t x y, ty, pos, aft, gd⟩ (.pointer (some ⟨vb v, vo v + 0 * n, none⟩)) := QY.index (i := 0) hx hy r rl hi

/-! comparisons with nil -/
theorem equalIn_ptr_nil [h : PtrT P t] (d : Nat) (a : Option Addr) (w : World) : (Op.equalIn (d + 1) t (.pointer a) (.pointer none)).run P w = .ok a.isNone w := by
  obtain ⟨e, h⟩ := h.out
  cases a <;> simp [Op.equalIn, run_underlying h]
theorem equal_ptr_nil [PtrT P t] (a : Option Addr) (w : World) : (Op.equal t (.pointer a) (.pointer none)).run P w = .ok a.isNone w := equalIn_ptr_nil 9999 a w
theorem equalIn_sl_nil [h : SliT P t e] (d : Nat) (a : Option Addr) (l cp : Nat) (w : World) : (Op.equalIn (d + 1) t (.slice a l cp) (.slice none 0 0)).run P w = .ok a.isNone w := by
  cases a <;> simp [Op.equalIn, run_underlying h.out]
theorem equal_sl_nil [SliT P t e] (a : Option Addr) (l cp : Nat) (w : World) : (Op.equal t (.slice a l cp) (.slice none 0 0)).run P w = .ok a.isNone w := equalIn_sl_nil 9999 a l cp w
theorem equalIn_bool [h : BoolT P t] (d : Nat) (p q : Bool) (w : World) : (Op.equalIn (d + 1) t (.bool p) (.bool q)).run P w = .ok (p == q) w := by
  simp [Op.equalIn, run_underlying h.out]
theorem equal_bool [BoolT P t] (p q : Bool) (w : World) : (Op.equal t (.bool p) (.bool q)).run P w = .ok (p == q) w := equalIn_bool 9999 p q w
theorem QY.eqnil [PtrT P t] {a : Option Addr} (hx : ev T x = some (.pointer a)) (hy : ev T y = some (.pointer none)) : QY P c N T L ⟨dst, .binOp .eql t x y o, ty, pos, aft, gd⟩ (.bool a.isNone) := fun aa w g _ => by
  simp [execOp, g.ev hx, g.ev hy, eqGuard_at_pointer, binOp, equal_ptr_nil (P := P) (t := t) a w]
theorem QY.nenil [PtrT P t] {a : Option Addr} (hx : ev T x = some (.pointer a)) (hy : ev T y = some (.pointer none)) : QY P c N T L ⟨dst, .binOp .neq t x y o, ty, pos, aft, gd⟩ (.bool (!a.isNone)) := fun aa w g _ => by
  simp [execOp, g.ev hx, g.ev hy, eqGuard_at_pointer, binOp, equal_ptr_nil (P := P) (t := t) a w]
theorem QY.eqnil_s [PtrT P t] {a : Addr} (hx : ev T x = some (.pointer (some a))) (hy : ev T y = some (.pointer none)) : QY P c N T L ⟨dst, .binOp .eql t x y o, ty, pos, aft, gd⟩ (.bool false) := QY.eqnil hx hy
theorem QY.eqnil_n [PtrT P t] (hx : ev T x = some (.pointer none)) (hy : ev T y = some (.pointer none)) : QY P c N T L ⟨dst, .binOp .eql t x y o, ty, pos, aft, gd⟩ (.bool true) := QY.eqnil hx hy
theorem QY.nenil_s [PtrT P t] {a : Addr} (hx : ev T x = some (.pointer (some a))) (hy : ev T y = some (.pointer none)) : QY P c N T L ⟨dst, .binOp .neq t x y o, ty, pos, aft, gd⟩ (.bool true) := QY.nenil hx hy
theorem QY.nenil_n [PtrT P t] (hx : ev T x = some (.pointer none)) (hy : ev T y = some (.pointer none)) : QY P c N T L ⟨dst, .binOp .neq t x y o, ty, pos, aft, gd⟩ (.bool false) := QY.nenil hx hy
def vnil : Value → Bool | .slice none _ _ => true | _ => false
theorem QY.slnil [S : SliT P t e] (hx : ev T x = some v) (r : Rd c L A) (rl : RowL A n enc v xs) (hy : ev T y = some (.slice none 0 0)) : QY P c N T L ⟨dst, .binOp .eql t x y o, ty, pos, aft, gd⟩ (.bool (vnil v)) := fun aa w g s => by
  obtain ⟨h, ha, _⟩ := r.frag s
  obtain ⟨a, cp, rfl, _⟩ := rl.len ha
  have := equal_sl_nil (P := P) (t := t) a xs.length cp w
  cases a <;> simp [execOp, g.ev hx, g.ev hy, eqGuard_at_slice, binOp, this, vnil]

/-! equal strings, equal bools -/
theorem toList_beq (a b : ByteArray) : (a.toList == b.toList) = decide (a = b) := by
  rw [ByteArray.toList_eq, ByteArray.toList_eq]
  obtain ⟨⟨x⟩⟩ := a
  obtain ⟨⟨y⟩⟩ := b
  by_cases h : x = y
  · subst h; simp
  · simp [h]
theorem QY.eq_str {s r : ByteArray} {st st' : TypeId} (hx : ev T x = some (.string s)) (hy : ev T y = some (.string r)) : QY P c N T L ⟨dst, .binOp .eql st x y st', ty, pos, aft, gd⟩ (.bool (decide (s = r))) := fun aa w g _ => by
  simp [execOp, g.ev hx, g.ev hy, eqGuard_at_string, binOp, Op.stringOp, toList_beq]
theorem QY.ne_str {s r : ByteArray} {st st' : TypeId} (hx : ev T x = some (.string s)) (hy : ev T y = some (.string r)) : QY P c N T L ⟨dst, .binOp .neq st x y st', ty, pos, aft, gd⟩ (.bool (decide (s ≠ r))) := fun aa w g _ => by
  simp [execOp, g.ev hx, g.ev hy, eqGuard_at_string, binOp, Op.stringOp, toList_beq]
theorem QY.eq_bool {p q : Bool} {st' : TypeId} [BoolT P t] (hx : ev T x = some (.bool p)) (hy : ev T y = some (.bool q)) : QY P c N T L ⟨dst, .binOp .eql t x y st', ty, pos, aft, gd⟩ (.bool (p == q)) := fun aa w g _ => by
  simp [execOp, g.ev hx, g.ev hy, eqGuard_at_bool, binOp, equal_bool (P := P) (t := t) p q w]
theorem QY.ne_bool {p q : Bool} {st' : TypeId} [BoolT P t] (hx : ev T x = some (.bool p)) (hy : ev T y = some (.bool q)) : QY P c N T L ⟨dst, .binOp .neq t x y st', ty, pos, aft, gd⟩ (.bool (p != q)) := fun aa w g _ => by
  simp [execOp, g.ev hx, g.ev hy, eqGuard_at_bool, binOp, equal_bool (P := P) (t := t) p q w, bne]
end
end Go.Ink
