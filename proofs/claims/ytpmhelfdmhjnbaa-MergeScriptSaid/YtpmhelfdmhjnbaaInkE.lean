/- InkE: whole numbers that are counts; shifts. -/
import Derived.Test.YtpmhelfdmhjnbaaInkB
namespace Go.Ink
open Go
set_option linter.unusedVariables false
set_option linter.unusedSimpArgs false
section
variable {P : Program} {c : Cx} {N : Nat} {T : Tm} {L L' M L1 : List Asrt}
variable {dst : Option Tmp} {gd : Option (Nat × Bool)} {x y z : Operand} {u v : Value} {ty t e : TypeId} {pos : String} {aft : Array Edge} {m n : Nat} {xt yt : TypeId}
theorem QY.addN (hx : ev T x = some (.int .i64 (m : Int))) (hy : ev T y = some (.int .i64 (n : Int))) (hb : m + n ≤ 9223372036854775807) : QY P c N T L ⟨dst, .binOp .add xt x y yt, ty, pos, aft, gd⟩ (.int .i64 ((m + n : Nat) : Int)) := by
  have := QY.add64 (P := P) (c := c) (N := N) (T := T) (L := L) (dst := dst) (ty := ty) (pos := pos) (aft := aft) (gd := gd) (xt := xt) (yt := yt) hx hy (by omega)
  exact this
theorem QY.add1N (hx : ev T x = some (.int .i64 1)) (hy : ev T y = some (.int .i64 (n : Int))) (hb : 1 + n ≤ 9223372036854775807) : QY P c N T L ⟨dst, .binOp .add xt x y yt, ty, pos, aft, gd⟩ (.int .i64 ((1 + n : Nat) : Int)) := QY.addN (m := 1) hx hy hb
theorem QY.subN (hx : ev T x = some (.int .i64 (m : Int))) (hy : ev T y = some (.int .i64 (n : Int))) (hb : n ≤ m ∧ m ≤ 9223372036854775807) : QY P c N T L ⟨dst, .binOp .sub xt x y yt, ty, pos, aft, gd⟩ (.int .i64 ((m - n : Nat) : Int)) := by
  have := QY.sub64 (P := P) (c := c) (N := N) (T := T) (L := L) (dst := dst) (ty := ty) (pos := pos) (aft := aft) (gd := gd) (xt := xt) (yt := yt) hx hy (by omega)
  rw [show ((m - n : Nat) : Int) = (m : Int) - (n : Int) by omega]; exact this
theorem QY.sub1N (hx : ev T x = some (.int .i64 (m : Int))) (hy : ev T y = some (.int .i64 1)) (hb : 1 ≤ m ∧ m ≤ 9223372036854775807) : QY P c N T L ⟨dst, .binOp .sub xt x y yt, ty, pos, aft, gd⟩ (.int .i64 ((m - 1 : Nat) : Int)) := QY.subN (n := 1) hx hy hb
theorem QY.mul2N (hx : ev T x = some (.int .i64 2)) (hy : ev T y = some (.int .i64 (n : Int))) (hb : 2 * n ≤ 9223372036854775807) : QY P c N T L ⟨dst, .binOp .mul xt x y yt, ty, pos, aft, gd⟩ (.int .i64 ((2 * n : Nat) : Int)) := by
  have := QY.mul64 (P := P) (c := c) (N := N) (T := T) (L := L) (dst := dst) (ty := ty) (pos := pos) (aft := aft) (gd := gd) (xt := xt) (yt := yt) hx hy (by omega)
  rw [show ((2 * n : Nat) : Int) = 2 * (n : Int) by omega]; exact this
theorem QY.mulN2 (hx : ev T x = some (.int .i64 (m : Int))) (hy : ev T y = some (.int .i64 2)) (hb : m * 2 ≤ 9223372036854775807) : QY P c N T L ⟨dst, .binOp .mul xt x y yt, ty, pos, aft, gd⟩ (.int .i64 ((m * 2 : Nat) : Int)) := by
  have := QY.mul64 (P := P) (c := c) (N := N) (T := T) (L := L) (dst := dst) (ty := ty) (pos := pos) (aft := aft) (gd := gd) (xt := xt) (yt := yt) hx hy (by omega)
  rw [show ((m * 2 : Nat) : Int) = (m : Int) * 2 by omega]; exact this
theorem QY.mulN (hx : ev T x = some (.int .i64 (m : Int))) (hy : ev T y = some (.int .i64 (n : Int))) (hb : m * n ≤ 9223372036854775807) : QY P c N T L ⟨dst, .binOp .mul xt x y yt, ty, pos, aft, gd⟩ (.int .i64 ((m * n : Nat) : Int)) := by
  have h0 : ((m * n : Nat) : Int) = (m : Int) * (n : Int) := Int.natCast_mul m n
  have := QY.mul64 (P := P) (c := c) (N := N) (T := T) (L := L) (dst := dst) (ty := ty) (pos := pos) (aft := aft) (gd := gd) (xt := xt) (yt := yt) hx hy (by rw [← h0]; omega)
  rw [h0]; exact this
theorem QY.minN {ts : Array TypeId} {k k' : IntKind} (hx : ev T x = some (.int k (m : Int))) (hy : ev T y = some (.int k' (n : Int))) : QY P c N T L ⟨dst, .call { callee := .builtin .min, args := #[x, y], argTypes := ts }, ty, pos, aft, gd⟩ (.int k ((min m n : Nat) : Int)) := by
  have := QY.min2 (P := P) (c := c) (N := N) (T := T) (L := L) (dst := dst) (ty := ty) (pos := pos) (aft := aft) (gd := gd) (ts := ts) hx hy
  rw [show ((min m n : Nat) : Int) = min (m : Int) (n : Int) by omega]; exact this
theorem QY.maxN {ts : Array TypeId} {k k' : IntKind} (hx : ev T x = some (.int k (m : Int))) (hy : ev T y = some (.int k' (n : Int))) : QY P c N T L ⟨dst, .call { callee := .builtin .max, args := #[x, y], argTypes := ts }, ty, pos, aft, gd⟩ (.int k ((max m n : Nat) : Int)) := by
  have := QY.max2 (P := P) (c := c) (N := N) (T := T) (L := L) (dst := dst) (ty := ty) (pos := pos) (aft := aft) (gd := gd) (ts := ts) hx hy
  rw [show ((max m n : Nat) : Int) = max (m : Int) (n : Int) by omega]; exact this
theorem wrap_u64 (h : m ≤ 9223372036854775807) : IntKind.u64.wrap (m : Int) = m := by
  show (m : Int) % 18446744073709551616 = m
  omega
theorem QY.toU (hx : ev T x = some (.int .i64 (m : Int))) [h1 : IntT P yt .u64] [h2 : IntT P xt .i64] (hb : m ≤ 9223372036854775807) : QY P c N T L ⟨dst, .convert xt yt x, ty, pos, aft, gd⟩ (.int .u64 (m : Int)) := by
  have := QY.conv_int (P := P) (c := c) (N := N) (T := T) (L := L) (dst := dst) (ty := ty) (pos := pos) (aft := aft) (gd := gd) (dt := yt) (st' := xt) hx
  rw [wrap_u64 hb] at this; exact this
theorem QY.toI (hx : ev T x = some (.int .u64 (m : Int))) [h1 : IntT P yt .i64] [h2 : IntT P xt .u64] (hb : m ≤ 9223372036854775807) : QY P c N T L ⟨dst, .convert xt yt x, ty, pos, aft, gd⟩ (.int .i64 (m : Int)) := by
  have := QY.conv_int (P := P) (c := c) (N := N) (T := T) (L := L) (dst := dst) (ty := ty) (pos := pos) (aft := aft) (gd := gd) (dt := yt) (st' := xt) hx
  rw [IntWalk.i64_in _ (by omega)] at this; exact this
theorem QY.half (hx : ev T x = some (.int .u64 (m : Int))) (hy : ev T y = some (.int .u64 1)) : QY P c N T L ⟨dst, .binOp .shr xt x y yt, ty, pos, aft, gd⟩ (.int .u64 ((m / 2 : Nat) : Int)) := fun a w g _ => by
  have h := shift_shr .u64 .u64 (m : Int) 1 (by decide) (by decide)
  have e : ((m / 2 : Nat) : Int) = (m : Int) / 2 ^ (1 : Int).toNat := by simp
  simp [execOp, g.ev hx, g.ev hy, eqGuard_shr, binOp_shr, h]
end
/-! ### lists by pieces -/
theorem get_mid {α : Type _} {X Y : List α} {x : α} {n : Nat} (h : n = X.length) : (X ++ x :: Y)[n]? = some x := by subst h; simp
theorem set_mid {α : Type _} {X Y : List α} {x y : α} {n : Nat} (h : n = X.length) : (X ++ x :: Y).set n y = X ++ y :: Y := by subst h; simp
theorem get_in {α : Type _} {X B Y : List α} {n : Nat} (h1 : X.length ≤ n) (h2 : n - X.length < B.length) : (X ++ (B ++ Y))[n]? = B[n - X.length]? := by
  rw [List.getElem?_append_right h1, List.getElem?_append_left h2]
end Go.Ink
