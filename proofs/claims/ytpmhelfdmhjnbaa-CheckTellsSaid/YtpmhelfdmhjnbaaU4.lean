import Derived.Test.YtpmhelfdmhjnbaaU3
/- The reference's runes. -/
namespace Go.Proofs.Ytpmhelfdmhjnbaa
open Go Go.Ink Go.Plain
set_option linter.unusedVariables false
set_option linter.unusedSimpArgs false
attribute [local irreducible] KP QY EW CW DW DX QG CP Spc DK Fina wpList lessF lent

section
variable {P : Program} {c : Cx} {N : Nat} {T : Tm} {L : List Asrt} {dst : Option Tmp} {gd : Option (Nat × Bool)} {ty xt yt : TypeId} {pos : String} {aft : Array Edge} {x y : Operand} {m n : Int}
theorem QY.add32 (hx : ev T x = some (.int .i32 m)) (hy : ev T y = some (.int .i32 n)) (hb : -2147483648 ≤ m + n ∧ m + n ≤ 2147483647) : QY P c N T L ⟨dst, .binOp .add xt x y yt, ty, pos, aft, gd⟩ (.int .i32 (m + n)) := by
  have := QY.add (P := P) (c := c) (N := N) (T := T) (L := L) (dst := dst) (ty := ty) (pos := pos) (aft := aft) (gd := gd) (xt := xt) (yt := yt) hx hy
  rw [IntWalk.i32_in _ hb] at this; exact this
theorem QY.sub32 (hx : ev T x = some (.int .i32 m)) (hy : ev T y = some (.int .i32 n)) (hb : -2147483648 ≤ m - n ∧ m - n ≤ 2147483647) : QY P c N T L ⟨dst, .binOp .sub xt x y yt, ty, pos, aft, gd⟩ (.int .i32 (m - n)) := by
  have := QY.sub (P := P) (c := c) (N := N) (T := T) (L := L) (dst := dst) (ty := ty) (pos := pos) (aft := aft) (gd := gd) (xt := xt) (yt := yt) hx hy
  rw [IntWalk.i32_in _ hb] at this; exact this
theorem QY.mul32 (hx : ev T x = some (.int .i32 m)) (hy : ev T y = some (.int .i32 n)) (hb : -2147483648 ≤ m * n ∧ m * n ≤ 2147483647) : QY P c N T L ⟨dst, .binOp .mul xt x y yt, ty, pos, aft, gd⟩ (.int .i32 (m * n)) := by
  have := QY.mul (P := P) (c := c) (N := N) (T := T) (L := L) (dst := dst) (ty := ty) (pos := pos) (aft := aft) (gd := gd) (xt := xt) (yt := yt) hx hy
  rw [IntWalk.i32_in _ hb] at this; exact this
theorem QY.toR [h1 : IntT P yt .i32] [h2 : IntT P xt .u8] (hx : ev T x = some (.int .u8 m)) (hb : -2147483648 ≤ m ∧ m ≤ 2147483647) : QY P c N T L ⟨dst, .convert xt yt x, ty, pos, aft, gd⟩ (.int .i32 m) := by
  have := QY.conv_int (P := P) (c := c) (N := N) (T := T) (L := L) (dst := dst) (ty := ty) (pos := pos) (aft := aft) (gd := gd) (dt := yt) (st' := xt) hx
  rw [IntWalk.i32_in _ hb] at this; exact this
end
/-! ### one rune -/
def byteN (s : ByteArray) (k : Nat) : Nat := (s.get! k).toNat
theorem byteN_lt (s : ByteArray) (k : Nat) : byteN s k < 256 := (s.get! k).toNat_lt
theorem byteN_at {s : ByteArray} {i : Nat} (h : i < s.size) : ∃ b, s[i]? = some b ∧ b.toNat = byteN s i := by
  refine ⟨s[i], by simp [h], ?_⟩
  have := get_at s i h
  unfold byteN
  rw [← this]; rfl
def contB (s : ByteArray) (k : Nat) : Bool := decide (k < s.size) && decide (128 ≤ byteN s k) && decide (byteN s k ≤ 191)
def lowN (s : ByteArray) (k : Nat) : Nat := if contB s k then byteN s k - 128 else 0
abbrev moreV (s : ByteArray) (k : Nat) : Value := .tuple #[.int .i32 (lowN s k : Nat), .bool (contB s k)]
set_option maxRecDepth 8000 in
theorem more_spec {s : ByteArray} {k : Nat} (hs : s.size ≤ 1000000) (hk : k ≤ 2000000) : Spc Try.prog 118 #[.string s, iv (k : Nat)] [] [] (ret (moreV s k) []) := by
  refine Spc.enter' (args := [.string s, iv (k : Nat)]) (T0 := [(0, .string s), (1, iv (k : Nat))]) Try.func118 rfl Try.ntmps118 (Nat.le_of_ble_eq_true rfl) rfl ?_
  intro w0 own
  rcases Nat.lt_or_ge k s.size with hlt | hge
  · obtain ⟨b, hb, hbn⟩ := byteN_at hlt
    have hbl := byteN_lt s k
    
    
    
    by_cases h : 128 ≤ byteN s k ∧ byteN s k ≤ 191
    · have hc : contB s k = true := by unfold contB; simp [hlt, h.1, h.2]
      repeat' (first
    | (with_reducible refine CW.seq ?_)
    | (with_reducible refine KP.then_code ?_)
    | (with_reducible refine CW.skip ?_)
    | (with_reducible refine CW.ret ?_)
    | (with_reducible refine KP.then_ret ?_)
    | (with_reducible refine KP.block_ret ?_)
    | (with_reducible refine CW.block ?_)
    | (with_reducible refine KP.block_normal ?_)
    | (with_reducible refine CW.exit ?_)
    | (with_reducible refine KP.then_exit ?_)
    | (with_reducible refine KP.block_hit ?_)
    | refine KP.bm ?_
    | refine CW.ct ?_
    | refine CW.cf ?_
    | (refine CW.cP ?_ ?_ <;> intro _ <;> try contradiction)
    | (refine CW.cs ?_ ?_ <;> intro _ <;> try contradiction)
    | (refine CW.region (i := 0) ?_ <;> refine KP.q QK.as ?_ <;> refine KP.q QK.as ?_ <;> refine KP.list_nil ?_)
    | (refine CW.region (i := 1) ?_ <;> refine KP.q QK.mv ?_ <;> refine KP.q QK.mv ?_ <;> refine KP.q QK.len ?_ <;> refine KP.q QK.geq ?_ <;> refine KP.q QK.mv ?_ <;> (first | refine KP.gn ?_ | refine KP.gu ?_ | refine KP.qy QK.mv ?_ | ((first | refine KP.gsP (t := 10) ?_ ?_ | refine KP.gs (t := 10) ?_ ?_) <;> intro _ <;> first | contradiction | refine KP.gn ?_ | refine KP.qy QK.mv ?_)) <;> (first | refine KP.gn ?_ | refine KP.gu ?_ | refine KP.qy QK.mv ?_) <;> (first | refine KP.gn ?_ | refine KP.gu ?_ | refine KP.qy (QY.index_str rfl rfl hb) ?_) <;> (first | refine KP.gn ?_ | refine KP.gu ?_ | refine KP.qy QK.lss ?_) <;> refine KP.q QK.pk ?_ <;> refine KP.q QK.mv ?_ <;> (first | refine KP.gn ?_ | refine KP.gu ?_ | refine KP.qy QK.mv ?_ | ((first | refine KP.gsP (t := 16) ?_ ?_ | refine KP.gs (t := 16) ?_ ?_) <;> intro _ <;> first | contradiction | refine KP.gn ?_ | refine KP.qy QK.mv ?_)) <;> (first | refine KP.gn ?_ | refine KP.gu ?_ | refine KP.qy QK.mv ?_) <;> (first | refine KP.gn ?_ | refine KP.gu ?_ | refine KP.qy (QY.index_str rfl rfl hb) ?_) <;> (first | refine KP.gn ?_ | refine KP.gu ?_ | refine KP.qy QK.gtr ?_) <;> refine KP.q QK.pk ?_ <;> refine KP.list_nil ?_)
    | (refine CW.region (i := 3) ?_ <;> refine KP.q QK.mv ?_ <;> refine KP.q QK.mv ?_ <;> refine KP.q (QY.index_str rfl rfl hb) ?_ <;> refine KP.q (by first | exact QY.toR rfl (by omega) | exact QK.cv) ?_ <;> refine KP.q (by first | exact QY.sub32 rfl rfl (by omega) | exact QK.sub) ?_ <;> refine KP.q QK.as ?_ <;> refine KP.q QK.as ?_ <;> refine KP.list_nil ?_)
    | ((with_reducible apply KP.fin2); (· rfl); (· rfl); (· rfl)))
      refine FA.ret' ?_
      unfold moreV lowN
      rw [hc, if_pos rfl, ← hbn]
      have e : ((b.toNat - 128 : Nat) : Int) = (b.toNat : Int) - 128 := by omega
      rw [e]
    · have hc : contB s k = false := by unfold contB; simp [hlt]; omega
      repeat' (first
    | (with_reducible refine CW.seq ?_)
    | (with_reducible refine KP.then_code ?_)
    | (with_reducible refine CW.skip ?_)
    | (with_reducible refine CW.ret ?_)
    | (with_reducible refine KP.then_ret ?_)
    | (with_reducible refine KP.block_ret ?_)
    | (with_reducible refine CW.block ?_)
    | (with_reducible refine KP.block_normal ?_)
    | (with_reducible refine CW.exit ?_)
    | (with_reducible refine KP.then_exit ?_)
    | (with_reducible refine KP.block_hit ?_)
    | refine KP.bm ?_
    | refine CW.ct ?_
    | refine CW.cf ?_
    | (refine CW.cP ?_ ?_ <;> intro _ <;> try contradiction)
    | (refine CW.cs ?_ ?_ <;> intro _ <;> try contradiction)
    | (refine CW.region (i := 0) ?_ <;> refine KP.q QK.as ?_ <;> refine KP.q QK.as ?_ <;> refine KP.list_nil ?_)
    | (refine CW.region (i := 1) ?_ <;> refine KP.q QK.mv ?_ <;> refine KP.q QK.mv ?_ <;> refine KP.q QK.len ?_ <;> refine KP.q QK.geq ?_ <;> refine KP.q QK.mv ?_ <;> (first | refine KP.gn ?_ | refine KP.gu ?_ | refine KP.qy QK.mv ?_ | ((first | refine KP.gsP (t := 10) ?_ ?_ | refine KP.gs (t := 10) ?_ ?_) <;> intro _ <;> first | contradiction | refine KP.gn ?_ | refine KP.qy QK.mv ?_)) <;> (first | refine KP.gn ?_ | refine KP.gu ?_ | refine KP.qy QK.mv ?_) <;> (first | refine KP.gn ?_ | refine KP.gu ?_ | refine KP.qy (QY.index_str rfl rfl hb) ?_) <;> (first | refine KP.gn ?_ | refine KP.gu ?_ | refine KP.qy QK.lss ?_) <;> refine KP.q QK.pk ?_ <;> refine KP.q QK.mv ?_ <;> (first | refine KP.gn ?_ | refine KP.gu ?_ | refine KP.qy QK.mv ?_ | ((first | refine KP.gsP (t := 16) ?_ ?_ | refine KP.gs (t := 16) ?_ ?_) <;> intro _ <;> first | contradiction | refine KP.gn ?_ | refine KP.qy QK.mv ?_)) <;> (first | refine KP.gn ?_ | refine KP.gu ?_ | refine KP.qy QK.mv ?_) <;> (first | refine KP.gn ?_ | refine KP.gu ?_ | refine KP.qy (QY.index_str rfl rfl hb) ?_) <;> (first | refine KP.gn ?_ | refine KP.gu ?_ | refine KP.qy QK.gtr ?_) <;> refine KP.q QK.pk ?_ <;> refine KP.list_nil ?_)
    | (refine CW.region (i := 2) ?_ <;> refine KP.q QK.as ?_ <;> refine KP.q QK.as ?_ <;> refine KP.list_nil ?_)
    | (refine CW.region (i := 3) ?_ <;> refine KP.q QK.mv ?_ <;> refine KP.q QK.mv ?_ <;> refine KP.q (QY.index_str rfl rfl hb) ?_ <;> refine KP.q (by first | exact QY.toR rfl (by omega) | exact QK.cv) ?_ <;> refine KP.q (by first | exact QY.sub32 rfl rfl (by omega) | exact QK.sub) ?_ <;> refine KP.q QK.as ?_ <;> refine KP.q QK.as ?_ <;> refine KP.list_nil ?_)
    | ((with_reducible apply KP.fin2); (· rfl); (· rfl); (· rfl)))
      all_goals first | omega | skip
      all_goals
        refine FA.ret' ?_
        unfold moreV lowN
        rw [hc]; rfl
  · have hc : contB s k = false := by unfold contB; simp; omega
    repeat' (first
    | (with_reducible refine CW.seq ?_)
    | (with_reducible refine KP.then_code ?_)
    | (with_reducible refine CW.skip ?_)
    | (with_reducible refine CW.ret ?_)
    | (with_reducible refine KP.then_ret ?_)
    | (with_reducible refine KP.block_ret ?_)
    | (with_reducible refine CW.block ?_)
    | (with_reducible refine KP.block_normal ?_)
    | (with_reducible refine CW.exit ?_)
    | (with_reducible refine KP.then_exit ?_)
    | (with_reducible refine KP.block_hit ?_)
    | refine KP.bm ?_
    | refine CW.ct ?_
    | refine CW.cf ?_
    | (refine CW.cP ?_ ?_ <;> intro _ <;> try contradiction)
    | (refine CW.cs ?_ ?_ <;> intro _ <;> try contradiction)
    | (refine CW.region (i := 0) ?_ <;> refine KP.q QK.as ?_ <;> refine KP.q QK.as ?_ <;> refine KP.list_nil ?_)
    | (refine CW.region (i := 1) ?_ <;> refine KP.q QK.mv ?_ <;> refine KP.q QK.mv ?_ <;> refine KP.q QK.len ?_ <;> refine KP.q QK.geq ?_ <;> refine KP.q QK.mv ?_ <;> (first | refine KP.gn ?_ | refine KP.gu ?_ | refine KP.qy QK.mv ?_ | ((first | refine KP.gsP (t := 10) ?_ ?_ | refine KP.gs (t := 10) ?_ ?_) <;> intro _ <;> first | contradiction | refine KP.gn ?_ | refine KP.qy QK.mv ?_)) <;> (first | refine KP.gn ?_ | refine KP.gu ?_ | refine KP.qy QK.mv ?_) <;> (first | refine KP.gn ?_ | refine KP.gu ?_ | refine KP.qy (QY.index_str rfl rfl hb) ?_) <;> (first | refine KP.gn ?_ | refine KP.gu ?_ | refine KP.qy QK.lss ?_) <;> refine KP.q QK.pk ?_ <;> refine KP.q QK.mv ?_ <;> (first | refine KP.gn ?_ | refine KP.gu ?_ | refine KP.qy QK.mv ?_ | ((first | refine KP.gsP (t := 16) ?_ ?_ | refine KP.gs (t := 16) ?_ ?_) <;> intro _ <;> first | contradiction | refine KP.gn ?_ | refine KP.qy QK.mv ?_)) <;> (first | refine KP.gn ?_ | refine KP.gu ?_ | refine KP.qy QK.mv ?_) <;> (first | refine KP.gn ?_ | refine KP.gu ?_ | refine KP.qy (QY.index_str rfl rfl hb) ?_) <;> (first | refine KP.gn ?_ | refine KP.gu ?_ | refine KP.qy QK.gtr ?_) <;> refine KP.q QK.pk ?_ <;> refine KP.list_nil ?_)
    | (refine CW.region (i := 2) ?_ <;> refine KP.q QK.as ?_ <;> refine KP.q QK.as ?_ <;> refine KP.list_nil ?_)
    | ((with_reducible apply KP.fin2); (· rfl); (· rfl); (· rfl)))
    refine FA.ret' ?_
    unfold moreV lowN
    rw [hc]; rfl

def oneF (s : ByteArray) (i : Nat) : Nat × Nat :=
  if byteN s i < 128 then (byteN s i, 1)
  else if 194 ≤ byteN s i ∧ byteN s i ≤ 223 ∧ contB s (i + 1) = true then ((byteN s i - 192) * 64 + lowN s (i + 1), 2)
  else if 224 ≤ byteN s i ∧ byteN s i ≤ 239 ∧ contB s (i + 1) = true ∧ contB s (i + 2) = true then ((byteN s i - 224) * 4096 + lowN s (i + 1) * 64 + lowN s (i + 2), 3)
  else if 240 ≤ byteN s i ∧ byteN s i ≤ 244 ∧ contB s (i + 1) = true ∧ contB s (i + 2) = true ∧ contB s (i + 3) = true then ((byteN s i - 240) * 262144 + lowN s (i + 1) * 4096 + lowN s (i + 2) * 64 + lowN s (i + 3), 4)
  else (0, 0)
theorem lowN_lt (s : ByteArray) (k : Nat) : lowN s k < 64 := by
  have := byteN_lt s k
  unfold lowN
  split
  · rename_i h
    unfold contB at h
    simp at h
    omega
  · omega
abbrev oneV (p : Nat × Nat) : Value := .tuple #[.int .i32 (p.1 : Nat), iv (p.2 : Nat)]
theorem oneV_eq {p q : Nat} {a b : Int} {r : Nat × Nat} (h : r = (p, q)) (ha : a = p) (hb : b = q) : Value.tuple #[.int .i32 a, iv b] = oneV r := by subst h ha hb; rfl
set_option maxHeartbeats 4000000 in
theorem one_spec {s : ByteArray} {i : Nat} (hs : s.size ≤ 1000000) (hi : i < s.size) : Spc Try.prog 111 #[.string s, iv (i : Nat)] [] [] (ret (oneV (oneF s i)) []) := by
  refine Spc.enter' (args := [.string s, iv (i : Nat)]) (T0 := [(0, .string s), (1, iv (i : Nat))]) Try.func111 rfl Try.ntmps111 (Nat.le_of_ble_eq_true rfl) rfl ?_
  intro w0 own
  obtain ⟨b, hb, hbn⟩ := byteN_at hi
  have hbl := byteN_lt s i
  have h1 := lowN_lt s (i + 1)
  have h2 := lowN_lt s (i + 2)
  have h3 := lowN_lt s (i + 3)
  
  
  
  
  
  
  repeat' (first
    | (with_reducible refine CW.seq ?_)
    | (with_reducible refine KP.then_code ?_)
    | (with_reducible refine CW.skip ?_)
    | (with_reducible refine CW.ret ?_)
    | (with_reducible refine KP.then_ret ?_)
    | (with_reducible refine KP.block_ret ?_)
    | (with_reducible refine CW.block ?_)
    | (with_reducible refine KP.block_normal ?_)
    | (with_reducible refine CW.exit ?_)
    | (with_reducible refine KP.then_exit ?_)
    | (with_reducible refine KP.block_hit ?_)
    | refine KP.bm ?_
    | refine CW.ct ?_
    | refine CW.cf ?_
    | (refine CW.cP ?_ ?_ <;> intro _ <;> try contradiction)
    | (refine CW.cs ?_ ?_ <;> intro _ <;> try contradiction)
    | (refine CW.region (i := 0) ?_ <;> refine KP.q QK.as ?_ <;> refine KP.q QK.as ?_ <;> refine KP.list_nil ?_)
    | (refine CW.region (i := 1) ?_ <;> refine KP.q QK.mv ?_ <;> refine KP.q QK.mv ?_ <;> refine KP.q (QY.index_str rfl rfl hb) ?_ <;> refine KP.q (by first | exact QY.toR rfl (by omega) | exact QK.cv) ?_ <;> refine KP.q QK.as ?_ <;> refine KP.list_nil ?_)
    | (refine CW.region (i := 2) ?_ <;> refine KP.q QK.mv ?_ <;> refine KP.q QK.mv ?_ <;> refine KP.q (by first | exact QY.addN (n := 1) rfl rfl (by omega) | exact QY.addN (n := 2) rfl rfl (by omega) | exact QY.addN (n := 3) rfl rfl (by omega) | exact QY.add32 rfl rfl (by omega) | exact QK.add) ?_ <;> (refine KP.e ?_; ((first | refine EK.call (more_spec (s := s) (k := i + 1) hs (by omega)) ?_ | refine EK.call (more_spec (s := s) (k := i + 2) hs (by omega)) ?_ | refine EK.call (more_spec (s := s) (k := i + 3) hs (by omega)) ?_); repeat' first | refine CP.r ?_ | refine CP.r0 ?_ | refine CP.exP fun e21 => ?_ | refine CP.puP fun h21 => ?_)) <;> refine KP.q QK.mv ?_ <;> refine KP.q QK.ex ?_ <;> refine KP.q QK.ex ?_ <;> refine KP.q QK.as ?_ <;> refine KP.q QK.as ?_ <;> refine KP.list_nil ?_)
    | (refine CW.region (i := 3) ?_ <;> refine KP.q QK.mv ?_ <;> refine KP.q QK.mv ?_ <;> refine KP.q (by first | exact QY.addN (n := 1) rfl rfl (by omega) | exact QY.addN (n := 2) rfl rfl (by omega) | exact QY.addN (n := 3) rfl rfl (by omega) | exact QY.add32 rfl rfl (by omega) | exact QK.add) ?_ <;> (refine KP.e ?_; ((first | refine EK.call (more_spec (s := s) (k := i + 1) hs (by omega)) ?_ | refine EK.call (more_spec (s := s) (k := i + 2) hs (by omega)) ?_ | refine EK.call (more_spec (s := s) (k := i + 3) hs (by omega)) ?_); repeat' first | refine CP.r ?_ | refine CP.r0 ?_ | refine CP.exP fun e28 => ?_ | refine CP.puP fun h28 => ?_)) <;> refine KP.q QK.mv ?_ <;> refine KP.q QK.ex ?_ <;> refine KP.q QK.ex ?_ <;> refine KP.q QK.as ?_ <;> refine KP.q QK.as ?_ <;> refine KP.list_nil ?_)
    | (refine CW.region (i := 4) ?_ <;> refine KP.q QK.mv ?_ <;> refine KP.q QK.mv ?_ <;> refine KP.q (by first | exact QY.addN (n := 1) rfl rfl (by omega) | exact QY.addN (n := 2) rfl rfl (by omega) | exact QY.addN (n := 3) rfl rfl (by omega) | exact QY.add32 rfl rfl (by omega) | exact QK.add) ?_ <;> (refine KP.e ?_; ((first | refine EK.call (more_spec (s := s) (k := i + 1) hs (by omega)) ?_ | refine EK.call (more_spec (s := s) (k := i + 2) hs (by omega)) ?_ | refine EK.call (more_spec (s := s) (k := i + 3) hs (by omega)) ?_); repeat' first | refine CP.r ?_ | refine CP.r0 ?_ | refine CP.exP fun e35 => ?_ | refine CP.puP fun h35 => ?_)) <;> refine KP.q QK.mv ?_ <;> refine KP.q QK.ex ?_ <;> refine KP.q QK.ex ?_ <;> refine KP.q QK.as ?_ <;> refine KP.q QK.as ?_ <;> refine KP.list_nil ?_)
    | ((with_reducible apply KP.fin2); (· rfl); (· rfl); (· rfl)))
  rw [hbn]
  unfold oneF
  by_cases g1 : byteN s i < 128
  · rw [if_pos g1]
    repeat' (first
    | (with_reducible refine CW.seq ?_)
    | (with_reducible refine KP.then_code ?_)
    | (with_reducible refine CW.skip ?_)
    | (with_reducible refine CW.ret ?_)
    | (with_reducible refine KP.then_ret ?_)
    | (with_reducible refine KP.block_ret ?_)
    | (with_reducible refine CW.block ?_)
    | (with_reducible refine KP.block_normal ?_)
    | (with_reducible refine CW.exit ?_)
    | (with_reducible refine KP.then_exit ?_)
    | (with_reducible refine KP.block_hit ?_)
    | refine KP.bm ?_
    | refine CW.ct ?_
    | refine CW.cf ?_
    | (refine CW.cP ?_ ?_ <;> intro _ <;> try contradiction)
    | (refine CW.cs ?_ ?_ <;> intro _ <;> try contradiction)
    | (refine CW.region (i := 5) ?_ <;> refine KP.q QK.mv ?_ <;> refine KP.q QK.lss ?_ <;> refine KP.q QK.as ?_ <;> refine KP.list_nil ?_)
    | (refine CW.region (i := 6) ?_ <;> refine KP.q QK.mv ?_ <;> refine KP.q QK.as ?_ <;> refine KP.q QK.as ?_ <;> refine KP.list_nil ?_)
    | ((with_reducible apply KP.fin2); (· rfl); (· rfl); (· rfl)))
    refine FA.ret' (oneV_eq rfl rfl rfl)
  rw [if_neg g1]
  by_cases g2 : 194 ≤ byteN s i ∧ byteN s i ≤ 223 ∧ contB s (i + 1) = true
  · rw [if_pos g2, g2.2.2]
    obtain ⟨g3, g4, g5⟩ := g2
    repeat' (first
    | (with_reducible refine CW.seq ?_)
    | (with_reducible refine KP.then_code ?_)
    | (with_reducible refine CW.skip ?_)
    | (with_reducible refine CW.ret ?_)
    | (with_reducible refine KP.then_ret ?_)
    | (with_reducible refine KP.block_ret ?_)
    | (with_reducible refine CW.block ?_)
    | (with_reducible refine KP.block_normal ?_)
    | (with_reducible refine CW.exit ?_)
    | (with_reducible refine KP.then_exit ?_)
    | (with_reducible refine KP.block_hit ?_)
    | refine KP.bm ?_
    | refine CW.ct ?_
    | refine CW.cf ?_
    | (refine CW.cP ?_ ?_ <;> intro _ <;> try contradiction)
    | (refine CW.cs ?_ ?_ <;> intro _ <;> try contradiction)
    | (refine CW.region (i := 5) ?_ <;> refine KP.q QK.mv ?_ <;> refine KP.q QK.lss ?_ <;> refine KP.q QK.as ?_ <;> refine KP.list_nil ?_)
    | (refine CW.region (i := 7) ?_ <;> refine KP.q QK.mv ?_ <;> refine KP.q QK.geq ?_ <;> refine KP.q QK.mv ?_ <;> (first | refine KP.gn ?_ | refine KP.gu ?_ | refine KP.qy QK.mv ?_ | ((first | refine KP.gsP (t := 45) ?_ ?_ | refine KP.gs (t := 45) ?_ ?_) <;> intro _ <;> first | contradiction | refine KP.gn ?_ | refine KP.qy QK.mv ?_)) <;> (first | refine KP.gn ?_ | refine KP.gu ?_ | refine KP.qy QK.leq ?_) <;> refine KP.q QK.pk ?_ <;> refine KP.q QK.mv ?_ <;> (first | refine KP.gn ?_ | refine KP.gu ?_ | refine KP.qy QK.mv ?_ | ((first | refine KP.gsP (t := 49) ?_ ?_ | refine KP.gs (t := 49) ?_ ?_) <;> intro _ <;> first | contradiction | refine KP.gn ?_ | refine KP.qy QK.mv ?_)) <;> refine KP.q QK.pk ?_ <;> refine KP.q QK.as ?_ <;> refine KP.list_nil ?_)
    | (refine CW.region (i := 8) ?_ <;> refine KP.q QK.mv ?_ <;> refine KP.q (by first | exact QY.sub32 rfl rfl (by omega) | exact QK.sub) ?_ <;> refine KP.q (by first | exact QY.mul32 rfl rfl (by omega) | exact QK.mul) ?_ <;> refine KP.q QK.mv ?_ <;> refine KP.q (by first | exact QY.addN (n := 1) rfl rfl (by omega) | exact QY.addN (n := 2) rfl rfl (by omega) | exact QY.addN (n := 3) rfl rfl (by omega) | exact QY.add32 rfl rfl (by omega) | exact QK.add) ?_ <;> refine KP.q QK.as ?_ <;> refine KP.q QK.as ?_ <;> refine KP.list_nil ?_)
    | ((with_reducible apply KP.fin2); (· rfl); (· rfl); (· rfl)))
    refine FA.ret' (oneV_eq rfl (by omega) rfl)
  rw [if_neg g2]
  by_cases g3 : 224 ≤ byteN s i ∧ byteN s i ≤ 239 ∧ contB s (i + 1) = true ∧ contB s (i + 2) = true
  · rw [if_pos g3, g3.2.2.1, g3.2.2.2]
    obtain ⟨g4, g5, g6, g7⟩ := g3
    repeat' (first
    | (with_reducible refine CW.seq ?_)
    | (with_reducible refine KP.then_code ?_)
    | (with_reducible refine CW.skip ?_)
    | (with_reducible refine CW.ret ?_)
    | (with_reducible refine KP.then_ret ?_)
    | (with_reducible refine KP.block_ret ?_)
    | (with_reducible refine CW.block ?_)
    | (with_reducible refine KP.block_normal ?_)
    | (with_reducible refine CW.exit ?_)
    | (with_reducible refine KP.then_exit ?_)
    | (with_reducible refine KP.block_hit ?_)
    | refine KP.bm ?_
    | refine CW.ct ?_
    | refine CW.cf ?_
    | (refine CW.cP ?_ ?_ <;> intro _ <;> try contradiction)
    | (refine CW.cs ?_ ?_ <;> intro _ <;> try contradiction)
    | (refine CW.region (i := 5) ?_ <;> refine KP.q QK.mv ?_ <;> refine KP.q QK.lss ?_ <;> refine KP.q QK.as ?_ <;> refine KP.list_nil ?_)
    | (refine CW.region (i := 7) ?_ <;> refine KP.q QK.mv ?_ <;> refine KP.q QK.geq ?_ <;> refine KP.q QK.mv ?_ <;> (first | refine KP.gn ?_ | refine KP.gu ?_ | refine KP.qy QK.mv ?_ | ((first | refine KP.gsP (t := 45) ?_ ?_ | refine KP.gs (t := 45) ?_ ?_) <;> intro _ <;> first | contradiction | refine KP.gn ?_ | refine KP.qy QK.mv ?_)) <;> (first | refine KP.gn ?_ | refine KP.gu ?_ | refine KP.qy QK.leq ?_) <;> refine KP.q QK.pk ?_ <;> refine KP.q QK.mv ?_ <;> (first | refine KP.gn ?_ | refine KP.gu ?_ | refine KP.qy QK.mv ?_ | ((first | refine KP.gsP (t := 49) ?_ ?_ | refine KP.gs (t := 49) ?_ ?_) <;> intro _ <;> first | contradiction | refine KP.gn ?_ | refine KP.qy QK.mv ?_)) <;> refine KP.q QK.pk ?_ <;> refine KP.q QK.as ?_ <;> refine KP.list_nil ?_)
    | (refine CW.region (i := 9) ?_ <;> refine KP.q QK.mv ?_ <;> refine KP.q QK.geq ?_ <;> refine KP.q QK.mv ?_ <;> (first | refine KP.gn ?_ | refine KP.gu ?_ | refine KP.qy QK.mv ?_ | ((first | refine KP.gsP (t := 60) ?_ ?_ | refine KP.gs (t := 60) ?_ ?_) <;> intro _ <;> first | contradiction | refine KP.gn ?_ | refine KP.qy QK.mv ?_)) <;> (first | refine KP.gn ?_ | refine KP.gu ?_ | refine KP.qy QK.leq ?_) <;> refine KP.q QK.pk ?_ <;> refine KP.q QK.mv ?_ <;> (first | refine KP.gn ?_ | refine KP.gu ?_ | refine KP.qy QK.mv ?_ | ((first | refine KP.gsP (t := 64) ?_ ?_ | refine KP.gs (t := 64) ?_ ?_) <;> intro _ <;> first | contradiction | refine KP.gn ?_ | refine KP.qy QK.mv ?_)) <;> refine KP.q QK.pk ?_ <;> refine KP.q QK.mv ?_ <;> (first | refine KP.gn ?_ | refine KP.gu ?_ | refine KP.qy QK.mv ?_ | ((first | refine KP.gsP (t := 67) ?_ ?_ | refine KP.gs (t := 67) ?_ ?_) <;> intro _ <;> first | contradiction | refine KP.gn ?_ | refine KP.qy QK.mv ?_)) <;> refine KP.q QK.pk ?_ <;> refine KP.q QK.as ?_ <;> refine KP.list_nil ?_)
    | (refine CW.region (i := 10) ?_ <;> refine KP.q QK.mv ?_ <;> refine KP.q (by first | exact QY.sub32 rfl rfl (by omega) | exact QK.sub) ?_ <;> refine KP.q (by first | exact QY.mul32 rfl rfl (by omega) | exact QK.mul) ?_ <;> refine KP.q QK.mv ?_ <;> refine KP.q (by first | exact QY.mul32 rfl rfl (by omega) | exact QK.mul) ?_ <;> refine KP.q (by first | exact QY.addN (n := 1) rfl rfl (by omega) | exact QY.addN (n := 2) rfl rfl (by omega) | exact QY.addN (n := 3) rfl rfl (by omega) | exact QY.add32 rfl rfl (by omega) | exact QK.add) ?_ <;> refine KP.q QK.mv ?_ <;> refine KP.q (by first | exact QY.addN (n := 1) rfl rfl (by omega) | exact QY.addN (n := 2) rfl rfl (by omega) | exact QY.addN (n := 3) rfl rfl (by omega) | exact QY.add32 rfl rfl (by omega) | exact QK.add) ?_ <;> refine KP.q QK.as ?_ <;> refine KP.q QK.as ?_ <;> refine KP.list_nil ?_)
    | ((with_reducible apply KP.fin2); (· rfl); (· rfl); (· rfl)))
    refine FA.ret' (oneV_eq rfl (by omega) rfl)
  rw [if_neg g3]
  by_cases g4 : 240 ≤ byteN s i ∧ byteN s i ≤ 244 ∧ contB s (i + 1) = true ∧ contB s (i + 2) = true ∧ contB s (i + 3) = true
  · rw [if_pos g4, g4.2.2.1, g4.2.2.2.1, g4.2.2.2.2]
    obtain ⟨g5, g6, g7, g8, g9⟩ := g4
    repeat' (first
    | (with_reducible refine CW.seq ?_)
    | (with_reducible refine KP.then_code ?_)
    | (with_reducible refine CW.skip ?_)
    | (with_reducible refine CW.ret ?_)
    | (with_reducible refine KP.then_ret ?_)
    | (with_reducible refine KP.block_ret ?_)
    | (with_reducible refine CW.block ?_)
    | (with_reducible refine KP.block_normal ?_)
    | (with_reducible refine CW.exit ?_)
    | (with_reducible refine KP.then_exit ?_)
    | (with_reducible refine KP.block_hit ?_)
    | refine KP.bm ?_
    | refine CW.ct ?_
    | refine CW.cf ?_
    | (refine CW.cP ?_ ?_ <;> intro _ <;> try contradiction)
    | (refine CW.cs ?_ ?_ <;> intro _ <;> try contradiction)
    | (refine CW.region (i := 5) ?_ <;> refine KP.q QK.mv ?_ <;> refine KP.q QK.lss ?_ <;> refine KP.q QK.as ?_ <;> refine KP.list_nil ?_)
    | (refine CW.region (i := 7) ?_ <;> refine KP.q QK.mv ?_ <;> refine KP.q QK.geq ?_ <;> refine KP.q QK.mv ?_ <;> (first | refine KP.gn ?_ | refine KP.gu ?_ | refine KP.qy QK.mv ?_ | ((first | refine KP.gsP (t := 45) ?_ ?_ | refine KP.gs (t := 45) ?_ ?_) <;> intro _ <;> first | contradiction | refine KP.gn ?_ | refine KP.qy QK.mv ?_)) <;> (first | refine KP.gn ?_ | refine KP.gu ?_ | refine KP.qy QK.leq ?_) <;> refine KP.q QK.pk ?_ <;> refine KP.q QK.mv ?_ <;> (first | refine KP.gn ?_ | refine KP.gu ?_ | refine KP.qy QK.mv ?_ | ((first | refine KP.gsP (t := 49) ?_ ?_ | refine KP.gs (t := 49) ?_ ?_) <;> intro _ <;> first | contradiction | refine KP.gn ?_ | refine KP.qy QK.mv ?_)) <;> refine KP.q QK.pk ?_ <;> refine KP.q QK.as ?_ <;> refine KP.list_nil ?_)
    | (refine CW.region (i := 9) ?_ <;> refine KP.q QK.mv ?_ <;> refine KP.q QK.geq ?_ <;> refine KP.q QK.mv ?_ <;> (first | refine KP.gn ?_ | refine KP.gu ?_ | refine KP.qy QK.mv ?_ | ((first | refine KP.gsP (t := 60) ?_ ?_ | refine KP.gs (t := 60) ?_ ?_) <;> intro _ <;> first | contradiction | refine KP.gn ?_ | refine KP.qy QK.mv ?_)) <;> (first | refine KP.gn ?_ | refine KP.gu ?_ | refine KP.qy QK.leq ?_) <;> refine KP.q QK.pk ?_ <;> refine KP.q QK.mv ?_ <;> (first | refine KP.gn ?_ | refine KP.gu ?_ | refine KP.qy QK.mv ?_ | ((first | refine KP.gsP (t := 64) ?_ ?_ | refine KP.gs (t := 64) ?_ ?_) <;> intro _ <;> first | contradiction | refine KP.gn ?_ | refine KP.qy QK.mv ?_)) <;> refine KP.q QK.pk ?_ <;> refine KP.q QK.mv ?_ <;> (first | refine KP.gn ?_ | refine KP.gu ?_ | refine KP.qy QK.mv ?_ | ((first | refine KP.gsP (t := 67) ?_ ?_ | refine KP.gs (t := 67) ?_ ?_) <;> intro _ <;> first | contradiction | refine KP.gn ?_ | refine KP.qy QK.mv ?_)) <;> refine KP.q QK.pk ?_ <;> refine KP.q QK.as ?_ <;> refine KP.list_nil ?_)
    | (refine CW.region (i := 11) ?_ <;> refine KP.q QK.mv ?_ <;> refine KP.q QK.geq ?_ <;> refine KP.q QK.mv ?_ <;> (first | refine KP.gn ?_ | refine KP.gu ?_ | refine KP.qy QK.mv ?_ | ((first | refine KP.gsP (t := 81) ?_ ?_ | refine KP.gs (t := 81) ?_ ?_) <;> intro _ <;> first | contradiction | refine KP.gn ?_ | refine KP.qy QK.mv ?_)) <;> (first | refine KP.gn ?_ | refine KP.gu ?_ | refine KP.qy QK.leq ?_) <;> refine KP.q QK.pk ?_ <;> refine KP.q QK.mv ?_ <;> (first | refine KP.gn ?_ | refine KP.gu ?_ | refine KP.qy QK.mv ?_ | ((first | refine KP.gsP (t := 85) ?_ ?_ | refine KP.gs (t := 85) ?_ ?_) <;> intro _ <;> first | contradiction | refine KP.gn ?_ | refine KP.qy QK.mv ?_)) <;> refine KP.q QK.pk ?_ <;> refine KP.q QK.mv ?_ <;> (first | refine KP.gn ?_ | refine KP.gu ?_ | refine KP.qy QK.mv ?_ | ((first | refine KP.gsP (t := 88) ?_ ?_ | refine KP.gs (t := 88) ?_ ?_) <;> intro _ <;> first | contradiction | refine KP.gn ?_ | refine KP.qy QK.mv ?_)) <;> refine KP.q QK.pk ?_ <;> refine KP.q QK.mv ?_ <;> (first | refine KP.gn ?_ | refine KP.gu ?_ | refine KP.qy QK.mv ?_ | ((first | refine KP.gsP (t := 91) ?_ ?_ | refine KP.gs (t := 91) ?_ ?_) <;> intro _ <;> first | contradiction | refine KP.gn ?_ | refine KP.qy QK.mv ?_)) <;> refine KP.q QK.pk ?_ <;> refine KP.q QK.as ?_ <;> refine KP.list_nil ?_)
    | (refine CW.region (i := 12) ?_ <;> refine KP.q QK.mv ?_ <;> refine KP.q (by first | exact QY.sub32 rfl rfl (by omega) | exact QK.sub) ?_ <;> refine KP.q (by first | exact QY.mul32 rfl rfl (by omega) | exact QK.mul) ?_ <;> refine KP.q QK.mv ?_ <;> refine KP.q (by first | exact QY.mul32 rfl rfl (by omega) | exact QK.mul) ?_ <;> refine KP.q (by first | exact QY.addN (n := 1) rfl rfl (by omega) | exact QY.addN (n := 2) rfl rfl (by omega) | exact QY.addN (n := 3) rfl rfl (by omega) | exact QY.add32 rfl rfl (by omega) | exact QK.add) ?_ <;> refine KP.q QK.mv ?_ <;> refine KP.q (by first | exact QY.mul32 rfl rfl (by omega) | exact QK.mul) ?_ <;> refine KP.q (by first | exact QY.addN (n := 1) rfl rfl (by omega) | exact QY.addN (n := 2) rfl rfl (by omega) | exact QY.addN (n := 3) rfl rfl (by omega) | exact QY.add32 rfl rfl (by omega) | exact QK.add) ?_ <;> refine KP.q QK.mv ?_ <;> refine KP.q (by first | exact QY.addN (n := 1) rfl rfl (by omega) | exact QY.addN (n := 2) rfl rfl (by omega) | exact QY.addN (n := 3) rfl rfl (by omega) | exact QY.add32 rfl rfl (by omega) | exact QK.add) ?_ <;> refine KP.q QK.as ?_ <;> refine KP.q QK.as ?_ <;> refine KP.list_nil ?_)
    | ((with_reducible apply KP.fin2); (· rfl); (· rfl); (· rfl)))
    refine FA.ret' (oneV_eq rfl (by omega) rfl)
  rw [if_neg g4]
  clear h1 h2 h3
  cases e1 : contB s (i + 1) <;> cases e2 : contB s (i + 2) <;> cases e3 : contB s (i + 3)
  all_goals rw [e1] at g2 g3 g4
  all_goals rw [e2] at g3 g4
  all_goals rw [e3] at g4
  all_goals simp only [and_true, and_false, Bool.false_eq_true, not_false_eq_true] at g2 g3 g4
  all_goals
    repeat' (first
    | (with_reducible refine CW.seq ?_)
    | (with_reducible refine KP.then_code ?_)
    | (with_reducible refine CW.skip ?_)
    | (with_reducible refine CW.ret ?_)
    | (with_reducible refine KP.then_ret ?_)
    | (with_reducible refine KP.block_ret ?_)
    | (with_reducible refine CW.block ?_)
    | (with_reducible refine KP.block_normal ?_)
    | (with_reducible refine CW.exit ?_)
    | (with_reducible refine KP.then_exit ?_)
    | (with_reducible refine KP.block_hit ?_)
    | refine KP.bm ?_
    | refine CW.ct ?_
    | refine CW.cf ?_
    | (refine CW.cP ?_ ?_ <;> intro _ <;> try contradiction)
    | (refine CW.cs ?_ ?_ <;> intro _ <;> try contradiction)
    | (refine CW.region (i := 5) ?_ <;> refine KP.q QK.mv ?_ <;> refine KP.q QK.lss ?_ <;> refine KP.q QK.as ?_ <;> refine KP.list_nil ?_)
    | (refine CW.region (i := 7) ?_ <;> refine KP.q QK.mv ?_ <;> refine KP.q QK.geq ?_ <;> refine KP.q QK.mv ?_ <;> (first | refine KP.gn ?_ | refine KP.gu ?_ | refine KP.qy QK.mv ?_ | ((first | refine KP.gsP (t := 45) ?_ ?_ | refine KP.gs (t := 45) ?_ ?_) <;> intro _ <;> first | contradiction | refine KP.gn ?_ | refine KP.qy QK.mv ?_)) <;> (first | refine KP.gn ?_ | refine KP.gu ?_ | refine KP.qy QK.leq ?_) <;> refine KP.q QK.pk ?_ <;> refine KP.q QK.mv ?_ <;> (first | refine KP.gn ?_ | refine KP.gu ?_ | refine KP.qy QK.mv ?_ | ((first | refine KP.gsP (t := 49) ?_ ?_ | refine KP.gs (t := 49) ?_ ?_) <;> intro _ <;> first | contradiction | refine KP.gn ?_ | refine KP.qy QK.mv ?_)) <;> refine KP.q QK.pk ?_ <;> refine KP.q QK.as ?_ <;> refine KP.list_nil ?_)
    | (refine CW.region (i := 9) ?_ <;> refine KP.q QK.mv ?_ <;> refine KP.q QK.geq ?_ <;> refine KP.q QK.mv ?_ <;> (first | refine KP.gn ?_ | refine KP.gu ?_ | refine KP.qy QK.mv ?_ | ((first | refine KP.gsP (t := 60) ?_ ?_ | refine KP.gs (t := 60) ?_ ?_) <;> intro _ <;> first | contradiction | refine KP.gn ?_ | refine KP.qy QK.mv ?_)) <;> (first | refine KP.gn ?_ | refine KP.gu ?_ | refine KP.qy QK.leq ?_) <;> refine KP.q QK.pk ?_ <;> refine KP.q QK.mv ?_ <;> (first | refine KP.gn ?_ | refine KP.gu ?_ | refine KP.qy QK.mv ?_ | ((first | refine KP.gsP (t := 64) ?_ ?_ | refine KP.gs (t := 64) ?_ ?_) <;> intro _ <;> first | contradiction | refine KP.gn ?_ | refine KP.qy QK.mv ?_)) <;> refine KP.q QK.pk ?_ <;> refine KP.q QK.mv ?_ <;> (first | refine KP.gn ?_ | refine KP.gu ?_ | refine KP.qy QK.mv ?_ | ((first | refine KP.gsP (t := 67) ?_ ?_ | refine KP.gs (t := 67) ?_ ?_) <;> intro _ <;> first | contradiction | refine KP.gn ?_ | refine KP.qy QK.mv ?_)) <;> refine KP.q QK.pk ?_ <;> refine KP.q QK.as ?_ <;> refine KP.list_nil ?_)
    | (refine CW.region (i := 11) ?_ <;> refine KP.q QK.mv ?_ <;> refine KP.q QK.geq ?_ <;> refine KP.q QK.mv ?_ <;> (first | refine KP.gn ?_ | refine KP.gu ?_ | refine KP.qy QK.mv ?_ | ((first | refine KP.gsP (t := 81) ?_ ?_ | refine KP.gs (t := 81) ?_ ?_) <;> intro _ <;> first | contradiction | refine KP.gn ?_ | refine KP.qy QK.mv ?_)) <;> (first | refine KP.gn ?_ | refine KP.gu ?_ | refine KP.qy QK.leq ?_) <;> refine KP.q QK.pk ?_ <;> refine KP.q QK.mv ?_ <;> (first | refine KP.gn ?_ | refine KP.gu ?_ | refine KP.qy QK.mv ?_ | ((first | refine KP.gsP (t := 85) ?_ ?_ | refine KP.gs (t := 85) ?_ ?_) <;> intro _ <;> first | contradiction | refine KP.gn ?_ | refine KP.qy QK.mv ?_)) <;> refine KP.q QK.pk ?_ <;> refine KP.q QK.mv ?_ <;> (first | refine KP.gn ?_ | refine KP.gu ?_ | refine KP.qy QK.mv ?_ | ((first | refine KP.gsP (t := 88) ?_ ?_ | refine KP.gs (t := 88) ?_ ?_) <;> intro _ <;> first | contradiction | refine KP.gn ?_ | refine KP.qy QK.mv ?_)) <;> refine KP.q QK.pk ?_ <;> refine KP.q QK.mv ?_ <;> (first | refine KP.gn ?_ | refine KP.gu ?_ | refine KP.qy QK.mv ?_ | ((first | refine KP.gsP (t := 91) ?_ ?_ | refine KP.gs (t := 91) ?_ ?_) <;> intro _ <;> first | contradiction | refine KP.gn ?_ | refine KP.qy QK.mv ?_)) <;> refine KP.q QK.pk ?_ <;> refine KP.q QK.as ?_ <;> refine KP.list_nil ?_)
    | (refine CW.region (i := 13) ?_ <;> refine KP.q QK.as ?_ <;> refine KP.q QK.as ?_ <;> refine KP.list_nil ?_)
    | ((with_reducible apply KP.fin2); (· rfl); (· rfl); (· rfl)))
  all_goals first | (refine FA.ret' (oneV_eq rfl rfl rfl); done) | (exfalso; omega)

end Go.Proofs.Ytpmhelfdmhjnbaa
