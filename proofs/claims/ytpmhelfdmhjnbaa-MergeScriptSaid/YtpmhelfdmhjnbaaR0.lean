import Derived.Test.YtpmhelfdmhjnbaaMX
import Derived.Test.YtpmhelfdmhjnbaaS5
import Derived.Test.YtpmhelfdmhjnbaaLev
import Derived.Laws.RangeAny
/- Texts as runes: Runes, Len. -/
namespace Go.Proofs.Ytpmhelfdmhjnbaa
open Go Go.Ink Go.Plain
set_option linter.unusedVariables false
set_option linter.unusedSimpArgs false
attribute [local irreducible] KP QY EW CW DW QG CP Spc DK Fina wpList lessF

theorem wid_pos (s : ByteArray) (pos : Nat) (h : pos < s.size) : 1 ≤ (Utf8.decode s pos).2 := by
  by_cases ha : (s[pos]'h).toNat < 128
  · rw [decode_ascii s pos h ha]; exact Nat.le_refl _
  · exact (decode_high s pos h (by omega)).2
/-- The runes of a text from one place on. -/
def decs (s : ByteArray) (p : Nat) : List Nat := if p < s.size then (Utf8.decode s p).1 :: decs s (p + max 1 (Utf8.decode s p).2) else []
termination_by s.size - p
theorem decs_step {s : ByteArray} {p : Nat} (h : p < s.size) : decs s p = (Utf8.decode s p).1 :: decs s (p + (Utf8.decode s p).2) := by
  rw [decs, if_pos h, show max 1 (Utf8.decode s p).2 = (Utf8.decode s p).2 by have := wid_pos s p h; omega]
theorem decs_end {s : ByteArray} {p : Nat} (h : s.size ≤ p) : decs s p = [] := by rw [decs, if_neg (by omega)]
theorem decs_len (s : ByteArray) : ∀ (n p : Nat), s.size - p ≤ n → (decs s p).length ≤ n
  | n, p, h => by
    by_cases hp : p < s.size
    · have hw := wid_pos s p hp
      rw [decs_step hp]
      match n, h with
      | 0, h => omega
      | n + 1, h =>
        have := decs_len s n (p + (Utf8.decode s p).2) (by omega)
        simp; omega
    · rw [decs_end (by omega)]; simp
def runesF (s : ByteArray) : List Nat := decs s 0
/-- The text is well formed and holds no U+FFFD. -/
def fine (s : ByteArray) : Bool := decide (65533 ∉ runesF s)
theorem runes_len (s : ByteArray) : (runesF s).length ≤ s.size := decs_len s s.size 0 (by omega)
def eR (n : Nat) : List Value := [.int .i32 n]
instance : Enc eR 1 := ⟨fun _ => rfl, by decide, fun a u hu => by
  simp only [eR, List.mem_cons, List.not_mem_nil, or_false] at hu
  subst hu; rfl⟩
abbrev rRu (v : Value) (b : Bool) : Value := .tuple #[v, .bool b]
theorem cap31 (s : ByteArray) (p : Nat) : (Utf8.decode s p).1 ≤ 2147483647 := decode_le s p
section
variable {c' : Cx} {N : Nat} {T : Tm} {L L1 : List Asrt} {R : Exit → Act → World → Prop} {K : Act → World → Prop} {x : Operand} {ty : TypeId} {pos : String} {aft : Array Edge} {gd : Option (Nat × Bool)}
theorem next_at {d b : Nat} {s : ByteArray} {p c q : Nat} (hd : d < N) (hx : ev T x = some (.pointer (some ⟨b, 0, none⟩))) (pk : Pick L (Go.Ink.itA b s p) L1) (hp : p < s.size) (hc : (Utf8.decode s p).1 = c) (hq : (Utf8.decode s p).2 = q)
    (h : KP c' N ((d, .tuple #[.bool true, .int .i64 p, .int .i32 c]) :: T) (Go.Ink.itA b s (p + q) :: L1) K) : EW Try.prog c' N T L ⟨some d, .next x true, ty, pos, aft, gd⟩ R K := EW.next_str hd hx pk hp (by rw [hc, hq]; exact h)
end


theorem runes_spec {s : ByteArray} (hs : s.size ≤ 1000000) : Spc Try.prog 86 #[.string s] [] [] (if fine s = true then exP fun v => puP (v.oneCell' = true) (ret (rRu v true) [row 21 1 eR v (runesF s)]) else ret (rRu (.slice none 0 0) false) []) := by
  refine Spc.enter' (args := [.string s]) (T0 := [(0, .string s)]) Try.func86 rfl Try.ntmps86 (Nat.le_of_ble_eq_true rfl) rfl ?_
  intro w0 own
  repeat' (first
    | (with_reducible refine CW.seq ?_)
    | (with_reducible refine KP.then_code ?_)
    | (with_reducible refine CW.skip ?_)
    | (with_reducible refine CW.ret ?_)
    | (with_reducible refine KP.then_ret ?_)
    | (with_reducible refine KP.block_ret ?_)
    | (with_reducible refine CW.block ?_)
    | (with_reducible refine KP.block_normal ?_)
    | (with_reducible refine CW.exit ?_)
    | (with_reducible refine KP.then_exit ?_)
    | (with_reducible refine KP.block_hit ?_)
    | refine KP.bm ?_
    | refine CW.ct ?_
    | refine CW.cf ?_
    | (refine CW.cP ?_ ?_ <;> intro _ <;> try contradiction)
    | (refine CW.cs ?_ ?_ <;> intro _ <;> try contradiction)
    | (refine CW.region (i := 0) ?_ <;> refine KP.q QK.as ?_ <;> refine KP.q QK.as ?_ <;> refine KP.list_nil ?_)
    | (refine CW.region (i := 1) ?_ <;> refine KP.q QK.as ?_ <;> refine KP.list_nil ?_)
    | (refine CW.region (i := 2) ?_ <;> refine KP.q QK.mv ?_ <;> (refine KP.e ?_; (first | (refine EW.range_str (by decide) rfl (fun b8 => ?_)))) <;> refine KP.list_nil ?_)
    | ((with_reducible apply KP.fin2); (· rfl); (· rfl); (· rfl)))
  refine CW.add (B := row 21 1 eR (.slice none 0 0) []) row.none ?_
  refine CA.loop (X := Nat × List Nat × Value) (fun z => [(0, .string s), (8, qp b8), (4, z.2.2)]) (fun z => [Go.Ink.itA b8 s z.1, row 21 1 eR z.2.2 z.2.1]) (fun z => z.2.1 ++ decs s z.1 = runesF s ∧ (65533 ∈ decs s z.1 ↔ fine s = false) ∧ z.2.2.oneCell' = true) (fun z => s.size - z.1) (0, [], .slice none 0 0) ⟨rfl, by unfold fine runesF; rw [decide_eq_false_iff_not, Classical.not_not], rfl⟩ ?_
  rintro ⟨p, acc, v⟩ ⟨h1, h2, h3⟩
  try dsimp only at h1 h2 h3 ⊢
  have hlen := runes_len s
  rw [← h1] at hlen
  simp only [List.length_append] at hlen
  rcases Nat.lt_or_ge p s.size with hp | hp
  · have hw := wid_pos s p hp
    rw [decs_step hp] at h1 h2
    generalize hc : (Utf8.decode s p).1 = c at h1 h2
    generalize hq : (Utf8.decode s p).2 = q at h1 h2 hw
    
    
    repeat' (first
    | (with_reducible refine CW.seq ?_)
    | (with_reducible refine KP.then_code ?_)
    | (with_reducible refine CW.skip ?_)
    | (with_reducible refine CW.ret ?_)
    | (with_reducible refine KP.then_ret ?_)
    | (with_reducible refine KP.block_ret ?_)
    | (with_reducible refine CW.block ?_)
    | (with_reducible refine KP.block_normal ?_)
    | (with_reducible refine CW.exit ?_)
    | (with_reducible refine KP.then_exit ?_)
    | (with_reducible refine KP.block_hit ?_)
    | refine KP.bm ?_
    | refine CW.ct ?_
    | refine CW.cf ?_
    | (refine CW.cP ?_ ?_ <;> intro _ <;> try contradiction)
    | (refine CW.cs ?_ ?_ <;> intro _ <;> try contradiction)
    | (refine CW.region (i := 3) ?_ <;> (refine KP.e ?_; (first | (refine next_at (c := c) (q := q) (by decide) rfl (by with_reducible first | exact k0 | exact k1 | exact k2 | exact k3 | exact k4 | exact k5 | exact k6 | exact k7 | exact k8 | exact k9 | fail) hp hc hq ?_))) <;> refine KP.q QK.ex ?_ <;> refine KP.list_nil ?_)
    | (refine CW.region (i := 4) ?_ <;> refine KP.q QK.ex ?_ <;> refine KP.q QK.as ?_ <;> refine KP.list_nil ?_)
    | (refine CW.region (i := 5) ?_ <;> refine KP.q QK.mv ?_ <;> refine KP.q QK.eqi ?_ <;> refine KP.list_nil ?_)
    | (refine CW.region (i := 6) ?_ <;> refine KP.q QK.as ?_ <;> refine KP.q QK.as ?_ <;> refine KP.list_nil ?_)
    | (refine CW.region (i := 7) ?_ <;> refine KP.q QK.mv ?_ <;> refine KP.q QK.mv ?_ <;> (refine KP.e ?_; ((first | refine EW.buildSlice1_s (by decide) rfl (by first | rfl | assumption) rfl ?_ | refine EW.buildSlice1_a (by decide) rfl (by rfl) (by rfl) (by decide) (by decide) ?_); intro b16)) <;> (refine KP.e ?_; (first | (refine EK.app1 (enc := eR) c ?_; intro w17 o17) | (refine EK.app1 (enc := eR) (Utf8.decode s p).1 ?_; intro w17 o17) | (refine EK.app1 _ ?_; intro w17 o17))) <;> refine KP.q QK.as ?_ <;> refine KP.list_nil ?_)
    | ((with_reducible apply KP.fin2); (· rfl); (· rfl); (· rfl)))
    · rename_i hcc
      have hcc' : c = 65533 := by omega
      have hf : fine s = false := h2.1 (by rw [hcc']; exact List.mem_cons_self ..)
      rw [if_neg (by rw [hf]; decide)]
      exact FA.ret
    · rename_i hcc
      refine KA.round (p + q, acc ++ [c], w17) ⟨by simpa using h1, ?_, o17⟩
      rw [← h2]
      simp only [List.mem_cons]
      exact ⟨.inr, fun h => h.resolve_left (by omega)⟩
  · rw [decs_end hp] at h1 h2
    have hf : fine s = true := by simpa using h2
    rw [List.append_nil] at h1
    rw [if_pos hf, ← h1]
    
    repeat' (first
    | (with_reducible refine CW.seq ?_)
    | (with_reducible refine KP.then_code ?_)
    | (with_reducible refine CW.skip ?_)
    | (with_reducible refine CW.ret ?_)
    | (with_reducible refine KP.then_ret ?_)
    | (with_reducible refine KP.block_ret ?_)
    | (with_reducible refine CW.block ?_)
    | (with_reducible refine KP.block_normal ?_)
    | (with_reducible refine CW.exit ?_)
    | (with_reducible refine KP.then_exit ?_)
    | (with_reducible refine KP.block_hit ?_)
    | refine KP.bm ?_
    | refine CW.ct ?_
    | refine CW.cf ?_
    | (refine CW.cP ?_ ?_ <;> intro _ <;> try contradiction)
    | (refine CW.cs ?_ ?_ <;> intro _ <;> try contradiction)
    | (refine CW.region (i := 3) ?_ <;> (refine KP.e ?_; (first | (refine EW.next_end (by decide) rfl (by with_reducible first | exact k0 | exact k1 | exact k2 | exact k3 | exact k4 | exact k5 | exact k6 | exact k7 | exact k8 | exact k9 | fail) hp ?_) | (refine next_at (c := c) (q := q) (by decide) rfl (by with_reducible first | exact k0 | exact k1 | exact k2 | exact k3 | exact k4 | exact k5 | exact k6 | exact k7 | exact k8 | exact k9 | fail) hp hc hq ?_))) <;> refine KP.q QK.ex ?_ <;> refine KP.list_nil ?_)
    | (refine CW.region (i := 8) ?_ <;> refine KP.q QK.mv ?_ <;> refine KP.q QK.as ?_ <;> refine KP.q QK.as ?_ <;> refine KP.list_nil ?_)
    | ((with_reducible apply KP.fin2); (· rfl); (· rfl); (· rfl)))
    refine Fina.exP _ (Fina.puP h3 ?_)
    exact FA.ret



/-- How many runes a text has, or -1. -/
def lenF (s : ByteArray) : Int := if fine s = true then (runesF s).length else -1
theorem rlen_spec {s : ByteArray} (hs : s.size ≤ 1000000) : Spc Try.prog 101 #[.string s] [] [] (ret (iv (lenF s)) []) := by
  refine Spc.enter' (args := [.string s]) (T0 := [(0, .string s)]) Try.func101 rfl Try.ntmps101 (Nat.le_of_ble_eq_true rfl) rfl ?_
  intro w0 own
  repeat' (first
    | (with_reducible refine CW.seq ?_)
    | (with_reducible refine KP.then_code ?_)
    | (with_reducible refine CW.skip ?_)
    | (with_reducible refine CW.ret ?_)
    | (with_reducible refine KP.then_ret ?_)
    | (with_reducible refine KP.block_ret ?_)
    | (with_reducible refine CW.block ?_)
    | (with_reducible refine KP.block_normal ?_)
    | (with_reducible refine CW.exit ?_)
    | (with_reducible refine KP.then_exit ?_)
    | (with_reducible refine KP.block_hit ?_)
    | refine KP.bm ?_
    | refine CW.ct ?_
    | refine CW.cf ?_
    | (refine CW.cP ?_ ?_ <;> intro _ <;> try contradiction)
    | (refine CW.cs ?_ ?_ <;> intro _ <;> try contradiction)
    | (refine CW.region (i := 0) ?_ <;> refine KP.q QK.as ?_ <;> refine KP.list_nil ?_)
    | (refine CW.region (i := 1) ?_ <;> refine KP.q QK.as ?_ <;> refine KP.list_nil ?_)
    | (refine CW.region (i := 2) ?_ <;> refine KP.q QK.mv ?_ <;> (refine KP.e ?_; (first | (refine EW.range_str (by decide) rfl (fun b7 => ?_)))) <;> refine KP.list_nil ?_)
    | ((with_reducible apply KP.fin1); (· rfl); (· rfl)))
  refine CA.loop (X := Nat × Nat) (fun z => [(0, .string s), (7, qp b7), (3, iv (z.2 : Nat))]) (fun z => [Go.Ink.itA b7 s z.1]) (fun z => z.2 + (decs s z.1).length = (runesF s).length ∧ (65533 ∈ decs s z.1 ↔ fine s = false)) (fun z => s.size - z.1) (0, 0) ⟨by simp [runesF], by unfold fine runesF; rw [decide_eq_false_iff_not, Classical.not_not]⟩ ?_
  rintro ⟨p, n⟩ ⟨h1, h2⟩
  try dsimp only at h1 h2 ⊢
  have hlen := runes_len s
  rcases Nat.lt_or_ge p s.size with hp | hp
  · have hw := wid_pos s p hp
    rw [decs_step hp] at h1 h2
    generalize hc : (Utf8.decode s p).1 = c at h1 h2
    generalize hq : (Utf8.decode s p).2 = q at h1 h2 hw
    rw [List.length_cons] at h1
    
    repeat' (first
    | (with_reducible refine CW.seq ?_)
    | (with_reducible refine KP.then_code ?_)
    | (with_reducible refine CW.skip ?_)
    | (with_reducible refine CW.ret ?_)
    | (with_reducible refine KP.then_ret ?_)
    | (with_reducible refine KP.block_ret ?_)
    | (with_reducible refine CW.block ?_)
    | (with_reducible refine KP.block_normal ?_)
    | (with_reducible refine CW.exit ?_)
    | (with_reducible refine KP.then_exit ?_)
    | (with_reducible refine KP.block_hit ?_)
    | refine KP.bm ?_
    | refine CW.ct ?_
    | refine CW.cf ?_
    | (refine CW.cP ?_ ?_ <;> intro _ <;> try contradiction)
    | (refine CW.cs ?_ ?_ <;> intro _ <;> try contradiction)
    | (refine CW.region (i := 3) ?_ <;> (refine KP.e ?_; (first | (refine next_at (c := c) (q := q) (by decide) rfl (by with_reducible first | exact k0 | exact k1 | exact k2 | exact k3 | exact k4 | exact k5 | exact k6 | exact k7 | exact k8 | exact k9 | fail) hp hc hq ?_))) <;> refine KP.q QK.ex ?_ <;> refine KP.list_nil ?_)
    | (refine CW.region (i := 4) ?_ <;> refine KP.q QK.ex ?_ <;> refine KP.q QK.as ?_ <;> refine KP.list_nil ?_)
    | (refine CW.region (i := 5) ?_ <;> refine KP.q QK.mv ?_ <;> refine KP.q QK.eqi ?_ <;> refine KP.list_nil ?_)
    | (refine CW.region (i := 6) ?_ <;> refine KP.q QK.as ?_ <;> refine KP.list_nil ?_)
    | (refine CW.region (i := 7) ?_ <;> refine KP.q QK.mv ?_ <;> refine KP.q (by first | exact QY.addN rfl rfl (by omega) | exact QK.add) ?_ <;> refine KP.q QK.as ?_ <;> refine KP.list_nil ?_)
    | ((with_reducible apply KP.fin1); (· rfl); (· rfl)))
    · rename_i hcc
      have hcc' : c = 65533 := by omega
      have hf : fine s = false := h2.1 (by rw [hcc']; exact List.mem_cons_self ..)
      rw [lenF, if_neg (by rw [hf]; decide)]
      exact FA.ret
    · rename_i hcc
      refine KA.round (p + q, n + 1) ⟨by simp only; omega, ?_⟩
      rw [← h2]
      simp only [List.mem_cons]
      exact ⟨.inr, fun h => h.resolve_left (by omega)⟩
  · rw [decs_end hp] at h1 h2
    have hf : fine s = true := by simpa using h2
    rw [lenF, if_pos hf, ← h1]
    
    repeat' (first
    | (with_reducible refine CW.seq ?_)
    | (with_reducible refine KP.then_code ?_)
    | (with_reducible refine CW.skip ?_)
    | (with_reducible refine CW.ret ?_)
    | (with_reducible refine KP.then_ret ?_)
    | (with_reducible refine KP.block_ret ?_)
    | (with_reducible refine CW.block ?_)
    | (with_reducible refine KP.block_normal ?_)
    | (with_reducible refine CW.exit ?_)
    | (with_reducible refine KP.then_exit ?_)
    | (with_reducible refine KP.block_hit ?_)
    | refine KP.bm ?_
    | refine CW.ct ?_
    | refine CW.cf ?_
    | (refine CW.cP ?_ ?_ <;> intro _ <;> try contradiction)
    | (refine CW.cs ?_ ?_ <;> intro _ <;> try contradiction)
    | (refine CW.region (i := 3) ?_ <;> (refine KP.e ?_; (first | (refine EW.next_end (by decide) rfl (by with_reducible first | exact k0 | exact k1 | exact k2 | exact k3 | exact k4 | exact k5 | exact k6 | exact k7 | exact k8 | exact k9 | fail) hp ?_) | (refine next_at (c := c) (q := q) (by decide) rfl (by with_reducible first | exact k0 | exact k1 | exact k2 | exact k3 | exact k4 | exact k5 | exact k6 | exact k7 | exact k8 | exact k9 | fail) hp hc hq ?_))) <;> refine KP.q QK.ex ?_ <;> refine KP.list_nil ?_)
    | (refine CW.region (i := 8) ?_ <;> refine KP.q QK.mv ?_ <;> refine KP.q QK.as ?_ <;> refine KP.list_nil ?_)
    | ((with_reducible apply KP.fin1); (· rfl); (· rfl)))
    exact FA.ret

end Go.Proofs.Ytpmhelfdmhjnbaa
