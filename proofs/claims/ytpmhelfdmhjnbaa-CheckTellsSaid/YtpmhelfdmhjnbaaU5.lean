import Derived.Test.YtpmhelfdmhjnbaaU4
/- The reference's Runes, Len, Asked, May. -/
namespace Go.Proofs.Ytpmhelfdmhjnbaa
open Go Go.Ink Go.Plain
set_option linter.unusedVariables false
set_option linter.unusedSimpArgs false
attribute [local irreducible] KP QY EW CW DW DX QG CP Spc DK Fina wpList lessF lent

def goodB (r : Nat) : Bool := decide (r ≤ 1114111) && (decide (r < 55296) || decide (57343 < r)) && decide (r ≠ 65533)
def okR (p : Nat × Nat) : Bool := decide (p.2 ≠ 0) && goodB p.1 && !(decide (p.2 = 3) && decide (p.1 < 2048)) && !(decide (p.2 = 4) && decide (p.1 < 65536))
theorem cont_eq {s : ByteArray} {k : Nat} : (decide (k < s.size) && ((s.get! k).toNat / 64 == 2)) = contB s k := by
  have hb : (s.get! k).toNat < 256 := (s.get! k).toNat_lt
  unfold contB byteN
  rw [Bool.eq_iff_iff]
  simp
  omega
theorem low_eq {s : ByteArray} {k : Nat} (h : contB s k = true) : byteN s k % 64 = lowN s k := by
  unfold lowN
  rw [if_pos h]
  unfold contB at h
  simp at h
  omega
theorem decode_eq (s : ByteArray) (i : Nat) : Utf8.decode s i =
    (if byteN s i < 128 then (byteN s i, 1)
    else if (byteN s i / 32 == 6 && contB s (i + 1)) = true then
      (if (byteN s i % 32) * 64 + byteN s (i + 1) % 64 ≥ 128 then ((byteN s i % 32) * 64 + byteN s (i + 1) % 64, 2) else (65533, 1))
    else if (byteN s i / 16 == 14 && contB s (i + 1) && contB s (i + 2)) = true then
      (if ((decide ((byteN s i % 16) * 4096 + (byteN s (i + 1) % 64) * 64 + byteN s (i + 2) % 64 ≥ 2048)) && Utf8.valid (((byteN s i % 16) * 4096 + (byteN s (i + 1) % 64) * 64 + byteN s (i + 2) % 64 : Nat) : Int)) = true then ((byteN s i % 16) * 4096 + (byteN s (i + 1) % 64) * 64 + byteN s (i + 2) % 64, 3) else (65533, 1))
    else if (byteN s i / 8 == 30 && contB s (i + 1) && contB s (i + 2) && contB s (i + 3)) = true then
      (if ((decide ((byteN s i % 8) * 262144 + (byteN s (i + 1) % 64) * 4096 + (byteN s (i + 2) % 64) * 64 + byteN s (i + 3) % 64 ≥ 65536)) && Utf8.valid (((byteN s i % 8) * 262144 + (byteN s (i + 1) % 64) * 4096 + (byteN s (i + 2) % 64) * 64 + byteN s (i + 3) % 64 : Nat) : Int)) = true then ((byteN s i % 8) * 262144 + (byteN s (i + 1) % 64) * 4096 + (byteN s (i + 2) % 64) * 64 + byteN s (i + 3) % 64, 4) else (65533, 1))
    else (65533, 1)) := by
  simp only [← cont_eq]
  rfl
theorem valid_iff (n : Nat) : Utf8.valid (n : Int) = (decide (n < 55296) || (decide (57344 ≤ n) && decide (n ≤ 1114111))) := by
  unfold Utf8.valid
  rw [Bool.eq_iff_iff]
  simp
  omega
theorem one_dec (s : ByteArray) (i : Nat) : (okR (oneF s i) = true → Utf8.decode s i = oneF s i ∧ (oneF s i).1 ≠ 65533 ∧ 1 ≤ (oneF s i).2 ∧ (oneF s i).2 ≤ 4 ∧ (oneF s i).1 ≤ 1114111) ∧ (okR (oneF s i) = false → (Utf8.decode s i).1 = 65533) := by
  rw [decode_eq]
  have hb := byteN_lt s i
  have l1 := low_eq (s := s) (k := i + 1)
  have l2 := low_eq (s := s) (k := i + 2)
  have l3 := low_eq (s := s) (k := i + 3)
  have h1 := lowN_lt s (i + 1)
  have h2 := lowN_lt s (i + 2)
  have h3 := lowN_lt s (i + 3)
  simp only [valid_iff]
  unfold oneF okR goodB
  generalize byteN s i = b at *
  generalize byteN s (i + 1) = b1 at *
  generalize byteN s (i + 2) = b2 at *
  generalize byteN s (i + 3) = b3 at *
  generalize contB s (i + 1) = c1 at *
  generalize contB s (i + 2) = c2 at *
  generalize contB s (i + 3) = c3 at *
  generalize lowN s (i + 1) = w1 at *
  generalize lowN s (i + 2) = w2 at *
  generalize lowN s (i + 3) = w3 at *
  by_cases g1 : b < 128
  · simp [g1]; omega
  rw [if_neg g1, if_neg g1]
  have hcl : (b / 32 ≠ 6 ∧ b / 16 ≠ 14 ∧ b / 8 ≠ 30 ∧ b < 192) ∨ (b / 32 = 6 ∧ b / 16 ≠ 14 ∧ b / 8 ≠ 30 ∧ b % 32 < 2 ∧ 192 ≤ b ∧ b < 194) ∨ (b / 32 = 6 ∧ b / 16 ≠ 14 ∧ b / 8 ≠ 30 ∧ b % 32 = b - 192 ∧ 194 ≤ b ∧ b ≤ 223) ∨ (b / 32 ≠ 6 ∧ b / 16 = 14 ∧ b / 8 ≠ 30 ∧ b % 16 = b - 224 ∧ 224 ≤ b ∧ b ≤ 239) ∨ (b / 32 ≠ 6 ∧ b / 16 ≠ 14 ∧ b / 8 = 30 ∧ b % 8 = b - 240 ∧ 240 ≤ b ∧ b ≤ 244) ∨ (b / 32 ≠ 6 ∧ b / 16 ≠ 14 ∧ b / 8 = 30 ∧ b % 8 = b - 240 ∧ 245 ≤ b ∧ b ≤ 247) ∨ (b / 32 ≠ 6 ∧ b / 16 ≠ 14 ∧ b / 8 ≠ 30 ∧ 248 ≤ b) := by omega
  cases c1
  · simp
  have e1 := l1 rfl
  rw [e1]
  clear l1 e1
  rcases hcl with ⟨d1, d2, d3, d4⟩ | ⟨d1, d2, d3, d4, d5, d6⟩ | ⟨d1, d2, d3, d4, d5, d6⟩ | ⟨d1, d2, d3, d4, d5, d6⟩ | ⟨d1, d2, d3, d4, d5, d6⟩ | ⟨d1, d2, d3, d4, d5, d6⟩ | ⟨d1, d2, d3, d4⟩
  · rw [if_neg (by omega), if_neg (by omega), if_neg (by omega)]
    simp [d1, d2, d3]
  · rw [if_neg (by omega), if_neg (by omega), if_neg (by omega), if_pos (by simp [d1]), if_neg (by omega)]
    simp
  · rw [if_pos ⟨d5, d6, rfl⟩, if_pos (by simp [d1]), if_pos (by omega), d4]
    simp; omega
  · rw [if_neg (by omega)]
    cases c2
    · rw [if_neg (by simp), if_neg (by simp)]
      simp [d1, d2, d3]
    have e2 := l2 rfl
    rw [if_pos ⟨d5, d6, rfl, rfl⟩, if_neg (by simp [d1]), e2, if_pos (by simp [d2]), d4]
    generalize hr : (b - 224) * 4096 + w1 * 64 + w2 = r
    have hrb : r ≤ 65535 := by omega
    refine ⟨fun h => ?_, fun h => ?_⟩
    · simp at h
      rw [if_pos (by simp; omega)]
      simp; omega
    · simp at h
      by_cases hq : r = 65533
      · rw [if_pos (by simp; omega)]; exact hq
      · rw [if_neg (by simp; omega)]
  · rw [if_neg (by omega), if_neg (by omega)]
    cases c2
    · rw [if_neg (by simp)]
      simp [d1, d2, d3]
    cases c3
    · rw [if_neg (by simp)]
      simp [d1, d2, d3]
    have e2 := l2 rfl
    have e3 := l3 rfl
    rw [if_pos ⟨d5, d6, rfl, rfl, rfl⟩, if_neg (by simp [d1]), e2, e3, if_neg (by simp [d2]), if_pos (by simp [d3]), d4]
    generalize hr : (b - 240) * 262144 + w1 * 4096 + w2 * 64 + w3 = r
    refine ⟨fun h => ?_, fun h => ?_⟩
    · simp at h
      rw [if_pos (by simp; omega)]
      simp; omega
    · simp at h
      by_cases hq : r = 65533
      · rw [if_neg (by simp; omega)]
      · rw [if_neg (by simp; omega)]
  · rw [if_neg (by omega), if_neg (by omega), if_neg (by omega), if_neg (by simp [d1]), if_neg (by simp [d2])]
    cases c2
    · simp
    cases c3
    · simp
    have e2 := l2 rfl
    have e3 := l3 rfl
    rw [e2, e3, if_pos (by simp [d3]), d4, if_neg (by simp; omega)]
    simp
  · rw [if_neg (by omega), if_neg (by omega), if_neg (by omega)]
    simp [d1, d2, d3]
end Go.Proofs.Ytpmhelfdmhjnbaa
