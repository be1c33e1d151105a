import Derived.Test.YtnnobondpimnpaaInkI
/- What the values are: asks, places, acts. -/
namespace Go.Proofs.Ytnnobondpimnpaa
open Go Go.Ink
set_option linter.unusedVariables false
set_option linter.unusedSimpArgs false

structure Ask where
  slot : Int
  query : Int
  shard : Int
  seq : Int
  epoch : Int
  text : ByteArray
  k : Int
  batch : Int
  first : Bool
  dist : Int
  word : ByteArray
  deriving DecidableEq
def Ask.zero : Ask := ⟨0, 0, 0, 0, 0, ⟨#[]⟩, 0, 0, false, 0, ⟨#[]⟩⟩
abbrev iv (n : Int) : Value := .int .i64 n
def eA (a : Ask) : List Value := [iv a.slot, iv a.query, iv a.shard, iv a.seq, iv a.epoch, .string a.text, iv a.k, iv a.batch, .bool a.first, iv a.dist, .string a.word]
def av (a : Ask) : Value := .agg (eA a).toArray
structure Place where
  slot : Int
  shard : Int
  deriving DecidableEq
def eP (p : Place) : List Value := [iv p.slot, iv p.shard]
def pv (p : Place) : Value := .agg (eP p).toArray
def Ask.place (a : Ask) : Place := ⟨a.slot, a.shard⟩
structure Actn where
  do_ : Int
  slot : Int
  query : Int
  a : Ask
  deriving DecidableEq
def eC (c : Actn) : List Value := [iv c.do_, iv c.slot, iv c.query] ++ eA c.a
def cv (c : Actn) : Value := .agg (eC c).toArray

instance : Enc eA 11 := ⟨fun _ => rfl, by decide, fun a u hu => by
  simp only [eA, List.mem_cons, List.not_mem_nil, or_false] at hu
  rcases hu with rfl | rfl | rfl | rfl | rfl | rfl | rfl | rfl | rfl | rfl | rfl <;> rfl⟩
instance : Enc eP 2 := ⟨fun _ => rfl, by decide, fun a u hu => by
  simp only [eP, List.mem_cons, List.not_mem_nil, or_false] at hu
  rcases hu with rfl | rfl <;> rfl⟩
instance : Enc eC 14 := ⟨fun _ => rfl, by decide, fun a u hu => by
  simp only [eC, eA, List.mem_append, List.mem_cons, List.not_mem_nil, or_false] at hu
  rcases hu with (rfl | rfl | rfl) | rfl | rfl | rfl | rfl | rfl | rfl | rfl | rfl | rfl | rfl | rfl <;> rfl⟩
theorem eA_inj {a b : Ask} (h : eA a = eA b) : a = b := by
  cases a; cases b; simp [eA] at h; simp [h]

theorem eq_item (d : Nat) (w : World) (x y : Int × ByteArray) : (Op.equalIn (d + 2) 30 (.agg [iv x.1, .string x.2].toArray) (.agg [iv y.1, .string y.2].toArray)).run Try.prog w = .ok (decide (x = y)) w := by
  rw [run_equalIn_F (P := Try.prog) (t := 30) (d + 1)]
  rw [eqF_int rfl rfl (eqF_str rfl rfl eqF_nil)]
  congr 1
  obtain ⟨a, b⟩ := x; obtain ⟨a', b'⟩ := y
  simp
instance eqE_place : EqE Try.prog 56 eP where
  guard := by kernel_rfl
  eq w x y := by
    rw [run_equalIn_F (P := Try.prog) (t := 56) 9999]
    rw [eqF_int (d := 9998) rfl rfl (eqF_int (d := 9998) rfl rfl eqF_nil)]
    congr 1
    obtain ⟨a, b⟩ := x; obtain ⟨a', b'⟩ := y
    simp
instance eqE_ask : EqE Try.prog 32 eA where
  guard := by kernel_rfl
  eq w x y := by
    rw [run_equalIn_F (P := Try.prog) (t := 32) 9999]
    have h := eqF_agg (P := Try.prog) (d := 9999) (t := 30) (o := 9) (c1 := eA x) (c2 := eA y) (eq_item 9997 w (x.dist, x.word) (y.dist, y.word)) eqF_nil
    rw [eqF_int (d := 9998) rfl rfl (eqF_int (d := 9998) rfl rfl (eqF_int (d := 9998) rfl rfl (eqF_int (d := 9998) rfl rfl (eqF_int (d := 9998) rfl rfl (eqF_str (d := 9998) rfl rfl (eqF_int (d := 9998) rfl rfl (eqF_int (d := 9998) rfl rfl (eqF_bool (d := 9998) rfl rfl h))))))))]
    congr 1
    cases x; cases y
    simp
instance keyE_place : KeyE Try.prog 56 pv :=
  keyE_struct (ek := eP) (fun e k w => by
    rw [run_checkKey_F (P := Try.prog) (t := 56) e 9999]
    exact ckF_s (d := 9998) rfl (ckF_s (d := 9998) rfl ckF_nil)) (fun k => by simp [eP, Instr.sameBits])
end Go.Proofs.Ytnnobondpimnpaa
