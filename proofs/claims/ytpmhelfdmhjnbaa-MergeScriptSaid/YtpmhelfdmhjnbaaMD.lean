import Derived.Test.YtpmhelfdmhjnbaaM0
import Derived.Test.YtpmhelfdmhjnbaaInkD
/- Arguments: items. -/
namespace Go.Proofs.Ytpmhelfdmhjnbaa
open Go Go.Ink
def kI : List FK := [.int .i64, .str]
theorem decI : ∀ cs, Fits kI cs → ∃ z, eI z = cs := by
  intro cs h
  obtain _ | ⟨⟨n0, rfl, _⟩, h⟩ := h
  obtain _ | ⟨⟨n1, rfl, _⟩, h⟩ := h
  cases h
  exact ⟨⟨n0, n1⟩, rfl⟩
theorem decN : ∀ cs, Fits [.int .i64] cs → ∃ z, eN z = cs := by
  intro cs h
  obtain _ | ⟨⟨n0, rfl, _⟩, h⟩ := h
  cases h
  exact ⟨n0, rfl⟩
theorem decS : ∀ cs, Fits [.str] cs → ∃ z, eS z = cs := by
  intro cs h
  obtain _ | ⟨⟨n0, rfl, _⟩, h⟩ := h
  cases h
  exact ⟨n0, rfl⟩
/-- An act: what is told of a shard. -/
structure ActV where
  tell : Bool
  end_ : Bool
  shard : Int
  seq : Int
  wv : Value
  ow : wv.oneCell' = true
  items : List Item
def eAct (a : ActV) : List Value := [.bool a.tell, .bool a.end_, iv a.shard, iv a.seq, a.wv]
instance : Enc eAct 5 := ⟨fun _ => rfl, by decide, fun a u hu => by
  simp only [eAct, List.mem_cons, List.not_mem_nil, or_false] at hu
  rcases hu with rfl | rfl | rfl | rfl | rfl <;> first | rfl | exact a.ow⟩
abbrev actA (a : ActV) : Asrt := rrow 2 eI a.wv a.items
def kAct : List FS := [.b .bool, .b .bool, .b (.int .i64), .b (.int .i64), .s kI]
theorem decAct {h : Frag} : ∀ cs, FitsS h kAct cs → ∃ z, eAct z = cs ∧ actA z h := by
  intro cs f
  obtain _ | ⟨⟨n0, rfl⟩, f⟩ := f
  obtain _ | ⟨⟨n1, rfl⟩, f⟩ := f
  obtain _ | ⟨⟨n2, rfl, _⟩, f⟩ := f
  obtain _ | ⟨⟨n3, rfl, _⟩, f⟩ := f
  obtain _ | ⟨⟨ow, xs, hx⟩, f⟩ := f
  cases f
  obtain ⟨ys, hy⟩ := rrow_dec decI hx
  exact ⟨⟨n0, n1, n2, n3, _, ow, ys⟩, rfl, hy⟩
end Go.Proofs.Ytpmhelfdmhjnbaa
