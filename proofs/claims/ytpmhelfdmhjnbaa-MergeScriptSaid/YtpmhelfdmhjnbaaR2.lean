import Derived.Test.YtpmhelfdmhjnbaaR1
/- Near, All, May, Top, awake; GreatTexts. -/
namespace Go.Proofs.Ytpmhelfdmhjnbaa
open Go Go.Ink Go.Plain
set_option linter.unusedVariables false
set_option linter.unusedSimpArgs false
attribute [local irreducible] KP QY EW CW DW QG CP Spc DK Fina wpList lessF

theorem runes_ok {s : ByteArray} (hs : s.size ≤ 1000000) (hf : fine s = true) : Spc Try.prog 86 #[.string s] [] [] (exP fun v => puP (v.oneCell' = true) (ret (rRu v true) [row 21 1 eR v (runesF s)])) := by
  have := runes_spec hs
  rwa [if_pos hf] at this
theorem runes_bad {s : ByteArray} (hs : s.size ≤ 1000000) (hf : ¬ fine s = true) : Spc Try.prog 86 #[.string s] [] [] (ret (rRu (.slice none 0 0) false) []) := by
  have := runes_spec hs
  rwa [if_neg hf] at this
def nearF (q t : ByteArray) (k : Int) : Option Nat := if fine q = true ∧ fine t = true ∧ (dist (runesF q) (runesF t) : Int) ≤ k then some (dist (runesF q) (runesF t)) else none
def nearV : Option Nat → Value
  | some d => .tuple #[iv (d : Nat), .bool true]
  | none => .tuple #[iv 0, .bool false]
theorem within_t {va vb : Value} {xa xb : List Nat} {k : Int} (ha : xa.length ≤ 1000000) (hb : xb.length ≤ 1000000) (h : (dist xa xb : Int) ≤ k) : Spc Try.prog 100 #[va, vb, iv k] [rrow 1 eR va xa, rrow 1 eR vb xb] [] (ret (.tuple #[iv (dist xa xb : Nat), .bool true]) []) := by
  have := within_spec (va := va) (vb := vb) (k := k) ha hb
  rwa [withinV, if_pos h] at this
theorem within_f {va vb : Value} {xa xb : List Nat} {k : Int} (ha : xa.length ≤ 1000000) (hb : xb.length ≤ 1000000) (h : ¬ (dist xa xb : Int) ≤ k) : Spc Try.prog 100 #[va, vb, iv k] [rrow 1 eR va xa, rrow 1 eR vb xb] [] (ret (.tuple #[iv 0, .bool false]) []) := by
  have := within_spec (va := va) (vb := vb) (k := k) ha hb
  rwa [withinV, if_neg h] at this
theorem near_spec {q t : ByteArray} {k : Int} (hq : q.size ≤ 1000000) (ht : t.size ≤ 1000000) : Spc Try.prog 73 #[.string q, .string t, iv k] [] [] (ret (nearV (nearF q t k)) []) := by
  refine Spc.enter' (args := [.string q, .string t, iv k]) (T0 := [(0, .string q), (1, .string t), (2, iv k)]) Try.func73 rfl Try.ntmps73 (Nat.le_of_ble_eq_true rfl) rfl ?_
  intro w0 own
  have hlq := runes_len q
  have hlt := runes_len t
  by_cases h1 : fine q = true
  · by_cases h2 : fine t = true
    · 
      by_cases h3 : (dist (runesF q) (runesF t) : Int) ≤ k
      · rw [nearF, if_pos ⟨h1, h2, h3⟩]
        
        repeat' (first
    | (with_reducible refine CW.seq ?_)
    | (with_reducible refine KP.then_code ?_)
    | (with_reducible refine CW.skip ?_)
    | (with_reducible refine CW.ret ?_)
    | (with_reducible refine KP.then_ret ?_)
    | (with_reducible refine KP.block_ret ?_)
    | (with_reducible refine CW.block ?_)
    | (with_reducible refine KP.block_normal ?_)
    | (with_reducible refine CW.exit ?_)
    | (with_reducible refine KP.then_exit ?_)
    | (with_reducible refine KP.block_hit ?_)
    | refine KP.bm ?_
    | refine CW.ct ?_
    | refine CW.cf ?_
    | (refine CW.cP ?_ ?_ <;> intro _ <;> try contradiction)
    | (refine CW.cs ?_ ?_ <;> intro _ <;> try contradiction)
    | (refine CW.region (i := 0) ?_ <;> refine KP.q QK.as ?_ <;> refine KP.q QK.as ?_ <;> refine KP.list_nil ?_)
    | (refine CW.region (i := 1) ?_ <;> refine KP.q QK.mv ?_ <;> (refine KP.e ?_; ((first | refine EK.call (runes_ok hq h1) ?_ | refine EK.call (runes_ok ht h2) ?_); repeat' first | refine CP.r ?_ | refine CP.r0 ?_ | refine CP.exP fun e14 => ?_ | refine CP.puP fun h14 => ?_)) <;> refine KP.q QK.mv ?_ <;> refine KP.q QK.ex ?_ <;> refine KP.q QK.ex ?_ <;> refine KP.q QK.as ?_ <;> refine KP.q QK.as ?_ <;> refine KP.list_nil ?_)
    | (refine CW.region (i := 2) ?_ <;> refine KP.q QK.mv ?_ <;> (refine KP.e ?_; ((first | refine EK.call (runes_ok hq h1) ?_ | refine EK.call (runes_ok ht h2) ?_); repeat' first | refine CP.r ?_ | refine CP.r0 ?_ | refine CP.exP fun e19 => ?_ | refine CP.puP fun h19 => ?_)) <;> refine KP.q QK.mv ?_ <;> refine KP.q QK.ex ?_ <;> refine KP.q QK.ex ?_ <;> refine KP.q QK.as ?_ <;> refine KP.q QK.as ?_ <;> refine KP.list_nil ?_)
    | (refine CW.region (i := 3) ?_ <;> refine KP.q QK.mv ?_ <;> refine KP.q QK.not ?_ <;> refine KP.q QK.mv ?_ <;> (first | refine KP.gn ?_ | refine KP.gu ?_ | refine KP.qy QK.mv ?_ | ((first | refine KP.gsP (t := 24) ?_ ?_ | refine KP.gs (t := 24) ?_ ?_) <;> intro _ <;> first | contradiction | refine KP.gn ?_ | refine KP.qy QK.mv ?_)) <;> (first | refine KP.gn ?_ | refine KP.gu ?_ | refine KP.qy QK.not ?_) <;> refine KP.q QK.pk ?_ <;> refine KP.list_nil ?_)
    | (refine CW.region (i := 5) ?_ <;> refine KP.q QK.mv ?_ <;> refine KP.q QK.mv ?_ <;> refine KP.q QK.mv ?_ <;> (refine KP.e ?_; ((refine EK.call (within_t (by omega) (by omega) h3) ?_); repeat' first | refine CP.r ?_ | refine CP.r0 ?_ | refine CP.exP fun e31 => ?_ | refine CP.puP fun h31 => ?_)) <;> refine KP.q QK.ex ?_ <;> refine KP.q QK.ex ?_ <;> refine KP.q QK.as ?_ <;> refine KP.q QK.as ?_ <;> refine KP.list_nil ?_)
    | ((with_reducible apply KP.fin2); (· rfl); (· rfl); (· rfl)))
        exact FA.ret
      · rw [nearF, if_neg (fun h => h3 h.2.2)]
        
        repeat' (first
    | (with_reducible refine CW.seq ?_)
    | (with_reducible refine KP.then_code ?_)
    | (with_reducible refine CW.skip ?_)
    | (with_reducible refine CW.ret ?_)
    | (with_reducible refine KP.then_ret ?_)
    | (with_reducible refine KP.block_ret ?_)
    | (with_reducible refine CW.block ?_)
    | (with_reducible refine KP.block_normal ?_)
    | (with_reducible refine CW.exit ?_)
    | (with_reducible refine KP.then_exit ?_)
    | (with_reducible refine KP.block_hit ?_)
    | refine KP.bm ?_
    | refine CW.ct ?_
    | refine CW.cf ?_
    | (refine CW.cP ?_ ?_ <;> intro _ <;> try contradiction)
    | (refine CW.cs ?_ ?_ <;> intro _ <;> try contradiction)
    | (refine CW.region (i := 0) ?_ <;> refine KP.q QK.as ?_ <;> refine KP.q QK.as ?_ <;> refine KP.list_nil ?_)
    | (refine CW.region (i := 1) ?_ <;> refine KP.q QK.mv ?_ <;> (refine KP.e ?_; ((first | refine EK.call (runes_ok hq h1) ?_ | refine EK.call (runes_ok ht h2) ?_); repeat' first | refine CP.r ?_ | refine CP.r0 ?_ | refine CP.exP fun e14 => ?_ | refine CP.puP fun h14 => ?_)) <;> refine KP.q QK.mv ?_ <;> refine KP.q QK.ex ?_ <;> refine KP.q QK.ex ?_ <;> refine KP.q QK.as ?_ <;> refine KP.q QK.as ?_ <;> refine KP.list_nil ?_)
    | (refine CW.region (i := 2) ?_ <;> refine KP.q QK.mv ?_ <;> (refine KP.e ?_; ((first | refine EK.call (runes_ok hq h1) ?_ | refine EK.call (runes_ok ht h2) ?_); repeat' first | refine CP.r ?_ | refine CP.r0 ?_ | refine CP.exP fun e19 => ?_ | refine CP.puP fun h19 => ?_)) <;> refine KP.q QK.mv ?_ <;> refine KP.q QK.ex ?_ <;> refine KP.q QK.ex ?_ <;> refine KP.q QK.as ?_ <;> refine KP.q QK.as ?_ <;> refine KP.list_nil ?_)
    | (refine CW.region (i := 3) ?_ <;> refine KP.q QK.mv ?_ <;> refine KP.q QK.not ?_ <;> refine KP.q QK.mv ?_ <;> (first | refine KP.gn ?_ | refine KP.gu ?_ | refine KP.qy QK.mv ?_ | ((first | refine KP.gsP (t := 24) ?_ ?_ | refine KP.gs (t := 24) ?_ ?_) <;> intro _ <;> first | contradiction | refine KP.gn ?_ | refine KP.qy QK.mv ?_)) <;> (first | refine KP.gn ?_ | refine KP.gu ?_ | refine KP.qy QK.not ?_) <;> refine KP.q QK.pk ?_ <;> refine KP.list_nil ?_)
    | (refine CW.region (i := 5) ?_ <;> refine KP.q QK.mv ?_ <;> refine KP.q QK.mv ?_ <;> refine KP.q QK.mv ?_ <;> (refine KP.e ?_; ((first | refine EK.call (within_f (by omega) (by omega) h3) ?_ | refine EK.call (within_t (by omega) (by omega) h3) ?_); repeat' first | refine CP.r ?_ | refine CP.r0 ?_ | refine CP.exP fun e31 => ?_ | refine CP.puP fun h31 => ?_)) <;> refine KP.q QK.ex ?_ <;> refine KP.q QK.ex ?_ <;> refine KP.q QK.as ?_ <;> refine KP.q QK.as ?_ <;> refine KP.list_nil ?_)
    | ((with_reducible apply KP.fin2); (· rfl); (· rfl); (· rfl)))
        exact FA.ret
    · rw [nearF, if_neg (fun h => h2 h.2.1)]
      
      repeat' (first
    | (with_reducible refine CW.seq ?_)
    | (with_reducible refine KP.then_code ?_)
    | (with_reducible refine CW.skip ?_)
    | (with_reducible refine CW.ret ?_)
    | (with_reducible refine KP.then_ret ?_)
    | (with_reducible refine KP.block_ret ?_)
    | (with_reducible refine CW.block ?_)
    | (with_reducible refine KP.block_normal ?_)
    | (with_reducible refine CW.exit ?_)
    | (with_reducible refine KP.then_exit ?_)
    | (with_reducible refine KP.block_hit ?_)
    | refine KP.bm ?_
    | refine CW.ct ?_
    | refine CW.cf ?_
    | (refine CW.cP ?_ ?_ <;> intro _ <;> try contradiction)
    | (refine CW.cs ?_ ?_ <;> intro _ <;> try contradiction)
    | (refine CW.region (i := 0) ?_ <;> refine KP.q QK.as ?_ <;> refine KP.q QK.as ?_ <;> refine KP.list_nil ?_)
    | (refine CW.region (i := 1) ?_ <;> refine KP.q QK.mv ?_ <;> (refine KP.e ?_; ((first | refine EK.call (runes_ok hq h1) ?_ | refine EK.call (runes_bad ht h2) ?_ | refine EK.call (runes_ok hq h1) ?_ | refine EK.call (runes_ok ht h2) ?_); repeat' first | refine CP.r ?_ | refine CP.r0 ?_ | refine CP.exP fun e14 => ?_ | refine CP.puP fun h14 => ?_)) <;> refine KP.q QK.mv ?_ <;> refine KP.q QK.ex ?_ <;> refine KP.q QK.ex ?_ <;> refine KP.q QK.as ?_ <;> refine KP.q QK.as ?_ <;> refine KP.list_nil ?_)
    | (refine CW.region (i := 2) ?_ <;> refine KP.q QK.mv ?_ <;> (refine KP.e ?_; ((first | refine EK.call (runes_ok hq h1) ?_ | refine EK.call (runes_bad ht h2) ?_ | refine EK.call (runes_ok hq h1) ?_ | refine EK.call (runes_ok ht h2) ?_); repeat' first | refine CP.r ?_ | refine CP.r0 ?_ | refine CP.exP fun e19 => ?_ | refine CP.puP fun h19 => ?_)) <;> refine KP.q QK.mv ?_ <;> refine KP.q QK.ex ?_ <;> refine KP.q QK.ex ?_ <;> refine KP.q QK.as ?_ <;> refine KP.q QK.as ?_ <;> refine KP.list_nil ?_)
    | (refine CW.region (i := 3) ?_ <;> refine KP.q QK.mv ?_ <;> refine KP.q QK.not ?_ <;> refine KP.q QK.mv ?_ <;> (first | refine KP.gn ?_ | refine KP.gu ?_ | refine KP.qy QK.mv ?_ | ((first | refine KP.gsP (t := 24) ?_ ?_ | refine KP.gs (t := 24) ?_ ?_) <;> intro _ <;> first | contradiction | refine KP.gn ?_ | refine KP.qy QK.mv ?_)) <;> (first | refine KP.gn ?_ | refine KP.gu ?_ | refine KP.qy QK.not ?_) <;> refine KP.q QK.pk ?_ <;> refine KP.list_nil ?_)
    | (refine CW.region (i := 4) ?_ <;> refine KP.q QK.as ?_ <;> refine KP.q QK.as ?_ <;> refine KP.list_nil ?_)
    | ((with_reducible apply KP.fin2); (· rfl); (· rfl); (· rfl)))
      exact FA.ret
  · rw [nearF, if_neg (fun h => h1 h.1)]
    by_cases h2 : fine t = true
    · 
      repeat' (first
    | (with_reducible refine CW.seq ?_)
    | (with_reducible refine KP.then_code ?_)
    | (with_reducible refine CW.skip ?_)
    | (with_reducible refine CW.ret ?_)
    | (with_reducible refine KP.then_ret ?_)
    | (with_reducible refine KP.block_ret ?_)
    | (with_reducible refine CW.block ?_)
    | (with_reducible refine KP.block_normal ?_)
    | (with_reducible refine CW.exit ?_)
    | (with_reducible refine KP.then_exit ?_)
    | (with_reducible refine KP.block_hit ?_)
    | refine KP.bm ?_
    | refine CW.ct ?_
    | refine CW.cf ?_
    | (refine CW.cP ?_ ?_ <;> intro _ <;> try contradiction)
    | (refine CW.cs ?_ ?_ <;> intro _ <;> try contradiction)
    | (refine CW.region (i := 0) ?_ <;> refine KP.q QK.as ?_ <;> refine KP.q QK.as ?_ <;> refine KP.list_nil ?_)
    | (refine CW.region (i := 1) ?_ <;> refine KP.q QK.mv ?_ <;> (refine KP.e ?_; ((first | refine EK.call (runes_bad hq h1) ?_ | refine EK.call (runes_ok ht h2) ?_ | refine EK.call (runes_ok hq h1) ?_ | refine EK.call (runes_bad ht h2) ?_ | refine EK.call (runes_ok hq h1) ?_ | refine EK.call (runes_ok ht h2) ?_); repeat' first | refine CP.r ?_ | refine CP.r0 ?_ | refine CP.exP fun e14 => ?_ | refine CP.puP fun h14 => ?_)) <;> refine KP.q QK.mv ?_ <;> refine KP.q QK.ex ?_ <;> refine KP.q QK.ex ?_ <;> refine KP.q QK.as ?_ <;> refine KP.q QK.as ?_ <;> refine KP.list_nil ?_)
    | (refine CW.region (i := 2) ?_ <;> refine KP.q QK.mv ?_ <;> (refine KP.e ?_; ((first | refine EK.call (runes_bad hq h1) ?_ | refine EK.call (runes_ok ht h2) ?_ | refine EK.call (runes_ok hq h1) ?_ | refine EK.call (runes_bad ht h2) ?_ | refine EK.call (runes_ok hq h1) ?_ | refine EK.call (runes_ok ht h2) ?_); repeat' first | refine CP.r ?_ | refine CP.r0 ?_ | refine CP.exP fun e19 => ?_ | refine CP.puP fun h19 => ?_)) <;> refine KP.q QK.mv ?_ <;> refine KP.q QK.ex ?_ <;> refine KP.q QK.ex ?_ <;> refine KP.q QK.as ?_ <;> refine KP.q QK.as ?_ <;> refine KP.list_nil ?_)
    | (refine CW.region (i := 3) ?_ <;> refine KP.q QK.mv ?_ <;> refine KP.q QK.not ?_ <;> refine KP.q QK.mv ?_ <;> (first | refine KP.gn ?_ | refine KP.gu ?_ | refine KP.qy QK.mv ?_ | ((first | refine KP.gsP (t := 24) ?_ ?_ | refine KP.gs (t := 24) ?_ ?_) <;> intro _ <;> first | contradiction | refine KP.gn ?_ | refine KP.qy QK.mv ?_)) <;> (first | refine KP.gn ?_ | refine KP.gu ?_ | refine KP.qy QK.not ?_) <;> refine KP.q QK.pk ?_ <;> refine KP.list_nil ?_)
    | (refine CW.region (i := 4) ?_ <;> refine KP.q QK.as ?_ <;> refine KP.q QK.as ?_ <;> refine KP.list_nil ?_)
    | ((with_reducible apply KP.fin2); (· rfl); (· rfl); (· rfl)))
      exact FA.ret
    · 
      repeat' (first
    | (with_reducible refine CW.seq ?_)
    | (with_reducible refine KP.then_code ?_)
    | (with_reducible refine CW.skip ?_)
    | (with_reducible refine CW.ret ?_)
    | (with_reducible refine KP.then_ret ?_)
    | (with_reducible refine KP.block_ret ?_)
    | (with_reducible refine CW.block ?_)
    | (with_reducible refine KP.block_normal ?_)
    | (with_reducible refine CW.exit ?_)
    | (with_reducible refine KP.then_exit ?_)
    | (with_reducible refine KP.block_hit ?_)
    | refine KP.bm ?_
    | refine CW.ct ?_
    | refine CW.cf ?_
    | (refine CW.cP ?_ ?_ <;> intro _ <;> try contradiction)
    | (refine CW.cs ?_ ?_ <;> intro _ <;> try contradiction)
    | (refine CW.region (i := 0) ?_ <;> refine KP.q QK.as ?_ <;> refine KP.q QK.as ?_ <;> refine KP.list_nil ?_)
    | (refine CW.region (i := 1) ?_ <;> refine KP.q QK.mv ?_ <;> (refine KP.e ?_; ((first | refine EK.call (runes_bad hq h1) ?_ | refine EK.call (runes_bad ht h2) ?_ | refine EK.call (runes_bad hq h1) ?_ | refine EK.call (runes_ok ht h2) ?_ | refine EK.call (runes_ok hq h1) ?_ | refine EK.call (runes_bad ht h2) ?_ | refine EK.call (runes_ok hq h1) ?_ | refine EK.call (runes_ok ht h2) ?_); repeat' first | refine CP.r ?_ | refine CP.r0 ?_ | refine CP.exP fun e14 => ?_ | refine CP.puP fun h14 => ?_)) <;> refine KP.q QK.mv ?_ <;> refine KP.q QK.ex ?_ <;> refine KP.q QK.ex ?_ <;> refine KP.q QK.as ?_ <;> refine KP.q QK.as ?_ <;> refine KP.list_nil ?_)
    | (refine CW.region (i := 2) ?_ <;> refine KP.q QK.mv ?_ <;> (refine KP.e ?_; ((first | refine EK.call (runes_bad hq h1) ?_ | refine EK.call (runes_bad ht h2) ?_ | refine EK.call (runes_bad hq h1) ?_ | refine EK.call (runes_ok ht h2) ?_ | refine EK.call (runes_ok hq h1) ?_ | refine EK.call (runes_bad ht h2) ?_ | refine EK.call (runes_ok hq h1) ?_ | refine EK.call (runes_ok ht h2) ?_); repeat' first | refine CP.r ?_ | refine CP.r0 ?_ | refine CP.exP fun e19 => ?_ | refine CP.puP fun h19 => ?_)) <;> refine KP.q QK.mv ?_ <;> refine KP.q QK.ex ?_ <;> refine KP.q QK.ex ?_ <;> refine KP.q QK.as ?_ <;> refine KP.q QK.as ?_ <;> refine KP.list_nil ?_)
    | (refine CW.region (i := 3) ?_ <;> refine KP.q QK.mv ?_ <;> refine KP.q QK.not ?_ <;> refine KP.q QK.mv ?_ <;> (first | refine KP.gn ?_ | refine KP.gu ?_ | refine KP.qy QK.mv ?_ | ((first | refine KP.gsP (t := 24) ?_ ?_ | refine KP.gs (t := 24) ?_ ?_) <;> intro _ <;> first | contradiction | refine KP.gn ?_ | refine KP.qy QK.mv ?_)) <;> (first | refine KP.gn ?_ | refine KP.gu ?_ | refine KP.qy QK.not ?_) <;> refine KP.q QK.pk ?_ <;> refine KP.list_nil ?_)
    | (refine CW.region (i := 4) ?_ <;> refine KP.q QK.as ?_ <;> refine KP.q QK.as ?_ <;> refine KP.list_nil ?_)
    | ((with_reducible apply KP.fin2); (· rfl); (· rfl); (· rfl)))
      exact FA.ret

theorem nearE {q t : ByteArray} {k : Int} {o : Option Nat} (hq : q.size ≤ 1000000) (ht : t.size ≤ 1000000) (h : nearF q t k = o) : Spc Try.prog 73 #[.string q, .string t, iv k] [] [] (ret (nearV o) []) := h ▸ near_spec hq ht
/-- The words near a query, unsorted. -/
def nearsF (q : ByteArray) (k : Int) (ts : List ByteArray) : List Item := ts.filterMap fun t => (nearF q t k).map fun d : Nat => (⟨(d : Int), t⟩ : Item)
def allF (ts : List ByteArray) (q : ByteArray) (k : Int) : List Item := sortF (nearsF q k ts)
theorem nears_len (q : ByteArray) (k : Int) (ts : List ByteArray) : (nearsF q k ts).length ≤ ts.length := List.length_filterMap_le _ _
theorem nears_some {q t : ByteArray} {k : Int} {ts : List ByteArray} {d : Nat} (h : nearF q t k = some d) : nearsF q k (ts ++ [t]) = nearsF q k ts ++ [⟨(d : Int), t⟩] := by
  simp [nearsF, List.filterMap_append, h]
theorem nears_none {q t : ByteArray} {k : Int} {ts : List ByteArray} (h : nearF q t k = none) : nearsF q k (ts ++ [t]) = nearsF q k ts := by
  simp [nearsF, List.filterMap_append, h]
theorem all_spec {v : Value} {ts : List ByteArray} {q : ByteArray} {k : Int} (hq : q.size ≤ 1000000) (hl : ts.length ≤ 50000) (ht : ∀ t ∈ ts, t.size ≤ 1000000) : Spc Try.prog 24 #[v, .string q, iv k] [rrow 1 eS v ts] [] (exP fun v' => puP (v'.oneCell' = true) (ret v' [row 39 2 eI v' (allF ts q k)])) := by
  refine Spc.enter' (args := [v, .string q, iv k]) (T0 := [(0, v), (1, .string q), (2, iv k)]) Try.func24 rfl Try.ntmps24 (Nat.le_of_ble_eq_true rfl) rfl ?_
  intro w0 own
  repeat' (first
    | (with_reducible refine CW.seq ?_)
    | (with_reducible refine KP.then_code ?_)
    | (with_reducible refine CW.skip ?_)
    | (with_reducible refine CW.ret ?_)
    | (with_reducible refine KP.then_ret ?_)
    | (with_reducible refine KP.block_ret ?_)
    | (with_reducible refine CW.block ?_)
    | (with_reducible refine KP.block_normal ?_)
    | (with_reducible refine CW.exit ?_)
    | (with_reducible refine KP.then_exit ?_)
    | (with_reducible refine KP.block_hit ?_)
    | refine KP.bm ?_
    | refine CW.ct ?_
    | refine CW.cf ?_
    | (refine CW.cP ?_ ?_ <;> intro _ <;> try contradiction)
    | (refine CW.cs ?_ ?_ <;> intro _ <;> try contradiction)
    | (refine CW.region (i := 0) ?_ <;> refine KP.q QK.as ?_ <;> refine KP.list_nil ?_)
    | (refine CW.region (i := 1) ?_ <;> refine KP.q QK.as ?_ <;> refine KP.list_nil ?_)
    | (refine CW.region (i := 2) ?_ <;> refine KP.q QK.mv ?_ <;> refine KP.q QK.len ?_ <;> refine KP.q QK.mv ?_ <;> refine KP.list_nil ?_)
    | ((with_reducible apply KP.fin1); (· rfl); (· rfl)))
  refine CW.add (B := row 39 2 eI (.slice none 0 0) (nearsF q k (ts.take 0))) row.none ?_
  refine CA.loop (X := Nat × Value) (fun z => [(1, .string q), (2, iv k), (12, v), (13, iv (ts.length : Nat)), (14, iv (z.1 : Nat)), (7, z.2)]) (fun z => [row 39 2 eI z.2 (nearsF q k (ts.take z.1))]) (fun z => z.1 ≤ ts.length ∧ z.2.oneCell' = true) (fun z => ts.length - z.1) (0, .slice none 0 0) ⟨by simp, rfl⟩ ?_
  rintro ⟨i, r⟩ ⟨hi, hr⟩
  try dsimp only at hi hr ⊢
  rcases Nat.lt_or_ge i ts.length with hlt | hge
  · obtain ⟨t, htt⟩ := at_lt hlt
    have hts := ht t (List.mem_of_getElem? htt)
    have htk : ts.take (i + 1) = ts.take i ++ [t] := by rw [List.take_add_one, htt]; rfl
    have hnl := nears_len q k (ts.take i)
    rw [List.length_take] at hnl
    
    cases hn : nearF q t k with
    | none =>
      have hs := nears_none (ts := ts.take i) hn
      rw [← htk] at hs
      
      repeat' (first
    | (with_reducible refine CW.seq ?_)
    | (with_reducible refine KP.then_code ?_)
    | (with_reducible refine CW.skip ?_)
    | (with_reducible refine CW.ret ?_)
    | (with_reducible refine KP.then_ret ?_)
    | (with_reducible refine KP.block_ret ?_)
    | (with_reducible refine CW.block ?_)
    | (with_reducible refine KP.block_normal ?_)
    | (with_reducible refine CW.exit ?_)
    | (with_reducible refine KP.then_exit ?_)
    | (with_reducible refine KP.block_hit ?_)
    | refine KP.bm ?_
    | refine CW.ct ?_
    | refine CW.cf ?_
    | (refine CW.cP ?_ ?_ <;> intro _ <;> try contradiction)
    | (refine CW.cs ?_ ?_ <;> intro _ <;> try contradiction)
    | (refine CW.region (i := 3) ?_ <;> refine KP.q QK.lss ?_ <;> refine KP.list_nil ?_)
    | (refine CW.region (i := 4) ?_ <;> refine KP.q QK.ia ?_ <;> refine KP.q (by first | exact QY.load_s rfl (Rd.ro (by with_reducible first | exact m0 | exact m1 | exact m2 | exact m3 | exact m4 | exact m5 | fail)) (Reads.row0 RowL.rrow htt rfl) | exact QK.lds) ?_ <;> refine KP.q QK.as ?_ <;> refine KP.list_nil ?_)
    | (refine CW.region (i := 5) ?_ <;> refine KP.q QK.mv ?_ <;> refine KP.q QK.mv ?_ <;> refine KP.q QK.mv ?_ <;> (refine KP.e ?_; ((refine EK.call (nearE hq hts hn) ?_); repeat' first | refine CP.r ?_ | refine CP.r0 ?_ | refine CP.exP fun e22 => ?_ | refine CP.puP fun h22 => ?_)) <;> refine KP.q QK.mv ?_ <;> refine KP.q QK.ex ?_ <;> refine KP.q QK.ex ?_ <;> refine KP.q QK.as ?_ <;> refine KP.q QK.as ?_ <;> refine KP.list_nil ?_)
    | (refine CW.region (i := 6) ?_ <;> refine KP.q QK.mv ?_ <;> refine KP.list_nil ?_)
    | (refine CW.region (i := 8) ?_ <;> refine KP.q QK.add ?_ <;> refine KP.q QK.mv ?_ <;> refine KP.list_nil ?_)
    | ((with_reducible apply KP.fin1); (· rfl); (· rfl)))
      rw [← hs]
      exact KA.round (i + 1, r) ⟨by simp only; omega, hr⟩
    | some d =>
      have hs := nears_some (ts := ts.take i) hn
      rw [← htk] at hs
      
      
      repeat' (first
    | (with_reducible refine CW.seq ?_)
    | (with_reducible refine KP.then_code ?_)
    | (with_reducible refine CW.skip ?_)
    | (with_reducible refine CW.ret ?_)
    | (with_reducible refine KP.then_ret ?_)
    | (with_reducible refine KP.block_ret ?_)
    | (with_reducible refine CW.block ?_)
    | (with_reducible refine KP.block_normal ?_)
    | (with_reducible refine CW.exit ?_)
    | (with_reducible refine KP.then_exit ?_)
    | (with_reducible refine KP.block_hit ?_)
    | refine KP.bm ?_
    | refine CW.ct ?_
    | refine CW.cf ?_
    | (refine CW.cP ?_ ?_ <;> intro _ <;> try contradiction)
    | (refine CW.cs ?_ ?_ <;> intro _ <;> try contradiction)
    | (refine CW.region (i := 3) ?_ <;> refine KP.q QK.lss ?_ <;> refine KP.list_nil ?_)
    | (refine CW.region (i := 4) ?_ <;> refine KP.q QK.ia ?_ <;> refine KP.q (by first | exact QY.load_s rfl (Rd.ro (by with_reducible first | exact m0 | exact m1 | exact m2 | exact m3 | exact m4 | exact m5 | fail)) (Reads.row0 RowL.rrow htt rfl) | exact QK.lds) ?_ <;> refine KP.q QK.as ?_ <;> refine KP.list_nil ?_)
    | (refine CW.region (i := 5) ?_ <;> refine KP.q QK.mv ?_ <;> refine KP.q QK.mv ?_ <;> refine KP.q QK.mv ?_ <;> (refine KP.e ?_; ((first | refine EK.call (nearE hq hts hn) ?_ | refine EK.call (nearE hq hts hn) ?_); repeat' first | refine CP.r ?_ | refine CP.r0 ?_ | refine CP.exP fun e22 => ?_ | refine CP.puP fun h22 => ?_)) <;> refine KP.q QK.mv ?_ <;> refine KP.q QK.ex ?_ <;> refine KP.q QK.ex ?_ <;> refine KP.q QK.as ?_ <;> refine KP.q QK.as ?_ <;> refine KP.list_nil ?_)
    | (refine CW.region (i := 6) ?_ <;> refine KP.q QK.mv ?_ <;> refine KP.list_nil ?_)
    | (refine CW.region (i := 7) ?_ <;> refine KP.q QK.mv ?_ <;> refine KP.q QK.mv ?_ <;> refine KP.q QK.mv ?_ <;> refine KP.q QK.bd ?_ <;> (refine KP.e ?_; ((first | refine EW.buildSlice1_s (by decide) rfl (by first | rfl | assumption) rfl ?_ | refine EW.buildSlice1_a (by decide) rfl (by rfl) (by rfl) (by decide) (by decide) ?_); intro b30)) <;> (refine KP.e ?_; (first | (refine EK.app1 (enc := eI) ⟨(d : Int), t⟩ ?_; intro w31 o31) | (refine EK.app1 _ ?_; intro w31 o31))) <;> refine KP.q QK.as ?_ <;> refine KP.list_nil ?_)
    | (refine CW.region (i := 8) ?_ <;> refine KP.q QK.add ?_ <;> refine KP.q QK.mv ?_ <;> refine KP.list_nil ?_)
    | ((with_reducible apply KP.fin1); (· rfl); (· rfl)))
      rw [← hs]
      exact KA.round (i + 1, w31) ⟨by simp only; omega, by assumption⟩
  · obtain rfl : i = ts.length := by omega
    rw [List.take_length]
    have hnl := nears_len q k ts
    
    repeat' (first
    | (with_reducible refine CW.seq ?_)
    | (with_reducible refine KP.then_code ?_)
    | (with_reducible refine CW.skip ?_)
    | (with_reducible refine CW.ret ?_)
    | (with_reducible refine KP.then_ret ?_)
    | (with_reducible refine KP.block_ret ?_)
    | (with_reducible refine CW.block ?_)
    | (with_reducible refine KP.block_normal ?_)
    | (with_reducible refine CW.exit ?_)
    | (with_reducible refine KP.then_exit ?_)
    | (with_reducible refine KP.block_hit ?_)
    | refine KP.bm ?_
    | refine CW.ct ?_
    | refine CW.cf ?_
    | (refine CW.cP ?_ ?_ <;> intro _ <;> try contradiction)
    | (refine CW.cs ?_ ?_ <;> intro _ <;> try contradiction)
    | (refine CW.region (i := 3) ?_ <;> refine KP.q QK.lss ?_ <;> refine KP.list_nil ?_)
    | (refine CW.region (i := 9) ?_ <;> refine KP.q QK.mv ?_ <;> (refine KP.e ?_; ((refine EK.call (sort_spec (xs := nearsF q k ts) (by omega)) ?_); repeat' first | refine CP.r ?_ | refine CP.r0 ?_ | refine CP.exP fun e34 => ?_ | refine CP.puP fun h34 => ?_)) <;> refine KP.q QK.as ?_ <;> refine KP.list_nil ?_)
    | ((with_reducible apply KP.fin1); (· rfl); (· rfl)))
    unfold allF
    refine Fina.exP _ (Fina.puP (by assumption) ?_)
    exact FA.ret

/-! ### queries -/
structure Qy where
  text : ByteArray
  most : Int
  many : Int
  deriving DecidableEq
def eQ (x : Qy) : List Value := [.string x.text, iv x.most, iv x.many]
instance : Enc eQ 3 := ⟨fun _ => rfl, by decide, fun a u hu => by
  simp only [eQ, List.mem_cons, List.not_mem_nil, or_false] at hu
  rcases hu with rfl | rfl | rfl <;> rfl⟩
def askedF (s : ByteArray) : Bool := decide (0 ≤ lenF s) && decide (lenF s ≤ 16)
def mayF (x : Qy) : Bool := askedF x.text && decide (0 ≤ x.most) && decide (x.most ≤ 4) && decide (1 ≤ x.many) && decide (x.many ≤ 10)

theorem asked_spec {s : ByteArray} (hs : s.size ≤ 1000000) : Spc Try.prog 74 #[.string s] [] [] (ret (.bool (askedF s)) []) := by
  refine Spc.enter' (args := [.string s]) (T0 := [(0, .string s)]) Try.func74 rfl Try.ntmps74 (Nat.le_of_ble_eq_true rfl) rfl ?_
  intro w0 own
  repeat' (first
    | (with_reducible refine CW.seq ?_)
    | (with_reducible refine KP.then_code ?_)
    | (with_reducible refine CW.skip ?_)
    | (with_reducible refine CW.ret ?_)
    | (with_reducible refine KP.then_ret ?_)
    | (with_reducible refine KP.block_ret ?_)
    | (with_reducible refine CW.block ?_)
    | (with_reducible refine KP.block_normal ?_)
    | (with_reducible refine CW.exit ?_)
    | (with_reducible refine KP.then_exit ?_)
    | (with_reducible refine KP.block_hit ?_)
    | refine KP.bm ?_
    | refine CW.ct ?_
    | refine CW.cf ?_
    | (refine CW.cP ?_ ?_ <;> intro _ <;> try contradiction)
    | (refine CW.cs ?_ ?_ <;> intro _ <;> try contradiction)
    | (refine CW.region (i := 0) ?_ <;> refine KP.q QK.as ?_ <;> refine KP.list_nil ?_)
    | (refine CW.region (i := 1) ?_ <;> refine KP.q QK.mv ?_ <;> (refine KP.e ?_; ((refine EK.call (rlen_spec hs) ?_); repeat' first | refine CP.r ?_ | refine CP.r0 ?_ | refine CP.exP fun e5 => ?_ | refine CP.puP fun h5 => ?_)) <;> refine KP.q QK.as ?_ <;> refine KP.list_nil ?_)
    | (refine CW.region (i := 2) ?_ <;> refine KP.q QK.mv ?_ <;> refine KP.q QK.geq ?_ <;> refine KP.q QK.mv ?_ <;> (first | refine KP.gn ?_ | refine KP.gu ?_ | refine KP.qy QK.mv ?_ | ((first | refine KP.gsP (t := 8) ?_ ?_ | refine KP.gs (t := 8) ?_ ?_) <;> intro _ <;> first | contradiction | refine KP.gn ?_ | refine KP.qy QK.mv ?_)) <;> (first | refine KP.gn ?_ | refine KP.gu ?_ | refine KP.qy QK.leq ?_) <;> refine KP.q QK.pk ?_ <;> refine KP.q QK.as ?_ <;> refine KP.list_nil ?_)
    | ((with_reducible apply KP.fin1); (· rfl); (· rfl)))
  all_goals exact FA.ret' (by first | (simp_all [askedF]; done) | (simp_all [askedF]; omega))


theorem may_spec {x : Qy} (hs : x.text.size ≤ 1000000) : Spc Try.prog 25 #[.agg (eQ x).toArray] [] [] (ret (.bool (mayF x)) []) := by
  refine Spc.enter' (args := [.agg (eQ x).toArray]) (T0 := [(0, .agg (eQ x).toArray)]) Try.func25 rfl Try.ntmps25 (Nat.le_of_ble_eq_true rfl) rfl ?_
  intro w0 own
  repeat' (first
    | (with_reducible refine CW.seq ?_)
    | (with_reducible refine KP.then_code ?_)
    | (with_reducible refine CW.skip ?_)
    | (with_reducible refine CW.ret ?_)
    | (with_reducible refine KP.then_ret ?_)
    | (with_reducible refine KP.block_ret ?_)
    | (with_reducible refine CW.block ?_)
    | (with_reducible refine KP.block_normal ?_)
    | (with_reducible refine CW.exit ?_)
    | (with_reducible refine KP.then_exit ?_)
    | (with_reducible refine KP.block_hit ?_)
    | refine KP.bm ?_
    | refine CW.ct ?_
    | refine CW.cf ?_
    | (refine CW.cP ?_ ?_ <;> intro _ <;> try contradiction)
    | (refine CW.cs ?_ ?_ <;> intro _ <;> try contradiction)
    | (refine CW.region (i := 0) ?_ <;> (refine KP.e ?_; (refine EK.box_a ?_; intro b1)) <;> refine KP.q QK.as ?_ <;> refine KP.list_nil ?_)
    | (refine CW.region (i := 1) ?_ <;> refine KP.q QK.fa ?_ <;> refine KP.q QK.lds ?_ <;> (refine KP.e ?_; ((refine EK.call (asked_spec hs) ?_); repeat' first | refine CP.r ?_ | refine CP.r0 ?_ | refine CP.exP fun e5 => ?_ | refine CP.puP fun h5 => ?_)) <;> refine KP.q QK.mv ?_ <;> (first | refine KP.gn ?_ | refine KP.gu ?_ | refine KP.qy QK.fa ?_ | ((first | refine KP.gsP (t := 6) ?_ ?_ | refine KP.gs (t := 6) ?_ ?_) <;> intro _ <;> first | contradiction | refine KP.gn ?_ | refine KP.qy QK.fa ?_)) <;> (first | refine KP.gn ?_ | refine KP.gu ?_ | refine KP.qy QK.lds ?_) <;> (first | refine KP.gn ?_ | refine KP.gu ?_ | refine KP.qy QK.geq ?_) <;> refine KP.q QK.pk ?_ <;> refine KP.q QK.mv ?_ <;> (first | refine KP.gn ?_ | refine KP.gu ?_ | refine KP.qy QK.fa ?_ | ((first | refine KP.gsP (t := 11) ?_ ?_ | refine KP.gs (t := 11) ?_ ?_) <;> intro _ <;> first | contradiction | refine KP.gn ?_ | refine KP.qy QK.fa ?_)) <;> (first | refine KP.gn ?_ | refine KP.gu ?_ | refine KP.qy QK.lds ?_) <;> (first | refine KP.gn ?_ | refine KP.gu ?_ | refine KP.qy QK.leq ?_) <;> refine KP.q QK.pk ?_ <;> refine KP.q QK.mv ?_ <;> (first | refine KP.gn ?_ | refine KP.gu ?_ | refine KP.qy QK.fa ?_ | ((first | refine KP.gsP (t := 16) ?_ ?_ | refine KP.gs (t := 16) ?_ ?_) <;> intro _ <;> first | contradiction | refine KP.gn ?_ | refine KP.qy QK.fa ?_)) <;> (first | refine KP.gn ?_ | refine KP.gu ?_ | refine KP.qy QK.lds ?_) <;> (first | refine KP.gn ?_ | refine KP.gu ?_ | refine KP.qy QK.geq ?_) <;> refine KP.q QK.pk ?_ <;> refine KP.q QK.mv ?_ <;> (first | refine KP.gn ?_ | refine KP.gu ?_ | refine KP.qy QK.fa ?_ | ((first | refine KP.gsP (t := 21) ?_ ?_ | refine KP.gs (t := 21) ?_ ?_) <;> intro _ <;> first | contradiction | refine KP.gn ?_ | refine KP.qy QK.fa ?_)) <;> (first | refine KP.gn ?_ | refine KP.gu ?_ | refine KP.qy QK.lds ?_) <;> (first | refine KP.gn ?_ | refine KP.gu ?_ | refine KP.qy QK.leq ?_) <;> refine KP.q QK.pk ?_ <;> refine KP.q QK.as ?_ <;> refine KP.list_nil ?_)
    | ((with_reducible apply KP.fin1); (· rfl); (· rfl)))
  all_goals exact FA.ret' (by first | (simp_all [mayF]; done) | (simp_all [mayF]; omega))

theorem mayE {x : Qy} {b : Bool} (hs : x.text.size ≤ 1000000) (h : mayF x = b) : Spc Try.prog 25 #[.agg (eQ x).toArray] [] [] (ret (.bool b) []) := h ▸ may_spec hs
def topF (ts : List ByteArray) (x : Qy) : List Item := if mayF x = true then (allF ts x.text x.most).take x.many.toNat else []
theorem sortF_len' (xs : List Item) : (sortF xs).length = xs.length := sortF_len xs
theorem top_spec {v : Value} {ts : List ByteArray} {x : Qy} (hq : x.text.size ≤ 1000000) (hl : ts.length ≤ 50000) (ht : ∀ t ∈ ts, t.size ≤ 1000000) : Spc Try.prog 23 #[v, .agg (eQ x).toArray] [rrow 1 eS v ts] [] (exP fun v' => puP (v'.oneCell' = true) (ret v' [row 39 2 eI v' (topF ts x)])) := by
  refine Spc.enter' (args := [v, .agg (eQ x).toArray]) (T0 := [(0, v), (1, .agg (eQ x).toArray)]) Try.func23 rfl Try.ntmps23 (Nat.le_of_ble_eq_true rfl) rfl ?_
  intro w0 own
  cases hm : mayF x
  rotate_left
  · 
    have hq2 : 1 ≤ x.many ∧ x.many ≤ 10 := by
      unfold mayF at hm
      simp only [Bool.and_eq_true, decide_eq_true_eq] at hm
      omega
    obtain ⟨m, hmm⟩ : ∃ m : Nat, x.many = m := ⟨x.many.toNat, by omega⟩
    have htn : x.many.toNat = m := by omega
    have hnl := nears_len x.text x.most ts
    have hal : (allF ts x.text x.most).length = (nearsF x.text x.most ts).length := sortF_len _
    rw [topF, hm, if_pos rfl, htn]
    
    repeat' (first
    | (with_reducible refine CW.seq ?_)
    | (with_reducible refine KP.then_code ?_)
    | (with_reducible refine CW.skip ?_)
    | (with_reducible refine CW.ret ?_)
    | (with_reducible refine KP.then_ret ?_)
    | (with_reducible refine KP.block_ret ?_)
    | (with_reducible refine CW.block ?_)
    | (with_reducible refine KP.block_normal ?_)
    | (with_reducible refine CW.exit ?_)
    | (with_reducible refine KP.then_exit ?_)
    | (with_reducible refine KP.block_hit ?_)
    | refine KP.bm ?_
    | refine CW.ct ?_
    | refine CW.cf ?_
    | (refine CW.cP ?_ ?_ <;> intro _ <;> try contradiction)
    | (refine CW.cs ?_ ?_ <;> intro _ <;> try contradiction)
    | (refine CW.region (i := 0) ?_ <;> (refine KP.e ?_; (refine EK.box_a ?_; intro b3)) <;> refine KP.q QK.as ?_ <;> refine KP.list_nil ?_)
    | (refine CW.region (i := 1) ?_ <;> refine KP.q QK.lda ?_ <;> (refine KP.e ?_; ((refine EK.call (mayE hq hm) ?_); repeat' first | refine CP.r ?_ | refine CP.r0 ?_ | refine CP.exP fun e7 => ?_ | refine CP.puP fun h7 => ?_)) <;> refine KP.q QK.not ?_ <;> refine KP.list_nil ?_)
    | (refine CW.region (i := 2) ?_ <;> refine KP.q QK.as ?_ <;> refine KP.list_nil ?_)
    | (refine CW.region (i := 3) ?_ <;> refine KP.q QK.mv ?_ <;> refine KP.q QK.fa ?_ <;> refine KP.q QK.lds ?_ <;> refine KP.q QK.fa ?_ <;> refine KP.q QK.lds ?_ <;> (refine KP.e ?_; ((refine EK.call (all_spec hq hl ht) ?_); repeat' first | refine CP.r ?_ | refine CP.r0 ?_ | refine CP.exP fun e14 => ?_ | refine CP.puP fun h14 => ?_)) <;> refine KP.q QK.as ?_ <;> refine KP.list_nil ?_)
    | ((with_reducible apply KP.fin1); (· rfl); (· rfl)))
    generalize allF ts x.text x.most = zs at *
    obtain ⟨p, hp⟩ : ∃ p, min zs.length m = p := ⟨_, rfl⟩
    have hpv : iv (min (zs.length : Int) x.many) = iv (p : Nat) := by rw [hmm]; congr 1; omega
    have htp : zs.take m = zs.take p := by
      rw [← hp]
      rcases Nat.le_total zs.length m with h | h
      · rw [Nat.min_eq_left h, List.take_of_length_le h, List.take_length]
      · rw [Nat.min_eq_right h]
    have hpl : p ≤ zs.length := by omega
    have hcl : (zs.take p).length ≤ 100000 := by simp; omega
    have hv : ∀ h, row 39 2 eI e14 zs h → rrow 2 eI (slv 2 e14 0 p) (zs.take p) h := fun _ r => by
      have := (row.rrow _ r).cut (Nat.zero_le p) hpl
      simpa using this
    rw [htp]
    
    
    
    repeat' (first
    | (with_reducible refine CW.seq ?_)
    | (with_reducible refine KP.then_code ?_)
    | (with_reducible refine CW.skip ?_)
    | (with_reducible refine CW.ret ?_)
    | (with_reducible refine KP.then_ret ?_)
    | (with_reducible refine KP.block_ret ?_)
    | (with_reducible refine CW.block ?_)
    | (with_reducible refine KP.block_normal ?_)
    | (with_reducible refine CW.exit ?_)
    | (with_reducible refine KP.then_exit ?_)
    | (with_reducible refine KP.block_hit ?_)
    | refine KP.bm ?_
    | refine CW.ct ?_
    | refine CW.cf ?_
    | (refine CW.cP ?_ ?_ <;> intro _ <;> try contradiction)
    | (refine CW.cs ?_ ?_ <;> intro _ <;> try contradiction)
    | (refine CW.region (i := 4) ?_ <;> refine KP.q QK.mv ?_ <;> refine KP.q QK.mv ?_ <;> refine KP.q QK.len ?_ <;> refine KP.q QK.fa ?_ <;> refine KP.q QK.lds ?_ <;> refine KP.q (by first | exact QY.same (QY.min2 rfl rfl) hpv | exact QK.min) ?_ <;> refine KP.q (by first | exact QY.cut_hi (hi := p) rfl rfl (Rd.own (by with_reducible first | exact k0 | exact k1 | exact k2 | exact k3 | exact k4 | exact k5 | exact k6 | exact k7 | exact k8 | exact k9 | fail)) RowL.row hpl | exact QK.sl_hi) ?_ <;> (refine KP.e ?_; ((refine EK.call (clone_spec (xs := zs.take p) hcl) ?_ rfl Split.nil (.cons (.via hv (by with_reducible first | exact k0 | exact k1 | exact k2 | exact k3 | exact k4 | exact k5 | exact k6 | exact k7 | exact k8 | exact k9 | fail)) .nil)); repeat' first | refine CP.r ?_ | refine CP.r0 ?_ | refine CP.exP fun e22 => ?_ | refine CP.puP fun h22 => ?_)) <;> refine KP.q QK.as ?_ <;> refine KP.list_nil ?_)
    | ((with_reducible apply KP.fin1); (· rfl); (· rfl)))
    refine Fina.exP _ (Fina.puP (by assumption) ?_)
    exact FA.ret
  · 
    rw [topF, hm, if_neg (by decide)]
    repeat' (first
    | (with_reducible refine CW.seq ?_)
    | (with_reducible refine KP.then_code ?_)
    | (with_reducible refine CW.skip ?_)
    | (with_reducible refine CW.ret ?_)
    | (with_reducible refine KP.then_ret ?_)
    | (with_reducible refine KP.block_ret ?_)
    | (with_reducible refine CW.block ?_)
    | (with_reducible refine KP.block_normal ?_)
    | (with_reducible refine CW.exit ?_)
    | (with_reducible refine KP.then_exit ?_)
    | (with_reducible refine KP.block_hit ?_)
    | refine KP.bm ?_
    | refine CW.ct ?_
    | refine CW.cf ?_
    | (refine CW.cP ?_ ?_ <;> intro _ <;> try contradiction)
    | (refine CW.cs ?_ ?_ <;> intro _ <;> try contradiction)
    | (refine CW.region (i := 0) ?_ <;> (refine KP.e ?_; (refine EK.box_a ?_; intro b3)) <;> refine KP.q QK.as ?_ <;> refine KP.list_nil ?_)
    | (refine CW.region (i := 1) ?_ <;> refine KP.q QK.lda ?_ <;> (refine KP.e ?_; ((first | refine EK.call (mayE hq hm) ?_ | refine EK.call (mayE hq hm) ?_); repeat' first | refine CP.r ?_ | refine CP.r0 ?_ | refine CP.exP fun e7 => ?_ | refine CP.puP fun h7 => ?_)) <;> refine KP.q QK.not ?_ <;> refine KP.list_nil ?_)
    | (refine CW.region (i := 2) ?_ <;> refine KP.q QK.as ?_ <;> refine KP.list_nil ?_)
    | ((with_reducible apply KP.fin1); (· rfl); (· rfl)))
    refine Fina.exP (.slice none 0 0) (Fina.puP rfl (Fina.add (B := row 39 2 eI (.slice none 0 0) []) row.none ?_))
    exact FA.ret

/-! ### great texts -/
abbrev bigT (t : ByteArray) : Bool := decide (100 < t.size)
def greatT (ts : List ByteArray) : Bool := decide (80 < ts.length) || ts.any bigT
theorem greatT_len {ts : List ByteArray} (h : greatT ts = false) : ts.length ≤ 80 := by
  simp [greatT] at h; omega
theorem greatT_size {ts : List ByteArray} (h : greatT ts = false) : ∀ t ∈ ts, t.size ≤ 1000000 := by
  intro t ht
  simp [greatT] at h
  have := h.2 t ht
  omega
end Go.Proofs.Ytpmhelfdmhjnbaa
