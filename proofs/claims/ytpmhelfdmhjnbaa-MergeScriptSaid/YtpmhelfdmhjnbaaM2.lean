import Derived.Test.YtpmhelfdmhjnbaaM1
/- The merge: what it is in memory; its small functions. -/
namespace Go.Proofs.Ytpmhelfdmhjnbaa
open Go Go.Ink
set_option linter.unusedVariables false
set_option linter.unusedSimpArgs false
attribute [local irreducible] KP QY EW CW DW QG CP Spc DK Fina wpList lessF

theorem RosOf.all {c : Cx} {L As : List Asrt} (h : ∀ A ∈ As, A ∈ c.ros) : RosOf c L As := by
  induction As with
  | nil => exact .nil
  | cons A As ih => exact .cons (.pass (h A (by simp))) (ih fun B hB => h B (by simp [hB]))
theorem Reads.sub {A : Asrt} {b off o k : Nat} {cs ds : List Value} (r : Reads A b off cs) (h : (cs.drop o).take k = ds) : Reads A b (off + o) ds := fun hh ha j v hj => by
  have : cs[o + j]? = some v := by
    rw [← h, List.getElem?_take] at hj
    split at hj
    · simpa [List.getElem?_drop] using hj
    · simp at hj
  obtain ⟨arr, e, fr, h1, h2⟩ := r hh ha _ _ this
  exact ⟨arr, e, fr, h1, by rw [Nat.add_assoc]; exact h2⟩
theorem Reads.sub0 {A : Asrt} {b off k : Nat} {cs ds : List Value} (r : Reads A b off cs) (h : cs.take k = ds) : Reads A b off ds := Reads.sub (o := 0) r h

theorem Reads.row0a {α : Type _} {enc : α → List Value} {n : Nat} [E : Enc enc n] {A : Asrt} {v : Value} {xs : List α} {x : α} (r : RowL A n enc v xs) (hx : xs[0]? = some x) : Reads A (vb v) (vo v + 0 * n) (enc x) := Reads.row (i := 0) r hx
/-- What is known of a shard. -/
structure PSh where
  least : Int
  seq : Int
  ended : Bool
  heard : Bool
  last : Item
  waits : List Item
  deriving DecidableEq
structure Sh where
  p : PSh
  wv : Value
  ow : wv.oneCell' = true
def eSh (s : Sh) : List Value := [iv s.p.least, iv s.p.seq, .bool s.p.ended, .bool s.p.heard, iv s.p.last.dist, .string s.p.last.word, s.wv]
instance : Enc eSh 7 := ⟨fun _ => rfl, by decide, fun a u hu => by
  simp only [eSh, List.mem_cons, List.not_mem_nil, or_false] at hu
  rcases hu with rfl | rfl | rfl | rfl | rfl | rfl | rfl <;> first | rfl | exact a.ow⟩
def waitsA (s : Sh) : Asrt := row 39 2 eI s.wv s.p.waits
abbrev sp (sv : Value) (i : Nat) : Value := .pointer (some ⟨vb sv, vo sv + i * 7, none⟩)
def PSh.wanted (s : PSh) : Bool := !s.ended && decide ((s.waits.length : Int) = 0)
def PSh.busy (s : PSh) : Bool := !s.ended || decide (0 < (s.waits.length : Int))
def PSh.might (s : PSh) (x : Item) : Bool := s.wanted && (if s.heard then lessF s.last x else decide (s.least ≤ x.dist))
abbrev wl (shs : List Sh) : Asrt := BigA waitsA shs

theorem get_some {m : Nat} {n : Int} {sv tv : Value} {shs : List Sh} {i : Nat} (h : i < shs.length) : Spc Try.prog 89 #[qp m, iv i] [pt m 101 [iv n, sv, tv], rrow 7 eSh sv shs] [] (ret (sp sv i) []) := by
  refine Spc.enter' (args := [qp m, iv i]) (T0 := [(0, qp m), (1, iv i)]) Try.func89 rfl Try.ntmps89 (Nat.le_of_ble_eq_true rfl) rfl ?_
  intro w0 own
  
  
  repeat' (first
    | (with_reducible refine CW.seq ?_)
    | (with_reducible refine KP.then_code ?_)
    | (with_reducible refine CW.skip ?_)
    | (with_reducible refine CW.ret ?_)
    | (with_reducible refine KP.then_ret ?_)
    | (with_reducible refine KP.block_ret ?_)
    | (with_reducible refine CW.block ?_)
    | (with_reducible refine KP.block_normal ?_)
    | (with_reducible refine CW.exit ?_)
    | (with_reducible refine KP.then_exit ?_)
    | (with_reducible refine KP.block_hit ?_)
    | refine KP.bm ?_
    | refine CW.ct ?_
    | refine CW.cf ?_
    | (refine CW.cP ?_ ?_ <;> intro _ <;> try contradiction)
    | (refine CW.cs ?_ ?_ <;> intro _ <;> try contradiction)
    | (refine CW.region (i := 0) ?_ <;> refine KP.q QK.as ?_ <;> refine KP.list_nil ?_)
    | (refine CW.region (i := 1) ?_ <;> refine KP.q QK.mv ?_ <;> refine KP.q QK.eqp ?_ <;> refine KP.q QK.mv ?_ <;> (first | refine KP.gn ?_ | refine KP.gu ?_ | refine KP.qy QK.mv ?_ | ((first | refine KP.gsP (t := 7) ?_ ?_ | refine KP.gs (t := 7) ?_ ?_) <;> intro _ <;> first | contradiction | refine KP.gn ?_ | refine KP.qy QK.mv ?_)) <;> (first | refine KP.gn ?_ | refine KP.gu ?_ | refine KP.qy QK.lss ?_) <;> refine KP.q QK.pk ?_ <;> refine KP.q QK.mv ?_ <;> (first | refine KP.gn ?_ | refine KP.gu ?_ | refine KP.qy QK.mv ?_ | ((first | refine KP.gsP (t := 11) ?_ ?_ | refine KP.gs (t := 11) ?_ ?_) <;> intro _ <;> first | contradiction | refine KP.gn ?_ | refine KP.qy QK.mv ?_)) <;> (first | refine KP.gn ?_ | refine KP.gu ?_ | refine KP.qy QK.mv ?_) <;> (first | refine KP.gn ?_ | refine KP.gu ?_ | refine KP.qy (by first | exact QY.nilCheck_ptr rfl | exact QK.nc) ?_) <;> (first | refine KP.gn ?_ | refine KP.gu ?_ | refine KP.qy QK.fa ?_) <;> (first | refine KP.gn ?_ | refine KP.gu ?_ | refine KP.qy (by first | exact QY.load_s rfl (Rd.ro (by with_reducible first | exact m0 | exact m1 | exact m2 | exact m3 | exact m4 | exact m5 | fail)) (Reads.pt1 (by rfl)) | exact QK.lds) ?_) <;> (first | refine KP.gn ?_ | refine KP.gu ?_ | refine KP.qy QK.len ?_) <;> (first | refine KP.gn ?_ | refine KP.gu ?_ | refine KP.qy QK.geq ?_) <;> refine KP.q QK.pk ?_ <;> refine KP.list_nil ?_)
    | (refine CW.region (i := 2) ?_ <;> refine KP.q QK.as ?_ <;> refine KP.list_nil ?_)
    | (refine CW.region (i := 3) ?_ <;> refine KP.q QK.mv ?_ <;> refine KP.q (by first | exact QY.nilCheck_ptr rfl | exact QK.nc) ?_ <;> refine KP.q QK.fa ?_ <;> refine KP.q (by first | exact QY.load_s rfl (Rd.ro (by with_reducible first | exact m0 | exact m1 | exact m2 | exact m3 | exact m4 | exact m5 | fail)) (Reads.pt1 (by rfl)) | exact QK.lds) ?_ <;> refine KP.q QK.mv ?_ <;> refine KP.q QK.ia ?_ <;> refine KP.q QK.as ?_ <;> refine KP.list_nil ?_)
    | ((with_reducible apply KP.fin1); (· rfl); (· rfl)))
  exact FA.ret
theorem get_none {m : Nat} {n i : Int} {sv tv : Value} {shs : List Sh} (h : i < 0 ∨ (shs.length : Int) ≤ i) : Spc Try.prog 89 #[qp m, iv i] [pt m 101 [iv n, sv, tv], rrow 7 eSh sv shs] [] (ret (.pointer none) []) := by
  refine Spc.enter' (args := [qp m, iv i]) (T0 := [(0, qp m), (1, iv i)]) Try.func89 rfl Try.ntmps89 (Nat.le_of_ble_eq_true rfl) rfl ?_
  intro w0 own
  repeat' (first
    | (with_reducible refine CW.seq ?_)
    | (with_reducible refine KP.then_code ?_)
    | (with_reducible refine CW.skip ?_)
    | (with_reducible refine CW.ret ?_)
    | (with_reducible refine KP.then_ret ?_)
    | (with_reducible refine KP.block_ret ?_)
    | (with_reducible refine CW.block ?_)
    | (with_reducible refine KP.block_normal ?_)
    | (with_reducible refine CW.exit ?_)
    | (with_reducible refine KP.then_exit ?_)
    | (with_reducible refine KP.block_hit ?_)
    | refine KP.bm ?_
    | refine CW.ct ?_
    | refine CW.cf ?_
    | (refine CW.cP ?_ ?_ <;> intro _ <;> try contradiction)
    | (refine CW.cs ?_ ?_ <;> intro _ <;> try contradiction)
    | (refine CW.region (i := 0) ?_ <;> refine KP.q QK.as ?_ <;> refine KP.list_nil ?_)
    | (refine CW.region (i := 1) ?_ <;> refine KP.q QK.mv ?_ <;> refine KP.q QK.eqp ?_ <;> refine KP.q QK.mv ?_ <;> (first | refine KP.gn ?_ | refine KP.gu ?_ | refine KP.qy QK.mv ?_ | ((first | refine KP.gsP (t := 7) ?_ ?_ | refine KP.gs (t := 7) ?_ ?_) <;> intro _ <;> first | contradiction | refine KP.gn ?_ | refine KP.qy QK.mv ?_)) <;> (first | refine KP.gn ?_ | refine KP.gu ?_ | refine KP.qy QK.lss ?_) <;> refine KP.q QK.pk ?_ <;> refine KP.q QK.mv ?_ <;> (first | refine KP.gn ?_ | refine KP.gu ?_ | refine KP.qy QK.mv ?_ | ((first | refine KP.gsP (t := 11) ?_ ?_ | refine KP.gs (t := 11) ?_ ?_) <;> intro _ <;> first | contradiction | refine KP.gn ?_ | refine KP.qy QK.mv ?_)) <;> (first | refine KP.gn ?_ | refine KP.gu ?_ | refine KP.qy QK.mv ?_) <;> (first | refine KP.gn ?_ | refine KP.gu ?_ | refine KP.qy (by first | exact QY.nilCheck_ptr rfl | exact QK.nc) ?_) <;> (first | refine KP.gn ?_ | refine KP.gu ?_ | refine KP.qy QK.fa ?_) <;> (first | refine KP.gn ?_ | refine KP.gu ?_ | refine KP.qy (by first | exact QY.load_s rfl (Rd.ro (by with_reducible first | exact m0 | exact m1 | exact m2 | exact m3 | exact m4 | exact m5 | fail)) (Reads.pt1 (by rfl)) | exact QK.lds) ?_) <;> (first | refine KP.gn ?_ | refine KP.gu ?_ | refine KP.qy QK.len ?_) <;> (first | refine KP.gn ?_ | refine KP.gu ?_ | refine KP.qy QK.geq ?_) <;> refine KP.q QK.pk ?_ <;> refine KP.list_nil ?_)
    | (refine CW.region (i := 2) ?_ <;> refine KP.q QK.as ?_ <;> refine KP.list_nil ?_)
    | ((with_reducible apply KP.fin1); (· rfl); (· rfl)))
  all_goals first | exact FA.ret | omega
theorem get_nil {i : Int} : Spc Try.prog 89 #[.pointer none, iv i] [] [] (ret (.pointer none) []) := by
  refine Spc.enter' (args := [.pointer none, iv i]) (T0 := [(0, .pointer none), (1, iv i)]) Try.func89 rfl Try.ntmps89 (Nat.le_of_ble_eq_true rfl) rfl ?_
  intro w0 own
  repeat' (first
    | (with_reducible refine CW.seq ?_)
    | (with_reducible refine KP.then_code ?_)
    | (with_reducible refine CW.skip ?_)
    | (with_reducible refine CW.ret ?_)
    | (with_reducible refine KP.then_ret ?_)
    | (with_reducible refine KP.block_ret ?_)
    | (with_reducible refine CW.block ?_)
    | (with_reducible refine KP.block_normal ?_)
    | (with_reducible refine CW.exit ?_)
    | (with_reducible refine KP.then_exit ?_)
    | (with_reducible refine KP.block_hit ?_)
    | refine KP.bm ?_
    | refine CW.ct ?_
    | refine CW.cf ?_
    | (refine CW.cP ?_ ?_ <;> intro _ <;> try contradiction)
    | (refine CW.cs ?_ ?_ <;> intro _ <;> try contradiction)
    | (refine CW.region (i := 0) ?_ <;> refine KP.q QK.as ?_ <;> refine KP.list_nil ?_)
    | (refine CW.region (i := 1) ?_ <;> refine KP.q QK.mv ?_ <;> refine KP.q QK.eqp ?_ <;> refine KP.q QK.mv ?_ <;> (first | refine KP.gn ?_ | refine KP.gu ?_ | refine KP.qy QK.mv ?_ | ((first | refine KP.gsP (t := 7) ?_ ?_ | refine KP.gs (t := 7) ?_ ?_) <;> intro _ <;> first | contradiction | refine KP.gn ?_ | refine KP.qy QK.mv ?_)) <;> (first | refine KP.gn ?_ | refine KP.gu ?_ | refine KP.qy QK.lss ?_) <;> refine KP.q QK.pk ?_ <;> refine KP.q QK.mv ?_ <;> (first | refine KP.gn ?_ | refine KP.gu ?_ | refine KP.qy QK.mv ?_ | ((first | refine KP.gsP (t := 11) ?_ ?_ | refine KP.gs (t := 11) ?_ ?_) <;> intro _ <;> first | contradiction | refine KP.gn ?_ | refine KP.qy QK.mv ?_)) <;> (first | refine KP.gn ?_ | refine KP.gu ?_ | refine KP.qy QK.mv ?_) <;> (first | refine KP.gn ?_ | refine KP.gu ?_ | refine KP.qy (by first | exact QY.nilCheck_ptr rfl | exact QK.nc) ?_) <;> (first | refine KP.gn ?_ | refine KP.gu ?_ | refine KP.qy QK.fa ?_) <;> (first | refine KP.gn ?_ | refine KP.gu ?_ | refine KP.qy (by first | exact QY.load_s rfl (Rd.ro (by with_reducible first | exact m0 | exact m1 | exact m2 | exact m3 | exact m4 | exact m5 | fail)) (Reads.pt1 (by rfl)) | exact QK.lds) ?_) <;> (first | refine KP.gn ?_ | refine KP.gu ?_ | refine KP.qy QK.len ?_) <;> (first | refine KP.gn ?_ | refine KP.gu ?_ | refine KP.qy QK.geq ?_) <;> refine KP.q QK.pk ?_ <;> refine KP.list_nil ?_)
    | (refine CW.region (i := 2) ?_ <;> refine KP.q QK.as ?_ <;> refine KP.list_nil ?_)
    | ((with_reducible apply KP.fin1); (· rfl); (· rfl)))
  exact FA.ret

theorem wanted_spec {A : Asrt} {b off : Nat} {s : Sh} {shs : List Sh} {i : Nat} (rd : Reads A b off (eSh s)) (hs : shs[i]? = some s) : Spc Try.prog 90 #[.pointer (some ⟨b, off, none⟩)] [A, wl shs] [] (ret (.bool s.p.wanted) []) := by
  refine Spc.enter' (args := [.pointer (some ⟨b, off, none⟩)]) (T0 := [(0, .pointer (some ⟨b, off, none⟩))]) Try.func90 rfl Try.ntmps90 (Nat.le_of_ble_eq_true rfl) rfl ?_
  intro w0 own
  
  
  repeat' (first
    | (with_reducible refine CW.seq ?_)
    | (with_reducible refine KP.then_code ?_)
    | (with_reducible refine CW.skip ?_)
    | (with_reducible refine CW.ret ?_)
    | (with_reducible refine KP.then_ret ?_)
    | (with_reducible refine KP.block_ret ?_)
    | (with_reducible refine CW.block ?_)
    | (with_reducible refine KP.block_normal ?_)
    | (with_reducible refine CW.exit ?_)
    | (with_reducible refine KP.then_exit ?_)
    | (with_reducible refine KP.block_hit ?_)
    | refine KP.bm ?_
    | refine CW.ct ?_
    | refine CW.cf ?_
    | (refine CW.cP ?_ ?_ <;> intro _ <;> try contradiction)
    | (refine CW.cs ?_ ?_ <;> intro _ <;> try contradiction)
    | (refine CW.region (i := 0) ?_ <;> refine KP.q QK.as ?_ <;> refine KP.list_nil ?_)
    | (refine CW.region (i := 1) ?_ <;> refine KP.q QK.mv ?_ <;> refine KP.q QK.nc ?_ <;> refine KP.q QK.fa ?_ <;> refine KP.q (by first | exact QY.load_s rfl (Rd.ro m0) (Reads.sub (o := 2) (k := 1) rd rfl) | exact QY.load_s rfl (Rd.ro m0) (Reads.sub (o := 6) (k := 1) rd rfl) | exact QK.lds) ?_ <;> refine KP.q QK.not ?_ <;> refine KP.q QK.mv ?_ <;> (first | refine KP.gn ?_ | refine KP.gu ?_ | refine KP.qy QK.mv ?_ | ((first | refine KP.gsP (t := 8) ?_ ?_ | refine KP.gs (t := 8) ?_ ?_) <;> intro _ <;> first | contradiction | refine KP.gn ?_ | refine KP.qy QK.mv ?_)) <;> (first | refine KP.gn ?_ | refine KP.gu ?_ | refine KP.qy QK.nc ?_) <;> (first | refine KP.gn ?_ | refine KP.gu ?_ | refine KP.qy QK.fa ?_) <;> (first | refine KP.gn ?_ | refine KP.gu ?_ | refine KP.qy (by first | exact QY.load_s rfl (Rd.ro m0) (Reads.sub (o := 2) (k := 1) rd rfl) | exact QY.load_s rfl (Rd.ro m0) (Reads.sub (o := 6) (k := 1) rd rfl) | exact QK.lds) ?_) <;> (first | refine KP.gn ?_ | refine KP.gu ?_ | refine KP.qy (by first | exact QY.len_row rfl (Rd.ro m1) (RowL.big hs RowL.row) | exact QK.len) ?_) <;> (first | refine KP.gn ?_ | refine KP.gu ?_ | refine KP.qy QK.eqi ?_) <;> refine KP.q QK.pk ?_ <;> refine KP.q QK.as ?_ <;> refine KP.list_nil ?_)
    | ((with_reducible apply KP.fin1); (· rfl); (· rfl)))
  all_goals exact FA.ret' (by simp_all [PSh.wanted])

theorem busy_spec {s : Sh} {shs : List Sh} {i : Nat} (hs : shs[i]? = some s) : Spc Try.prog 99 #[.agg (eSh s).toArray] [wl shs] [] (ret (.bool s.p.busy) []) := by
  refine Spc.enter' (args := [.agg (eSh s).toArray]) (T0 := [(0, .agg (eSh s).toArray)]) Try.func99 rfl Try.ntmps99 (Nat.le_of_ble_eq_true rfl) rfl ?_
  intro w0 own
  
  repeat' (first
    | (with_reducible refine CW.seq ?_)
    | (with_reducible refine KP.then_code ?_)
    | (with_reducible refine CW.skip ?_)
    | (with_reducible refine CW.ret ?_)
    | (with_reducible refine KP.then_ret ?_)
    | (with_reducible refine KP.block_ret ?_)
    | (with_reducible refine CW.block ?_)
    | (with_reducible refine KP.block_normal ?_)
    | (with_reducible refine CW.exit ?_)
    | (with_reducible refine KP.then_exit ?_)
    | (with_reducible refine KP.block_hit ?_)
    | refine KP.bm ?_
    | refine CW.ct ?_
    | refine CW.cf ?_
    | (refine CW.cP ?_ ?_ <;> intro _ <;> try contradiction)
    | (refine CW.cs ?_ ?_ <;> intro _ <;> try contradiction)
    | (refine CW.region (i := 0) ?_ <;> (refine KP.e ?_; (refine EK.box_a ?_; intro b1)) <;> refine KP.q QK.as ?_ <;> refine KP.list_nil ?_)
    | (refine CW.region (i := 1) ?_ <;> refine KP.q QK.fa ?_ <;> refine KP.q QK.lds ?_ <;> refine KP.q QK.not ?_ <;> refine KP.q QK.mv ?_ <;> (first | refine KP.gn ?_ | refine KP.gu ?_ | refine KP.qy QK.fa ?_ | ((first | refine KP.gsP (t := 6) ?_ ?_ | refine KP.gs (t := 6) ?_ ?_) <;> intro _ <;> first | contradiction | refine KP.gn ?_ | refine KP.qy QK.fa ?_)) <;> (first | refine KP.gn ?_ | refine KP.gu ?_ | refine KP.qy QK.lds ?_) <;> (first | refine KP.gn ?_ | refine KP.gu ?_ | refine KP.qy (by first | exact QY.len_row rfl (Rd.ro m0) (RowL.big hs RowL.row) | exact QK.len) ?_) <;> (first | refine KP.gn ?_ | refine KP.gu ?_ | refine KP.qy QK.gtr ?_) <;> refine KP.q QK.pk ?_ <;> refine KP.q QK.as ?_ <;> refine KP.list_nil ?_)
    | ((with_reducible apply KP.fin1); (· rfl); (· rfl)))
  all_goals exact FA.ret' (by simp_all [PSh.busy])

theorem might_spec {A : Asrt} {b off : Nat} {s : Sh} {shs : List Sh} {i : Nat} {x : Item} (rd : Reads A b off (eSh s)) (hs : shs[i]? = some s) : Spc Try.prog 95 #[.pointer (some ⟨b, off, none⟩), Iv x] [A, wl shs] [] (ret (.bool (s.p.might x)) []) := by
  refine Spc.enter' (args := [.pointer (some ⟨b, off, none⟩), Iv x]) (T0 := [(0, .pointer (some ⟨b, off, none⟩)), (1, Iv x)]) Try.func95 rfl Try.ntmps95 (Nat.le_of_ble_eq_true rfl) rfl ?_
  intro w0 own
  
  
  
  
  repeat' (first
    | (with_reducible refine CW.seq ?_)
    | (with_reducible refine KP.then_code ?_)
    | (with_reducible refine CW.skip ?_)
    | (with_reducible refine CW.ret ?_)
    | (with_reducible refine KP.then_ret ?_)
    | (with_reducible refine KP.block_ret ?_)
    | (with_reducible refine CW.block ?_)
    | (with_reducible refine KP.block_normal ?_)
    | (with_reducible refine CW.exit ?_)
    | (with_reducible refine KP.then_exit ?_)
    | (with_reducible refine KP.block_hit ?_)
    | refine KP.bm ?_
    | refine CW.ct ?_
    | refine CW.cf ?_
    | (refine CW.cP ?_ ?_ <;> intro _ <;> try contradiction)
    | (refine CW.cs ?_ ?_ <;> intro _ <;> try contradiction)
    | (refine CW.region (i := 0) ?_ <;> (refine KP.e ?_; (refine EK.box_a ?_; intro b3)) <;> refine KP.q QK.as ?_ <;> refine KP.list_nil ?_)
    | (refine CW.region (i := 1) ?_ <;> refine KP.q QK.mv ?_ <;> (refine KP.e ?_; ((refine EK.call (wanted_spec rd hs) ?_); repeat' first | refine CP.r ?_ | refine CP.r0 ?_ | refine CP.exP fun e7 => ?_ | refine CP.puP fun h7 => ?_)) <;> refine KP.q QK.not ?_ <;> refine KP.q QK.as ?_ <;> refine KP.list_nil ?_)
    | (refine CW.region (i := 2) ?_ <;> refine KP.q QK.as ?_ <;> refine KP.list_nil ?_)
    | (refine CW.region (i := 3) ?_ <;> refine KP.q QK.mv ?_ <;> refine KP.q QK.nc ?_ <;> refine KP.q QK.fa ?_ <;> refine KP.q (by first | exact QY.load_s rfl (Rd.ro m0) (Reads.sub (o := 3) (k := 1) rd rfl) | exact QY.load_s rfl (Rd.ro m0) (Reads.sub0 (k := 1) rd rfl) | exact QK.lds) ?_ <;> refine KP.q QK.as ?_ <;> refine KP.list_nil ?_)
    | (((with_reducible refine CW.draw (i := 4) ?_ [[], [0], [0, 1], [0, 1, 2], [], [0, 1, 2, 3, 4], [0, 1, 2, 3, 4, 5]] ?_ ?_ ?_ ?_); (· rfl); (· kernel_rfl); (· kernel_rfl); (· repeat (first | exact NoHang.post | refine NoHang.then ?_ | refine NoHang.block ?_))) <;> refine DW.p 0 rfl (fun _ => QK.mv) ?_ <;> refine DW.p 1 rfl (fun _ => QK.nc) ?_ <;> refine DW.p 2 rfl (fun _ => QK.fa) ?_ <;> refine DW.m 3 rfl (by first | exact QY.load_a rfl (Rd.ro m0) (Reads.sub (o := 4) (k := 2) (ds := eI s.p.last) rd rfl) rfl | exact QK.lda) ?_ <;> refine DW.m 4 rfl (by first | exact QY.load_a rfl (Rd.ro m0) (Reads.sub (o := 4) (k := 2) (ds := eI s.p.last) rd rfl) rfl | exact QK.lda) ?_ <;> (refine DW.ex 5 rfl ?_; intro hdk; ((refine EK.call (less_spec (a := s.p.last) (b := x)) ?_); repeat' first | refine CP.r ?_ | refine CP.r0 ?_ | refine CP.exP fun e19 => ?_ | refine CP.puP fun h19 => ?_); all_goals (refine DK.mk hdk .nil ?_; clear hdk)) <;> refine DW.p 6 rfl (fun _ => QK.as) ?_ <;> refine DW.zz ?_)
    | (((with_reducible refine CW.draw (i := 5) ?_ [[], [0], [], [2], [2, 3], [2, 3, 4], [0, 1, 2, 3, 4, 5], [0, 1, 2, 3, 4, 5, 6]] ?_ ?_ ?_ ?_); (· rfl); (· kernel_rfl); (· kernel_rfl); (· repeat (first | exact NoHang.post | refine NoHang.then ?_ | refine NoHang.block ?_))) <;> refine DW.p 0 rfl (fun _ => QK.fa) ?_ <;> refine DW.p 2 rfl (fun _ => QK.mv) ?_ <;> refine DW.p 3 rfl (fun _ => QK.nc) ?_ <;> refine DW.p 4 rfl (fun _ => QK.fa) ?_ <;> refine DW.m 1 rfl (by first | exact QY.load_s rfl (Rd.ro m0) (Reads.sub (o := 3) (k := 1) rd rfl) | exact QY.load_s rfl (Rd.ro m0) (Reads.sub0 (k := 1) rd rfl) | exact QK.lds) ?_ <;> refine DW.m 5 rfl (by first | exact QY.load_s rfl (Rd.ro m0) (Reads.sub (o := 3) (k := 1) rd rfl) | exact QY.load_s rfl (Rd.ro m0) (Reads.sub0 (k := 1) rd rfl) | exact QK.lds) ?_ <;> refine DW.p 6 rfl (fun _ => QK.geq) ?_ <;> refine DW.p 7 rfl (fun _ => QK.as) ?_ <;> refine DW.zz ?_)
    | ((with_reducible apply KP.fin1); (· rfl); (· rfl)))
  all_goals exact FA.ret' (by simp_all [PSh.might])

/-- Tell's closure. -/
theorem tclo_spec {sv : Value} {shs : List Sh} {i j b4 : Nat} {s o : Sh} {x : Item} {l : List Item} (hs : shs[i]? = some s) (ho : shs[j]? = some o) (hx : s.p.waits = x :: l) : Spc Try.prog 94 #[.agg (eSh o).toArray, qp b4] [pt b4 104 [sp sv i], rrow 7 eSh sv shs, wl shs] [] (ret (.bool (o.p.might x)) []) := by
  refine Spc.enter' (args := [.agg (eSh o).toArray, qp b4]) (T0 := [(0, .agg (eSh o).toArray), (1, qp b4)]) Try.func94 rfl Try.ntmps94 (Nat.le_of_ble_eq_true rfl) rfl ?_
  intro w0 own
  have h0 : s.p.waits[0]? = some x := by rw [hx]; rfl
  have hlen : 0 < s.p.waits.length := by rw [hx]; simp
  have hw : RowL (waitsA s) 2 eI s.wv s.p.waits := RowL.row
  
  
  
  
  repeat' (first
    | (with_reducible refine CW.seq ?_)
    | (with_reducible refine KP.then_code ?_)
    | (with_reducible refine CW.skip ?_)
    | (with_reducible refine CW.ret ?_)
    | (with_reducible refine KP.then_ret ?_)
    | (with_reducible refine KP.block_ret ?_)
    | (with_reducible refine CW.block ?_)
    | (with_reducible refine KP.block_normal ?_)
    | (with_reducible refine CW.exit ?_)
    | (with_reducible refine KP.then_exit ?_)
    | (with_reducible refine KP.block_hit ?_)
    | refine KP.bm ?_
    | refine CW.ct ?_
    | refine CW.cf ?_
    | (refine CW.cP ?_ ?_ <;> intro _ <;> try contradiction)
    | (refine CW.cs ?_ ?_ <;> intro _ <;> try contradiction)
    | (refine CW.region (i := 0) ?_ <;> (refine KP.e ?_; (refine EK.box_a ?_; intro b2)) <;> refine KP.q QK.as ?_ <;> refine KP.list_nil ?_)
    | (refine CW.region (i := 1) ?_ <;> refine KP.q (by first | exact QY.load_s rfl (Rd.ro m0) (Reads.pt1 (by rfl)) | exact QY.load_s rfl (Rd.ro m1) (Reads.row1 RowL.rrow hs rfl) | exact QK.lds) ?_ <;> refine KP.q QK.nc ?_ <;> refine KP.q QK.fa ?_ <;> refine KP.q (by first | exact QY.load_s rfl (Rd.ro m0) (Reads.pt1 (by rfl)) | exact QY.load_s rfl (Rd.ro m1) (Reads.row1 RowL.rrow hs rfl) | exact QK.lds) ?_ <;> refine KP.q (by first | exact QY.index0 rfl rfl (Rd.ro m2) (RowL.big hs hw) hlen | exact QK.ia) ?_ <;> refine KP.q (by first | exact QY.load_a rfl (Rd.ro m2) (Reads.row0a (RowL.big hs hw) h0) rfl | exact QK.lda) ?_ <;> (refine KP.e ?_; ((refine EK.call (might_spec (A := pt b2 103 (eSh o)) (x := x) Reads.pt_all ho) ?_); repeat' first | refine CP.r ?_ | refine CP.r0 ?_ | refine CP.exP fun e10 => ?_ | refine CP.puP fun h10 => ?_)) <;> refine KP.q QK.as ?_ <;> refine KP.list_nil ?_)
    | ((with_reducible apply KP.fin1); (· rfl); (· rfl)))
  exact FA.ret

end Go.Proofs.Ytpmhelfdmhjnbaa
