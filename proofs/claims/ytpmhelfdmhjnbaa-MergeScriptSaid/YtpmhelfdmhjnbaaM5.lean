import Derived.Test.YtpmhelfdmhjnbaaM4
/- The merge: New, Put. -/
namespace Go.Proofs.Ytpmhelfdmhjnbaa
open Go Go.Ink
set_option linter.unusedVariables false
set_option linter.unusedSimpArgs false
attribute [local irreducible] KP QY EW CW DW QG CP Spc DK Fina wpList lessF

def mkSh (d : Int) : Sh := ⟨⟨d, 0, decide (d < 0), false, Item.zero, []⟩, .slice none 0 0, rfl⟩
def newF (least : List Int) (n : Int) : MS := ⟨n, least.map fun d => (mkSh d).p, []⟩
abbrev rNw (v : Value) (e : Int) : Value := .tuple #[v, iv e]
theorem new_bad {v : Value} {least : List Int} {n : Int} (h : least.length = 0 ∨ 6 < least.length ∨ n < 1 ∨ 10 < n) : Spc Try.prog 56 #[v, iv n] [rrow 1 eN v least] [] (ret (rNw (.pointer none) 2) []) := by
  refine Spc.enter' (args := [v, iv n]) (T0 := [(0, v), (1, iv n)]) Try.func56 rfl Try.ntmps56 (Nat.le_of_ble_eq_true rfl) rfl ?_
  intro w0 own
  repeat' (first
    | (with_reducible refine CW.seq ?_)
    | (with_reducible refine KP.then_code ?_)
    | (with_reducible refine CW.skip ?_)
    | (with_reducible refine CW.ret ?_)
    | (with_reducible refine KP.then_ret ?_)
    | (with_reducible refine KP.block_ret ?_)
    | (with_reducible refine CW.block ?_)
    | (with_reducible refine KP.block_normal ?_)
    | (with_reducible refine CW.exit ?_)
    | (with_reducible refine KP.then_exit ?_)
    | (with_reducible refine KP.block_hit ?_)
    | refine KP.bm ?_
    | refine CW.ct ?_
    | refine CW.cf ?_
    | (refine CW.cP ?_ ?_ <;> intro _ <;> try contradiction)
    | (refine CW.cs ?_ ?_ <;> intro _ <;> try contradiction)
    | (refine CW.region (i := 0) ?_ <;> refine KP.q QK.as ?_ <;> refine KP.q QK.as ?_ <;> refine KP.list_nil ?_)
    | (refine CW.region (i := 1) ?_ <;> refine KP.q QK.mv ?_ <;> refine KP.q QK.len ?_ <;> refine KP.q QK.eqi ?_ <;> refine KP.q QK.mv ?_ <;> (first | refine KP.gn ?_ | refine KP.gu ?_ | refine KP.qy QK.mv ?_ | ((first | refine KP.gsP (t := 12) ?_ ?_ | refine KP.gs (t := 12) ?_ ?_) <;> intro _ <;> first | contradiction | refine KP.gn ?_ | refine KP.qy QK.mv ?_)) <;> (first | refine KP.gn ?_ | refine KP.gu ?_ | refine KP.qy QK.len ?_) <;> (first | refine KP.gn ?_ | refine KP.gu ?_ | refine KP.qy QK.gtr ?_) <;> refine KP.q QK.pk ?_ <;> refine KP.q QK.mv ?_ <;> (first | refine KP.gn ?_ | refine KP.gu ?_ | refine KP.qy QK.mv ?_ | ((first | refine KP.gsP (t := 17) ?_ ?_ | refine KP.gs (t := 17) ?_ ?_) <;> intro _ <;> first | contradiction | refine KP.gn ?_ | refine KP.qy QK.mv ?_)) <;> (first | refine KP.gn ?_ | refine KP.gu ?_ | refine KP.qy QK.lss ?_) <;> refine KP.q QK.pk ?_ <;> refine KP.q QK.mv ?_ <;> (first | refine KP.gn ?_ | refine KP.gu ?_ | refine KP.qy QK.mv ?_ | ((first | refine KP.gsP (t := 21) ?_ ?_ | refine KP.gs (t := 21) ?_ ?_) <;> intro _ <;> first | contradiction | refine KP.gn ?_ | refine KP.qy QK.mv ?_)) <;> (first | refine KP.gn ?_ | refine KP.gu ?_ | refine KP.qy QK.gtr ?_) <;> refine KP.q QK.pk ?_ <;> refine KP.list_nil ?_)
    | (refine CW.region (i := 2) ?_ <;> refine KP.q QK.as ?_ <;> refine KP.q QK.as ?_ <;> refine KP.list_nil ?_)
    | ((with_reducible apply KP.fin2); (· rfl); (· rfl); (· rfl)))
  all_goals first | exact FA.ret | omega
theorem wl_new (least : List Int) : wl (least.map mkSh) (fun _ => none) := by
  induction least with
  | nil => trivial
  | cons d l ih => exact ⟨fun _ => none, fun _ => none, fun _ => .inl rfl, Leq.refl _, Leq.refl _, row.none, ih⟩
theorem new_ok {v : Value} {least : List Int} {n : Int} (h0 : 0 < least.length) (h6 : least.length ≤ 6) (h1 : 1 ≤ n) (h10 : n ≤ 10) : Spc Try.prog 56 #[v, iv n] [rrow 1 eN v least] [] (exP fun m => ret (rNw (qp m) 0) [Mg m (newF least n)]) := by
  refine Spc.enter' (args := [v, iv n]) (T0 := [(0, v), (1, iv n)]) Try.func56 rfl Try.ntmps56 (Nat.le_of_ble_eq_true rfl) rfl ?_
  intro w0 own
  repeat' (first
    | (with_reducible refine CW.seq ?_)
    | (with_reducible refine KP.then_code ?_)
    | (with_reducible refine CW.skip ?_)
    | (with_reducible refine CW.ret ?_)
    | (with_reducible refine KP.then_ret ?_)
    | (with_reducible refine KP.block_ret ?_)
    | (with_reducible refine CW.block ?_)
    | (with_reducible refine KP.block_normal ?_)
    | (with_reducible refine CW.exit ?_)
    | (with_reducible refine KP.then_exit ?_)
    | (with_reducible refine KP.block_hit ?_)
    | refine KP.bm ?_
    | refine CW.ct ?_
    | refine CW.cf ?_
    | (refine CW.cP ?_ ?_ <;> intro _ <;> try contradiction)
    | (refine CW.cs ?_ ?_ <;> intro _ <;> try contradiction)
    | (refine CW.region (i := 0) ?_ <;> refine KP.q QK.as ?_ <;> refine KP.q QK.as ?_ <;> refine KP.list_nil ?_)
    | (refine CW.region (i := 1) ?_ <;> refine KP.q QK.mv ?_ <;> refine KP.q QK.len ?_ <;> refine KP.q QK.eqi ?_ <;> refine KP.q QK.mv ?_ <;> (first | refine KP.gn ?_ | refine KP.gu ?_ | refine KP.qy QK.mv ?_ | ((first | refine KP.gsP (t := 12) ?_ ?_ | refine KP.gs (t := 12) ?_ ?_) <;> intro _ <;> first | contradiction | refine KP.gn ?_ | refine KP.qy QK.mv ?_)) <;> (first | refine KP.gn ?_ | refine KP.gu ?_ | refine KP.qy QK.len ?_) <;> (first | refine KP.gn ?_ | refine KP.gu ?_ | refine KP.qy QK.gtr ?_) <;> refine KP.q QK.pk ?_ <;> refine KP.q QK.mv ?_ <;> (first | refine KP.gn ?_ | refine KP.gu ?_ | refine KP.qy QK.mv ?_ | ((first | refine KP.gsP (t := 17) ?_ ?_ | refine KP.gs (t := 17) ?_ ?_) <;> intro _ <;> first | contradiction | refine KP.gn ?_ | refine KP.qy QK.mv ?_)) <;> (first | refine KP.gn ?_ | refine KP.gu ?_ | refine KP.qy QK.lss ?_) <;> refine KP.q QK.pk ?_ <;> refine KP.q QK.mv ?_ <;> (first | refine KP.gn ?_ | refine KP.gu ?_ | refine KP.qy QK.mv ?_ | ((first | refine KP.gsP (t := 21) ?_ ?_ | refine KP.gs (t := 21) ?_ ?_) <;> intro _ <;> first | contradiction | refine KP.gn ?_ | refine KP.qy QK.mv ?_)) <;> (first | refine KP.gn ?_ | refine KP.gu ?_ | refine KP.qy QK.gtr ?_) <;> refine KP.q QK.pk ?_ <;> refine KP.list_nil ?_)
    | (refine CW.region (i := 3) ?_ <;> refine KP.q QK.mv ?_ <;> refine KP.q QK.bd ?_ <;> (refine KP.e ?_; (refine EK.box_a ?_; intro b27)) <;> refine KP.q QK.as ?_ <;> refine KP.list_nil ?_)
    | (refine CW.region (i := 4) ?_ <;> refine KP.q QK.mv ?_ <;> refine KP.q QK.len ?_ <;> refine KP.q QK.mv ?_ <;> refine KP.list_nil ?_)
    | ((with_reducible apply KP.fin2); (· rfl); (· rfl); (· rfl)))
  refine CW.add (B := row 103 7 eSh (.slice none 0 0) ((least.take 0).map mkSh)) row.none ?_
  refine CA.loop (X := Nat × Value) (fun z => [(6, qp b27), (28, v), (29, iv least.length), (30, iv z.1)]) (fun z => [pt b27 101 [iv n, z.2, .slice none 0 0], row 103 7 eSh z.2 ((least.take z.1).map mkSh)]) (fun z => z.1 ≤ least.length ∧ z.2.oneCell' = true) (fun z => least.length - z.1) (0, .slice none 0 0) ⟨by simp, rfl⟩ ?_
  rintro ⟨i, sv⟩ ⟨hi, hv⟩
  try dsimp only at hi hv ⊢
  rcases Nat.lt_or_ge i least.length with hlt | hge
  · obtain ⟨d, hd⟩ := at_lt hlt
    have hst : (least.take (i + 1)).map mkSh = (least.take i).map mkSh ++ [mkSh d] := by rw [List.take_add_one, hd]; simp
    have hlen : ((least.take i).map mkSh).length ≤ 6 := by simp; omega
    
    
    repeat' (first
    | (with_reducible refine CW.seq ?_)
    | (with_reducible refine KP.then_code ?_)
    | (with_reducible refine CW.skip ?_)
    | (with_reducible refine CW.ret ?_)
    | (with_reducible refine KP.then_ret ?_)
    | (with_reducible refine KP.block_ret ?_)
    | (with_reducible refine CW.block ?_)
    | (with_reducible refine KP.block_normal ?_)
    | (with_reducible refine CW.exit ?_)
    | (with_reducible refine KP.then_exit ?_)
    | (with_reducible refine KP.block_hit ?_)
    | refine KP.bm ?_
    | refine CW.ct ?_
    | refine CW.cf ?_
    | (refine CW.cP ?_ ?_ <;> intro _ <;> try contradiction)
    | (refine CW.cs ?_ ?_ <;> intro _ <;> try contradiction)
    | (refine CW.region (i := 5) ?_ <;> refine KP.q QK.lss ?_ <;> refine KP.list_nil ?_)
    | (refine CW.region (i := 6) ?_ <;> refine KP.q QK.ia ?_ <;> refine KP.q (by first | exact QY.load_s rfl (Rd.ro (by with_reducible first | exact m0 | exact m1 | exact m2 | exact m3 | exact m4 | exact m5 | fail)) (Reads.row0 RowL.rrow hd rfl) | exact QK.lds) ?_ <;> refine KP.q QK.as ?_ <;> refine KP.list_nil ?_)
    | (refine CW.region (i := 7) ?_ <;> refine KP.q QK.mv ?_ <;> refine KP.q QK.mv ?_ <;> refine KP.q QK.nc ?_ <;> refine KP.q QK.fa ?_ <;> refine KP.q (by first | exact QY.load_s rfl (Rd.ro (by with_reducible first | exact m0 | exact m1 | exact m2 | exact m3 | exact m4 | exact m5 | fail)) (Reads.row0 RowL.rrow hd rfl) | exact QK.lds) ?_ <;> refine KP.q QK.mv ?_ <;> refine KP.q QK.mv ?_ <;> refine KP.q QK.lss ?_ <;> refine KP.q QK.bd ?_ <;> (refine KP.e ?_; ((first | refine EW.buildSlice1_s (by decide) rfl (by first | rfl | assumption) rfl ?_ | refine EW.buildSlice1_a (by decide) rfl (by rfl) (by rfl) (by decide) (by decide) ?_); intro b43)) <;> (refine KP.e ?_; (first | (refine EK.app1 (enc := eSh) (mkSh d) ?_; intro w44 o44) | (refine EK.app1 _ ?_; intro w44 o44))) <;> refine KP.q QK.nc ?_ <;> refine KP.q QK.fa ?_ <;> (refine KP.e ?_; (first | refine EK.st_s ?_ | refine EK.st_rf ?_ | refine EK.st_rf0 ?_)) <;> refine KP.list_nil ?_)
    | (refine CW.region (i := 8) ?_ <;> refine KP.q QK.add ?_ <;> refine KP.q QK.mv ?_ <;> refine KP.list_nil ?_)
    | ((with_reducible apply KP.fin2); (· rfl); (· rfl); (· rfl)))
    rw [← hst]
    exact KA.round (i + 1, w44) ⟨by simp only; omega, by assumption⟩
  · rw [List.take_of_length_le hge]
    repeat' (first
    | (with_reducible refine CW.seq ?_)
    | (with_reducible refine KP.then_code ?_)
    | (with_reducible refine CW.skip ?_)
    | (with_reducible refine CW.ret ?_)
    | (with_reducible refine KP.then_ret ?_)
    | (with_reducible refine KP.block_ret ?_)
    | (with_reducible refine CW.block ?_)
    | (with_reducible refine KP.block_normal ?_)
    | (with_reducible refine CW.exit ?_)
    | (with_reducible refine KP.then_exit ?_)
    | (with_reducible refine KP.block_hit ?_)
    | refine KP.bm ?_
    | refine CW.ct ?_
    | refine CW.cf ?_
    | (refine CW.cP ?_ ?_ <;> intro _ <;> try contradiction)
    | (refine CW.cs ?_ ?_ <;> intro _ <;> try contradiction)
    | (refine CW.region (i := 5) ?_ <;> refine KP.q QK.lss ?_ <;> refine KP.list_nil ?_)
    | (refine CW.region (i := 9) ?_ <;> refine KP.q QK.mv ?_ <;> refine KP.q QK.as ?_ <;> refine KP.q QK.as ?_ <;> refine KP.list_nil ?_)
    | ((with_reducible apply KP.fin2); (· rfl); (· rfl); (· rfl)))
    refine Fina.exP b27 (Fina.add (wl_new least) (Fina.add (B := row 39 2 eI (.slice none 0 0) []) row.none (FA.gather (Mg.intro (m := b27) (n := n) (sv := sv) (tv := .slice none 0 0) (shs := least.map mkSh) (told := []) (st := newF least n) rfl ⟨h1, h10, by simp [newF]; omega, by simpa [newF] using h6, by simp [newF, mkSh]⟩ (by simp [newF]) rfl hv rfl) ?_)))
    exact FA.ret

def chainF (last : Item) (heard : Bool) (least : Int) : List Item → Bool
  | [] => true
  | x :: l => !((heard && !lessF last x) || decide (x.dist < least)) && chainF x true least l
def PSh.put (s : PSh) (items : List Item) (end_ : Bool) : PSh := ⟨s.least, IntKind.i64.wrap (s.seq + 1), end_, s.heard || decide (0 < items.length), (items.getLast?).getD s.last, items⟩
def MS.takes (st : MS) (s : PSh) (seq : Int) (items : List Item) (end_ : Bool) : Bool := !st.done && s.wanted && decide (s.seq = seq) && decide (items.length ≤ 5) && (decide (items.length ≠ 0) || end_) && chainF s.last s.heard s.least items
def MS.put (st : MS) (i : Int) (seq : Int) (items : List Item) (end_ : Bool) : Bool × MS :=
  if 0 ≤ i then match st.shs[i.toNat]? with
    | some s => if st.takes s seq items end_ then (true, { st with shs := st.shs.set i.toNat (s.put items end_) }) else (false, st)
    | none => (false, st)
  else (false, st)
def Sh.s1 (s : Sh) (la : Item) : Sh := ⟨⟨s.p.least, s.p.seq, s.p.ended, s.p.heard, la, s.p.waits⟩, s.wv, s.ow⟩
def Sh.s2 (s : Sh) (la : Item) (he : Bool) : Sh := ⟨⟨s.p.least, s.p.seq, s.p.ended, he, la, s.p.waits⟩, s.wv, s.ow⟩
def Sh.s3 (s : Sh) (la : Item) (he : Bool) (items : List Item) (w : Value) (ow : w.oneCell' = true) : Sh := ⟨⟨s.p.least, s.p.seq, s.p.ended, he, la, items⟩, w, ow⟩
def Sh.s4 (s : Sh) (la : Item) (he : Bool) (items : List Item) (w : Value) (ow : w.oneCell' = true) : Sh := ⟨⟨s.p.least, IntKind.i64.wrap (s.p.seq + 1), s.p.ended, he, la, items⟩, w, ow⟩
def Sh.s5 (s : Sh) (la : Item) (he : Bool) (items : List Item) (e : Bool) (w : Value) (ow : w.oneCell' = true) : Sh := ⟨⟨s.p.least, IntKind.i64.wrap (s.p.seq + 1), e, he, la, items⟩, w, ow⟩
theorem put_none {m : Nat} {st : MS} {v : Value} {i seq : Int} {items : List Item} {e : Bool} (hi : i < 0 ∨ (st.shs.length : Int) ≤ i) : Spc Try.prog 57 #[qp m, iv i, iv seq, v, .bool e] [rrow 2 eI v items] [Mg m st] (ret (.bool false) [Mg m st]) := by
  refine Spc.enter' (args := [qp m, iv i, iv seq, v, .bool e]) (T0 := [(0, qp m), (1, iv i), (2, iv seq), (3, v), (4, .bool e)]) Try.func57 rfl Try.ntmps57 (Nat.le_of_ble_eq_true rfl) rfl ?_
  intro w0 own
  refine CW.mg fun sv tv shs hw hm o1 o2 => ?_
  have hi' : i < 0 ∨ (shs.length : Int) ≤ i := by rw [← hm, List.length_map] at hi; exact hi
  
  repeat' (first
    | (with_reducible refine CW.seq ?_)
    | (with_reducible refine KP.then_code ?_)
    | (with_reducible refine CW.skip ?_)
    | (with_reducible refine CW.ret ?_)
    | (with_reducible refine KP.then_ret ?_)
    | (with_reducible refine KP.block_ret ?_)
    | (with_reducible refine CW.block ?_)
    | (with_reducible refine KP.block_normal ?_)
    | (with_reducible refine CW.exit ?_)
    | (with_reducible refine KP.then_exit ?_)
    | (with_reducible refine KP.block_hit ?_)
    | refine KP.bm ?_
    | refine CW.ct ?_
    | refine CW.cf ?_
    | (refine CW.cP ?_ ?_ <;> intro _ <;> try contradiction)
    | (refine CW.cs ?_ ?_ <;> intro _ <;> try contradiction)
    | (refine CW.region (i := 0) ?_ <;> refine KP.q QK.as ?_ <;> refine KP.list_nil ?_)
    | (refine CW.region (i := 1) ?_ <;> refine KP.q QK.mv ?_ <;> refine KP.q QK.mv ?_ <;> (refine KP.e ?_; ((refine EK.call (get_none (tv := tv) (n := st.n) hi') ?_); repeat' first | refine CP.r ?_ | refine CP.r0 ?_ | refine CP.exP fun e18 => ?_ | refine CP.puP fun h18 => ?_)) <;> refine KP.q QK.as ?_ <;> refine KP.list_nil ?_)
    | (refine CW.region (i := 2) ?_ <;> refine KP.q QK.mv ?_ <;> refine KP.q QK.eqp ?_ <;> refine KP.q QK.mv ?_ <;> (first | refine KP.gn ?_ | refine KP.gu ?_ | refine KP.qy QK.mv ?_ | ((first | refine KP.gsP (t := 21) ?_ ?_ | refine KP.gs (t := 21) ?_ ?_) <;> intro _ <;> first | contradiction | refine KP.gn ?_ | refine KP.qy QK.mv ?_)) <;> (first | refine KP.gn ?_ | refine KP.gu ?_ | (refine KP.gy ?_; refine KP.e ?_; ((fail "no rule f70"); repeat' first | refine CP.r ?_ | refine CP.r0 ?_ | refine CP.exP fun e23 => ?_ | refine CP.puP fun h23 => ?_))) <;> refine KP.q QK.pk ?_ <;> refine KP.q QK.mv ?_ <;> (first | refine KP.gn ?_ | refine KP.gu ?_ | refine KP.qy QK.mv ?_ | ((first | refine KP.gsP (t := 25) ?_ ?_ | refine KP.gs (t := 25) ?_ ?_) <;> intro _ <;> first | contradiction | refine KP.gn ?_ | refine KP.qy QK.mv ?_)) <;> (first | refine KP.gn ?_ | refine KP.gu ?_ | (refine KP.gy ?_; refine KP.e ?_; ((fail "no rule f90"); repeat' first | refine CP.r ?_ | refine CP.r0 ?_ | refine CP.exP fun e27 => ?_ | refine CP.puP fun h27 => ?_))) <;> (first | refine KP.gn ?_ | refine KP.gu ?_ | refine KP.qy QK.not ?_) <;> refine KP.q QK.pk ?_ <;> refine KP.q QK.mv ?_ <;> (first | refine KP.gn ?_ | refine KP.gu ?_ | refine KP.qy QK.mv ?_ | ((first | refine KP.gsP (t := 30) ?_ ?_ | refine KP.gs (t := 30) ?_ ?_) <;> intro _ <;> first | contradiction | refine KP.gn ?_ | refine KP.qy QK.mv ?_)) <;> (first | refine KP.gn ?_ | refine KP.gu ?_ | refine KP.qy QK.nc ?_) <;> (first | refine KP.gn ?_ | refine KP.gu ?_ | refine KP.qy QK.fa ?_) <;> (first | refine KP.gn ?_ | refine KP.gu ?_ | refine KP.qy QK.lds ?_) <;> (first | refine KP.gn ?_ | refine KP.gu ?_ | refine KP.qy QK.mv ?_) <;> (first | refine KP.gn ?_ | refine KP.gu ?_ | refine KP.qy QK.nei ?_) <;> refine KP.q QK.pk ?_ <;> refine KP.q QK.mv ?_ <;> (first | refine KP.gn ?_ | refine KP.gu ?_ | refine KP.qy QK.mv ?_ | ((first | refine KP.gsP (t := 38) ?_ ?_ | refine KP.gs (t := 38) ?_ ?_) <;> intro _ <;> first | contradiction | refine KP.gn ?_ | refine KP.qy QK.mv ?_)) <;> (first | refine KP.gn ?_ | refine KP.gu ?_ | refine KP.qy QK.len ?_) <;> (first | refine KP.gn ?_ | refine KP.gu ?_ | refine KP.qy QK.gtr ?_) <;> refine KP.q QK.pk ?_ <;> refine KP.q QK.mv ?_ <;> (first | refine KP.gn ?_ | refine KP.gu ?_ | refine KP.qy QK.mv ?_ | ((first | refine KP.gsP (t := 43) ?_ ?_ | refine KP.gs (t := 43) ?_ ?_) <;> intro _ <;> first | contradiction | refine KP.gn ?_ | refine KP.qy QK.mv ?_)) <;> (first | refine KP.gn ?_ | refine KP.gu ?_ | refine KP.qy QK.len ?_) <;> (first | refine KP.gn ?_ | refine KP.gu ?_ | refine KP.qy QK.eqi ?_) <;> (first | refine KP.gn ?_ | refine KP.gu ?_ | refine KP.qy QK.mv ?_) <;> (first | refine KP.gn ?_ | refine KP.gu ?_ | refine KP.qy QK.mv ?_ | ((first | refine KP.gsP (t := 47) ?_ ?_ | refine KP.gs (t := 47) ?_ ?_) <;> intro _ <;> first | contradiction | refine KP.gn ?_ | refine KP.qy QK.mv ?_)) <;> (first | refine KP.gn ?_ | refine KP.gu ?_ | refine KP.qy QK.not ?_) <;> (first | refine KP.gn ?_ | refine KP.gu ?_ | refine KP.qy QK.pk ?_) <;> refine KP.q QK.pk ?_ <;> refine KP.list_nil ?_)
    | (refine CW.region (i := 3) ?_ <;> refine KP.q QK.as ?_ <;> refine KP.list_nil ?_)
    | ((with_reducible apply KP.fin1); (· rfl); (· rfl)))
  refine FA.gather (Mg.intro rfl hw hm rfl o1 o2) ?_; exact FA.ret

theorem put_nil {v : Value} {i seq : Int} {items : List Item} {e : Bool} : Spc Try.prog 57 #[.pointer none, iv i, iv seq, v, .bool e] [rrow 2 eI v items] [] (ret (.bool false) []) := by
  refine Spc.enter' (args := [.pointer none, iv i, iv seq, v, .bool e]) (T0 := [(0, .pointer none), (1, iv i), (2, iv seq), (3, v), (4, .bool e)]) Try.func57 rfl Try.ntmps57 (Nat.le_of_ble_eq_true rfl) rfl ?_
  intro w0 own
  
  repeat' (first
    | (with_reducible refine CW.seq ?_)
    | (with_reducible refine KP.then_code ?_)
    | (with_reducible refine CW.skip ?_)
    | (with_reducible refine CW.ret ?_)
    | (with_reducible refine KP.then_ret ?_)
    | (with_reducible refine KP.block_ret ?_)
    | (with_reducible refine CW.block ?_)
    | (with_reducible refine KP.block_normal ?_)
    | (with_reducible refine CW.exit ?_)
    | (with_reducible refine KP.then_exit ?_)
    | (with_reducible refine KP.block_hit ?_)
    | refine KP.bm ?_
    | refine CW.ct ?_
    | refine CW.cf ?_
    | (refine CW.cP ?_ ?_ <;> intro _ <;> try contradiction)
    | (refine CW.cs ?_ ?_ <;> intro _ <;> try contradiction)
    | (refine CW.region (i := 0) ?_ <;> refine KP.q QK.as ?_ <;> refine KP.list_nil ?_)
    | (refine CW.region (i := 1) ?_ <;> refine KP.q QK.mv ?_ <;> refine KP.q QK.mv ?_ <;> (refine KP.e ?_; ((refine EK.call (get_nil) ?_); repeat' first | refine CP.r ?_ | refine CP.r0 ?_ | refine CP.exP fun e18 => ?_ | refine CP.puP fun h18 => ?_)) <;> refine KP.q QK.as ?_ <;> refine KP.list_nil ?_)
    | (refine CW.region (i := 2) ?_ <;> refine KP.q QK.mv ?_ <;> refine KP.q QK.eqp ?_ <;> refine KP.q QK.mv ?_ <;> (first | refine KP.gn ?_ | refine KP.gu ?_ | refine KP.qy QK.mv ?_ | ((first | refine KP.gsP (t := 21) ?_ ?_ | refine KP.gs (t := 21) ?_ ?_) <;> intro _ <;> first | contradiction | refine KP.gn ?_ | refine KP.qy QK.mv ?_)) <;> (first | refine KP.gn ?_ | refine KP.gu ?_ | (refine KP.gy ?_; refine KP.e ?_; ((fail "no rule f70"); repeat' first | refine CP.r ?_ | refine CP.r0 ?_ | refine CP.exP fun e23 => ?_ | refine CP.puP fun h23 => ?_))) <;> refine KP.q QK.pk ?_ <;> refine KP.q QK.mv ?_ <;> (first | refine KP.gn ?_ | refine KP.gu ?_ | refine KP.qy QK.mv ?_ | ((first | refine KP.gsP (t := 25) ?_ ?_ | refine KP.gs (t := 25) ?_ ?_) <;> intro _ <;> first | contradiction | refine KP.gn ?_ | refine KP.qy QK.mv ?_)) <;> (first | refine KP.gn ?_ | refine KP.gu ?_ | (refine KP.gy ?_; refine KP.e ?_; ((fail "no rule f90"); repeat' first | refine CP.r ?_ | refine CP.r0 ?_ | refine CP.exP fun e27 => ?_ | refine CP.puP fun h27 => ?_))) <;> (first | refine KP.gn ?_ | refine KP.gu ?_ | refine KP.qy QK.not ?_) <;> refine KP.q QK.pk ?_ <;> refine KP.q QK.mv ?_ <;> (first | refine KP.gn ?_ | refine KP.gu ?_ | refine KP.qy QK.mv ?_ | ((first | refine KP.gsP (t := 30) ?_ ?_ | refine KP.gs (t := 30) ?_ ?_) <;> intro _ <;> first | contradiction | refine KP.gn ?_ | refine KP.qy QK.mv ?_)) <;> (first | refine KP.gn ?_ | refine KP.gu ?_ | refine KP.qy QK.nc ?_) <;> (first | refine KP.gn ?_ | refine KP.gu ?_ | refine KP.qy QK.fa ?_) <;> (first | refine KP.gn ?_ | refine KP.gu ?_ | refine KP.qy QK.lds ?_) <;> (first | refine KP.gn ?_ | refine KP.gu ?_ | refine KP.qy QK.mv ?_) <;> (first | refine KP.gn ?_ | refine KP.gu ?_ | refine KP.qy QK.nei ?_) <;> refine KP.q QK.pk ?_ <;> refine KP.q QK.mv ?_ <;> (first | refine KP.gn ?_ | refine KP.gu ?_ | refine KP.qy QK.mv ?_ | ((first | refine KP.gsP (t := 38) ?_ ?_ | refine KP.gs (t := 38) ?_ ?_) <;> intro _ <;> first | contradiction | refine KP.gn ?_ | refine KP.qy QK.mv ?_)) <;> (first | refine KP.gn ?_ | refine KP.gu ?_ | refine KP.qy QK.len ?_) <;> (first | refine KP.gn ?_ | refine KP.gu ?_ | refine KP.qy QK.gtr ?_) <;> refine KP.q QK.pk ?_ <;> refine KP.q QK.mv ?_ <;> (first | refine KP.gn ?_ | refine KP.gu ?_ | refine KP.qy QK.mv ?_ | ((first | refine KP.gsP (t := 43) ?_ ?_ | refine KP.gs (t := 43) ?_ ?_) <;> intro _ <;> first | contradiction | refine KP.gn ?_ | refine KP.qy QK.mv ?_)) <;> (first | refine KP.gn ?_ | refine KP.gu ?_ | refine KP.qy QK.len ?_) <;> (first | refine KP.gn ?_ | refine KP.gu ?_ | refine KP.qy QK.eqi ?_) <;> (first | refine KP.gn ?_ | refine KP.gu ?_ | refine KP.qy QK.mv ?_) <;> (first | refine KP.gn ?_ | refine KP.gu ?_ | refine KP.qy QK.mv ?_ | ((first | refine KP.gsP (t := 47) ?_ ?_ | refine KP.gs (t := 47) ?_ ?_) <;> intro _ <;> first | contradiction | refine KP.gn ?_ | refine KP.qy QK.mv ?_)) <;> (first | refine KP.gn ?_ | refine KP.gu ?_ | refine KP.qy QK.not ?_) <;> (first | refine KP.gn ?_ | refine KP.gu ?_ | refine KP.qy QK.pk ?_) <;> refine KP.q QK.pk ?_ <;> refine KP.list_nil ?_)
    | (refine CW.region (i := 3) ?_ <;> refine KP.q QK.as ?_ <;> refine KP.list_nil ?_)
    | ((with_reducible apply KP.fin1); (· rfl); (· rfl)))
  exact FA.ret

theorem put_at {m i : Nat} {st : MS} {p : PSh} {v : Value} {seq : Int} {items : List Item} {e : Bool} (hp : st.shs[i]? = some p) : Spc Try.prog 57 #[qp m, iv i, iv seq, v, .bool e] [rrow 2 eI v items] [Mg m st]
    (ret (.bool (st.takes p seq items e)) [Mg m (if st.takes p seq items e then { st with shs := st.shs.set i (p.put items e) } else st)]) := by
  refine Spc.enter' (args := [qp m, iv i, iv seq, v, .bool e]) (T0 := [(0, qp m), (1, iv i), (2, iv seq), (3, v), (4, .bool e)]) Try.func57 rfl Try.ntmps57 (Nat.le_of_ble_eq_true rfl) rfl ?_
  intro w0 own
  refine CW.roFact (List.Mem.head _) (fun _ h => rrow.le h) fun hxs => ?_
  refine CW.mg fun sv tv shs hw hm o1 o2 => ?_
  obtain ⟨s, hs, rfl⟩ := map_at_inv hm hp
  have hlt : i < shs.length := (List.getElem?_eq_some_iff.1 hs).1
  have hde := done_eq hm
  
  
  
  repeat' (first
    | (with_reducible refine CW.seq ?_)
    | (with_reducible refine KP.then_code ?_)
    | (with_reducible refine CW.skip ?_)
    | (with_reducible refine CW.ret ?_)
    | (with_reducible refine KP.then_ret ?_)
    | (with_reducible refine KP.block_ret ?_)
    | (with_reducible refine CW.block ?_)
    | (with_reducible refine KP.block_normal ?_)
    | (with_reducible refine CW.exit ?_)
    | (with_reducible refine KP.then_exit ?_)
    | (with_reducible refine KP.block_hit ?_)
    | refine KP.bm ?_
    | refine CW.ct ?_
    | refine CW.cf ?_
    | (refine CW.cP ?_ ?_ <;> intro _ <;> try contradiction)
    | (refine CW.cs ?_ ?_ <;> intro _ <;> try contradiction)
    | (refine CW.region (i := 0) ?_ <;> refine KP.q QK.as ?_ <;> refine KP.list_nil ?_)
    | (refine CW.region (i := 1) ?_ <;> refine KP.q QK.mv ?_ <;> refine KP.q QK.mv ?_ <;> (refine KP.e ?_; ((refine EK.call (get_some (tv := tv) (n := st.n) hlt) ?_); repeat' first | refine CP.r ?_ | refine CP.r0 ?_ | refine CP.exP fun e18 => ?_ | refine CP.puP fun h18 => ?_)) <;> refine KP.q QK.as ?_ <;> refine KP.list_nil ?_)
    | ((with_reducible apply KP.fin1); (· rfl); (· rfl)))
  refine CW.mid2 (X := Unit) (fun _ => [(0, qp m), (3, v), (4, .bool e), (11, sp sv i)]) (fun _ => [pt m 101 [iv st.n, sv, tv], row 103 7 eSh sv shs, row 39 2 eI tv st.told, wl shs]) (fun _ => st.takes s.p seq items e = chainF s.p.last s.p.heard s.p.least items ∧ items.length ≤ 5) ?_ ?_
  · repeat' (first
    | (with_reducible refine CW.seq ?_)
    | (with_reducible refine KP.then_code ?_)
    | (with_reducible refine CW.skip ?_)
    | (with_reducible refine CW.ret ?_)
    | (with_reducible refine KP.then_ret ?_)
    | (with_reducible refine KP.block_ret ?_)
    | (with_reducible refine CW.block ?_)
    | (with_reducible refine KP.block_normal ?_)
    | (with_reducible refine CW.exit ?_)
    | (with_reducible refine KP.then_exit ?_)
    | (with_reducible refine KP.block_hit ?_)
    | refine KP.bm ?_
    | refine CW.ct ?_
    | refine CW.cf ?_
    | (refine CW.cP ?_ ?_ <;> intro _ <;> try contradiction)
    | (refine CW.cs ?_ ?_ <;> intro _ <;> try contradiction)
    | (refine CW.region (i := 2) ?_ <;> refine KP.q QK.mv ?_ <;> refine KP.q QK.eqp ?_ <;> refine KP.q QK.mv ?_ <;> (first | refine KP.gn ?_ | refine KP.gu ?_ | refine KP.qy QK.mv ?_ | ((first | refine KP.gsP (t := 21) ?_ ?_ | refine KP.gs (t := 21) ?_ ?_) <;> intro _ <;> first | contradiction | refine KP.gn ?_ | refine KP.qy QK.mv ?_)) <;> (first | refine KP.gn ?_ | refine KP.gu ?_ | (refine KP.gy ?_; refine KP.e ?_; ((refine EK.call (done_spec) ?_); repeat' first | refine CP.r ?_ | refine CP.r0 ?_ | refine CP.exP fun e23 => ?_ | refine CP.puP fun h23 => ?_))) <;> refine KP.q QK.pk ?_ <;> refine KP.q QK.mv ?_ <;> (first | refine KP.gn ?_ | refine KP.gu ?_ | refine KP.qy QK.mv ?_ | ((first | refine KP.gsP (t := 25) ?_ ?_ | refine KP.gs (t := 25) ?_ ?_) <;> intro _ <;> first | contradiction | refine KP.gn ?_ | refine KP.qy QK.mv ?_)) <;> (first | refine KP.gn ?_ | refine KP.gu ?_ | (refine KP.gy ?_; refine KP.e ?_; ((refine EK.call (wanted_spec (Reads.row RowL.rrow hs) hs) ?_); repeat' first | refine CP.r ?_ | refine CP.r0 ?_ | refine CP.exP fun e27 => ?_ | refine CP.puP fun h27 => ?_))) <;> (first | refine KP.gn ?_ | refine KP.gu ?_ | refine KP.qy QK.not ?_) <;> refine KP.q QK.pk ?_ <;> refine KP.q QK.mv ?_ <;> (first | refine KP.gn ?_ | refine KP.gu ?_ | refine KP.qy QK.mv ?_ | ((first | refine KP.gsP (t := 30) ?_ ?_ | refine KP.gs (t := 30) ?_ ?_) <;> intro _ <;> first | contradiction | refine KP.gn ?_ | refine KP.qy QK.mv ?_)) <;> (first | refine KP.gn ?_ | refine KP.gu ?_ | refine KP.qy QK.nc ?_) <;> (first | refine KP.gn ?_ | refine KP.gu ?_ | refine KP.qy QK.fa ?_) <;> (first | refine KP.gn ?_ | refine KP.gu ?_ | refine KP.qy QK.lds ?_) <;> (first | refine KP.gn ?_ | refine KP.gu ?_ | refine KP.qy QK.mv ?_) <;> (first | refine KP.gn ?_ | refine KP.gu ?_ | refine KP.qy QK.nei ?_) <;> refine KP.q QK.pk ?_ <;> refine KP.q QK.mv ?_ <;> (first | refine KP.gn ?_ | refine KP.gu ?_ | refine KP.qy QK.mv ?_ | ((first | refine KP.gsP (t := 38) ?_ ?_ | refine KP.gs (t := 38) ?_ ?_) <;> intro _ <;> first | contradiction | refine KP.gn ?_ | refine KP.qy QK.mv ?_)) <;> (first | refine KP.gn ?_ | refine KP.gu ?_ | refine KP.qy QK.len ?_) <;> (first | refine KP.gn ?_ | refine KP.gu ?_ | refine KP.qy QK.gtr ?_) <;> refine KP.q QK.pk ?_ <;> refine KP.q QK.mv ?_ <;> (first | refine KP.gn ?_ | refine KP.gu ?_ | refine KP.qy QK.mv ?_ | ((first | refine KP.gsP (t := 43) ?_ ?_ | refine KP.gs (t := 43) ?_ ?_) <;> intro _ <;> first | contradiction | refine KP.gn ?_ | refine KP.qy QK.mv ?_)) <;> (first | refine KP.gn ?_ | refine KP.gu ?_ | refine KP.qy QK.len ?_) <;> (first | refine KP.gn ?_ | refine KP.gu ?_ | refine KP.qy QK.eqi ?_) <;> (first | refine KP.gn ?_ | refine KP.gu ?_ | refine KP.qy QK.mv ?_) <;> (first | refine KP.gn ?_ | refine KP.gu ?_ | refine KP.qy QK.mv ?_ | ((first | refine KP.gsP (t := 47) ?_ ?_ | refine KP.gs (t := 47) ?_ ?_) <;> intro _ <;> first | contradiction | refine KP.gn ?_ | refine KP.qy QK.mv ?_)) <;> (first | refine KP.gn ?_ | refine KP.gu ?_ | refine KP.qy QK.not ?_) <;> (first | refine KP.gn ?_ | refine KP.gu ?_ | refine KP.qy QK.pk ?_) <;> refine KP.q QK.pk ?_ <;> refine KP.list_nil ?_)
    | (refine CW.region (i := 3) ?_ <;> refine KP.q QK.as ?_ <;> refine KP.list_nil ?_)
    | ((with_reducible apply KP.fin1); (· rfl); (· rfl)))
    all_goals try (have ht : st.takes s.p seq items e = false := by simp_all [MS.takes]; first | done | omega)
    all_goals try (rw [ht, if_neg Bool.false_ne_true]; refine FA.gather (Mg.intro rfl hw hm rfl o1 o2) ?_; exact FA.ret)
    all_goals refine KA.joint () ⟨?_, by omega⟩
    all_goals
      have h5 : (items.length : Int) ≤ 5 := by omega
      have h6 : items.length ≤ 5 := by omega
      simp_all [MS.takes]
  rintro - ⟨hpre, h5⟩
  rw [hpre]
  
  
  
  repeat' (first
    | (with_reducible refine CW.seq ?_)
    | (with_reducible refine KP.then_code ?_)
    | (with_reducible refine CW.skip ?_)
    | (with_reducible refine CW.ret ?_)
    | (with_reducible refine KP.then_ret ?_)
    | (with_reducible refine KP.block_ret ?_)
    | (with_reducible refine CW.block ?_)
    | (with_reducible refine KP.block_normal ?_)
    | (with_reducible refine CW.exit ?_)
    | (with_reducible refine KP.then_exit ?_)
    | (with_reducible refine KP.block_hit ?_)
    | refine KP.bm ?_
    | refine CW.ct ?_
    | refine CW.cf ?_
    | (refine CW.cP ?_ ?_ <;> intro _ <;> try contradiction)
    | (refine CW.cs ?_ ?_ <;> intro _ <;> try contradiction)
    | (((with_reducible refine CW.draw (i := 4) ?_ [[], [0], [0, 1], [0, 1, 2], [], [4], [4, 5], [4, 5, 6], [], [0, 1, 2, 3, 8], [0, 1, 2, 3, 4, 5, 6, 7, 8, 9]] ?_ ?_ ?_ ?_); (· rfl); (· kernel_rfl); (· kernel_rfl); (· repeat (first | exact NoHang.post | refine NoHang.then ?_ | refine NoHang.block ?_))) <;> refine DW.p 0 rfl (fun _ => QK.mv) ?_ <;> refine DW.p 1 rfl (fun _ => QK.nc) ?_ <;> refine DW.p 2 rfl (fun _ => QK.fa) ?_ <;> refine DW.p 4 rfl (fun _ => QK.mv) ?_ <;> refine DW.p 5 rfl (fun _ => QK.nc) ?_ <;> refine DW.p 6 rfl (fun _ => QK.fa) ?_ <;> refine DW.m 3 rfl (by first | exact QY.load_a rfl (Rd.own (by with_reducible first | exact k0 | exact k1 | exact k2 | exact k3 | exact k4 | exact k5 | exact k6 | exact k7 | exact k8 | exact k9 | fail)) (Reads.sub (o := 4) (k := 2) (ds := eI s.p.last) (Reads.row RowL.row hs) rfl) rfl | exact QK.lda) ?_ <;> refine DW.m 7 rfl (by first | exact QY.load_s rfl (Rd.own (by with_reducible first | exact k0 | exact k1 | exact k2 | exact k3 | exact k4 | exact k5 | exact k6 | exact k7 | exact k8 | exact k9 | fail)) (Reads.row1 RowL.row hs rfl) | exact QY.load_s rfl (Rd.own (by with_reducible first | exact k0 | exact k1 | exact k2 | exact k3 | exact k4 | exact k5 | exact k6 | exact k7 | exact k8 | exact k9 | fail)) (Reads.row0 RowL.row hs rfl) | exact QK.lds) ?_ <;> (refine DW.ex 8 rfl ?_; intro hdk; (refine EK.alloc ?_; intro b12); all_goals (refine DK.mk hdk (by refine Ob.ap rfl (by first | exact QY.load_s rfl (Rd.own (by with_reducible first | exact k0 | exact k1 | exact k2 | exact k3 | exact k4 | exact k5 | exact k6 | exact k7 | exact k8 | exact k9 | fail)) (Reads.row1 RowL.row hs rfl) | exact QY.load_s rfl (Rd.own (by with_reducible first | exact k0 | exact k1 | exact k2 | exact k3 | exact k4 | exact k5 | exact k6 | exact k7 | exact k8 | exact k9 | fail)) (Reads.row0 RowL.row hs rfl) | exact QK.lds) ?_; refine Ob.ap rfl (by first | exact QY.load_a rfl (Rd.own (by with_reducible first | exact k0 | exact k1 | exact k2 | exact k3 | exact k4 | exact k5 | exact k6 | exact k7 | exact k8 | exact k9 | fail)) (Reads.sub (o := 4) (k := 2) (ds := eI s.p.last) (Reads.row RowL.row hs) rfl) rfl | exact QK.lda) ?_; exact .nil) ?_; clear hdk)) <;> (refine DW.ex 9 rfl ?_; intro hdk; (first | refine EK.st_a ?_ | refine EK.st_ra ?_ | refine EK.st_p ?_); all_goals (refine DK.mk hdk (by refine Ob.ap rfl (by first | exact QY.load_s rfl (Rd.own (by with_reducible first | exact k0 | exact k1 | exact k2 | exact k3 | exact k4 | exact k5 | exact k6 | exact k7 | exact k8 | exact k9 | fail)) (Reads.row1 RowL.row hs rfl) | exact QY.load_s rfl (Rd.own (by with_reducible first | exact k0 | exact k1 | exact k2 | exact k3 | exact k4 | exact k5 | exact k6 | exact k7 | exact k8 | exact k9 | fail)) (Reads.row0 RowL.row hs rfl) | exact QK.lds) ?_; exact .nil) ?_; clear hdk)) <;> refine DW.p 10 rfl (fun _ => QK.as) ?_ <;> refine DW.zz ?_)
    | (refine CW.region (i := 5) ?_ <;> refine KP.q QK.mv ?_ <;> refine KP.q QK.len ?_ <;> refine KP.q QK.mv ?_ <;> refine KP.list_nil ?_)
    | ((with_reducible apply KP.fin1); (· rfl); (· rfl)))
  refine CA.loop (X := Nat × Item × Bool) (fun z => [(3, v), (4, .bool e), (11, sp sv i), (12, qp b12), (13, .bool z.2.2), (60, v), (61, iv items.length), (62, iv z.1)]) (fun z => [pt b12 39 (eI z.2.1), pt m 101 [iv st.n, sv, tv], row 103 7 eSh sv shs, row 39 2 eI tv st.told, wl shs])
    (fun z => z.1 ≤ items.length ∧ chainF s.p.last s.p.heard s.p.least items = chainF z.2.1 z.2.2 s.p.least (items.drop z.1) ∧ z.2.1 = ((items.take z.1).getLast?).getD s.p.last ∧ z.2.2 = (s.p.heard || decide (0 < z.1))) (fun z => items.length - z.1) (0, s.p.last, s.p.heard) ⟨by simp, by simp, by simp, by simp⟩ ?_
  rintro ⟨k, la, he⟩ ⟨hk, hch, hla, hhe⟩
  try dsimp only at hk hch hla hhe ⊢
  rcases Nat.lt_or_ge k items.length with hlk | hgk
  · obtain ⟨x, hx⟩ := at_lt hlk
    have hdr : items.drop k = x :: items.drop (k + 1) := by
      have h := List.getElem?_eq_some_iff.1 hx
      rw [List.drop_eq_getElem_cons h.1, h.2]
    rw [hdr, chainF] at hch
    repeat' (first
    | (with_reducible refine CW.seq ?_)
    | (with_reducible refine KP.then_code ?_)
    | (with_reducible refine CW.skip ?_)
    | (with_reducible refine CW.ret ?_)
    | (with_reducible refine KP.then_ret ?_)
    | (with_reducible refine KP.block_ret ?_)
    | (with_reducible refine CW.block ?_)
    | (with_reducible refine KP.block_normal ?_)
    | (with_reducible refine CW.exit ?_)
    | (with_reducible refine KP.then_exit ?_)
    | (with_reducible refine KP.block_hit ?_)
    | refine KP.bm ?_
    | refine CW.ct ?_
    | refine CW.cf ?_
    | (refine CW.cP ?_ ?_ <;> intro _ <;> try contradiction)
    | (refine CW.cs ?_ ?_ <;> intro _ <;> try contradiction)
    | (refine CW.region (i := 6) ?_ <;> refine KP.q QK.lss ?_ <;> refine KP.list_nil ?_)
    | (refine CW.region (i := 7) ?_ <;> refine KP.q QK.ia ?_ <;> refine KP.q (by first | exact QY.load_a rfl (Rd.own (by with_reducible first | exact k0 | exact k1 | exact k2 | exact k3 | exact k4 | exact k5 | exact k6 | exact k7 | exact k8 | exact k9 | fail)) (Reads.sub (o := 4) (k := 2) (ds := eI s.p.last) (Reads.row RowL.row hs) rfl) rfl | exact QK.lda) ?_ <;> (refine KP.e ?_; (refine EK.alloc ?_; intro b15)) <;> (refine KP.e ?_; (first | refine EK.st_a ?_ | refine EK.st_ra ?_ | refine EK.st_p ?_)) <;> refine KP.list_nil ?_)
    | (((with_reducible refine CW.draw (i := 8) ?_ [[], [0], [0, 1], [0, 1], [0, 1, 2, 3], [0, 1, 2, 3, 4], [0, 1, 2, 3, 4, 5], [0, 1, 2, 3, 4, 5, 6], [0, 1, 2, 3, 4, 5, 6, 7], [0, 1, 2, 3, 4, 5, 6, 7, 8], [0, 1, 2, 3, 4, 5, 6, 7], [0, 1, 2, 3, 4, 5, 6, 7, 10], [0, 1, 2, 3, 4, 5, 6, 7, 10, 11], [0, 1, 2, 3, 4, 5, 6, 7, 10, 11, 12], [0, 1, 2, 3, 4, 5, 6, 7, 8, 9, 10, 11, 12, 13], [0, 1, 2, 3, 4, 5, 6, 7, 8, 9, 10, 11, 12, 13, 14]] ?_ ?_ ?_ ?_); (· rfl); (· kernel_rfl); (· kernel_rfl); (· repeat (first | exact NoHang.post | refine NoHang.then ?_ | refine NoHang.block ?_))) <;> refine DW.p 0 rfl (fun _ => QK.mv) ?_ <;> refine DW.p 1 rfl (fun _ => QK.mv) ?_ <;> (first | refine DW.mn 2 rfl rfl rfl ?_ | refine DW.mu 2 rfl rfl rfl ?_ | refine DW.my 2 rfl rfl rfl (by first | exact QY.load_a rfl (Rd.own (by with_reducible first | exact k0 | exact k1 | exact k2 | exact k3 | exact k4 | exact k5 | exact k6 | exact k7 | exact k8 | exact k9 | fail)) (Reads.sub (o := 4) (k := 2) (ds := eI s.p.last) (Reads.row RowL.row hs) rfl) rfl | exact QK.lda) ?_ | ((first | refine DW.sP (t := 67) ?_ ?_ | refine DW.s (t := 67) ?_ ?_) <;> intro _ <;> first | contradiction | refine DW.mn 2 rfl rfl rfl ?_ | refine DW.mu 2 rfl rfl rfl ?_ | refine DW.my 2 rfl rfl rfl (by first | exact QY.load_a rfl (Rd.own (by with_reducible first | exact k0 | exact k1 | exact k2 | exact k3 | exact k4 | exact k5 | exact k6 | exact k7 | exact k8 | exact k9 | fail)) (Reads.sub (o := 4) (k := 2) (ds := eI s.p.last) (Reads.row RowL.row hs) rfl) rfl | exact QK.lda) ?_)) <;> (first | refine DW.mn 3 rfl rfl rfl ?_ | refine DW.mu 3 rfl rfl rfl ?_ | refine DW.my 3 rfl rfl rfl (by first | exact QY.load_a rfl (Rd.own (by with_reducible first | exact k0 | exact k1 | exact k2 | exact k3 | exact k4 | exact k5 | exact k6 | exact k7 | exact k8 | exact k9 | fail)) (Reads.sub (o := 4) (k := 2) (ds := eI s.p.last) (Reads.row RowL.row hs) rfl) rfl | exact QK.lda) ?_) <;> (first | (refine DW.exn 4 rfl rfl rfl ?_; intro hdk; refine DK.mk hdk .nil ?_; clear hdk) | (refine DW.exy 4 rfl rfl rfl ?_; intro hdk; ((refine EK.call (less_spec (a := la) (b := x)) ?_); repeat' first | refine CP.r ?_ | refine CP.r0 ?_ | refine CP.exP fun e70 => ?_ | refine CP.puP fun h70 => ?_); all_goals (refine DK.mk hdk .nil ?_; clear hdk))) <;> (first | refine DW.pn 5 rfl rfl rfl ?_ | refine DW.pu 5 rfl rfl rfl ?_ | refine DW.py 5 rfl rfl rfl (fun _ => QK.not) ?_) <;> refine DW.p 6 rfl (fun _ => QK.pk) ?_ <;> refine DW.p 7 rfl (fun _ => QK.mv) ?_ <;> (first | refine DW.pn 8 rfl rfl rfl ?_ | refine DW.pu 8 rfl rfl rfl ?_ | refine DW.py 8 rfl rfl rfl (fun _ => QK.fa) ?_ | ((first | refine DW.sP (t := 73) ?_ ?_ | refine DW.s (t := 73) ?_ ?_) <;> intro _ <;> first | contradiction | refine DW.pn 8 rfl rfl rfl ?_ | refine DW.pu 8 rfl rfl rfl ?_ | refine DW.py 8 rfl rfl rfl (fun _ => QK.fa) ?_)) <;> (first | refine DW.pn 10 rfl rfl rfl ?_ | refine DW.pu 10 rfl rfl rfl ?_ | refine DW.py 10 rfl rfl rfl (fun _ => QK.mv) ?_) <;> (first | refine DW.pn 11 rfl rfl rfl ?_ | refine DW.pu 11 rfl rfl rfl ?_ | refine DW.py 11 rfl rfl rfl (fun _ => QK.nc) ?_) <;> (first | refine DW.pn 12 rfl rfl rfl ?_ | refine DW.pu 12 rfl rfl rfl ?_ | refine DW.py 12 rfl rfl rfl (fun _ => QK.fa) ?_) <;> (first | refine DW.mn 9 rfl rfl rfl ?_ | refine DW.mu 9 rfl rfl rfl ?_ | refine DW.my 9 rfl rfl rfl (by first | exact QY.load_s rfl (Rd.own (by with_reducible first | exact k0 | exact k1 | exact k2 | exact k3 | exact k4 | exact k5 | exact k6 | exact k7 | exact k8 | exact k9 | fail)) (Reads.row1 RowL.row hs rfl) | exact QY.load_s rfl (Rd.own (by with_reducible first | exact k0 | exact k1 | exact k2 | exact k3 | exact k4 | exact k5 | exact k6 | exact k7 | exact k8 | exact k9 | fail)) (Reads.row0 RowL.row hs rfl) | exact QK.lds) ?_) <;> (first | refine DW.mn 13 rfl rfl rfl ?_ | refine DW.mu 13 rfl rfl rfl ?_ | refine DW.my 13 rfl rfl rfl (by first | exact QY.load_s rfl (Rd.own (by with_reducible first | exact k0 | exact k1 | exact k2 | exact k3 | exact k4 | exact k5 | exact k6 | exact k7 | exact k8 | exact k9 | fail)) (Reads.row1 RowL.row hs rfl) | exact QY.load_s rfl (Rd.own (by with_reducible first | exact k0 | exact k1 | exact k2 | exact k3 | exact k4 | exact k5 | exact k6 | exact k7 | exact k8 | exact k9 | fail)) (Reads.row0 RowL.row hs rfl) | exact QK.lds) ?_) <;> (first | refine DW.pn 14 rfl rfl rfl ?_ | refine DW.pu 14 rfl rfl rfl ?_ | refine DW.py 14 rfl rfl rfl (fun _ => QK.lss) ?_) <;> refine DW.p 15 rfl (fun _ => QK.pk) ?_ <;> refine DW.zz ?_)
    | (refine CW.region (i := 9) ?_ <;> refine KP.q QK.as ?_ <;> refine KP.list_nil ?_)
    | ((with_reducible apply KP.fin1); (· rfl); (· rfl)))
    all_goals try (have hf : chainF s.p.last s.p.heard s.p.least items = false := by clear hdr hla hhe hpre; simp_all; done)
    all_goals try (rw [hf, if_neg Bool.false_ne_true]; refine FA.gather (Mg.intro rfl hw hm rfl o1 o2) ?_; exact FA.ret)
    all_goals
      have hc2 : chainF s.p.last s.p.heard s.p.least items = chainF x true s.p.least (items.drop (k + 1)) := by clear hdr hla hhe hpre; simp_all
      have hl2 : x = ((items.take (k + 1)).getLast?).getD s.p.last := by rw [List.take_add_one, hx]; simp
      repeat' (first
    | (with_reducible refine CW.seq ?_)
    | (with_reducible refine KP.then_code ?_)
    | (with_reducible refine CW.skip ?_)
    | (with_reducible refine CW.ret ?_)
    | (with_reducible refine KP.then_ret ?_)
    | (with_reducible refine KP.block_ret ?_)
    | (with_reducible refine CW.block ?_)
    | (with_reducible refine KP.block_normal ?_)
    | (with_reducible refine CW.exit ?_)
    | (with_reducible refine KP.then_exit ?_)
    | (with_reducible refine KP.block_hit ?_)
    | refine KP.bm ?_
    | refine CW.ct ?_
    | refine CW.cf ?_
    | (refine CW.cP ?_ ?_ <;> intro _ <;> try contradiction)
    | (refine CW.cs ?_ ?_ <;> intro _ <;> try contradiction)
    | (refine CW.region (i := 10) ?_ <;> refine KP.q (by first | exact QY.load_a rfl (Rd.own (by with_reducible first | exact k0 | exact k1 | exact k2 | exact k3 | exact k4 | exact k5 | exact k6 | exact k7 | exact k8 | exact k9 | fail)) (Reads.sub (o := 4) (k := 2) (ds := eI s.p.last) (Reads.row RowL.row hs) rfl) rfl | exact QK.lda) ?_ <;> (refine KP.e ?_; (first | refine EK.st_a ?_ | refine EK.st_ra ?_ | refine EK.st_p ?_)) <;> refine KP.q QK.as ?_ <;> refine KP.list_nil ?_)
    | (refine CW.region (i := 11) ?_ <;> refine KP.q QK.add ?_ <;> refine KP.q QK.mv ?_ <;> refine KP.list_nil ?_)
    | ((with_reducible apply KP.fin1); (· rfl); (· rfl)))
      exact KA.round (k + 1, x, true) ⟨by simp only; omega, hc2, hl2, by simp⟩
  · rw [List.drop_of_length_le hgk, chainF] at hch
    rw [List.take_of_length_le hgk] at hla
    obtain rfl : k = items.length := by omega
    rw [hch, if_pos rfl]
    have hl2 : items.length ≤ 100000 := by omega
    
    have g1 : (shs.set i (s.s1 la))[i]? = some (s.s1 la) := List.getElem?_set_self hlt
    have g2 : ((shs.set i (s.s1 la)).set i (s.s2 la he))[i]? = some (s.s2 la he) := List.getElem?_set_self (by simpa using hlt)
    
    repeat' (first
    | (with_reducible refine CW.seq ?_)
    | (with_reducible refine KP.then_code ?_)
    | (with_reducible refine CW.skip ?_)
    | (with_reducible refine CW.ret ?_)
    | (with_reducible refine KP.then_ret ?_)
    | (with_reducible refine KP.block_ret ?_)
    | (with_reducible refine CW.block ?_)
    | (with_reducible refine KP.block_normal ?_)
    | (with_reducible refine CW.exit ?_)
    | (with_reducible refine KP.then_exit ?_)
    | (with_reducible refine KP.block_hit ?_)
    | refine KP.bm ?_
    | refine CW.ct ?_
    | refine CW.cf ?_
    | (refine CW.cP ?_ ?_ <;> intro _ <;> try contradiction)
    | (refine CW.cs ?_ ?_ <;> intro _ <;> try contradiction)
    | (refine CW.region (i := 6) ?_ <;> refine KP.q QK.lss ?_ <;> refine KP.list_nil ?_)
    | ((with_reducible apply KP.fin1); (· rfl); (· rfl)))
    repeat' (first
    | (with_reducible refine CW.seq ?_)
    | (with_reducible refine KP.then_code ?_)
    | (with_reducible refine CW.skip ?_)
    | (with_reducible refine CW.ret ?_)
    | (with_reducible refine KP.then_ret ?_)
    | (with_reducible refine KP.block_ret ?_)
    | (with_reducible refine CW.block ?_)
    | (with_reducible refine KP.block_normal ?_)
    | (with_reducible refine CW.exit ?_)
    | (with_reducible refine KP.then_exit ?_)
    | (with_reducible refine KP.block_hit ?_)
    | refine KP.bm ?_
    | refine CW.ct ?_
    | refine CW.cf ?_
    | (refine CW.cP ?_ ?_ <;> intro _ <;> try contradiction)
    | (refine CW.cs ?_ ?_ <;> intro _ <;> try contradiction)
    | (((with_reducible refine CW.draw (i := 12) ?_ [[], [], [], [], [], [], [5], [0, 3, 5, 6], [0, 3, 5, 6, 7], [0, 3, 5, 6, 7, 8], [0, 1, 3, 4, 5, 6, 7, 8, 9], [0, 1, 3, 4, 5, 6, 7, 8, 9, 10], [0, 1, 3, 4, 5, 6, 7, 8, 9, 10, 11], [0, 1, 2, 3, 4, 5, 6, 7, 8, 9, 10, 11, 12], [0, 1, 2, 3, 4, 5, 6, 7, 8, 9, 10, 11, 12, 13], [0, 1, 2, 3, 4, 5, 6, 7, 8, 9, 10, 11, 12, 13, 14]] ?_ ?_ ?_ ?_); (· rfl); (· kernel_rfl); (· kernel_rfl); (· repeat (first | exact NoHang.post | refine NoHang.then ?_ | refine NoHang.block ?_))) <;> refine DW.p 0 rfl (fun _ => QK.mv) ?_ <;> refine DW.p 1 rfl (fun _ => QK.mv) ?_ <;> refine DW.p 2 rfl (fun _ => QK.mv) ?_ <;> refine DW.p 4 rfl (fun _ => QK.mv) ?_ <;> refine DW.p 5 rfl (fun _ => QK.mv) ?_ <;> refine DW.m 3 rfl (by first | exact QY.load_a rfl (Rd.own (by with_reducible first | exact k0 | exact k1 | exact k2 | exact k3 | exact k4 | exact k5 | exact k6 | exact k7 | exact k8 | exact k9 | fail)) (Reads.sub (o := 4) (k := 2) (ds := eI s.p.last) (Reads.row RowL.row hs) rfl) rfl | exact QK.lda) ?_ <;> (refine DW.ex 6 rfl ?_; intro hdk; ((refine EK.call (clone_spec hl2) ?_); repeat' first | refine CP.r ?_ | refine CP.r0 ?_ | refine CP.exP fun e90 => ?_ | refine CP.puP fun h90 => ?_); all_goals (refine DK.mk hdk (by refine Ob.ap rfl (by first | exact QY.load_a rfl (Rd.own (by with_reducible first | exact k0 | exact k1 | exact k2 | exact k3 | exact k4 | exact k5 | exact k6 | exact k7 | exact k8 | exact k9 | fail)) (Reads.sub (o := 4) (k := 2) (ds := eI s.p.last) (Reads.row RowL.row hs) rfl) rfl | exact QK.lda) ?_; exact .nil) ?_; clear hdk)) <;> refine DW.p 7 rfl (fun _ => QK.nc) ?_ <;> refine DW.p 8 rfl (fun _ => QK.fa) ?_ <;> (refine DW.ex 9 rfl ?_; intro hdk; (first | refine EK.st_rp (enc := eSh) (x' := s) (y' := s.s1 la) (vs := eI la) ?_ | refine EK.st_rf (enc := eSh) (x' := s.s1 la) (y' := s.s2 la he) ?_ | refine EK.st_rf (enc := eSh) (x' := s.s2 la he) (y' := s.s3 la he items e90 h90) ?_ | refine EK.st_a ?_ | refine EK.st_ra ?_ | refine EK.st_p ?_); all_goals (refine DK.mk hdk .nil ?_; clear hdk)) <;> refine DW.p 10 rfl (fun _ => QK.nc) ?_ <;> refine DW.p 11 rfl (fun _ => QK.fa) ?_ <;> (refine DW.ex 12 rfl ?_; intro hdk; (first | refine EK.st_rp (enc := eSh) (x' := s) (y' := s.s1 la) (vs := eI la) ?_ | refine EK.st_rf (enc := eSh) (x' := s.s1 la) (y' := s.s2 la he) ?_ | refine EK.st_rf (enc := eSh) (x' := s.s2 la he) (y' := s.s3 la he items e90 h90) ?_ | refine EK.st_s ?_ | refine EK.st_rf ?_ | refine EK.st_rf0 ?_); all_goals (refine DK.mk hdk .nil ?_; clear hdk)) <;> refine DW.p 13 rfl (fun _ => QK.nc) ?_ <;> refine DW.p 14 rfl (fun _ => QK.fa) ?_ <;> (refine DW.ex 15 rfl ?_; intro hdk; (first | refine EK.st_rp (enc := eSh) (x' := s) (y' := s.s1 la) (vs := eI la) ?_ | refine EK.st_rf (enc := eSh) (x' := s.s1 la) (y' := s.s2 la he) ?_ | refine EK.st_rf (enc := eSh) (x' := s.s2 la he) (y' := s.s3 la he items e90 h90) ?_ | refine EK.st_s ?_ | refine EK.st_rf ?_ | refine EK.st_rf0 ?_); all_goals (refine DK.mk hdk .nil ?_; clear hdk)) <;> refine DW.zz ?_)
    | ((with_reducible apply KP.fin1); (· rfl); (· rfl)))
    have g3 : (((shs.set i (s.s1 la)).set i (s.s2 la he)).set i (s.s3 la he items e90 h90))[i]? = some (s.s3 la he items e90 h90) := List.getElem?_set_self (by simpa using hlt)
    have g4 : ((((shs.set i (s.s1 la)).set i (s.s2 la he)).set i (s.s3 la he items e90 h90)).set i (s.s4 la he items e90 h90))[i]? = some (s.s4 la he items e90 h90) := List.getElem?_set_self (by simpa using hlt)
    
    
    repeat' (first
    | (with_reducible refine CW.seq ?_)
    | (with_reducible refine KP.then_code ?_)
    | (with_reducible refine CW.skip ?_)
    | (with_reducible refine CW.ret ?_)
    | (with_reducible refine KP.then_ret ?_)
    | (with_reducible refine KP.block_ret ?_)
    | (with_reducible refine CW.block ?_)
    | (with_reducible refine KP.block_normal ?_)
    | (with_reducible refine CW.exit ?_)
    | (with_reducible refine KP.then_exit ?_)
    | (with_reducible refine KP.block_hit ?_)
    | refine KP.bm ?_
    | refine CW.ct ?_
    | refine CW.cf ?_
    | (refine CW.cP ?_ ?_ <;> intro _ <;> try contradiction)
    | (refine CW.cs ?_ ?_ <;> intro _ <;> try contradiction)
    | (refine CW.region (i := 13) ?_ <;> refine KP.q QK.mv ?_ <;> refine KP.q QK.nc ?_ <;> refine KP.q QK.fa ?_ <;> refine KP.q (by first | exact QY.load_s rfl (Rd.own (by with_reducible first | exact k0 | exact k1 | exact k2 | exact k3 | exact k4 | exact k5 | exact k6 | exact k7 | exact k8 | exact k9 | fail)) (Reads.row1 RowL.row g3 rfl) | exact QY.load_s rfl (Rd.own (by with_reducible first | exact k0 | exact k1 | exact k2 | exact k3 | exact k4 | exact k5 | exact k6 | exact k7 | exact k8 | exact k9 | fail)) (Reads.row1 RowL.row hs rfl) | exact QY.load_s rfl (Rd.own (by with_reducible first | exact k0 | exact k1 | exact k2 | exact k3 | exact k4 | exact k5 | exact k6 | exact k7 | exact k8 | exact k9 | fail)) (Reads.row0 RowL.row hs rfl) | exact QK.lds) ?_ <;> refine KP.q QK.add ?_ <;> refine KP.q QK.nc ?_ <;> refine KP.q QK.fa ?_ <;> (refine KP.e ?_; (first | refine EK.st_rf (enc := eSh) (x' := s.s3 la he items e90 h90) (y' := s.s4 la he items e90 h90) ?_ | refine EK.st_rf (enc := eSh) (x' := s.s4 la he items e90 h90) (y' := s.s5 la he items e e90 h90) ?_ | refine EK.st_rp (enc := eSh) (x' := s) (y' := s.s1 la) (vs := eI la) ?_ | refine EK.st_rf (enc := eSh) (x' := s.s1 la) (y' := s.s2 la he) ?_ | refine EK.st_rf (enc := eSh) (x' := s.s2 la he) (y' := s.s3 la he items e90 h90) ?_ | refine EK.st_s ?_ | refine EK.st_rf ?_ | refine EK.st_rf0 ?_)) <;> refine KP.list_nil ?_)
    | (refine CW.region (i := 14) ?_ <;> refine KP.q QK.mv ?_ <;> refine KP.q QK.mv ?_ <;> refine KP.q QK.nc ?_ <;> refine KP.q QK.fa ?_ <;> (refine KP.e ?_; (first | refine EK.st_rf (enc := eSh) (x' := s.s3 la he items e90 h90) (y' := s.s4 la he items e90 h90) ?_ | refine EK.st_rf (enc := eSh) (x' := s.s4 la he items e90 h90) (y' := s.s5 la he items e e90 h90) ?_ | refine EK.st_rp (enc := eSh) (x' := s) (y' := s.s1 la) (vs := eI la) ?_ | refine EK.st_rf (enc := eSh) (x' := s.s1 la) (y' := s.s2 la he) ?_ | refine EK.st_rf (enc := eSh) (x' := s.s2 la he) (y' := s.s3 la he items e90 h90) ?_ | refine EK.st_s ?_ | refine EK.st_rf ?_ | refine EK.st_rf0 ?_)) <;> refine KP.list_nil ?_)
    | (refine CW.region (i := 15) ?_ <;> refine KP.q QK.as ?_ <;> refine KP.list_nil ?_)
    | ((with_reducible apply KP.fin1); (· rfl); (· rfl)))
    simp only [List.set_set]
    have hps : (s.s5 la he items e e90 h90).p = s.p.put items e := by simp [Sh.s5, PSh.put, hla, hhe]
    refine FA.turn (A' := wl shs) (B' := BigA waitsA (shs.eraseIdx i)) (fun _ x => BigA.drop hs x) ?_
    refine FA.gather (M := [row 39 2 eI e90 items, BigA waitsA (shs.eraseIdx i)]) (A' := wl (shs.set i (s.s5 la he items e e90 h90))) (fun _ x => BigA.put (f := waitsA) (q := s.s5 la he items e e90 h90) hs x) ?_
    refine FA.gather (Mg.intro (st := { n := st.n, shs := st.shs.set i (s.p.put items e), told := st.told }) rfl ⟨hw.n1, hw.n10, hw.told, by simpa using hw.shs, ?_⟩ (by rw [List.map_set, hm, hps]) rfl o1 o2) ?_
    · intro x hx
      rcases List.mem_or_eq_of_mem_set hx with h | h
      · exact hw.waits x h
      · rw [h]; exact h5
    · exact FA.ret

theorem putM {m : Nat} {st : MS} {v : Value} {i seq : Int} {items : List Item} {e : Bool} : Spc Try.prog 57 #[qp m, iv i, iv seq, v, .bool e] [rrow 2 eI v items] [Mg m st] (ret (.bool (st.put i seq items e).1) [Mg m (st.put i seq items e).2]) := by
  unfold MS.put
  split
  · rename_i h0
    obtain ⟨i, rfl⟩ := Int.eq_ofNat_of_zero_le h0
    simp only [Int.toNat_natCast]
    split
    · rename_i s hs
      have := put_at (m := m) (v := v) (seq := seq) (items := items) (e := e) hs
      cases ht : st.takes s seq items e
      · rw [ht] at this; exact this
      · rw [ht] at this; exact this
    · rename_i hs
      exact put_none (.inr (by have := List.getElem?_eq_none_iff.1 hs; omega))
  · exact put_none (.inl (by omega))
end Go.Proofs.Ytpmhelfdmhjnbaa
