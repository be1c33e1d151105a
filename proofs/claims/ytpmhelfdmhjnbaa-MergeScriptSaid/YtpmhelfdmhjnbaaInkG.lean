/- InkG: slices that are lent with spare room behind them. -/
import Derived.Test.YtpmhelfdmhjnbaaInkF
namespace Go.Ink
open Go
set_option linter.unusedVariables false
set_option linter.unusedSimpArgs false
section
variable {P : Program} {c : Cx} {N : Nat} {T : Tm} {L M L1 : List Asrt} {A B : Asrt} {K : Act → World → Prop} {R : Exit → Act → World → Prop}
variable {dst : Option Tmp} {gd : Option (Nat × Bool)} {x y s : Operand} {u v : Value} {ty t e : TypeId} {pos : String} {aft : Array Edge} {b off o n d : Nat} {cs : List Value}
variable {α : Type _} {enc : α → List Value} {xs ys : List α} {k : IntKind} {m : Int}

/-- append into room that is there: the slice is empty, its block is known. -/
theorem EW.append_in {by_ cp : Nat} {z : Value} [E : Enc enc n] [SliT P t e] [TyI P e n by_ z] (hs : ev T s = some (.slice (some ⟨b, 0, none⟩) 0 cp)) (hx : ev T x = some u) (p : Pick L (pt b e cs) L1) (r : Rd c L1 B) (rl : RowL B n enc u ys)
    (hcs : cs.length = cp * n) (hm : ys.length ≤ cp) (hd : d < N) (h : KP c N ((d, .slice (some ⟨b, 0, none⟩) ys.length cp) :: T) (pt b e (ys.flatMap enc ++ cs.drop (ys.length * n)) :: L1) K) :
    EW P c N T L ⟨some d, .call { callee := .builtin .append, args := #[s, x], argTypes := #[t, t] }, ty, pos, aft, gd⟩ R K := fun a w g st => by
  have sp := st.pick p
  obtain ⟨hh, ha, hsub, sf⟩ := sp.focus
  obtain ⟨hh2, ha2, hsub2⟩ := r.frag sp.drop
  show Oper.upon P _ a K R _
  have he : ∀ q, (Builtin.append_ #[t, t] ty #[.slice (some ⟨b, 0, none⟩) 0 cp, u]).run P w = q → (execOp a.eval ⟨some d, .call { callee := .builtin .append, args := #[s, x], argTypes := #[t, t] }, ty, pos, aft, gd⟩).run P w = q.andThen fun v w' => .ok (.value v) w' := by
    intro q hq
    simp [execOp, resolve, invoke, builtin, g.ev hs, g.ev hx, hq]
  by_cases hy : ys = []
  · subst hy
    obtain ⟨ua, uc, rfl, _⟩ := rl.len ha2
    rw [he _ (run_append_none (P := P) t ty (some ⟨b, 0, none⟩) 0 cp (Nat.zero_le _) ua uc w)]
    refine h _ _ (g.put hd _) ?_
    simpa using sp
  · have hu : ∃ ub uo uc, u = .slice (some ⟨ub, uo, none⟩) ys.length uc ∧ Cells hh2 ub uo (ys.flatMap enc) := by
      rcases rl _ ha2 with ⟨_, e⟩ | ⟨b, off, cap, hv, _, _, hc⟩
      · exact absurd e hy
      · exact ⟨_, _, _, hv, hc⟩
    obtain ⟨ub, uo, uc, rfl, hc⟩ := hu
    have hnl : (ys.flatMap enc).length = ys.length * n := flatMap_length E.len ys
    have hnews : ∀ j u, (ys.flatMap enc)[j]? = some u → w.cell? ((⟨ub, uo, none⟩ : Addr).add j) = some u := by
      intro j u hj
      obtain ⟨arr, e', fr, h1, h2⟩ := hc j u hj
      rw [Addr.add_lit]
      simp [World.cell?, hsub2 _ _ h1, h2]
    have h1c : ∀ u ∈ ys.flatMap enc, u.oneCell' = true := by
      intro u hu
      obtain ⟨y, _, hy⟩ := List.mem_flatMap.1 hu
      exact E.one y u hy
    have hg : w.heap[b]? = some (.cells cs.toArray e) := hsub _ _ (by rw [ha]; exact one_self _ _)
    have hr := run_append_fit (P := P) t ty (e := e) (n := n) (by_ := by_) (z := z) (off := 0) (l := 0) (cp := cp) hg (by omega) (by omega) hnl hnews h1c (cp' := uc)
    have hle : ys.length * n ≤ cp * n := Nat.mul_le_mul_right n hm
    simp only [Nat.zero_add, Nat.zero_mul] at hr
    rw [he _ hr]
    refine h _ _ (g.put hd _) (sf.upd (b := b) (o := .cells cs.toArray e) (fun _ h' => by rw [h', ha]; exact one_self _ _) (fun _ h' => ?_) (updAt_setRow w b _ _ e hg))
    subst h'
    rw [ha]
    have e2 : splice cs 0 (ys.flatMap enc) = ys.flatMap enc ++ cs.drop (ys.length * n) := by simp [splice, hnl]
    rw [e2]
    show (fun k => if k = b then some _ else one b _ k) = one b _
    funext k; simp only [one]; split <;> rfl
/-- xs, and behind them, as far as the slice's capacity goes, ys. -/
def lent (t : TypeId) (n : Nat) (enc : α → List Value) (b : Nat) (xs ys : List α) : Asrt := row t n enc (.slice (some ⟨b, 0, none⟩) (xs.length + ys.length) (xs.length + ys.length)) (xs ++ ys)
theorem lent.of {ds : List Value} [E : Enc enc n] (h : ds = (xs ++ ys).flatMap enc) (hl : xs.length + ys.length ≤ maxLen) : ∀ hh, pt b e ds hh → lent e n enc b xs ys hh := fun hh ha => by
  have := pt_row (b := b) (e := e) h (by rw [List.length_append]; exact hl) hh ha
  rw [List.length_append] at this
  exact this
theorem lent.cells {h : Frag} [E : Enc enc n] (hp : 0 < xs.length + ys.length) (r : lent t n enc b xs ys h) : xs.length + ys.length ≤ maxLen ∧ Cells h b 0 ((xs ++ ys).flatMap enc) := by
  rcases row.rrow _ r with ⟨_, e⟩ | ⟨b', off, cap, hv, h1, h2, hc⟩
  · have := congrArg List.length e; rw [List.length_append, List.length_nil] at this; omega
  · simp only [Value.slice.injEq, Option.some.injEq, Addr.mk.injEq] at hv
    obtain ⟨⟨rfl, rfl, _⟩, _, rfl⟩ := hv
    exact ⟨h2, hc⟩
theorem RowL.lent [E : Enc enc n] (hp : 0 < xs.length + ys.length) : RowL (lent t n enc b xs ys) n enc (.slice (some ⟨b, 0, none⟩) xs.length (xs.length + ys.length)) xs := fun h r => by
  obtain ⟨h1, h2⟩ := r.cells hp
  refine .inr ⟨b, 0, _, rfl, by omega, h1, ?_⟩
  have := cells_cut h2 0 (xs.flatMap enc).length
  rw [List.drop_zero, List.flatMap_append, List.take_left] at this
  exact this
theorem RowL.room [E : Enc enc n] (hp : 0 < ys.length) : RowL (Ink.lent t n enc b xs ys) n enc (.slice (some ⟨b, xs.length * n, none⟩) ys.length ys.length) ys := fun h r => by
  obtain ⟨h1, h2⟩ := r.cells (by omega)
  refine .inr ⟨b, xs.length * n, _, rfl, Nat.le_refl _, by omega, ?_⟩
  have := cells_cut h2 (xs.length * n) (ys.flatMap enc).length
  rw [List.flatMap_append, ← flatMap_length E.len xs, List.drop_left, List.take_length, Nat.zero_add, flatMap_length E.len xs] at this
  exact this
theorem QY.cut_room {by_ l m' : Nat} {z : Value} {kl kh : IntKind} [SliT P t e] [TyI P e n by_ z] (hx : ev T x = some (.slice (some ⟨b, 0, none⟩) l (l + m'))) (hl : ev T y = some (.int kl (l : Nat))) (hh : ev T s = some (.int kh ((l + m' : Nat) : Int))) (hm : 0 < m') :
    QY P c N T L ⟨dst, .slice t x (some y) (some s) none, ty, pos, aft, gd⟩ (.slice (some ⟨b, l * n, none⟩) m' m') := fun a w g st => by
  have := run_cut (P := P) t (e := e) (n := n) (b := b) (off := 0) (l := l) (cp := l + m') (lo := l) (hi := l + m') kl kh (by omega) (Nat.le_refl _) w
  have e1 : slv n (.slice (some ⟨b, 0, none⟩) l (l + m')) l (l + m') = .slice (some ⟨b, l * n, none⟩) m' m' := by
    rw [slv_some, if_neg (by omega), Nat.zero_add, show l + m' - l = m' by omega]
  rw [e1, Int.natCast_add] at this
  simp [execOp, g.ev hx, g.ev hl, g.ev hh, this]
theorem QY.index_room {by_ l m' i : Nat} {z : Value} [SliT P t e] [TyI P e n by_ z] (hx : ev T x = some (.slice (some ⟨b, l * n, none⟩) m' m')) (hy : ev T y = some (.int k (i : Int))) (hi : i < m') :
    QY P c N T L ⟨dst, .indexAddr t x y, ty, pos, aft, gd⟩ (.pointer (some ⟨b, 0 + (l + i) * n, none⟩)) := fun a w g s => by
  have e1 : l * n + i * n = 0 + (l + i) * n := by rw [Nat.zero_add, Nat.add_mul]
  simp [execOp, g.ev hx, g.ev hy, run_index (P := P) t b (l * n) m' m' i k hi w, e1]
/-- A store into the room. -/
theorem EK.st_room {by_ i : Nat} {zv : Value} {y' : α} [E : Enc enc n] [TyI P e n by_ zv] (h : KP c N T (Ink.lent e n enc b xs (ys.set i y') :: L1) K) (hx : ev T x = some (.pointer (some ⟨b, 0 + (xs.length + i) * n, none⟩)) := by rfl) (hy : ev T y = some (.agg (enc y').toArray) := by rfl)
    (p : Pick L (Ink.lent e n enc b xs ys) L1 := by with_reducible first | exact k0 | exact k1 | exact k2 | exact k3 | exact k4 | exact k5 | exact k6 | exact k7 | exact k8 | exact k9 | fail) (hi : i < ys.length := by omega) :
    EW P c N T L ⟨none, .store e x y, ty, pos, aft, gd⟩ R K := by
  refine EW.store_row_a (e := e) (enc := enc) (v := .slice (some ⟨b, 0, none⟩) (xs.length + ys.length) (xs.length + ys.length)) (xs := xs ++ ys) (i := xs.length + i) (y' := y') hx hy p (by rw [List.length_append]; omega) ?_
  have e1 : (xs ++ ys).set (xs.length + i) y' = xs ++ ys.set i y' := by
    rw [List.set_append_right _ _ (by omega), Nat.add_sub_cancel_left]
  rw [e1]
  have e2 : Ink.lent e n enc b xs (ys.set i y') = row e n enc (.slice (some ⟨b, 0, none⟩) (xs.length + ys.length) (xs.length + ys.length)) (xs ++ ys.set i y') := by
    unfold Ink.lent; rw [List.length_set]
  rw [e2] at h
  exact h
theorem EK.st_room_s {by_ i : Nat} {zv w' : Value} {y' : α} [E : Enc enc 1] [TyI P e 1 by_ zv] (h : KP c N T (Ink.lent e 1 enc b xs (ys.set i y') :: L1) K) {z' : α} (hz : ys[i]? = some z') (hw : enc y' = [w']) (ho : w'.oneCell' = true) (hx : ev T x = some (.pointer (some ⟨b, 0 + (xs.length + i) * 1, none⟩)) := by rfl) (hy : ev T y = some w' := by rfl)
    (p : Pick L (Ink.lent e 1 enc b xs ys) L1 := by with_reducible first | exact k0 | exact k1 | exact k2 | exact k3 | exact k4 | exact k5 | exact k6 | exact k7 | exact k8 | exact k9 | fail) (hi : i < ys.length := by omega) :
    EW P c N T L ⟨none, .store e x y, ty, pos, aft, gd⟩ R K := by
  have hzz : (xs ++ ys)[xs.length + i]? = some z' := by
    rw [List.getElem?_append_right (by omega), Nat.add_sub_cancel_left]; exact hz
  have hset : (enc z').set 0 w' = enc y' := by
    rw [hw]
    have hl := E.len z'
    match h : enc z', hl with
    | [q], _ => rfl
  refine EW.store_row_f0 (e := e) (enc := enc) (v := .slice (some ⟨b, 0, none⟩) (xs.length + ys.length) (xs.length + ys.length)) (xs := xs ++ ys) (i := xs.length + i) (x' := z') (y' := y') hx hy p hzz hset ho ?_
  have e1 : (xs ++ ys).set (xs.length + i) y' = xs ++ ys.set i y' := by
    rw [List.set_append_right _ _ (by omega), Nat.add_sub_cancel_left]
  rw [e1]
  have e2 : Ink.lent e 1 enc b xs (ys.set i y') = row e 1 enc (.slice (some ⟨b, 0, none⟩) (xs.length + ys.length) (xs.length + ys.length)) (xs ++ ys.set i y') := by
    unfold Ink.lent; rw [List.length_set]
  rw [e2] at h
  exact h
end
end Go.Ink
