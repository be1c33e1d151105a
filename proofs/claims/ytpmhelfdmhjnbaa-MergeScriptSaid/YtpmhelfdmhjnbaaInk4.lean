/- Ink4: append, cuts of slices, stores into rows, slice literals, make. -/
import Derived.Test.YtpmhelfdmhjnbaaInk3
namespace Go.Ink
open Go
set_option linter.unusedVariables false
set_option linter.unusedSimpArgs false

section
variable {P : Program} {c : Cx} {N : Nat} {T : Tm} {L M L1 : List Asrt} {K : Act → World → Prop} {R : Exit → Act → World → Prop} {w : World} {A B : Asrt}
variable {dst : Option Tmp} {gd : Option (Nat × Bool)} {x y s : Operand} {u v : Value} {ty t e : TypeId} {pos : String} {aft : Array Edge} {b off o n d : Nat} {cs : List Value}
variable {α : Type _} {enc : α → List Value} {xs ys : List α} {k : IntKind} {m : Int}

theorem run_append_none (t ty : TypeId) {by_ : Nat} {z : Value} [S : SliT P t e] [TyI P e n by_ z] (a : Option Addr) (l cp : Nat) (hl : l ≤ cp) (a' : Option Addr) (cp' : Nat) (w : World) :
    (Builtin.append_ #[t, t] ty #[.slice a l cp, .slice a' 0 cp']).run P w = .ok (.slice a l cp) w := by
  cases a <;> cases a' <;> simp [Builtin.append_, run_underlying S.out, run_sizeOf_ty e, Builtin.lenOf, hl, Builtin.firstCells, loadCells, loadCellsFrom, storeCells]
theorem St.focus (st : St c (A :: L) w) : ∃ h1, A h1 ∧ Sub h1 w ∧ St c ((fun h => h = h1) :: L) w := by
  obtain ⟨h, ⟨h1, h2, dj, le1, le2, x, y⟩, hs, hf⟩ := st
  exact ⟨h1, x, hs.mono le1, h, ⟨h1, h2, dj, le1, le2, rfl, y⟩, hs, hf⟩
theorem info_eq (e : TypeId) {by_ : Nat} {z : Value} [TyI P e n by_ z] : ∃ i, P.info? e = some i ∧ i.size = n ∧ i.bytes = by_ ∧ i.zero = some z := info_of_ty (P := P) e

theorem run_append_fit (t ty : TypeId) {by_ : Nat} {z : Value} [S : SliT P t e] [TyI P e n by_ z] {cs news : List Value} {l cp mm cp' : Nat} {a' : Addr} {w : World} (hg : w.heap[b]? = some (.cells cs.toArray e)) (hroom : l + mm ≤ cp) (hfit : off + cp * n ≤ cs.length)
    (hl : news.length = mm * n) (hnews : ∀ j u, news[j]? = some u → w.cell? (a'.add j) = some u) (h1 : ∀ u ∈ news, u.oneCell' = true) :
    (Builtin.append_ #[t, t] ty #[.slice (some ⟨b, off, none⟩) l cp, .slice (some a') mm cp']).run P w = .ok (.slice (some ⟨b, off, none⟩) (l + mm) cp) (w.setRow b (splice cs (off + l * n) news).toArray) := by
  have hf := run_firstCells_some (P := P) w n mm a' mm cp' news hl hnews
  have hle : (l + mm) * n ≤ cp * n := Nat.mul_le_mul_right n hroom
  have hst := run_storeCells_pt (P := P) (b := b) (off := off + l * n) hg (vs := news) (by rw [hl]; rw [Nat.add_mul] at hle; omega) h1
  simp [Builtin.append_, run_underlying S.out, run_sizeOf_ty e, Builtin.lenOf, hroom, hf, Addr.add_lit, hst]

theorem take_splice {cs news : List Value} {p q : Nat} (h1 : off + p ≤ cs.length) (hq : news.length = q) (h2 : off + p + q ≤ cs.length) :
    ((splice cs (off + p) news).drop off).take (p + q) = (cs.drop off).take p ++ news := by
  subst hq
  simp only [splice, List.append_assoc]
  rw [List.drop_append_of_le_length (by simp; omega), List.drop_take]
  rw [show off + p - off = p by omega]
  rw [← List.append_assoc, List.take_append_of_le_length (by simp; omega)]
  exact List.take_of_length_le (by simp; omega)
theorem length_splice {cs news : List Value} {p : Nat} (h : p + news.length ≤ cs.length) : (splice cs p news).length = cs.length := by simp [splice]; omega

theorem EW.append {by_ : Nat} {z : Value} [E : Enc enc n] [SliT P t e] [TyI P e n by_ z] (hz : z.cells.size = n) (hs : ev T s = some v) (hx : ev T x = some u) (p : Pick L (row e n enc v xs) L1) (r : Rd c L1 B) (rl : RowL B n enc u ys)
    (hm : xs.length + ys.length ≤ maxLen) (hb : (xs.length + ys.length) * by_ ≤ 140737488355328) (hd : d < N)
    (h : ∀ v', v'.oneCell' = true → KP c N ((d, v') :: T) (row e n enc v' (xs ++ ys) :: L1) K) :
    EW P c N T L ⟨some d, .call { callee := .builtin .append, args := #[s, x], argTypes := #[t, t] }, ty, pos, aft, gd⟩ R K := fun a w g st => by
  obtain ⟨i, hi, hi1, hi2, hi3⟩ := info_eq (P := P) e
  have hsl : SliT P t e := inferInstance
  have hun := hsl.out
  have sp := st.pick p
  obtain ⟨hh, ha, hsub, sf⟩ := sp.focus
  obtain ⟨hh2, ha2, hsub2⟩ := r.frag sp.drop
  show Oper.upon P _ a K R _
  have he : ∀ q, (Builtin.append_ #[t, t] ty #[v, u]).run P w = q → (execOp a.eval ⟨some d, .call { callee := .builtin .append, args := #[s, x], argTypes := #[t, t] }, ty, pos, aft, gd⟩).run P w = q.andThen fun v w' => .ok (.value v) w' := by
    intro q hq
    simp [execOp, resolve, invoke, builtin, g.ev hs, g.ev hx, hq]
  by_cases hy : ys = []
  · subst hy
    obtain ⟨ua, uc, rfl, _⟩ := rl.len ha2
    have hv : ∃ va vl vc, v = .slice va vl vc ∧ vl ≤ vc := by
      rcases ha with ⟨rfl, _⟩ | ⟨b, off, cap, cs, rfl, h1, _⟩
      · exact ⟨_, _, _, rfl, Nat.le_refl _⟩
      · exact ⟨_, _, _, rfl, h1⟩
    obtain ⟨va, vl, vc, rfl, hvl⟩ := hv
    rw [he _ (run_append_none (P := P) t ty va vl vc hvl ua uc w)]
    refine h _ rfl _ _ (g.put hd _) ?_
    rw [List.append_nil]; exact sp
  · have hu : ∃ ub uo uc, u = .slice (some ⟨ub, uo, none⟩) ys.length uc ∧ Cells hh2 ub uo (ys.flatMap enc) := by
      rcases rl _ ha2 with ⟨_, e⟩ | ⟨b, off, cap, hv, _, _, hc⟩
      · exact absurd e hy
      · exact ⟨_, _, _, hv, hc⟩
    obtain ⟨ub, uo, uc, rfl, hc⟩ := hu
    have hnl : (ys.flatMap enc).length = ys.length * n := flatMap_length E.len ys
    have hnews : ∀ j u, (ys.flatMap enc)[j]? = some u → w.cell? ((⟨ub, uo, none⟩ : Addr).add j) = some u := by
      intro j u hj
      obtain ⟨arr, e', fr, h1, h2⟩ := hc j u hj
      rw [Addr.add_lit]
      simp [World.cell?, hsub2 _ _ h1, h2]
    have h1c : ∀ u ∈ ys.flatMap enc, u.oneCell' = true := by
      intro u hu
      obtain ⟨y, _, hy⟩ := List.mem_flatMap.1 hu
      exact E.one y u hy
    have hpos : 0 < ys.length := List.length_pos_iff.2 hy
    have h63 : ((xs.length + ys.length : Nat) : Int) ≤ 9223372036854775807 := by simp only [maxLen] at hm; omega
    have hgc : ∀ old, xs.length + ys.length ≤ grownCap w (xs.length + ys.length) old e ∧ grownCap w (xs.length + ys.length) old e ≤ maxLen := fun old => ⟨grownCap_ge _ _ _ _, grownCap_le_maxLen _ _ _ _ hm⟩
    have hnewrow : ∀ (olds : List Value) (old : Nat), olds = xs.flatMap enc → row e n enc (.slice (some ⟨w.heap.size, 0, none⟩) (xs.length + ys.length) (grownCap w (xs.length + ys.length) old e)) (xs ++ ys)
        (one w.heap.size (.cells ((olds ++ ys.flatMap enc) ++ (Builtin.zeroCells z.cells (grownCap w (xs.length + ys.length) old e - (xs.length + ys.length))).toList).toArray e)) := by
      intro olds old ho
      subst ho
      refine .inr ⟨w.heap.size, 0, grownCap w (xs.length + ys.length) old e, _, by rw [List.length_append], by rw [List.length_append]; exact (hgc old).1, (hgc old).2, ?_, ?_, rfl⟩
      · have h1 := flatMap_length E.len xs
        simp only [List.length_append, h1, hnl, Array.length_toList, size_zeroCells, hz]
        have := (hgc old).1
        rw [← Nat.add_mul, ← Nat.add_mul]
        simp only [Nat.zero_add]
        apply Nat.mul_le_mul_right; omega
      · simp only [List.drop_zero, List.flatMap_append, List.length_append]
        rw [List.take_append_of_le_length]
        · exact List.take_of_length_le (by simp only [List.length_append, flatMap_length E.len xs, hnl]; rw [Nat.add_mul]; exact Nat.le_refl _)
        · simp only [List.length_append, flatMap_length E.len xs, hnl]; rw [Nat.add_mul]; exact Nat.le_refl _
    rcases ha with ⟨hv, hxs⟩ | ⟨b, off, cap, cs, hv, h1, h2, h3, h4, hfr⟩
    · subst hv
      have hx0 : xs.length = 0 := by rw [hxs]; rfl
      have hr := run_append_nil (P := P) w t ty e i z hun hi hi3 ⟨ub, uo, none⟩ ys.length uc (ys.flatMap enc) (by rw [hi1]; exact hnl) hnews hpos (by omega) (by rw [hi2]; rw [hx0, Nat.zero_add] at hb; omega)
      rw [he _ hr]
      have hnr := hnewrow [] 0 (by rw [hxs]; rfl)
      simp only [hx0, Nat.zero_add, List.nil_append] at hnr
      refine h _ rfl _ _ (g.put hd _) ?_
      have st1 : St c (row e n enc (.slice none 0 0) xs :: L1) w.drew := sp.drew
      refine St.new (w := w.drew) ?_ st1.drop
      have e1 : ((ys.flatMap enc).toArray ++ Builtin.zeroCells z.cells (grownCap w ys.length 0 e - ys.length)) = ((ys.flatMap enc) ++ (Builtin.zeroCells z.cells (grownCap w ys.length 0 e - ys.length)).toList).toArray := by
        apply Array.ext'; simp
      rw [e1]; exact hnr
    · subst hv
      subst hfr
      have hg := hsub _ _ (one_self _ _)
      by_cases hroom : xs.length + ys.length ≤ cap
      · have hr := run_append_fit (P := P) t ty (e := e) (n := n) (by_ := by_) (z := z) hg hroom h3 hnl hnews h1c (cp' := uc)
        rw [he _ hr]
        have hle : (xs.length + ys.length) * n ≤ cap * n := Nat.mul_le_mul_right n hroom
        rw [Nat.add_mul] at hle
        refine h _ rfl _ _ (g.put hd _) (sf.upd (b := b) (o := .cells cs.toArray e) (fun _ h' => by rw [h']; exact one_self _ _) (fun _ h' => ?_) (updAt_setRow w b _ _ e hg))
        subst h'
        refine .inr ⟨b, off, cap, splice cs (off + xs.length * n) (ys.flatMap enc), by rw [List.length_append], by rw [List.length_append]; exact hroom, h2, ?_, ?_, ?_⟩
        · rw [length_splice (by rw [hnl]; omega)]; exact h3
        · rw [List.length_append, Nat.add_mul, take_splice (by omega) hnl (by omega), h4, List.flatMap_append]
        · funext k; simp only [one]; split <;> rfl
      · have hr := run_append_grow (P := P) w t ty e i z hun hi hi3 ⟨b, off, none⟩ xs.length cap (xs.flatMap enc) (by rw [hi1]; exact flatMap_length E.len xs) ?_ ⟨ub, uo, none⟩ ys.length uc (ys.flatMap enc) (by rw [hi1]; exact hnl) hnews (by omega) h63 (by rw [hi2]; exact growslice_fits (by omega) hb)
        · rw [he _ hr]
          refine h _ rfl _ _ (g.put hd _) ?_
          refine St.new (w := w.drew) ?_ sp.drew.drop
          have e1 : ((xs.flatMap enc).toArray ++ (ys.flatMap enc).toArray ++ Builtin.zeroCells z.cells (grownCap w (xs.length + ys.length) cap e - (xs.length + ys.length))) = ((xs.flatMap enc ++ ys.flatMap enc) ++ (Builtin.zeroCells z.cells (grownCap w (xs.length + ys.length) cap e - (xs.length + ys.length))).toList).toArray := by
            apply Array.ext'; simp
          rw [e1]; exact hnewrow _ cap rfl
        · intro j v hj
          rw [Addr.add_lit]
          rw [← h4, List.getElem?_take] at hj
          split at hj
          · rw [List.getElem?_drop] at hj
            simp [World.cell?, hg, hj]
          · simp at hj

/-! ### a cut of a slice -/
/-- v[lo:hi] -/
def slv (n : Nat) (v : Value) (lo hi : Nat) : Value := match v with
  | .slice a _ cap => .slice (if cap = lo then a else a.map (·.add (lo * n))) (hi - lo) (cap - lo)
  | x => x
theorem slv_one (n lo hi : Nat) {v : Value} (h : v.oneCell' = true) : (slv n v lo hi).oneCell' = true := by
  cases v <;> first | rfl | simpa [slv] using h
theorem slv_zero (n : Nat) (a : Addr) (cap : Nat) : slv n (.slice (some a) 0 cap) 0 0 = .slice (some a) 0 cap := by
  simp only [slv]
  split
  · rfl
  · simp [Addr.add]
theorem slv_some (n b off l cap lo hi : Nat) : slv n (.slice (some ⟨b, off, none⟩) l cap) lo hi = .slice (some ⟨b, if cap = lo then off else off + lo * n, none⟩) (hi - lo) (cap - lo) := by
  simp only [slv]
  split
  · rfl
  · simp [Addr.add_lit]
theorem cells_cut {h : Frag} {off : Nat} {cs : List Value} (hc : Cells h b off cs) (p q : Nat) : Cells h b (off + p) ((cs.drop p).take q) := by
  intro j v hj
  rw [List.getElem?_take] at hj
  split at hj
  · rw [List.getElem?_drop] at hj
    obtain ⟨arr, e, fr, h1, h2⟩ := hc (p + j) v hj
    exact ⟨arr, e, fr, h1, by rw [Nat.add_assoc]; exact h2⟩
  · simp at hj
theorem flatMap_cut (hl : ∀ x, (enc x).length = n) : ∀ (xs : List α) (lo q : Nat), ((xs.drop lo).take q).flatMap enc = ((xs.flatMap enc).drop (lo * n)).take (q * n)
  | [], lo, q => by simp
  | x :: xs, 0, 0 => by simp
  | x :: xs, 0, q + 1 => by
    have := flatMap_cut hl xs 0 q
    simp only [List.drop_zero, Nat.zero_mul] at this ⊢
    simp only [List.take_succ_cons, List.flatMap_cons, this]
    rw [Nat.add_mul, Nat.one_mul, Nat.add_comm (q * n) n, List.take_append]
    rw [hl, Nat.add_sub_cancel_left, show List.take (n + q * n) (enc x) = enc x from List.take_of_length_le (by rw [hl]; omega)]
  | x :: xs, lo + 1, q => by
    have := flatMap_cut hl xs lo q
    simp only [List.drop_succ_cons, this, List.flatMap_cons]
    rw [Nat.add_mul, Nat.one_mul, Nat.add_comm (lo * n) n, List.drop_append, hl, Nat.add_sub_cancel_left, show List.drop (n + lo * n) (enc x) = [] from List.drop_of_length_le (by rw [hl]; omega), List.nil_append]
theorem rrow.cut [E : Enc enc n] {lo hi : Nat} (h1 : lo ≤ hi) (h2 : hi ≤ xs.length) {h : Frag} (r : rrow n enc v xs h) : rrow n enc (slv n v lo hi) ((xs.drop lo).take (hi - lo)) h := by
  rcases r with ⟨rfl | ⟨a, cap, rfl, hcap⟩, rfl⟩ | ⟨b, off, cap, rfl, h3, h4, hc⟩
  · simp at h2; subst h2
    have : lo = 0 := by omega
    subst this
    exact .inl ⟨.inl rfl, by simp⟩
  · simp at h2; subst h2
    have : lo = 0 := by omega
    subst this
    exact .inl ⟨.inr ⟨_, cap, by rw [slv_zero], hcap⟩, by simp⟩
  · rw [slv_some]
    have hlen : ((xs.drop lo).take (hi - lo)).length = hi - lo := by simp; omega
    refine .inr ⟨b, _, cap - lo, by rw [hlen], by rw [hlen]; omega, by omega, ?_⟩
    rw [flatMap_cut E.len]
    split
    · rename_i e
      have : hi - lo = 0 := by omega
      rw [this]
      intro j v hj; simp at hj
    · exact cells_cut hc _ _
theorem row.cut [E : Enc enc n] {lo hi : Nat} (h1 : lo ≤ hi) (h2 : hi ≤ xs.length) {h : Frag} (r : row t n enc v xs h) : row t n enc (slv n v lo hi) ((xs.drop lo).take (hi - lo)) h := by
  rcases r with ⟨rfl, rfl⟩ | ⟨b, off, cap, cs, rfl, h3, h4, h5, h6, hf⟩
  · simp at h2; subst h2
    have : lo = 0 := by omega
    subst this
    exact .inl ⟨rfl, by simp⟩
  · rw [slv_some]
    have hlen : ((xs.drop lo).take (hi - lo)).length = hi - lo := by simp; omega
    have hcl : lo * n ≤ cap * n := Nat.mul_le_mul_right n (by omega)
    refine .inr ⟨b, _, cap - lo, cs, by rw [hlen], by rw [hlen]; omega, by omega, ?_, ?_, hf⟩
    · rw [Nat.sub_mul]
      split
      · rename_i e; subst e; omega
      · omega
    · rw [flatMap_cut E.len, hlen, ← h6]
      split
      · rename_i e
        have : hi - lo = 0 := by omega
        simp [this]
      · rw [List.drop_take, List.take_take, List.drop_drop]
        congr 1
        have : (hi - lo) * n ≤ xs.length * n - lo * n := by rw [← Nat.sub_mul]; apply Nat.mul_le_mul_right; omega
        omega
theorem RowL.cut [E : Enc enc n] {lo hi : Nat} (h1 : lo ≤ hi) (h2 : hi ≤ xs.length) (r : RowL A n enc v xs) : RowL A n enc (slv n v lo hi) ((xs.drop lo).take (hi - lo)) := fun h ha => (r h ha).cut h1 h2

theorem run_cut (t : TypeId) {by_ : Nat} {z : Value} [S : SliT P t e] [TyI P e n by_ z] {b off l cp lo hi : Nat} (kl kh : IntKind) (h1 : lo ≤ hi) (h2 : hi ≤ cp) (w : World) :
    (Instr.sliceAt t (.slice (some ⟨b, off, none⟩) l cp) (some (.int kl lo)) (some (.int kh hi)) none).run P w = .ok (slv n (.slice (some ⟨b, off, none⟩) l cp) lo hi) w := by
  have a1 : (0 : Int) ≤ (hi : Int) ∧ (hi : Int) ≤ (cp : Int) := by omega
  have a2 : (0 : Int) ≤ (lo : Int) ∧ (lo : Int) ≤ (hi : Int) := by omega
  simp only [slv]
  by_cases e : cp = lo
  · simp [Instr.sliceAt, run_underlying S.out, Instr.slice, Instr.sliceBounds, Instr.sliceBound, asIntOf, a1, a2, run_sizeOf_ty (P := P) _, e, show hi ≤ lo by omega, h1]
  · simp [Instr.sliceAt, run_underlying S.out, Instr.slice, Instr.sliceBounds, Instr.sliceBound, asIntOf, run_sizeOf_ty (P := P) _, e, h1, h2]
theorem run_cut_lo (t : TypeId) {by_ : Nat} {z : Value} [S : SliT P t e] [TyI P e n by_ z] {b off l cp lo : Nat} (kl : IntKind) (h1 : lo ≤ l) (w : World) :
    (Instr.sliceAt t (.slice (some ⟨b, off, none⟩) l cp) (some (.int kl lo)) none none).run P w = .ok (slv n (.slice (some ⟨b, off, none⟩) l cp) lo l) w := by
  simp only [slv]
  by_cases e : cp = lo
  · simp [Instr.sliceAt, run_underlying S.out, Instr.slice, Instr.sliceBounds, Instr.sliceBound, asIntOf, run_sizeOf_ty (P := P) _, e, h1]
  · simp [Instr.sliceAt, run_underlying S.out, Instr.slice, Instr.sliceBounds, Instr.sliceBound, asIntOf, run_sizeOf_ty (P := P) _, e, h1]
theorem run_cut_hi (t : TypeId) {by_ : Nat} {z : Value} [S : SliT P t e] [TyI P e n by_ z] {b off l cp hi : Nat} (kh : IntKind) (h2 : hi ≤ cp) (w : World) :
    (Instr.sliceAt t (.slice (some ⟨b, off, none⟩) l cp) none (some (.int kh hi)) none).run P w = .ok (slv n (.slice (some ⟨b, off, none⟩) l cp) 0 hi) w := by
  simp only [slv]
  by_cases e : cp = 0
  · simp [Instr.sliceAt, run_underlying S.out, Instr.slice, Instr.sliceBounds, Instr.sliceBound, asIntOf, run_sizeOf_ty (P := P) _, e, show hi = 0 by omega]
  · simp [Instr.sliceAt, run_underlying S.out, Instr.slice, Instr.sliceBounds, Instr.sliceBound, asIntOf, run_sizeOf_ty (P := P) _, e, h2]
theorem run_cut_nil (t : TypeId) {by_ : Nat} {z : Value} [S : SliT P t e] [TyI P e n by_ z] (lo hi : Option Value) (hlo : lo = none ∨ ∃ k, lo = some (.int k 0)) (hhi : hi = none ∨ ∃ k, hi = some (.int k 0)) (w : World) :
    (Instr.sliceAt t (.slice none 0 0) lo hi none).run P w = .ok (.slice none 0 0) w := by
  rcases hlo with rfl | ⟨_, rfl⟩ <;> rcases hhi with rfl | ⟨_, rfl⟩ <;>
    simp [Instr.sliceAt, run_underlying S.out, Instr.slice, Instr.sliceBounds, Instr.sliceBound, asIntOf, run_sizeOf_ty (P := P) _]
theorem run_cut_emp (t : TypeId) {by_ : Nat} {z : Value} [S : SliT P t e] [TyI P e n by_ z] (a : Addr) (cap : Nat) (lo hi : Option Value) (hlo : lo = none ∨ ∃ k, lo = some (.int k 0)) (hhi : hi = none ∨ ∃ k, hi = some (.int k 0)) (w : World) :
    (Instr.sliceAt t (.slice (some a) 0 cap) lo hi none).run P w = .ok (.slice (some a) 0 cap) w := by
  have ha : a.add 0 = a := by simp [Addr.add]
  rcases hlo with rfl | ⟨_, rfl⟩ <;> rcases hhi with rfl | ⟨_, rfl⟩ <;>
    simp [Instr.sliceAt, run_underlying S.out, Instr.slice, Instr.sliceBounds, Instr.sliceBound, asIntOf, run_sizeOf_ty (P := P) _, ha]
theorem slv_nil (n : Nat) : slv n (.slice none 0 0) 0 0 = .slice none 0 0 := rfl
theorem QY.cut {by_ : Nat} {z : Value} {kl kh : IntKind} {lo hi : Nat} [SliT P t e] [TyI P e n by_ z] (hx : ev T x = some v) (hl : ev T y = some (.int kl lo)) (hh : ev T s = some (.int kh hi)) (r : Rd c L A) (rl : RowL A n enc v xs) (h1 : lo ≤ hi) (h2 : hi ≤ xs.length) :
    QY P c N T L ⟨dst, .slice t x (some y) (some s) none, ty, pos, aft, gd⟩ (slv n v lo hi) := fun a w g st => by
  obtain ⟨h, ha, _⟩ := r.frag st
  rcases rl h ha with ⟨rfl | ⟨a0, cp0, rfl, hcp0⟩, rfl⟩ | ⟨b, off, cap, rfl, h3, h4, _⟩
  · simp at h2; subst h2
    obtain rfl : lo = 0 := by omega
    have := run_cut_nil (P := P) t (some (.int kl 0)) (some (.int kh 0)) (.inr ⟨_, rfl⟩) (.inr ⟨_, rfl⟩) w
    simp [execOp, g.ev hx, g.ev hl, g.ev hh, this, slv_nil]
  · simp at h2; subst h2
    obtain rfl : lo = 0 := by omega
    have := run_cut_emp (P := P) t a0 cp0 (some (.int kl 0)) (some (.int kh 0)) (.inr ⟨_, rfl⟩) (.inr ⟨_, rfl⟩) w
    simp [execOp, g.ev hx, g.ev hl, g.ev hh, this, slv_zero]
  · have := run_cut (P := P) t (b := b) (off := off) (l := xs.length) (cp := cap) kl kh h1 (by omega) w
    simp [execOp, g.ev hx, g.ev hl, g.ev hh, this]
theorem QY.cut_lo {by_ : Nat} {z : Value} {kl : IntKind} {lo : Nat} [SliT P t e] [TyI P e n by_ z] (hx : ev T x = some v) (hl : ev T y = some (.int kl lo)) (r : Rd c L A) (rl : RowL A n enc v xs) (h1 : lo ≤ xs.length) :
    QY P c N T L ⟨dst, .slice t x (some y) none none, ty, pos, aft, gd⟩ (slv n v lo xs.length) := fun a w g st => by
  obtain ⟨h, ha, _⟩ := r.frag st
  rcases rl h ha with ⟨rfl | ⟨a0, cp0, rfl, hcp0⟩, rfl⟩ | ⟨b, off, cap, rfl, h3, h4, _⟩
  · simp at h1; subst h1
    have := run_cut_nil (P := P) t (some (.int kl 0)) none (.inr ⟨_, rfl⟩) (.inl rfl) w
    simp [execOp, g.ev hx, g.ev hl, this, slv_nil]
  · simp at h1; subst h1
    have := run_cut_emp (P := P) t a0 cp0 (some (.int kl 0)) none (.inr ⟨_, rfl⟩) (.inl rfl) w
    simp [execOp, g.ev hx, g.ev hl, this, slv_zero]
  · have := run_cut_lo (P := P) t (b := b) (off := off) (l := xs.length) (cp := cap) kl h1 w
    simp [execOp, g.ev hx, g.ev hl, this]
theorem QY.cut_hi {by_ : Nat} {z : Value} {kh : IntKind} {hi : Nat} [SliT P t e] [TyI P e n by_ z] (hx : ev T x = some v) (hh : ev T s = some (.int kh hi)) (r : Rd c L A) (rl : RowL A n enc v xs) (h2 : hi ≤ xs.length) :
    QY P c N T L ⟨dst, .slice t x none (some s) none, ty, pos, aft, gd⟩ (slv n v 0 hi) := fun a w g st => by
  obtain ⟨h, ha, _⟩ := r.frag st
  rcases rl h ha with ⟨rfl | ⟨a0, cp0, rfl, hcp0⟩, rfl⟩ | ⟨b, off, cap, rfl, h3, h4, _⟩
  · simp at h2; subst h2
    have := run_cut_nil (P := P) t none (some (.int kh 0)) (.inl rfl) (.inr ⟨_, rfl⟩) w
    simp [execOp, g.ev hx, g.ev hh, this, slv_nil]
  · simp at h2; subst h2
    have := run_cut_emp (P := P) t a0 cp0 none (some (.int kh 0)) (.inl rfl) (.inr ⟨_, rfl⟩) w
    simp [execOp, g.ev hx, g.ev hh, this, slv_zero]
  · have := run_cut_hi (P := P) t (b := b) (off := off) (l := xs.length) (cp := cap) (hi := hi) kh (by omega) w
    simp [execOp, g.ev hx, g.ev hh, this]

/-! ### stores into a row -/
theorem flatMap_set (hl : ∀ x, (enc x).length = n) : ∀ (xs : List α) (i : Nat) (y : α), i < xs.length → (xs.set i y).flatMap enc = splice (xs.flatMap enc) (i * n) (enc y)
  | [], i, y, h => by simp at h
  | x :: xs, 0, y, _ => by
    simp [splice, List.flatMap_cons, hl y]
    rw [List.drop_append, hl]; simp [List.drop_of_length_le, hl]
  | x :: xs, i + 1, y, h => by
    have ih := flatMap_set hl xs i y (by simpa using h)
    simp only [List.set_cons_succ, List.flatMap_cons, ih, splice]
    have e1 : (i + 1) * n = n + i * n := by rw [Nat.add_mul]; omega
    rw [e1, List.take_append, List.drop_append, hl, hl]
    rw [show List.take (n + i * n) (enc x) = enc x from List.take_of_length_le (by rw [hl]; omega), show n + i * n - n = i * n by omega]
    rw [show List.drop (n + i * n + n) (enc x) = [] from List.drop_of_length_le (by rw [hl]; omega), show n + i * n + n - n = i * n + n by omega]
    simp
theorem splice_in {cs vs : List Value} {p q : Nat} (h1 : off + p + vs.length ≤ off + q) (h2 : off + q ≤ cs.length) :
    ((splice cs (off + p) vs).drop off).take q = splice ((cs.drop off).take q) p vs := by
  have e0 : (cs.take (off + p)).length = off + p := by simp; omega
  simp only [splice]
  rw [List.append_assoc, List.append_assoc, List.drop_append_of_le_length (by omega), List.drop_take, show off + p - off = p by omega]
  rw [List.take_append, List.take_append]
  rw [List.take_take, List.take_take, Nat.min_eq_right (show p ≤ q by omega), Nat.min_eq_left (show p ≤ q by omega)]
  have e1 : (List.take p (List.drop off cs)).length = p := by simp; omega
  rw [e1, List.take_of_length_le (show vs.length ≤ q - p by omega), List.drop_take, List.drop_drop, Nat.add_assoc, show q - p - vs.length = q - (p + vs.length) by omega]
theorem EW.store_row_a {by_ : Nat} {z : Value} {i : Nat} {y' : α} [E : Enc enc n] [TyI P t n by_ z] (hx : ev T x = some (.pointer (some ⟨vb v, vo v + i * n, none⟩))) (hy : ev T y = some (.agg (enc y').toArray)) (p : Pick L (row e n enc v xs) L1) (hi : i < xs.length)
    (h : KP c N T (row e n enc v (xs.set i y') :: L1) K) : EW P c N T L ⟨none, .store t x y, ty, pos, aft, gd⟩ R K := fun a w g st => by
  obtain ⟨hh, ha, hsub, sf⟩ := (st.pick p).focus
  rcases ha with ⟨rfl, rfl⟩ | ⟨b, off, cap, cs, rfl, h1, h2, h3, h4, rfl⟩
  · simp at hi
  · have hg := hsub _ _ (one_self _ _)
    have hle : xs.length * n ≤ cap * n := Nat.mul_le_mul_right n h1
    have hle2 : i * n + n ≤ xs.length * n := by rw [← Nat.succ_mul]; exact Nat.mul_le_mul_right n hi
    have hr : (execOp a.eval ⟨none, .store t x y, ty, pos, aft, gd⟩).run P w = .ok .skip (w.setRow b (splice cs (off + i * n) (enc y')).toArray) := by
      have := run_storeCells_pt (P := P) (vs := enc y') (off := off + i * n) hg (by rw [E.len]; omega) (E.one y')
      simp [execOp, Instr.storeAt, Instr.sureAddr, g.ev hx, g.ev hy, storeVar, Value.cells, run_sizeOf_ty t, this, vb, vo, E.len]
    show Oper.upon P _ a K R _
    rw [hr]
    refine h _ _ g (sf.upd (b := b) (o := .cells cs.toArray e) (fun _ h' => by rw [h']; exact one_self _ _) (fun _ h' => ?_) (updAt_setRow w b _ _ e hg))
    subst h'
    refine .inr ⟨b, off, cap, splice cs (off + i * n) (enc y'), by rw [List.length_set], by rw [List.length_set]; exact h1, h2, ?_, ?_, ?_⟩
    · rw [length_splice (by rw [E.len]; omega)]; exact h3
    · rw [List.length_set, splice_in (by rw [E.len]; omega) (by omega), h4, flatMap_set E.len _ _ _ hi]
    · funext k; simp only [one]; split <;> rfl
/-- One cell of an element. -/
theorem EW.store_row_f {by_ : Nat} {z : Value} {i : Nat} {x' y' : α} [E : Enc enc n] [TyI P t 1 by_ z] (hx : ev T x = some (.pointer (some ⟨vb v, vo v + i * n + o, none⟩))) (hy : ev T y = some u) (p : Pick L (row e n enc v xs) L1) (hi : xs[i]? = some x')
    (ho : o < n) (hu : (enc x').set o u = enc y') (h1 : u.oneCell' = true) (h : KP c N T (row e n enc v (xs.set i y') :: L1) K) : EW P c N T L ⟨none, .store t x y, ty, pos, aft, gd⟩ R K := fun a w g st => by
  obtain ⟨hh, ha, hsub, sf⟩ := (st.pick p).focus
  have hi' : i < xs.length := (List.getElem?_eq_some_iff.1 hi).1
  have huc : u.cells = #[u] := by cases u <;> first | rfl | simp [Value.oneCell'] at h1
  rcases ha with ⟨rfl, rfl⟩ | ⟨b, off, cap, cs, rfl, h1', h2, h3, h4, rfl⟩
  · simp at hi
  · have hg := hsub _ _ (one_self _ _)
    have hle : xs.length * n ≤ cap * n := Nat.mul_le_mul_right n h1'
    have hle2 : i * n + n ≤ xs.length * n := by rw [← Nat.succ_mul]; exact Nat.mul_le_mul_right n hi'
    have hr : (execOp a.eval ⟨none, .store t x y, ty, pos, aft, gd⟩).run P w = .ok .skip (w.setRow b (splice cs (off + (i * n + o)) [u]).toArray) := by
      have := run_storeCells_pt (P := P) (vs := [u]) (off := off + (i * n + o)) hg (by simp; omega) (by simpa using h1)
      rw [← Nat.add_assoc] at this ⊢
      simp [execOp, Instr.storeAt, Instr.sureAddr, g.ev hx, g.ev hy, storeVar, huc, run_sizeOf_ty t, this, vb, vo]
    show Oper.upon P _ a K R _
    rw [hr]
    refine h _ _ g (sf.upd (b := b) (o := .cells cs.toArray e) (fun _ h' => by rw [h']; exact one_self _ _) (fun _ h' => ?_) (updAt_setRow w b _ _ e hg))
    subst h'
    refine .inr ⟨b, off, cap, splice cs (off + (i * n + o)) [u], by rw [List.length_set], by rw [List.length_set]; exact h1', h2, ?_, ?_, ?_⟩
    · rw [length_splice (by simp; omega)]; exact h3
    · rw [List.length_set, splice_in (by simp; omega) (by omega), h4, flatMap_set E.len _ _ _ hi', ← hu]
      have hfl := flatMap_length E.len xs
      rw [splice_one (by omega)]
      apply List.ext_getElem?
      intro j
      have hlen : ((enc x').set o u).length = n := by rw [List.length_set, E.len]
      simp only [splice]
      rw [List.getElem?_set]
      have e1 : (List.take (i * n) (xs.flatMap enc)).length = i * n := by rw [List.length_take, hfl]; omega
      by_cases hj1 : j < i * n
      · rw [List.append_assoc, List.getElem?_append_left (by omega), List.getElem?_take, if_pos hj1, if_neg (by omega)]
      · by_cases hj2 : j < i * n + n
        · rw [List.append_assoc, List.getElem?_append_right (by omega), List.getElem?_append_left (by omega)]
          rw [e1, List.getElem?_set]
          have := flatMap_at E.len xs i (j - i * n) x' hi (by omega)
          rw [show i * n + (j - i * n) = j by omega] at this
          rw [this]
          simp only [E.len, hfl]
          split <;> split <;> first | rfl | omega | (split <;> first | rfl | omega)
        · rw [List.append_assoc, List.getElem?_append_right (by omega), List.getElem?_append_right (by omega), List.getElem?_drop, if_neg (by omega)]
          rw [e1, hlen]; congr 1; omega
    · funext k; simp only [one]; split <;> rfl
theorem EW.store_row_f0 {by_ : Nat} {z : Value} {i : Nat} {x' y' : α} [E : Enc enc n] [TyI P t 1 by_ z] (hx : ev T x = some (.pointer (some ⟨vb v, vo v + i * n, none⟩))) (hy : ev T y = some u) (p : Pick L (row e n enc v xs) L1) (hi : xs[i]? = some x')
    (hu : (enc x').set 0 u = enc y') (h1 : u.oneCell' = true) (h : KP c N T (row e n enc v (xs.set i y') :: L1) K) : EW P c N T L ⟨none, .store t x y, ty, pos, aft, gd⟩ R K :=
  EW.store_row_f (o := 0) hx hy p hi E.pos hu h1 h
end
end Go.Ink
