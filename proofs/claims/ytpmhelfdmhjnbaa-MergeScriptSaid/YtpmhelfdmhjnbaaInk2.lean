/- Ink2: memory: blocks, rows, loads, stores, new blocks, calls. -/
import Derived.Test.YtpmhelfdmhjnbaaInk1
namespace Go.Ink
open Go
set_option linter.unusedVariables false
set_option linter.unusedSimpArgs false

/-! ### blocks -/
def pt (b : Nat) (t : TypeId) (cs : List Value) : Asrt := fun h => h = one b (.cells cs.toArray t)
def Reads (A : Asrt) (b off : Nat) (cs : List Value) : Prop := ∀ h, A h → ∀ j v, cs[j]? = some v → ∃ arr e fr, h b = some (.cells arr e fr) ∧ arr[off + j]? = some v

section
variable {A B0 B1 B2 B3 B4 B5 B6 B7 B8 : Asrt} {L : List Asrt}
theorem k0 : Pick (A :: L) A L := .head
theorem k1 : Pick (B0 :: A :: L) A (B0 :: L) := .tail k0
theorem k2 : Pick (B0 :: B1 :: A :: L) A (B0 :: B1 :: L) := .tail k1
theorem k3 : Pick (B0 :: B1 :: B2 :: A :: L) A (B0 :: B1 :: B2 :: L) := .tail k2
theorem k4 : Pick (B0 :: B1 :: B2 :: B3 :: A :: L) A (B0 :: B1 :: B2 :: B3 :: L) := .tail k3
theorem k5 : Pick (B0 :: B1 :: B2 :: B3 :: B4 :: A :: L) A (B0 :: B1 :: B2 :: B3 :: B4 :: L) := .tail k4
theorem k6 : Pick (B0 :: B1 :: B2 :: B3 :: B4 :: B5 :: A :: L) A (B0 :: B1 :: B2 :: B3 :: B4 :: B5 :: L) := .tail k5
theorem k7 : Pick (B0 :: B1 :: B2 :: B3 :: B4 :: B5 :: B6 :: A :: L) A (B0 :: B1 :: B2 :: B3 :: B4 :: B5 :: B6 :: L) := .tail k6
theorem k8 : Pick (B0 :: B1 :: B2 :: B3 :: B4 :: B5 :: B6 :: B7 :: A :: L) A (B0 :: B1 :: B2 :: B3 :: B4 :: B5 :: B6 :: B7 :: L) := .tail k7
theorem k9 : Pick (B0 :: B1 :: B2 :: B3 :: B4 :: B5 :: B6 :: B7 :: B8 :: A :: L) A (B0 :: B1 :: B2 :: B3 :: B4 :: B5 :: B6 :: B7 :: B8 :: L) := .tail k8
theorem m0 : A ∈ A :: L := List.mem_cons_self
theorem m1 : A ∈ B0 :: A :: L := List.mem_cons_of_mem _ m0
theorem m2 : A ∈ B0 :: B1 :: A :: L := List.mem_cons_of_mem _ m1
theorem m3 : A ∈ B0 :: B1 :: B2 :: A :: L := List.mem_cons_of_mem _ m2
theorem m4 : A ∈ B0 :: B1 :: B2 :: B3 :: A :: L := List.mem_cons_of_mem _ m3
theorem m5 : A ∈ B0 :: B1 :: B2 :: B3 :: B4 :: A :: L := List.mem_cons_of_mem _ m4
end
inductive Rd (c : Cx) (L : List Asrt) (A : Asrt) : Prop
  | own {M : List Asrt} (p : Pick L A M) : Rd c L A
  | ro (m : A ∈ c.ros) : Rd c L A

theorem heap_new (w : World) (o : Obj) : (w.alloc o).heap[w.heap.size]? = some o := by show (w.heap.push o)[w.heap.size]? = _; simp
theorem heap_old (w : World) (o : Obj) (k : Nat) (h : k < w.heap.size) : (w.alloc o).heap[k]? = w.heap[k]? := by show (w.heap.push o)[k]? = _; simp [Array.getElem?_push, Nat.ne_of_lt h]
theorem one_self (b : Nat) (o : Obj) : one b o b = some o := by simp [one]

section
variable {P : Program} {c : Cx} {N : Nat} {T : Tm} {L M : List Asrt} {K : Act → World → Prop} {R : Exit → Act → World → Prop} {w : World} {A B : Asrt}

theorem Fr.ro {h : Frag} (f : Fr c h w) (m : A ∈ c.ros) : ∃ hr, A hr ∧ Sub hr w ∧ (∀ b, hr b ≠ none → c.own b = none ∧ b < c.w0.heap.size) := by
  obtain ⟨hr, ha, hs, hd⟩ := f.ros A m
  refine ⟨hr, ha, ?_, ?_⟩
  · intro b o hb
    have hlt := lt_of_heap (hs b o hb)
    have ho : c.own b = none := (hd b).resolve_left (by rw [hb]; simp)
    rw [(f.block b hlt ho).1]; exact hs b o hb
  · intro b hb
    cases e : hr b with
    | none => exact absurd e hb
    | some o => exact ⟨(hd b).resolve_left hb, lt_of_heap (hs b o e)⟩

theorem Rd.frag (r : Rd c L A) (s : St c L w) : ∃ h, A h ∧ Sub h w := by
  cases r with
  | own p =>
    obtain ⟨h, ⟨h1, h2, d, a, b, x, y⟩, hs, hf⟩ := s.pick p
    exact ⟨h1, x, hs.mono a⟩
  | ro m =>
    obtain ⟨h, _, _, hf⟩ := s
    obtain ⟨hr, ha, hs, _⟩ := hf.ro m
    exact ⟨hr, ha, hs⟩

theorem Reads.cell {b off : Nat} {cs : List Value} (rd : Reads A b off cs) {h : Frag} (ha : A h) (hs : Sub h w) : ∀ j v, cs[j]? = some v → w.cell? ⟨b, off + j, none⟩ = some v := by
  intro j v hj
  obtain ⟨arr, e, fr, h1, h2⟩ := rd h ha j v hj
  simp [World.cell?, hs _ _ h1, h2]

variable {dst : Option Tmp} {gd : Option (Nat × Bool)} {x y z : Operand} {u v : Value} {ty t e : TypeId} {pos : String} {aft : Array Edge} {b off o n d : Nat} {cs : List Value}

theorem QY.load_s [Scal P t] (hx : ev T x = some (.pointer (some ⟨b, off, none⟩))) (r : Rd c L A) (rd : Reads A b off [v]) : QY P c N T L ⟨dst, .load t x, ty, pos, aft, gd⟩ v := fun a w g s => by
  obtain ⟨h, ha, hs⟩ := r.frag s
  have hc := rd.cell ha hs 0 v rfl
  simp only [Nat.add_zero] at hc
  simp [execOp, g.ev hx, Instr.loadAt, Instr.sureAddr, loadVar, run_isAgg_scal t, hc]
theorem QY.load_a [AggT P t n] (hx : ev T x = some (.pointer (some ⟨b, off, none⟩))) (r : Rd c L A) (rd : Reads A b off cs) (hl : cs.length = n) : QY P c N T L ⟨dst, .load t x, ty, pos, aft, gd⟩ (.agg cs.toArray) := fun a w g s => by
  obtain ⟨h, ha, hs⟩ := r.frag s
  have hc := rd.cell ha hs
  have hr := run_loadCells_list (P := P) w ⟨b, off, none⟩ cs (fun j v hj => by rw [Addr.add_lit]; exact hc j v hj)
  rw [hl] at hr
  simp [execOp, g.ev hx, Instr.loadAt, Instr.sureAddr, loadVar, run_isAgg_agg t, run_sizeOf_agg t, hr]

theorem Reads.pt {ds : List Value} (h : ∀ j v, cs[j]? = some v → ds[off + j]? = some v) : Reads (pt b t ds) b off cs := fun hh ha j v hj => by
  subst ha
  exact ⟨ds.toArray, t, (0, 0), one_self _ _, by simpa using h j v hj⟩
theorem Reads.pt1 {ds : List Value} (h : ds[off]? = some v) : Reads (Ink.pt b t ds) b off [v] := Reads.pt fun j u hj => by
  cases j with
  | zero => simp at hj; subst hj; simpa using h
  | succ j => simp at hj
theorem Reads.pt_all {ds : List Value} : Reads (Ink.pt b t ds) b 0 ds := Reads.pt fun j u hj => by simpa using hj
theorem Reads.pt_part {ds : List Value} : Reads (Ink.pt b t ds) b off ((ds.drop off).take n) := Reads.pt fun j u hj => by
  rw [List.getElem?_take] at hj
  split at hj
  · simpa [List.getElem?_drop] using hj
  · simp at hj

/-! new blocks -/
theorem St.new {o : Obj} (hB : B (one w.heap.size o)) (s : St c L w) : St c (B :: L) (w.alloc o) := by
  obtain ⟨h, x, y, z⟩ := s
  have hn : h w.heap.size = none := by
    cases e : h w.heap.size with
    | none => rfl
    | some u => exact absurd (lt_of_heap (y _ _ e)) (Nat.lt_irrefl _)
  refine ⟨fun k => if k = w.heap.size then some o else h k, ⟨one w.heap.size o, h, ?_, ?_, ?_, hB, x⟩, ?_, ?_⟩
  · intro k
    by_cases e : k = w.heap.size
    · right; rw [e]; exact hn
    · left; simp [one, e]
  · intro k u hk
    simp only [one] at hk
    split at hk
    · rename_i e; simp [e]; simpa using hk
    · simp at hk
  · intro k u hk
    by_cases e : k = w.heap.size
    · rw [e, hn] at hk; simp at hk
    · simp [e, hk]
  · intro k u hk
    by_cases e : k = w.heap.size
    · subst e; simp at hk; subst hk; exact heap_new w _
    · simp [e] at hk
      have := y _ _ hk
      rw [heap_old w o k (lt_of_heap this)]; exact this
  · refine ⟨z.os, z.tape, z.output, Nat.le_trans z.size (by simp), fun k hk ho => ?_, z.ros⟩
    have hk' : k < w.heap.size := Nat.lt_of_lt_of_le hk z.size
    obtain ⟨h1, h2⟩ := z.block k hk ho
    exact ⟨by rw [heap_old w o k hk']; exact h1, by simp [Nat.ne_of_lt hk', h2]⟩
theorem St.drew (s : St c L w) : St c L w.drew := let ⟨h, x, y, z⟩ := s; ⟨h, x, y, ⟨z.os, z.tape, z.output, z.size, z.block, z.ros⟩⟩

theorem EW.alloc {by_ : Nat} {z : Value} {zs : List Value} [hl : TyL P e zs] [TyI P e n by_ z] (hd : d < N) (h : ∀ g, KP c N ((d, .pointer (some ⟨g, 0, none⟩)) :: T) (pt g e zs :: L) K) :
    EW P c N T L ⟨some d, .alloc e, ty, pos, aft, gd⟩ R K := fun a w g s => by
  have hz : z.cells = zs.toArray := by
    obtain ⟨i, h1, _, _, h4⟩ := info_of_ty (P := P) e
    have h5 := hl.out
    simp only [zlB, h1, h4, Option.map_some, Option.some.injEq] at h5
    rw [← h5]
  have hr : (execOp a.eval ⟨some d, .alloc e, ty, pos, aft, gd⟩).run P w = .ok (.value (.pointer (some ⟨w.heap.size, 0, none⟩))) (w.alloc (.cells zs.toArray e)) := by
    simp [execOp, Instr.alloc, run_zero_ty e, newVar, newRow, hz]
  show Oper.upon P _ a K R _
  rw [hr]
  exact h _ _ _ (g.put hd _) (s.new rfl)
theorem EW.box_s (hd : d < N) (hx : ev T x = some v) (h1 : v.oneCell' = true) (h : ∀ g, KP c N ((d, .pointer (some ⟨g, 0, none⟩)) :: T) (pt g e [v] :: L) K) :
    EW P c N T L ⟨some d, .box e x, ty, pos, aft, gd⟩ R K := fun a w g s => by
  have hc : v.cells = #[v] := by cases v <;> first | rfl | simp [Value.oneCell'] at h1
  have hr : (execOp a.eval ⟨some d, .box e x, ty, pos, aft, gd⟩).run P w = .ok (.value (.pointer (some ⟨w.heap.size, 0, none⟩))) (w.alloc (.cells #[v] e)) := by
    simp [execOp, Instr.box, g.ev hx, newVar, newRow, hc]
  show Oper.upon P _ a K R _
  rw [hr]
  exact h _ _ _ (g.put hd _) (s.new rfl)
theorem EW.box_a (hd : d < N) (hx : ev T x = some (.agg cs.toArray)) (h : ∀ g, KP c N ((d, .pointer (some ⟨g, 0, none⟩)) :: T) (pt g e cs :: L) K) :
    EW P c N T L ⟨some d, .box e x, ty, pos, aft, gd⟩ R K := fun a w g s => by
  have hr : (execOp a.eval ⟨some d, .box e x, ty, pos, aft, gd⟩).run P w = .ok (.value (.pointer (some ⟨w.heap.size, 0, none⟩))) (w.alloc (.cells cs.toArray e)) := by
    simp [execOp, Instr.box, g.ev hx, newVar, newRow, Value.cells]
  show Oper.upon P _ a K R _
  rw [hr]
  exact h _ _ _ (g.put hd _) (s.new rfl)

/-! writing into a block that is owned -/
structure UpdAt (w w' : World) (b : Nat) (o : Obj) : Prop where
  os : w'.os = w.os
  tape : w'.tape = w.tape
  output : w'.output = w.output
  size : w'.heap.size = w.heap.size
  at_ : w'.heap[b]? = some o
  other : ∀ k, k ≠ b → w'.heap[k]? = w.heap[k]?
theorem updAt_setRow (w : World) (g : Nat) (cur cs : Array Value) (t : TypeId) (hg : w.heap[g]? = some (.cells cur t)) : UpdAt w (w.setRow g cs) g (.cells cs t) :=
  ⟨rfl, rfl, rfl, by simp, setRow_heap w g cur cs t (0, 0) hg, fun k hk => setRow_other w g k cs hk⟩

theorem St.upd {w' : World} {o o' : Obj} {b : Nat} (s : St c (A :: L) w) (hA : ∀ h, A h → h b = some o) (hB : ∀ h, A h → B (fun k => if k = b then some o' else h k)) (u : UpdAt w w' b o') : St c (B :: L) w' := by
  obtain ⟨h, ⟨h1, h2, dj, le1, le2, x, y⟩, hs, hf⟩ := s
  have h1b := hA _ x
  have hb := le1 _ _ h1b
  have h2b : h2 b = none := (dj b).resolve_left (by rw [h1b]; simp)
  refine ⟨fun k => if k = b then some o' else h k, ⟨fun k => if k = b then some o' else h1 k, h2, ?_, ?_, ?_, hB _ x, y⟩, ?_, ?_⟩
  · intro k
    by_cases e : k = b
    · right; rw [e]; exact h2b
    · simp only [if_neg e]; exact dj k
  · intro k v hk
    by_cases e : k = b
    · simp only [e, if_true] at hk ⊢; exact hk
    · simp only [if_neg e] at hk ⊢; exact le1 _ _ hk
  · intro k v hk
    by_cases e : k = b
    · rw [e, h2b] at hk; simp at hk
    · simp only [if_neg e]; exact le2 _ _ hk
  · intro k v hk
    by_cases e : k = b
    · simp only [e, if_true] at hk; rw [e, ← hk]; exact u.at_
    · simp only [if_neg e] at hk; rw [u.other k e]; exact hs _ _ hk
  · refine ⟨u.os.trans hf.os, u.tape.trans hf.tape, u.output.trans hf.output, by rw [u.size]; exact hf.size, fun k hk ho => ?_, hf.ros⟩
    obtain ⟨e1, e2⟩ := hf.block k hk ho
    have hne : k ≠ b := fun e => by rw [e, hb] at e2; simp at e2
    exact ⟨by rw [u.other k hne]; exact e1, by simp only [if_neg hne]; exact e2⟩

theorem St.sub1 (s : St c (A :: L) w) : ∃ h, A h ∧ Sub h w := by
  obtain ⟨h, ⟨h1, h2, dj, le1, le2, x, y⟩, hs, hf⟩ := s
  exact ⟨h1, x, hs.mono le1⟩

def splice (cs : List Value) (off : Nat) (vs : List Value) : List Value := cs.take off ++ vs ++ cs.drop (off + vs.length)
theorem splice_all {cs vs : List Value} (h : vs.length = cs.length) : splice cs 0 vs = vs := by simp [splice, h]
theorem splice_one {cs : List Value} {v : Value} (h : off < cs.length) : splice cs off [v] = cs.set off v := by
  simp only [splice, List.length_singleton, List.append_assoc, List.singleton_append]
  exact (List.set_eq_take_append_cons_drop ▸ by simp [h])

/-- A list with one cell, or some cells, written over: told by its cells. -/
inductive SetAt : List Value → Nat → Value → List Value → Prop
  | head {x v : Value} {xs : List Value} : SetAt (x :: xs) 0 v (v :: xs)
  | tail {x v : Value} {xs ys : List Value} {n : Nat} (h : SetAt xs n v ys) : SetAt (x :: xs) (n + 1) v (x :: ys)
theorem SetAt.spec {cs ds : List Value} {o : Nat} {v : Value} (h : SetAt cs o v ds) : ds = cs.set o v ∧ o < cs.length := by
  induction h with
  | head => simp
  | tail _ ih => simp [ih.1, ih.2]
inductive SplAt : List Value → Nat → List Value → List Value → Prop
  | done {xs : List Value} : SplAt xs 0 [] xs
  | put {x v : Value} {xs vs ys : List Value} (h : SplAt xs 0 vs ys) : SplAt (x :: xs) 0 (v :: vs) (v :: ys)
  | skip {x : Value} {xs vs ys : List Value} {n : Nat} (h : SplAt xs n vs ys) : SplAt (x :: xs) (n + 1) vs (x :: ys)
theorem SplAt.spec {cs ds vs : List Value} {o : Nat} (h : SplAt cs o vs ds) : ds = splice cs o vs ∧ o + vs.length ≤ cs.length := by
  induction h with
  | done => simp [splice]
  | put _ ih => refine ⟨?_, ?_⟩ <;> simp [splice] at ih ⊢ <;> first | exact ih.1 | omega
  | skip _ ih =>
    rename_i x xs vs ys n h
    refine ⟨?_, ?_⟩
    · rw [ih.1]; simp [splice, show n + 1 + vs.length = (n + vs.length) + 1 by omega]
    · simp; have := ih.2; omega
theorem run_storeCells_pt {vs : List Value} {w : World} (hg : w.heap[b]? = some (.cells cs.toArray t)) (hl : off + vs.length ≤ cs.length) (h1 : ∀ v ∈ vs, v.oneCell' = true) :
    (storeCells ⟨b, off, none⟩ vs).run P w = .ok () (w.setRow b (splice cs off vs).toArray) := by
  have := run_storeCells_at P b off t vs 0 cs.toArray w hg (by simpa using hl) h1
  simpa [splice] using this

theorem EW.store_s {z' : Value} [TyI P t 1 n z'] (hx : ev T x = some (.pointer (some ⟨b, off, none⟩))) (hy : ev T y = some v) (p : Pick L (pt b e cs) M) (hoff : off < cs.length) (h1 : v.oneCell' = true)
    (h : KP c N T (pt b e (cs.set off v) :: M) K) : EW P c N T L ⟨none, .store t x y, ty, pos, aft, gd⟩ R K := fun a w g s => by
  have hc : v.cells = #[v] := by cases v <;> first | rfl | simp [Value.oneCell'] at h1
  obtain ⟨hh, ha, hs⟩ := (s.pick p).sub1
  subst ha
  have hg := hs _ _ (one_self _ _)
  have hr : (execOp a.eval ⟨none, .store t x y, ty, pos, aft, gd⟩).run P w = .ok .skip (w.setRow b (cs.set off v).toArray) := by
    have := run_storeCells_pt (P := P) (vs := [v]) (off := off) hg (by simp; omega) (by simpa using h1)
    rw [splice_one hoff] at this
    simp [execOp, Instr.storeAt, Instr.sureAddr, g.ev hx, g.ev hy, storeVar, hc, run_sizeOf_ty t, this]
  show Oper.upon P _ a K R _
  rw [hr]
  refine h _ _ g ((s.pick p).upd (b := b) (o := .cells cs.toArray e) (fun h hh => by subst hh; exact one_self _ _) (fun h hh => ?_) (updAt_setRow w b _ _ e hg))
  subst hh
  funext k; simp only [one]; split <;> rfl
theorem EW.store_a {z' : Value} [TyI P t n o z'] {vs : List Value} (hx : ev T x = some (.pointer (some ⟨b, off, none⟩))) (hy : ev T y = some (.agg vs.toArray)) (p : Pick L (pt b e cs) M) (hn : vs.length = n) (hoff : off + n ≤ cs.length) (h1 : vs.all Value.oneCell' = true)
    (h : KP c N T (pt b e (splice cs off vs) :: M) K) : EW P c N T L ⟨none, .store t x y, ty, pos, aft, gd⟩ R K := fun a w g s => by
  obtain ⟨hh, ha, hs⟩ := (s.pick p).sub1
  subst ha
  have hg := hs _ _ (one_self _ _)
  have hr : (execOp a.eval ⟨none, .store t x y, ty, pos, aft, gd⟩).run P w = .ok .skip (w.setRow b (splice cs off vs).toArray) := by
    have := run_storeCells_pt (P := P) (vs := vs) (off := off) hg (by omega) (by simpa using h1)
    simp [execOp, Instr.storeAt, Instr.sureAddr, g.ev hx, g.ev hy, storeVar, Value.cells, run_sizeOf_ty t, this, hn]
  show Oper.upon P _ a K R _
  rw [hr]
  refine h _ _ g ((s.pick p).upd (b := b) (o := .cells cs.toArray e) (fun h hh => by subst hh; exact one_self _ _) (fun h hh => ?_) (updAt_setRow w b _ _ e hg))
  subst hh
  funext k; simp only [one]; split <;> rfl
theorem EW.store_s' {z' : Value} {ds : List Value} [TyI P t 1 n z'] (hx : ev T x = some (.pointer (some ⟨b, off, none⟩))) (hy : ev T y = some v) (p : Pick L (pt b e cs) M) (hs : SetAt cs off v ds) (h1 : v.oneCell' = true)
    (h : KP c N T (pt b e ds :: M) K) : EW P c N T L ⟨none, .store t x y, ty, pos, aft, gd⟩ R K :=
  EW.store_s hx hy p hs.spec.2 h1 (by rw [← hs.spec.1]; exact h)
theorem EW.store_a' {z' : Value} {ds : List Value} [TyI P t n o z'] {vs : List Value} (hx : ev T x = some (.pointer (some ⟨b, off, none⟩))) (hy : ev T y = some (.agg vs.toArray)) (p : Pick L (pt b e cs) M) (hn : vs.length = n) (hs : SplAt cs off vs ds) (h1 : vs.all Value.oneCell' = true)
    (h : KP c N T (pt b e ds :: M) K) : EW P c N T L ⟨none, .store t x y, ty, pos, aft, gd⟩ R K :=
  EW.store_a hx hy p hn (by have := hs.spec.2; omega) h1 (by rw [← hs.spec.1]; exact h)
/-- The whole block is written anew. -/
theorem EW.store_all {z' : Value} [TyI P t n o z'] {vs : List Value} (hx : ev T x = some (.pointer (some ⟨b, 0, none⟩))) (hy : ev T y = some (.agg vs.toArray)) (p : Pick L (pt b e cs) M) (hn : vs.length = n) (hl : cs.length = n) (h1 : vs.all Value.oneCell' = true)
    (h : KP c N T (pt b e vs :: M) K) : EW P c N T L ⟨none, .store t x y, ty, pos, aft, gd⟩ R K :=
  EW.store_a hx hy p hn (by omega) h1 (by rw [splice_all (by omega)]; exact h)

/-! ### calls -/
inductive Split : List Asrt → List Asrt → List Asrt → Prop
  | nil {L : List Asrt} : Split L [] L
  | cons {L L1 L2 M : List Asrt} {A : Asrt} (p : Pick L A L1) (r : Split L1 M L2) : Split L (A :: M) L2
theorem Split.sat {L M L' : List Asrt} (s : Split L M L') : ∀ {h : Frag}, SatL L h → ∃ h1 h2, Disj h1 h2 ∧ Leq h1 h ∧ Leq h2 h ∧ SatL M h1 ∧ SatL L' h2 := by
  induction s with
  | nil => intro h x; exact ⟨fun _ => none, h, fun _ => .inl rfl, fun _ _ e => by simp at e, Leq.refl _, trivial, x⟩
  | cons p r ih =>
    intro h x
    obtain ⟨k1, k2, dj, le1, le2, ha, hr⟩ := p.sat x
    obtain ⟨m1, m2, dj', le1', le2', hm, hl⟩ := ih hr
    refine ⟨fun n => (k1 n).or (m1 n), m2, ?_, ?_, le2'.trans le2, ⟨k1, m1, ?_, ?_, ?_, ha, hm⟩, hl⟩
    · intro n
      rcases dj' n with e | e
      · rcases dj n with e1 | e1
        · left; simp [e, e1]
        · right; cases hk : m2 n with
          | none => rfl
          | some u => rw [le2' _ _ hk] at e1; cases e1
      · exact .inr e
    · intro n u hn
      simp only at hn
      cases hk : k1 n with
      | none => rw [hk] at hn; exact le2 _ _ (le1' _ _ (by simpa using hn))
      | some v => rw [hk] at hn; simp at hn; exact le1 _ _ (by rw [hk, hn])
    · exact dj.mono (Leq.refl _) le1'
    · intro n u hn; simp [hn]
    · intro n u hn
      rcases dj n with e | e
      · simp [e, hn]
      · rw [le1' _ _ hn] at e; cases e

inductive RoOf (c : Cx) (L : List Asrt) (A : Asrt) : Prop
  | own {B : Asrt} {M : List Asrt} (p : Pick L B M) (i : ∀ h, B h → A h) : RoOf c L A
  | ro {B : Asrt} (m : B ∈ c.ros) (i : ∀ h, B h → A h) : RoOf c L A
inductive RosOf (c : Cx) (L : List Asrt) : List Asrt → Prop
  | nil : RosOf c L []
  | cons {A : Asrt} {As : List Asrt} (h : RoOf c L A) (r : RosOf c L As) : RosOf c L (A :: As)
theorem RosOf.mem {As : List Asrt} (r : RosOf c L As) : ∀ A ∈ As, RoOf c L A := by
  induction r with
  | nil => intro A h; simp at h
  | cons h r ih => intro A m; cases m with
    | head => exact h
    | tail _ m => exact ih A m

theorem run_callFunc {f : FuncId} [hf : FunI P f] (args : Array Value) (w : World) : (callFunc f args).run P w = .ok (.enter f args) w := by
  have := hf.out
  unfold funB at this
  cases hh : P.funcs[f]? with
  | none => simp [hh] at this
  | some fn =>
    simp only [hh, Bool.and_eq_true, Bool.not_eq_true'] at this
    obtain ⟨h1, h2⟩ := this
    have h1' : ¬ fn.name = "runtime.NumGoroutine" := by simpa using h1
    have h3 : ¬ fn.body = none := by intro e; simp [e] at h2
    simp [callFunc, hh, h1', h3]

theorem calls_upon {f : FuncId} {args : Array Value} {ros Lc L' : List Asrt} {Q : Post} {a : Act} {o : Oper} (sp : Spc P f args ros Lc Q) (hs : Split L Lc L') (hr : RosOf c L' ros) (s : St c L w)
    (h : ∀ v w', St c (Q v :: L') w' → K (a.put o.dst v) w') : o.upon P a K R (.ok (.enter f args) w) := by
  obtain ⟨hh, x, y, z⟩ := s
  obtain ⟨h1, h2, dj, le1, le2, hm, hl⟩ := hs.sat x
  have hro : RoAt ros h1 w := by
    intro A mA
    cases hr.mem A mA with
    | own p i =>
      obtain ⟨k1, k2, dk, l1, l2, hb, _⟩ := p.sat hl
      exact ⟨k1, i _ hb, (y.mono le2).mono l1, (dj.symm).mono l1 (Leq.refl _)⟩
    | ro m i =>
      obtain ⟨hr, hb, hs', ho⟩ := z.ro m
      refine ⟨hr, i _ hb, hs', fun b => ?_⟩
      cases e : hr b with
      | none => exact .inl rfl
      | some u =>
        right
        obtain ⟨o1, o2⟩ := ho b (by rw [e]; simp)
        have := (z.block b o2 o1).2
        cases e1 : h1 b with
        | none => rfl
        | some u => rw [le1 _ _ e1] at this; cases this
  refine Calls.mono (sp w h1 hm (y.mono le1) hro) ?_
  rintro e w' ⟨v, h1', rfl, hq, hsub, tr⟩
  refine h v w' ⟨fun n => (h1' n).or (h2 n), ⟨h1', h2, ?_, ?_, ?_, hq, hl⟩, ?_, ?_⟩
  · intro n
    cases e : h2 n with
    | none => exact .inr rfl
    | some u =>
      left
      have hlt := lt_of_heap (y _ _ (le2 _ _ e))
      exact (tr.block n hlt ((dj n).resolve_right (by rw [e]; simp))).2
  · intro n u hn; simp [hn]
  · intro n u hn
    have hlt := lt_of_heap (y _ _ (le2 _ _ hn))
    have := (tr.block n hlt ((dj n).resolve_right (by rw [hn]; simp))).2
    simp [this, hn]
  · intro n u hn
    simp only at hn
    cases e : h1' n with
    | some v => rw [e] at hn; simp at hn; subst hn; exact hsub _ _ e
    | none =>
      rw [e] at hn
      have hn' : h2 n = some u := by simpa using hn
      have hlt := lt_of_heap (y _ _ (le2 _ _ hn'))
      rw [(tr.block n hlt ((dj n).resolve_right (by rw [hn']; simp))).1]
      exact y _ _ (le2 _ _ hn')
  · refine ⟨tr.os.trans z.os, tr.tape.trans z.tape, tr.output.trans z.output, Nat.le_trans z.size tr.size, fun k hk ho => ?_, z.ros⟩
    obtain ⟨e1, e2⟩ := z.block k hk ho
    have hlt := Nat.lt_of_lt_of_le hk z.size
    have n1 : h1 k = none := by
      cases e : h1 k with
      | none => rfl
      | some u => rw [le1 _ _ e] at e2; cases e2
    have n2 : h2 k = none := by
      cases e : h2 k with
      | none => rfl
      | some u => rw [le2 _ _ e] at e2; cases e2
    obtain ⟨t1, t2⟩ := tr.block k hlt n1
    exact ⟨t1.trans e1, by simp [t2, n2]⟩

/-- What a call hands back, opened. -/
def CP (c : Cx) (N : Nat) (d : Option Nat) (T : Tm) (L : List Asrt) (Q : Post) (K : Act → World → Prop) : Prop :=
  ∀ v a w, Ag N a T → St c (Q v :: L) w → K (a.put d v) w
theorem EW.call {f : FuncId} {xs : List Operand} {vs : List Value} {ts : Array TypeId} {ros Lc L' : List Asrt} {Q : Post} [FunI P f] (sp : Spc P f vs.toArray ros Lc Q) (hx : evs T xs = some vs) (hs : Split L Lc L') (hr : RosOf c L' ros)
    (h : CP c N dst T L' Q K) : EW P c N T L ⟨dst, .call { callee := .value (.func f), args := xs.toArray, argTypes := ts }, ty, pos, aft, gd⟩ R K := fun a w g s => by
  have he : (execOp a.eval ⟨dst, .call { callee := .value (.func f), args := xs.toArray, argTypes := ts }, ty, pos, aft, gd⟩).run P w = .ok (.enter f vs.toArray) w := by
    simp [execOp, resolve, Act.eval, Deferred.ofValue, invoke, run_callFunc, g.evs hx]
  show Oper.upon P _ a K R _
  rw [he]
  exact calls_upon sp hs hr s fun v w' s' => h v a w' g s'
/-- A call of a function value. -/
theorem EW.callv {f : FuncId} {xs : List Operand} {vs : List Value} {caps : List Value} {ts : Array TypeId} {ros Lc L' : List Asrt} {Q : Post} [FunI P f] (hx0 : ev T x = some (.func (.func f) #[] caps.toArray)) (sp : Spc P f (vs ++ caps).toArray ros Lc Q) (hx : evs T xs = some vs) (hs : Split L Lc L') (hr : RosOf c L' ros)
    (h : CP c N dst T L' Q K) : EW P c N T L ⟨dst, .call { callee := .value x, args := xs.toArray, argTypes := ts }, ty, pos, aft, gd⟩ R K := fun a w g s => by
  have he : (execOp a.eval ⟨dst, .call { callee := .value x, args := xs.toArray, argTypes := ts }, ty, pos, aft, gd⟩).run P w = .ok (.enter f (vs ++ caps).toArray) w := by
    simp [execOp, resolve, g.ev hx0, Deferred.ofValue, invoke, run_callFunc, g.evs hx]
  show Oper.upon P _ a K R _
  rw [he]
  exact calls_upon sp hs hr s fun v w' s' => h v a w' g s'

theorem CP.exP {α : Sort _} {f : α → Post} {dd : Option Nat} (h : ∀ x, CP c N dd T L (f x) K) : CP c N dd T L (Ink.exP f) K := fun v a w g s => by
  obtain ⟨hh, ⟨h1, h2, d, aa, b, ⟨x, hx⟩, y⟩, hs, hf⟩ := s
  exact h x v a w g ⟨hh, ⟨h1, h2, d, aa, b, hx, y⟩, hs, hf⟩
theorem CP.puP {p : Prop} {Q : Post} {dd : Option Nat} (h : p → CP c N dd T L Q K) : CP c N dd T L (Ink.puP p Q) K := fun v a w g s => by
  obtain ⟨hh, ⟨h1, h2, d, aa, b, ⟨hp, hx⟩, y⟩, hs, hf⟩ := s
  exact h hp v a w g ⟨hh, ⟨h1, h2, d, aa, b, hx, y⟩, hs, hf⟩
theorem CP.ret {v0 : Value} (hd : d < N) (h : KP c N ((d, v0) :: T) (M ++ L) K) : CP c N (some d) T L (Ink.ret v0 M) K := fun v a w g s => by
  obtain ⟨hh, ⟨h1, h2, dj, aa, b, ⟨rfl, x⟩, y⟩, hs, hf⟩ := s
  exact h _ w (g.put hd _) ⟨hh, SatL.append dj aa b x y, hs, hf⟩
theorem CP.ret0 {v0 : Value} (h : KP c N T (M ++ L) K) : CP c N none T L (Ink.ret v0 M) K := fun v a w g s => by
  obtain ⟨hh, ⟨h1, h2, dj, aa, b, ⟨rfl, x⟩, y⟩, hs, hf⟩ := s
  exact h _ w g ⟨hh, SatL.append dj aa b x y, hs, hf⟩
theorem CP.ret_0 {v0 : Value} (hd : d < N) (h : KP c N ((d, v0) :: T) L K) : CP c N (some d) T L (Ink.ret v0 []) K := CP.ret hd h
theorem CP.ret_1 {v0 : Value} {A1 : Asrt} (hd : d < N) (h : KP c N ((d, v0) :: T) (A1 :: L) K) : CP c N (some d) T L (Ink.ret v0 [A1]) K := CP.ret hd h
theorem CP.ret_2 {v0 : Value} {A1 A2 : Asrt} (hd : d < N) (h : KP c N ((d, v0) :: T) (A1 :: A2 :: L) K) : CP c N (some d) T L (Ink.ret v0 [A1, A2]) K := CP.ret hd h
theorem CP.ret_3 {v0 : Value} {A1 A2 A3 : Asrt} (hd : d < N) (h : KP c N ((d, v0) :: T) (A1 :: A2 :: A3 :: L) K) : CP c N (some d) T L (Ink.ret v0 [A1, A2, A3]) K := CP.ret hd h
theorem CP.ret_4 {v0 : Value} {A1 A2 A3 A4 : Asrt} (hd : d < N) (h : KP c N ((d, v0) :: T) (A1 :: A2 :: A3 :: A4 :: L) K) : CP c N (some d) T L (Ink.ret v0 [A1, A2, A3, A4]) K := CP.ret hd h
theorem CP.ret0_0 {v0 : Value} (h : KP c N T L K) : CP c N none T L (Ink.ret v0 []) K := CP.ret0 h
theorem CP.ret0_1 {v0 : Value} {A1 : Asrt} (h : KP c N T (A1 :: L) K) : CP c N none T L (Ink.ret v0 [A1]) K := CP.ret0 h
theorem CP.ret0_2 {v0 : Value} {A1 A2 : Asrt} (h : KP c N T (A1 :: A2 :: L) K) : CP c N none T L (Ink.ret v0 [A1, A2]) K := CP.ret0 h
theorem CP.ret0_3 {v0 : Value} {A1 A2 A3 : Asrt} (h : KP c N T (A1 :: A2 :: A3 :: L) K) : CP c N none T L (Ink.ret v0 [A1, A2, A3]) K := CP.ret0 h
theorem CP.ret0_4 {v0 : Value} {A1 A2 A3 A4 : Asrt} (h : KP c N T (A1 :: A2 :: A3 :: A4 :: L) K) : CP c N none T L (Ink.ret v0 [A1, A2, A3, A4]) K := CP.ret0 h
end
end Go.Ink
