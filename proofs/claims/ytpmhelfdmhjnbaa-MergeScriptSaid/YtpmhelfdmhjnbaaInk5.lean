/- Ink5: regions that draw their order. Reads are taken first; what they read is shown anew behind each operation that writes and does not wait for them. -/
import Derived.Test.YtpmhelfdmhjnbaaInk4
namespace Go.Ink
open Go
set_option linter.unusedVariables false
set_option linter.unusedSimpArgs false

section
variable {P : Program} {ops : Array Oper} {Q : Exit → Act → World → Prop} {md : Region.Mode} {A : List (List Nat)}

/-- Of operation o in this state and this world: it leaves v, and nothing else. -/
def YAt (P : Program) (ops : Array Oper) (o : Oper) (v : Value) (a : Act) (w : World) : Prop :=
  (Region.wanted o (yielded ops a.tmps) = true ∧ (execOp a.eval o).run P w = .ok (.value v) w) ∨ (Region.wanted o (yielded ops a.tmps) = false ∧ v = undef)
def YOf (P : Program) (ops : Array Oper) (p : Nat × Value) (a : Act) (w : World) : Prop := ∃ o, ops[p.1]? = some o ∧ YAt P ops o p.2 a w
def anc (A : List (List Nat)) (j : Nat) : List Nat := A.getD j []
def still (A : List (List Nat)) (j : Nat) (E : List (Nat × Value)) : List (Nat × Value) := E.filter fun p => !(anc A j).contains p.1

def wpY (P : Program) (md : Region.Mode) (ops : Array Oper) (Q : Exit → Act → World → Prop) (A : List (List Nat)) : List (Nat × Value) → Nat → Array Bool → Act → World → Prop
  | _, 0, S, a, w => Region.ready md ops S = [] ∧ Q .normal a w
  | E, n + 1, S, a, w => (Region.ready md ops S = [] → Q .normal a w) ∧
    ∀ i ∈ Region.ready md ops S, wpOp P ops Q i (fun a' w' => (∀ p ∈ still A i E, YOf P ops p a' w') ∧ wpY P md ops Q A (still A i E) n (S.setIfInBounds i true) a' w') a w

theorem wpY_any : ∀ (n : Nat) (E : List (Nat × Value)) (S : Array Bool) (a : Act) (w : World), wpY P md ops Q A E n S a w → wpAny P md ops Q n S a w
  | 0, _, _, _, _, h => h
  | n + 1, _, _, _, _, h => ⟨h.1, fun i hi => wpOp_mono (fun a' w' h' => wpY_any n _ _ a' w' h'.2) (h.2 i hi)⟩

theorem still_sub {j : Nat} {E E' : List (Nat × Value)} (h : ∀ p ∈ E', p ∈ E) : ∀ p ∈ still A j E', p ∈ still A j E := fun p hp => by
  simp only [still, List.mem_filter] at hp ⊢
  exact ⟨h p hp.1, hp.2⟩
theorem wpY_mono : ∀ (n : Nat) (E E' : List (Nat × Value)) (S : Array Bool) (a : Act) (w : World), (∀ p ∈ E', p ∈ E) → wpY P md ops Q A E n S a w → wpY P md ops Q A E' n S a w
  | 0, _, _, _, _, _, _, h => h
  | n + 1, E, E', _, _, _, hs, h => ⟨h.1, fun i hi => wpOp_mono (fun a' w' h' => ⟨fun p hp => h'.1 p (still_sub hs p hp), wpY_mono n _ _ _ a' w' (still_sub hs) h'.2⟩) (h.2 i hi)⟩

/-- An operation that looks at no memory: it is never shown anew. -/
def pureOp (o : Oper) : Bool := match o.op with
  | .move _ | .assign _ | .binOp .. | .unOp .. | .extract .. | .pick .. | .field .. | .nilCheck _ | .fieldAddr .. | .convert .. | .makeFunc .. | .build .. => true
  | _ => false
/-- The table of who waits for whom is right, and the temporaries are used in order. -/
def chkA (md : Region.Mode) (ops : Array Oper) (A : List (List Nat)) : Bool :=
  (List.range ops.size).all fun j => match ops[j]? with
    | none => true
    | some o => (o.after.all fun e => !Region.binds md e || (anc A j).contains e.on) &&
      ((anc A j).all fun p => o.after.any fun e => Region.binds md e && (e.on == p || (anc A e.on).contains p)) &&
      ((List.range ops.size).all fun k => match ops[k]? with
        | none => true
        | some q => ((anc A j).contains k || ((anc A k).contains j && pureOp o) || (match q.dst with | some d => !(o.looksAt ops).contains d | none => true)) &&
          (j == k || (anc A j).contains k || (anc A k).contains j || (match q.dst with | some d => o.dst != some d | none => true)))
structure ChkA (md : Region.Mode) (ops : Array Oper) (A : List (List Nat)) : Prop where
  direct : ∀ j o, ops[j]? = some o → ∀ e ∈ o.after, Region.binds md e = true → e.on ∈ anc A j
  sound : ∀ j o, ops[j]? = some o → ∀ p ∈ anc A j, ∃ e ∈ o.after, Region.binds md e = true ∧ (e.on = p ∨ p ∈ anc A e.on)
  look : ∀ j o k q, ops[j]? = some o → ops[k]? = some q → k ∉ anc A j → (j ∉ anc A k ∨ pureOp o = false) → ∀ d, q.dst = some d → d ∉ o.looksAt ops
  dst : ∀ j o k q, ops[j]? = some o → ops[k]? = some q → j ≠ k → k ∉ anc A j → j ∉ anc A k → ∀ d, q.dst = some d → o.dst ≠ some d
theorem chkA_spec (h : chkA md ops A = true) : ChkA md ops A := by
  have hj : ∀ j o, ops[j]? = some o → _ := fun j o ho => by
    have h1 := List.all_eq_true.1 h j (List.mem_range.2 (Array.getElem?_eq_some_iff.1 ho).1)
    simp only [ho, Bool.and_eq_true] at h1
    exact h1
  refine ⟨fun j o ho e he hb => ?_, fun j o ho p hp => ?_, fun j o k q ho hq hn hp d hd => ?_, fun j o k q ho hq hne h1 h2 d hd => ?_⟩
  · have h1 := Array.all_eq_true_iff_forall_mem.1 (hj j o ho).1.1 e he
    simpa [hb] using h1
  · have h1 := List.all_eq_true.1 (hj j o ho).1.2 p hp
    rw [Array.any_eq_true'] at h1
    obtain ⟨e, he, h2⟩ := h1
    simp only [Bool.and_eq_true, Bool.or_eq_true, beq_iff_eq, List.contains_iff_mem] at h2
    exact ⟨e, he, h2.1, h2.2⟩
  · have h1 := List.all_eq_true.1 (hj j o ho).2 k (List.mem_range.2 (Array.getElem?_eq_some_iff.1 hq).1)
    simp only [hq, hd, Bool.and_eq_true, Bool.or_eq_true, List.contains_iff_mem, Bool.not_eq_true'] at h1
    rcases h1.1 with (h2 | h2) | h2
    · exact absurd h2 hn
    · rcases hp with hp | hp
      · exact absurd h2.1 hp
      · rw [hp] at h2; cases h2.2
    · simpa using h2
  · have h3 := List.all_eq_true.1 (hj j o ho).2 k (List.mem_range.2 (Array.getElem?_eq_some_iff.1 hq).1)
    simp only [hq, hd, Bool.and_eq_true, Bool.or_eq_true, List.contains_iff_mem, beq_iff_eq, bne_iff_ne] at h3
    rcases h3.2 with ((e | e) | e) | e
    · exact absurd e hne
    · exact absurd e h1
    · exact absurd e h2
    · exact e

/-- A set of operations that holds, with each, all that it waits for. -/
def Shut (A : List (List Nat)) (S : Array Bool) : Prop := ∀ j, S.getD j false = true → ∀ p ∈ anc A j, S.getD p false = true
theorem ready_anc (ck : ChkA md ops A) {S : Array Bool} (hs : Shut A S) {j : Nat} (hj : j ∈ Region.ready md ops S) : ∀ p ∈ anc A j, S.getD p false = true := by
  obtain ⟨_, o, ho, hall⟩ := mem_ready.1 hj
  intro p hp
  obtain ⟨e, he, hb, h⟩ := ck.sound j o ho p hp
  have h1 := hall e he hb
  rcases h with rfl | h
  · exact h1
  · exact hs e.on h1 p h
theorem Shut.set (ck : ChkA md ops A) {S : Array Bool} (hs : Shut A S) {j : Nat} (hj : j ∈ Region.ready md ops S) : Shut A (S.setIfInBounds j true) := by
  intro k hk p hp
  apply getD_set_true
  by_cases e : j = k
  · subst e; exact ready_anc ck hs hj p hp
  · rw [getD_set_ne false e] at hk
    exact hs k hk p hp
/-- What a listed read is: done, and no pure one. -/
def Held (ops : Array Oper) (S : Array Bool) (p : Nat × Value) : Prop := S.getD p.1 false = true ∧ ∀ o, ops[p.1]? = some o → pureOp o = false
theorem Held.set {S : Array Bool} {p : Nat × Value} {i : Nat} (h : Held ops S p) : Held ops (S.setIfInBounds i true) p := ⟨getD_set_true h.1, h.2⟩
theorem not_done {S : Array Bool} {i : Nat} (h : S.getD i true = false) : S.getD i false = false := by
  rcases Nat.lt_or_ge i S.size with h' | h'
  · simp [h'] at h ⊢; exact h
  · simp [Array.getElem?_eq_none h'] at h

theorem YAt.put {o : Oper} {v u : Value} {a : Act} {w : World} {dst : Option Tmp} (hs : ∀ cs b, o.op ≠ .select cs b) (h : ∀ d, dst = some d → d ∉ o.looksAt ops) : YAt P ops o v (a.put dst u) w ↔ YAt P ops o v a w := by
  unfold YAt
  rw [execOp_put o hs a dst u h, wanted_put o a dst u h]

theorem wpOp_putY {j : Nat} {oi oj : Oper} {v : Value} (hj : ops[j]? = some oj)
    (hl : ∀ d, oi.dst = some d → d ∉ oj.looksAt ops) (hdd : ∀ d, oi.dst = some d → oj.dst ≠ some d) (hl' : ∀ d, oj.dst = some d → d ∉ oi.looksAt ops)
    (hsi : ∀ cs b, oi.op ≠ .select cs b) (hsj : ∀ cs b, oj.op ≠ .select cs b)
    (hQ : ∀ c a w, Q (.panic c) (a.put oi.dst v) w → Q (.panic c) a w) {K : Act → World → Prop} {a : Act} {w : World}
    (h : wpOp P ops Q j K (a.put oi.dst v) w) :
    wpOp P ops Q j (fun a' w' => (∀ w, YAt P ops oi v a' w ↔ YAt P ops oi v a w) ∧ K (a'.put oi.dst v) w') a w := by
  have keep : ∀ u w, YAt P ops oi v (a.put oj.dst u) w ↔ YAt P ops oi v a w := fun u w => YAt.put hsi hl'
  unfold wpOp at *
  simp only [hj] at *
  rw [wanted_put oj a oi.dst v hl] at h
  split
  · rename_i hw
    simp only [hw, if_true] at h
    rcases h with h | ⟨hasks, hlets⟩
    case inr => exact .inr ⟨by unfold Oper.asks at *; rw [execOp_put oj hsj a oi.dst v hl] at hasks; exact hasks, hlets⟩
    refine .inl ?_
    unfold Oper.wp at *
    rw [execOp_put oj hsj a oi.dst v hl] at h
    generalize (execOp a.eval oj).run P w = r at *
    cases r with
    | ok n w' =>
      cases n <;> simp only [Oper.upon] at h ⊢
      case value u => exact ⟨keep u, by rw [← Act.put_comm a v u hdd]; exact h⟩
      case skip => exact ⟨keep _, by rw [← Act.put_comm a v undef hdd]; exact h⟩
      case defer d =>
        refine ⟨fun w => ?_, by rw [← Act.put_comm _ v undef hdd, ← Act.put_defers]; exact h⟩
        exact (YAt.put (a := { a with defers := d :: a.defers }) hsi hl').trans Iff.rfl
      case enter f args =>
        refine Calls.mono h fun e w'' he => ?_
        cases e with
        | returned u => exact ⟨keep u, by rw [← Act.put_comm a v u hdd]; exact he⟩
        | panicked c => exact hQ _ _ _ he
        | outgrown => exact he
      case row row args => exact Rows.mono h fun u w'' he => ⟨keep u, by rw [← Act.put_comm a v u hdd]; exact he⟩
    | halt x w' =>
      cases x <;> simp only [Oper.upon] at h ⊢
      case panic u => exact hQ _ _ _ h
  · rename_i hw
    simp only [hw] at h
    exact ⟨keep _, by rw [← Act.put_comm a v undef hdd]; exact h⟩

theorem YAt.wpOp {i : Nat} {o : Oper} {v : Value} {a : Act} {w : World} (hi : ops[i]? = some o) (hy : YAt P ops o v a w) {K : Act → World → Prop} (h : K (a.put o.dst v) w) : wpOp P ops Q i K a w := by
  unfold Go.wpOp
  simp only [hi]
  rcases hy with ⟨hw, hv⟩ | ⟨hw, rfl⟩
  · simp only [hw, if_true, Oper.wp, hv, Oper.upon]; exact .inl h
  · simp only [hw, Bool.false_eq_true, if_false]; exact h

/-- A read may be taken first. pure: it yields v whatever the world; else it is listed in E. -/
theorem wpY_take (ck : ChkA md ops A) (hsel : ∀ (j : Nat) (o : Oper) cs b, ops[j]? = some o → o.op ≠ .select cs b) {i : Nat} {oi : Oper} {v : Value} (hi : ops[i]? = some oi)
    (hQ : ∀ c a w, Q (.panic c) (a.put oi.dst v) w → Q (.panic c) a w) (pure : Bool) (hpo : pure = false → pureOp oi = false) :
    ∀ (n : Nat) (E : List (Nat × Value)) (S : Array Bool) (a : Act) (w : World), Shut A S → i ∈ Region.ready md ops S → YAt P ops oi v a w → (pure = true → ∀ w, YAt P ops oi v a w) →
      (∀ p ∈ E, YOf P ops p a w ∧ Held ops S p) →
      wpY P md ops Q A (if pure then E else (i, v) :: E) n (S.setIfInBounds i true) (a.put oi.dst v) w → wpY P md ops Q A E (n + 1) S a w := by
  intro n
  -- i itself comes up
  have self : ∀ (n : Nat) (E : List (Nat × Value)) (S : Array Bool) (a : Act) (w : World), Shut A S → i ∈ Region.ready md ops S → YAt P ops oi v a w → (∀ p ∈ E, YOf P ops p a w ∧ Held ops S p) →
      wpY P md ops Q A (if pure then E else (i, v) :: E) n (S.setIfInBounds i true) (a.put oi.dst v) w →
      wpOp P ops Q i (fun a' w' => (∀ p ∈ still A i E, YOf P ops p a' w') ∧ wpY P md ops Q A (still A i E) n (S.setIfInBounds i true) a' w') a w := by
    intro n E S a w hsh hr hy hE H
    have hin := not_done (mem_ready.1 hr).1
    refine hy.wpOp hi ⟨fun p hp => ?_, wpY_mono n _ _ _ _ _ (fun p hp => ?_) H⟩
    · have hpE : p ∈ E := (List.mem_filter.1 hp).1
      obtain ⟨⟨o, ho, hyo⟩, hS⟩ := hE p hpE
      refine ⟨o, ho, (YAt.put (fun cs b => hsel _ _ cs b ho) (ck.look p.1 o i oi ho hi (fun hm => ?_) (.inr (hS.2 o ho)))).2 hyo⟩
      have := hsh p.1 hS.1 i hm
      rw [hin] at this; cases this
    · have hpE : p ∈ E := (List.mem_filter.1 hp).1
      cases pure with
      | true => exact hpE
      | false => exact List.mem_cons_of_mem _ hpE
  induction n with
  | zero =>
    intro E S a w hsh hr hy hyp hE H
    refine ⟨fun h => (by rw [h] at hr; cases hr), fun j hj => ?_⟩
    by_cases hji : j = i
    · subst hji
      exact self 0 E S a w hsh hr hy hE H
    · have := ready_mono hj hji
      have H1 := H.1
      rw [H1] at this
      cases this
  | succ n ih =>
    intro E S a w hsh hr hy hyp hE H
    refine ⟨fun h => (by rw [h] at hr; cases hr), fun j hj => ?_⟩
    by_cases hji : j = i
    · subst hji
      exact self (n + 1) E S a w hsh hr hy hE H
    · have hin := not_done (mem_ready.1 hr).1
      have hjn := not_done (mem_ready.1 hj).1
      have hij : i ∉ anc A j := fun hm => by have := ready_anc ck hsh hj i hm; rw [hin] at this; cases this
      have hji' : j ∉ anc A i := fun hm => by have := ready_anc ck hsh hr j hm; rw [hjn] at this; cases this
      have hii : i ∉ anc A i := fun hm => by have := ready_anc ck hsh hr i hm; rw [hin] at this; cases this
      obtain ⟨_, oj, hoj, _⟩ := mem_ready.1 hj
      have h1 := H.2 j (ready_mono hj hji)
      have h2 := wpOp_putY (oi := oi) (v := v) hoj (ck.look j oj i oi hoj hi hij (.inl hji')) (ck.dst j oj i oi hoj hi hji hij hji') (ck.look i oi j oj hi hoj hji' (.inl hij)) (fun cs b => hsel i oi cs b hi) (fun cs b => hsel j oj cs b hoj) hQ h1
      refine wpOp_mono (fun a' w' h3 => ?_) h2
      obtain ⟨h4, h5, h6⟩ := h3
      have hE' : ∀ p ∈ still A j E, YOf P ops p a' w' ∧ Held ops (S.setIfInBounds j true) p := by
        intro p hp
        obtain ⟨hpE, hpj⟩ := List.mem_filter.1 hp
        obtain ⟨_, hS⟩ := hE p hpE
        have hp1 : p ∈ still A j (if pure then E else (i, v) :: E) := List.mem_filter.2 ⟨by cases pure with | true => exact hpE | false => exact List.mem_cons_of_mem _ hpE, hpj⟩
        obtain ⟨o, ho, hyo⟩ := h5 p hp1
        refine ⟨⟨o, ho, (YAt.put (fun cs b => hsel _ _ cs b ho) (ck.look p.1 o i oi ho hi (fun hm => ?_) (.inr (hS.2 o ho)))).1 hyo⟩, hS.set⟩
        have := hsh p.1 hS.1 i hm
        rw [hin] at this; cases this
      refine ⟨fun p hp => (hE' p hp).1, ih (still A j E) (S.setIfInBounds j true) a' w' (hsh.set ck hj) (ready_mono hr (fun e => hji e.symm)) ?_ ?_ hE' ?_⟩
      · cases hp : pure with
        | true => exact (h4 w').2 (hyp hp w')
        | false =>
          have hm : (i, v) ∈ still A j (if pure then E else (i, v) :: E) := List.mem_filter.2 ⟨by simp [hp], by simpa using hij⟩
          obtain ⟨o, ho, hyo⟩ := h5 _ hm
          have : o = oi := by rw [hi] at ho; exact (Option.some.inj ho).symm
          subst this
          exact (YAt.put (fun cs b => hsel _ _ cs b hi) (ck.look i o i o hi hi hii (.inl hii))).1 hyo
      · exact fun hp w => (h4 w).2 (hyp hp w)
      · rw [Array.setIfInBounds_comm _ _ hji]
        refine wpY_mono n _ _ _ _ _ (fun p hp => ?_) h6
        cases pure with
        | true => exact hp
        | false =>
          rcases List.mem_cons.1 hp with rfl | hp
          · exact List.mem_filter.2 ⟨List.mem_cons_self, by simpa using hij⟩
          · obtain ⟨h7, h8⟩ := List.mem_filter.1 hp
            exact List.mem_filter.2 ⟨List.mem_cons_of_mem _ h7, h8⟩

/-! ### the moves of a walk -/
variable {c : Cx} {N : Nat} {T : Tm} {L : List Asrt} {K : Act → World → Prop} {R : Exit → Act → World → Prop}

/-- A panic's post does not hang on the frame. -/
def NoHang (R : Exit → Act → World → Prop) : Prop := ∀ ch a a' w, R (.panic ch) a w → R (.panic ch) a' w
/-- The state inside a drawn region. -/
def DW (P : Program) (c : Cx) (N : Nat) (T : Tm) (L : List Asrt) (ops : Array Oper) (R : Exit → Act → World → Prop) (A : List (List Nat)) (E : List (Nat × Value)) (n : Nat) (S : Array Bool) : Prop :=
  chkA .any ops A = true → Region.noSelect ops = true → NoHang R → Shut A S → (∀ p ∈ E, Held ops S p) → KP c N T L (fun a w => (∀ p ∈ E, YOf P ops p a w) → wpY P .any ops R A E n S a w)

def QG (P : Program) (c : Cx) (N : Nat) (T : Tm) (L : List Asrt) (ops : Array Oper) (o : Oper) (v : Value) : Prop := ∀ a w, Ag N a T → St c L w → YAt P ops o v a w

variable {op : Op} {dst : Option Tmp} {ty : TypeId} {pos : String} {aft : Array Edge} {d : Nat} {v : Value}
theorem QG.plain (q : QY P c N T L ⟨dst, op, ty, pos, aft, none⟩ v) : QG P c N T L ops ⟨dst, op, ty, pos, aft, none⟩ v := fun a w g s => .inl ⟨rfl, q a w g s⟩
theorem QG.yes {j t : Nat} {b : Bool} (hj : (ops[j]?).bind (·.dst) = some t) (hv : T.lookup t = some (.bool b)) (q : QY P c N T L ⟨dst, op, ty, pos, aft, none⟩ v) : QG P c N T L ops ⟨dst, op, ty, pos, aft, some (j, b)⟩ v := fun a w g s =>
  .inl ⟨by simp [Region.wanted, yielded_at g hj hv], q a w g s⟩
theorem QG.no {j t : Nat} {b : Bool} (hj : (ops[j]?).bind (·.dst) = some t) (hv : T.lookup t = some (.bool (!b))) : QG P c N T L ops ⟨dst, op, ty, pos, aft, some (j, b)⟩ undef := fun a w g s =>
  .inr ⟨by simp only [Region.wanted, yielded_at g hj hv]; cases b <;> rfl, rfl⟩
theorem QG.un {j t : Nat} {b : Bool} (hj : (ops[j]?).bind (·.dst) = some t) (hv : T.lookup t = some undef) : QG P c N T L ops ⟨dst, op, ty, pos, aft, some (j, b)⟩ undef := fun a w g s =>
  .inr ⟨by simp only [Region.wanted, yielded_at g hj hv]; rfl, rfl⟩

theorem st_any (w : World) : St ⟨w, fun _ => none, []⟩ [] w := ⟨fun _ => none, trivial, fun _ _ e => by simp at e, ⟨rfl, rfl, rfl, Nat.le_refl _, fun _ _ _ => ⟨rfl, rfl⟩, fun _ m => by simp at m⟩⟩

theorem CW.draw {i : Nat} (hm : P.follows .mixedOrders = true) {l : List Oper} (A : List (List Nat)) (hA : chkA .any l.toArray A = true) (hs : Region.noSelect l.toArray = true) (hR : NoHang R) (h : DW P c N T L l.toArray R A [] l.length (Array.replicate l.length false)) : CW P c N T L (.region i l.toArray true) R := fun a w g s => by
  refine wp_region_any hm ?_
  have h1 := h hA hs hR (fun j hj => by
    simp only [Array.getD_eq_getD_getElem?, Array.getElem?_replicate] at hj
    split at hj <;> simp at hj) (fun p hp => by simp at hp) a w.drew g s.drew (fun p hp => by simp at hp)
  exact wpY_any _ _ _ _ _ (by simpa using h1)

theorem DW.pure {E : List (Nat × Value)} {n : Nat} {S : Array Bool} (i : Nat) {o : Oper} (hi : ops[i]? = some o) (hr : (Region.ready .any ops S).contains i = true) (hd : o.dst = some d) (hdN : d < N)
    (q : ∀ c, QG P c N T [] ops o v) (h : DW P c N ((d, v) :: T) L ops R A E n (S.setIfInBounds i true)) : DW P c N T L ops R A E (n + 1) S := fun hA hs hR hsh hin a w g s hE => by
  have hrd : i ∈ Region.ready .any ops S := by simpa using hr
  have hy : ∀ w, YAt P ops o v a w := fun w => q _ a w g (st_any w)
  refine wpY_take (chkA_spec hA) (Region.noSelect_spec hs) hi (fun ch a w hq => hR ch _ _ w hq) true (fun e => by cases e) n E S a w hsh hrd (hy w) (fun _ => hy) (fun p hp => ⟨hE p hp, hin p hp⟩) ?_
  have hE' : ∀ p ∈ E, YOf P ops p (a.put o.dst v) w := fun p hp => by
    obtain ⟨q', ho, hyo⟩ := hE p hp
    refine ⟨q', ho, (YAt.put (fun cs b => Region.noSelect_spec hs _ _ cs b ho) ((chkA_spec hA).look p.1 q' i o ho hi (fun hm => ?_) (.inr ((hin p hp).2 _ ho)))).2 hyo⟩
    have := hsh p.1 (hin p hp).1 i hm
    rw [not_done (mem_ready.1 hrd).1] at this; cases this
  simp only [if_true]
  exact h hA hs hR (hsh.set (chkA_spec hA) hrd) (fun p hp => (hin p hp).set) _ w (by rw [hd]; exact g.put hdN v) s hE'

theorem getD_set_self {S : Array Bool} {i : Nat} (h : S.getD i true = false) : (S.setIfInBounds i true).getD i false = true := by
  have hlt : i < S.size := by
    rcases Nat.lt_or_ge i S.size with h' | h'
    · exact h'
    · simp [Array.getElem?_eq_none h'] at h
  simp [hlt]

theorem DW.mem {E : List (Nat × Value)} {n : Nat} {S : Array Bool} (i : Nat) {o : Oper} (hi : ops[i]? = some o) (hr : (Region.ready .any ops S).contains i = true) (hd : o.dst = some d) (hdN : d < N) (hpo : pureOp o = false)
    (q : QG P c N T L ops o v) (h : DW P c N ((d, v) :: T) L ops R A ((i, v) :: E) n (S.setIfInBounds i true)) : DW P c N T L ops R A E (n + 1) S := fun hA hs hR hsh hin a w g s hE => by
  have hrd : i ∈ Region.ready .any ops S := by simpa using hr
  have hun := (mem_ready.1 hrd).1
  have hy : YAt P ops o v a w := q a w g s
  refine wpY_take (chkA_spec hA) (Region.noSelect_spec hs) hi (fun ch a w hq => hR ch _ _ w hq) false (fun _ => hpo) n E S a w hsh hrd hy (fun e => by cases e) (fun p hp => ⟨hE p hp, hin p hp⟩) ?_
  have ck := chkA_spec hA
  have hE' : ∀ p ∈ (i, v) :: E, YOf P ops p (a.put o.dst v) w := fun p hp => by
    rcases List.mem_cons.1 hp with rfl | hp
    · refine ⟨o, hi, (YAt.put (fun cs b => Region.noSelect_spec hs _ _ cs b hi) (ck.look i o i o hi hi (fun hm => ?_) (.inr hpo))).2 hy⟩
      have := ready_anc ck hsh hrd i hm
      rw [not_done hun] at this; cases this
    · obtain ⟨q', ho, hyo⟩ := hE p hp
      refine ⟨q', ho, (YAt.put (fun cs b => Region.noSelect_spec hs _ _ cs b ho) (ck.look p.1 q' i o ho hi (fun hm => ?_) (.inr ((hin p hp).2 _ ho)))).2 hyo⟩
      have := hsh p.1 (hin p hp).1 i hm
      rw [not_done hun] at this; cases this
  exact h hA hs hR (hsh.set ck hrd) (fun p hp => by
    rcases List.mem_cons.1 hp with rfl | hp
    · exact ⟨getD_set_self hun, fun o' ho' => by rw [hi] at ho'; cases ho'; exact hpo⟩
    · exact (hin p hp).set) _ w (by rw [hd]; exact g.put hdN v) s hE'

/-- What must be shown anew behind an operation that writes. -/
inductive ObE (P : Program) (c : Cx) (N : Nat) (T : Tm) (L : List Asrt) (ops : Array Oper) : List (Nat × Value) → Prop
  | nil : ObE P c N T L ops []
  | cons {i : Nat} {v : Value} {o : Oper} {E : List (Nat × Value)} (hi : ops[i]? = some o) (q : QG P c N T L ops o v) (r : ObE P c N T L ops E) : ObE P c N T L ops ((i, v) :: E)
theorem ObE.of {E : List (Nat × Value)} (h : ObE P c N T L ops E) {a : Act} {w : World} (g : Ag N a T) (s : St c L w) : ∀ p ∈ E, YOf P ops p a w := by
  induction h with
  | nil => intro p hp; simp at hp
  | cons hi q r ih =>
    intro p hp
    rcases List.mem_cons.1 hp with rfl | hp
    · exact ⟨_, hi, q a w g s⟩
    · exact ih p hp
/-- What an executed operation is followed by. -/
def DK (P : Program) (ops : Array Oper) (R : Exit → Act → World → Prop) (A : List (List Nat)) (E : List (Nat × Value)) (n : Nat) (S : Array Bool) (a : Act) (w : World) : Prop :=
  (∀ p ∈ E, YOf P ops p a w) ∧ wpY P .any ops R A E n S a w
structure Ok (ops : Array Oper) (R : Exit → Act → World → Prop) (A : List (List Nat)) (E : List (Nat × Value)) (S : Array Bool) : Prop where
  chk : chkA .any ops A = true
  sel : Region.noSelect ops = true
  hang : NoHang R
  shut : Shut A S
  ins : ∀ p ∈ E, Held ops S p
theorem DK.mk {E : List (Nat × Value)} {n : Nat} {S : Array Bool} (k : Ok ops R A E S) (ob : ObE P c N T L ops E) (h : DW P c N T L ops R A E n S) : KP c N T L (DK P ops R A E n S) := fun a w g s =>
  ⟨ob.of g s, h k.chk k.sel k.hang k.shut k.ins a w g s (ob.of g s)⟩
/-- An operation that is the only one which can come up. -/
theorem DW.exec {E E' : List (Nat × Value)} {n : Nat} {S : Array Bool} (i : Nat) (hi : ops[i]? = some ⟨dst, op, ty, pos, aft, none⟩) (hr : Region.ready .any ops S = [i]) (hE : still A i E = E')
    (h : Ok ops R A E' (S.setIfInBounds i true) → EW P c N T L ⟨dst, op, ty, pos, aft, none⟩ R (DK P ops R A E' n (S.setIfInBounds i true))) : DW P c N T L ops R A E (n + 1) S := fun hA hs hR hsh hin a w g s _ => by
  subst hE
  have hrd : i ∈ Region.ready .any ops S := by rw [hr]; simp
  refine ⟨fun e => (by rw [hr] at e; cases e), fun j hj => ?_⟩
  rw [hr] at hj
  simp at hj
  subst hj
  have h1 := h ⟨hA, hs, hR, hsh.set (chkA_spec hA) hrd, fun p hp => (hin p (List.mem_filter.1 hp).1).set⟩ a w g s
  unfold wpOp
  simp only [hi]
  rw [if_pos (show Region.wanted (⟨dst, op, ty, pos, aft, none⟩ : Oper) (yielded ops a.tmps) = true from rfl)]
  exact .inl h1
/-- .. that is wanted, or not, by a test. -/
theorem DW.exec_yes {E E' : List (Nat × Value)} {n : Nat} {S : Array Bool} (i : Nat) {j t : Nat} {b : Bool} (hi : ops[i]? = some ⟨dst, op, ty, pos, aft, some (j, b)⟩) (hr : Region.ready .any ops S = [i]) (hE : still A i E = E')
    (hj : (ops[j]?).bind (·.dst) = some t) (hv : T.lookup t = some (.bool b))
    (h : Ok ops R A E' (S.setIfInBounds i true) → EW P c N T L ⟨dst, op, ty, pos, aft, none⟩ R (DK P ops R A E' n (S.setIfInBounds i true))) : DW P c N T L ops R A E (n + 1) S := fun hA hs hR hsh hin a w g s _ => by
  subst hE
  have hrd : i ∈ Region.ready .any ops S := by rw [hr]; simp
  refine ⟨fun e => (by rw [hr] at e; cases e), fun j' hj' => ?_⟩
  rw [hr] at hj'
  simp at hj'
  subst hj'
  have h1 := h ⟨hA, hs, hR, hsh.set (chkA_spec hA) hrd, fun p hp => (hin p (List.mem_filter.1 hp).1).set⟩ a w g s
  unfold wpOp
  simp only [hi]
  rw [if_pos (show Region.wanted (⟨dst, op, ty, pos, aft, some (j, b)⟩ : Oper) (yielded ops a.tmps) = true by simp [Region.wanted, yielded_at g hj hv])]
  exact .inl h1
theorem DW.exec_no {E E' : List (Nat × Value)} {n : Nat} {S : Array Bool} (i : Nat) {j t d : Nat} {b : Bool} {vt : Value} (hi : ops[i]? = some ⟨some d, op, ty, pos, aft, some (j, b)⟩) (hr : Region.ready .any ops S = [i]) (hE : still A i E = E')
    (hj : (ops[j]?).bind (·.dst) = some t) (hv : T.lookup t = some vt) (hne : vt = .bool (!b) ∨ vt = undef) (hd : d < N)
    (h : Ok ops R A E' (S.setIfInBounds i true) → KP c N ((d, undef) :: T) L (DK P ops R A E' n (S.setIfInBounds i true))) : DW P c N T L ops R A E (n + 1) S := fun hA hs hR hsh hin a w g s _ => by
  subst hE
  have hrd : i ∈ Region.ready .any ops S := by rw [hr]; simp
  refine ⟨fun e => (by rw [hr] at e; cases e), fun j' hj' => ?_⟩
  rw [hr] at hj'
  simp at hj'
  subst hj'
  have h1 := h ⟨hA, hs, hR, hsh.set (chkA_spec hA) hrd, fun p hp => (hin p (List.mem_filter.1 hp).1).set⟩ _ w (g.put hd undef) s
  have hw : Region.wanted (⟨some d, op, ty, pos, aft, some (j, b)⟩ : Oper) (yielded ops a.tmps) = false := by
    rcases hne with rfl | rfl
    · simp only [Region.wanted, yielded_at g hj hv]; cases b <;> rfl
    · simp only [Region.wanted, yielded_at g hj hv]; rfl
  unfold wpOp
  simp only [hi]
  rw [if_neg (by rw [hw]; simp)]
  exact h1
theorem DW.done {E : List (Nat × Value)} {n : Nat} {S : Array Bool} (hr : Region.ready .any ops S = []) (h : KP c N T L (R .normal)) : DW P c N T L ops R A E n S := fun _ _ _ _ _ a w g s _ => by
  cases n with
  | zero => exact ⟨hr, h a w g s⟩
  | succ n => exact ⟨fun _ => h a w g s, by rw [hr]; simp⟩

theorem NoHang.then {K : Act → World → Prop} (h : NoHang R) : NoHang (Exit.then K R) := fun ch a a' w x => h ch a a' w x
theorem NoHang.block {i : Nat} (h : NoHang R) : NoHang (Exit.inBlock i R) := fun ch a a' w x => h ch a a' w x
theorem NoHang.body {fn : Func} {E : Ending → World → Prop} (h : ∀ ch w, ¬ E (.panicked ch) w) : NoHang (bodyPost P fn E) := fun ch a a' w x => absurd x.2 (h ch w)
theorem NoHang.post {fn : Func} {Q : Post} : NoHang (bodyPost P fn (PostE c Q)) := NoHang.body fun ch w h => by
  obtain ⟨v, h', e, _⟩ := h; cases e
end
end Go.Ink
