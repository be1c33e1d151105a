/- Ink0: heap fragments, assertions, the state of a walk (frame and world abstract), contracts; the rules for control flow. -/
import Derived.WalkKit
import Derived.Orders
import Derived.Deep.LoopGhost
namespace Go.Ink
open Go
set_option linter.unusedVariables false
set_option linter.unusedSimpArgs false

/-! ### fragments and assertions -/
abbrev Frag := Nat → Option Obj
def one (b : Nat) (o : Obj) : Frag := fun n => if n = b then some o else none
def Disj (h k : Frag) : Prop := ∀ b, h b = none ∨ k b = none
def Sub (h : Frag) (w : World) : Prop := ∀ b o, h b = some o → w.heap[b]? = some o
def Leq (h k : Frag) : Prop := ∀ b o, h b = some o → k b = some o
def cut (h k : Frag) : Frag := fun b => match h b with | none => k b | some _ => none

theorem Leq.refl (h : Frag) : Leq h h := fun _ _ x => x
theorem Leq.trans {h k l : Frag} (a : Leq h k) (b : Leq k l) : Leq h l := fun _ _ x => b _ _ (a _ _ x)
theorem Disj.symm {h k : Frag} (d : Disj h k) : Disj k h := fun b => (d b).symm
theorem Disj.mono {h k h' k' : Frag} (d : Disj h k) (a : Leq h' h) (b : Leq k' k) : Disj h' k' := fun x => by
  rcases d x with e | e
  · left; cases hx : h' x with
    | none => rfl
    | some o => rw [a _ _ hx] at e; cases e
  · right; cases hx : k' x with
    | none => rfl
    | some o => rw [b _ _ hx] at e; cases e
theorem Sub.mono {h k : Frag} {w : World} (s : Sub k w) (a : Leq h k) : Sub h w := fun _ _ x => s _ _ (a _ _ x)

abbrev Asrt := Frag → Prop
def SatL : List Asrt → Asrt
  | [] => fun _ => True
  | A :: L => fun h => ∃ h1 h2, Disj h1 h2 ∧ Leq h1 h ∧ Leq h2 h ∧ A h1 ∧ SatL L h2

theorem SatL.mono : ∀ {L : List Asrt} {h k : Frag}, SatL L h → Leq h k → SatL L k
  | [], _, _, _, _ => trivial
  | _ :: _, _, _, ⟨h1, h2, d, a, b, x, y⟩, le => ⟨h1, h2, d, a.trans le, b.trans le, x, y⟩

/-- Taking one assertion out of a list. -/
inductive Pick : List Asrt → Asrt → List Asrt → Prop
  | head {A : Asrt} {L : List Asrt} : Pick (A :: L) A L
  | tail {A B : Asrt} {L M : List Asrt} (h : Pick L A M) : Pick (B :: L) A (B :: M)

theorem Pick.sat {L M : List Asrt} {A : Asrt} (p : Pick L A M) : ∀ {h : Frag}, SatL L h → SatL (A :: M) h := by
  induction p with
  | head => exact id
  | tail p ih =>
    rintro h ⟨h1, h2, d, a, b, x, y⟩
    obtain ⟨k1, k2, d', a', b', x', y'⟩ := ih y
    refine ⟨k1, (fun n => (h1 n).or (k2 n)), ?_, a'.trans b, ?_, x', ?_⟩
    · intro n
      rcases d' n with e | e
      · exact .inl e
      · rcases d n with e1 | e1
        · right; simp [e, e1]
        · left; cases hk : k1 n with
          | none => rfl
          | some o => rw [a' _ _ hk] at e1; cases e1
    · intro n o hn
      simp only at hn
      cases h1n : h1 n with
      | none => rw [h1n] at hn; exact b _ _ (b' _ _ (by simpa using hn))
      | some u => rw [h1n] at hn; simp at hn; exact a _ _ (by rw [h1n, hn])
    · refine ⟨h1, k2, d.mono (Leq.refl _) b', ?_, ?_, x, y'⟩
      · intro n o hn; simp [hn]
      · intro n o hn
        rcases d n with e | e
        · simp [e, hn]
        · rw [b' _ _ hn] at e; cases e

/-! ### the state of a walk -/
structure Cx where
  w0 : World
  own : Frag
  ros : List Asrt

structure Fr (c : Cx) (h : Frag) (w : World) : Prop where
  os : w.os = c.w0.os
  tape : w.tape = c.w0.tape
  output : w.output = c.w0.output
  size : c.w0.heap.size ≤ w.heap.size
  block : ∀ b, b < c.w0.heap.size → c.own b = none → w.heap[b]? = c.w0.heap[b]? ∧ h b = none
  ros : ∀ A, A ∈ c.ros → ∃ hr, A hr ∧ Sub hr c.w0 ∧ Disj hr c.own

def St (c : Cx) (L : List Asrt) (w : World) : Prop := ∃ h, SatL L h ∧ Sub h w ∧ Fr c h w

theorem lt_of_heap {w : World} {b : Nat} {o : Obj} (h : w.heap[b]? = some o) : b < w.heap.size := (Array.getElem?_eq_some_iff.1 h).1

theorem Fr.mono {c : Cx} {h k : Frag} {w : World} (f : Fr c k w) (a : Leq h k) : Fr c h w :=
  ⟨f.os, f.tape, f.output, f.size, fun b hb ho => ⟨(f.block b hb ho).1, by
    cases e : h b with
    | none => rfl
    | some o => have := (f.block b hb ho).2; rw [a _ _ e] at this; cases this⟩, f.ros⟩

abbrev Tm := List (Nat × Value)
structure Ag (N : Nat) (a : Act) (T : Tm) : Prop where
  size : a.tmps.size = N
  defers : a.defers = []
  at_ : ∀ t v, T.lookup t = some v → a.tmps[t]? = some v

/-- K holds of every frame that agrees with T and every world in which L stands. -/
def KP (c : Cx) (N : Nat) (T : Tm) (L : List Asrt) (K : Act → World → Prop) : Prop := ∀ a w, Ag N a T → St c L w → K a w

def ev (T : Tm) : Operand → Option Value
  | .tmp t => T.lookup t
  | .const v => some v
  | .global g => some (.pointer (some ⟨g, 0, none⟩))
  | .func f => some (.func (.func f) #[] #[])

theorem Ag.ev {N : Nat} {a : Act} {T : Tm} (g : Ag N a T) {x : Operand} {v : Value} (h : ev T x = some v) : a.eval x = v := by
  cases x with
  | tmp t =>
    have := g.at_ t v h
    simp [Act.eval, this]
  | const u => exact Option.some.inj h
  | global u => exact Option.some.inj h
  | func u => exact Option.some.inj h

theorem Ag.put {N : Nat} {a : Act} {T : Tm} (g : Ag N a T) {d : Nat} (hd : d < N) (v : Value) : Ag N (a.put (some d) v) ((d, v) :: T) := by
  refine ⟨by simp [Act.put, g.size], g.defers, fun t u h => ?_⟩
  have hs := g.size
  simp only [List.lookup] at h
  by_cases e : t = d
  · subst e
    simp at h
    subst h
    simp [Act.put, hs, hd]
  · have : (t == d) = false := by simpa using e
    rw [this] at h
    simp only [Act.put]
    rw [Array.getElem?_setIfInBounds_ne (fun x => e x.symm)]
    exact g.at_ t u h

theorem Ag.sub {N : Nat} {a : Act} {T T' : Tm} (g : Ag N a T) (h : ∀ t v, T'.lookup t = some v → T.lookup t = some v) : Ag N a T' :=
  ⟨g.size, g.defers, fun t v x => g.at_ t v (h t v x)⟩

/-- T' tells, of the slots ks, what T tells. -/
inductive Keeps (T : Tm) : List Nat → Tm → Prop
  | nil : Keeps T [] []
  | cons {k : Nat} {v : Value} {ks : List Nat} {T' : Tm} (h : T.lookup k = some v) (r : Keeps T ks T') : Keeps T (k :: ks) ((k, v) :: T')

theorem Keeps.sub {T T' : Tm} {ks : List Nat} (k : Keeps T ks T') : ∀ t v, T'.lookup t = some v → T.lookup t = some v := by
  induction k with
  | nil => intro t v h; simp at h
  | cons h r ih =>
    rename_i k u ks T'
    intro t v ht
    simp only [List.lookup] at ht
    by_cases e : t = k
    · subst e; simp at ht; subst ht; exact h
    · have : (t == k) = false := by simpa using e
      rw [this] at ht
      exact ih t v ht

section
variable {c : Cx} {N : Nat} {T T' : Tm} {L L' : List Asrt} {K K' : Act → World → Prop}

theorem KP.mono (h : KP c N T L K) (hk : ∀ a w, K a w → K' a w) : KP c N T L K' := fun a w g s => hk _ _ (h a w g s)
theorem KP.keep (ks : List Nat) (k : Keeps T ks T') (h : KP c N T' L K) : KP c N T L K := fun a w g s => h a w (g.sub k.sub) s

theorem St.pick {w : World} {M : List Asrt} {A : Asrt} (p : Pick L A M) (s : St c L w) : St c (A :: M) w :=
  let ⟨h, x, y, z⟩ := s; ⟨h, p.sat x, y, z⟩
theorem KP.pick {M : List Asrt} {A : Asrt} (p : Pick L A M) (h : KP c N T (A :: M) K) : KP c N T L K := fun a w g s => h a w g (s.pick p)
theorem St.drop {w : World} {A : Asrt} (s : St c (A :: L) w) : St c L w := by
  obtain ⟨h, ⟨h1, h2, _, _, b, _, y⟩, hs, hf⟩ := s
  exact ⟨h, y.mono b, hs, hf⟩
theorem KP.drop {A : Asrt} (h : KP c N T L K) : KP c N T (A :: L) K := fun a w g s => h a w g s.drop
theorem KP.drops {M : List Asrt} {A : Asrt} (p : Pick L A M) (h : KP c N T M K) : KP c N T L K := fun a w g s => h a w g (s.pick p).drop

/-- Entailment of lists: by picking, one after another. -/
inductive Ent : List Asrt → List Asrt → Prop
  | nil {L : List Asrt} : Ent L []
  | cons {L M R : List Asrt} {A : Asrt} (p : Pick L A M) (r : Ent M R) : Ent L (A :: R)
theorem Ent.sat {L R : List Asrt} (e : Ent L R) : ∀ {h : Frag}, SatL L h → SatL R h := by
  induction e with
  | nil => intro h _; trivial
  | cons p r ih =>
    intro h s
    obtain ⟨h1, h2, d, a, b, x, y⟩ := p.sat s
    exact ⟨h1, h2, d, a, b, x, ih y⟩
theorem St.ent {w : World} (e : Ent L L') (s : St c L w) : St c L' w := let ⟨h, x, y, z⟩ := s; ⟨h, e.sat x, y, z⟩
theorem KP.ent (e : Ent L L') (h : KP c N T L' K) : KP c N T L K := fun a w g s => h a w g (s.ent e)

/-- What an assertion says may be turned, its fragment as it is. -/
theorem St.imp {w : World} {A B : Asrt} (i : ∀ h, A h → B h) (s : St c (A :: L) w) : St c (B :: L) w := by
  obtain ⟨h, ⟨h1, h2, d, a, b, x, y⟩, hs, hf⟩ := s
  exact ⟨h, ⟨h1, h2, d, a, b, i _ x, y⟩, hs, hf⟩
theorem KP.imp {A B : Asrt} (i : ∀ h, A h → B h) (h : KP c N T (B :: L) K) : KP c N T (A :: L) K := fun a w g s => h a w g (s.imp i)

/-! ### existentials, facts, lists inside an assertion -/
def ExA {α : Sort _} (f : α → Asrt) : Asrt := fun h => ∃ x, f x h
def PuA (p : Prop) (A : Asrt) : Asrt := fun h => p ∧ A h
def LiA (M : List Asrt) : Asrt := SatL M

theorem KP.exA {α : Sort _} {f : α → Asrt} (h : ∀ x, KP c N T (f x :: L) K) : KP c N T (ExA f :: L) K := fun a w g s => by
  obtain ⟨hh, ⟨h1, h2, d, aa, b, ⟨x, hx⟩, y⟩, hs, hf⟩ := s
  exact h x a w g ⟨hh, ⟨h1, h2, d, aa, b, hx, y⟩, hs, hf⟩
theorem KP.puA {p : Prop} {A : Asrt} (h : p → KP c N T (A :: L) K) : KP c N T (PuA p A :: L) K := fun a w g s => by
  obtain ⟨hh, ⟨h1, h2, d, aa, b, ⟨hp, hx⟩, y⟩, hs, hf⟩ := s
  exact h hp a w g ⟨hh, ⟨h1, h2, d, aa, b, hx, y⟩, hs, hf⟩

theorem SatL.append : ∀ {M L : List Asrt} {h1 h2 h : Frag}, Disj h1 h2 → Leq h1 h → Leq h2 h → SatL M h1 → SatL L h2 → SatL (M ++ L) h
  | [], _, _, _, _, _, _, b, _, y => y.mono b
  | A :: M, L, h1, h2, h, d, a, b, ⟨k1, k2, d', a', b', x, s⟩, y => by
    refine ⟨k1, (fun n => (k2 n).or (h2 n)), ?_, a'.trans a, ?_, x, ?_⟩
    · intro n
      rcases d' n with e | e
      · exact .inl e
      · rcases d n with e1 | e1
        · left; cases hk : k1 n with
          | none => rfl
          | some o => rw [a' _ _ hk] at e1; cases e1
        · right; simp [e, e1]
    · intro n o hn
      simp only at hn
      cases h1n : k2 n with
      | none => rw [h1n] at hn; exact b _ _ (by simpa using hn)
      | some u => rw [h1n] at hn; simp at hn; exact a _ _ (b' _ _ (by rw [h1n, hn]))
    · refine SatL.append (d.mono b' (Leq.refl _)) ?_ ?_ s y
      · intro n o hn; simp [hn]
      · intro n o hn
        rcases d n with e | e
        · cases hk : k2 n with
          | none => simp [hk, hn]
          | some u => rw [b' _ _ hk] at e; cases e
        · rw [hn] at e; cases e
theorem KP.liA {M : List Asrt} (h : KP c N T (M ++ L) K) : KP c N T (LiA M :: L) K := fun a w g s => by
  obtain ⟨hh, ⟨h1, h2, d, aa, b, x, y⟩, hs, hf⟩ := s
  exact h a w g ⟨hh, SatL.append d aa b x y, hs, hf⟩
end

/-! ### contracts -/
abbrev Post := Value → Asrt
def ret (v0 : Value) (M : List Asrt) : Post := fun v h => v = v0 ∧ SatL M h
def exP {α : Sort _} (f : α → Post) : Post := fun v h => ∃ x, f x v h
def puP (p : Prop) (Q : Post) : Post := fun v h => p ∧ Q v h

structure Trans (w : World) (h : Frag) (w' : World) (h' : Frag) : Prop where
  os : w'.os = w.os
  tape : w'.tape = w.tape
  output : w'.output = w.output
  size : w.heap.size ≤ w'.heap.size
  block : ∀ b, b < w.heap.size → h b = none → w'.heap[b]? = w.heap[b]? ∧ h' b = none

def Done (w : World) (h : Frag) (Q : Post) (e : Ending) (w' : World) : Prop :=
  ∃ v h', e = .returned v ∧ Q v h' ∧ Sub h' w' ∧ Trans w h w' h'

def RoAt (ros : List Asrt) (h : Frag) (w : World) : Prop := ∀ A, A ∈ ros → ∃ hr, A hr ∧ Sub hr w ∧ Disj hr h

/-- The contract of a function: ros: what it only reads (and what may be shared); L: what it owns; Q: what it hands back. -/
def Spc (P : Program) (f : FuncId) (args : Array Value) (ros L : List Asrt) (Q : Post) : Prop :=
  ∀ w h, SatL L h → Sub h w → RoAt ros h w → Calls P f args w (Done w h Q)

/-- What a body must come to. -/
def PostE (c : Cx) (Q : Post) : Ending → World → Prop := Done c.w0 c.own Q

def CW (P : Program) (c : Cx) (N : Nat) (T : Tm) (L : List Asrt) (code : Code) (Q : Exit → Act → World → Prop) : Prop :=
  KP c N T L (fun a w => code.wp P Q a w)

theorem lookup_args (args : List Value) : ∀ (k t : Nat) (v : Value), ((List.range' k args.length).zip args).lookup t = some v → k ≤ t ∧ args[t - k]? = some v := by
  induction args with
  | nil => intro k t v h; simp at h
  | cons x xs ih =>
    intro k t v h
    simp only [List.length_cons, List.range'_succ, List.zip_cons_cons, List.lookup] at h
    by_cases e : t = k
    · subst e; simp at h; subst h; simp
    · have e' : (t == k) = false := by simpa using e
      rw [e'] at h
      obtain ⟨h1, h2⟩ := ih (k + 1) t v h
      refine ⟨by omega, ?_⟩
      rw [show t - k = (t - (k + 1)) + 1 by omega]
      simpa using h2

theorem Spc.enter {P : Program} {f : FuncId} {fn : Func} {code : Code} {args : List Value} {ros L : List Asrt} {Q : Post} {N : Nat}
    (hf : P.funcs[f]? = some fn) (hb : fn.body = some code) (hN : fn.ntmps = N) (hle : args.length ≤ N)
    (h : ∀ c : Cx, c.ros = ros → CW P c N ((List.range' 0 args.length).zip args) L code (bodyPost P fn (PostE c Q))) : Spc P f args.toArray ros L Q := by
  intro w h0 hL hs hro
  refine calls_of_wp hf hb ?_
  refine h ⟨w, h0, ros⟩ rfl _ _ ⟨?_, rfl, ?_⟩ ⟨h0, hL, hs, rfl, rfl, rfl, Nat.le_refl _, fun b _ ho => ⟨rfl, ho⟩, hro⟩
  · simp [hN]; omega
  · intro t v ht
    obtain ⟨_, h2⟩ := lookup_args args 0 t v ht
    have h2' : args[t]? = some v := by simpa using h2
    have hlt : t < args.length := (List.getElem?_eq_some_iff.1 h2').1
    rw [Array.getElem?_append_left (by simpa using hlt)]
    simpa using h2'

/-- .. the frame told slot by slot. -/
theorem Spc.enter' {P : Program} {f : FuncId} {fn : Func} {code : Code} {args : List Value} {ros L : List Asrt} {Q : Post} {N : Nat} {T0 : Tm}
    (hf : P.funcs[f]? = some fn) (hb : fn.body = some code) (hN : fn.ntmps = N) (hle : args.length ≤ N) (hT : (List.range' 0 args.length).zip args = T0)
    (h : ∀ w0 own, CW P ⟨w0, own, ros⟩ N T0 L code (bodyPost P fn (PostE ⟨w0, own, ros⟩ Q))) : Spc P f args.toArray ros L Q :=
  Spc.enter hf hb hN hle fun c hc => by cases c; subst hc; subst hT; exact h _ _

/-! ### the end of a walk -/
section
variable {P : Program} {c : Cx} {N : Nat} {T : Tm} {L : List Asrt} {fn : Func} {Q : Post}

theorem done_of {w : World} {v : Value} {h' : Frag} (hq : Q v h') (hs : Sub h' w) (hf : Fr c h' w) : PostE c Q (.returned v) w :=
  ⟨v, h', rfl, hq, hs, ⟨hf.os, hf.tape, hf.output, hf.size, hf.block⟩⟩

/-- From what stands at the end to the post: Q's fragment is a part of what is owned. -/
def Fina (L : List Asrt) (v : Value) (Q : Post) : Prop := ∀ h, SatL L h → ∃ k, Leq k h ∧ Q v k

theorem Fina.done {w : World} {v : Value} (f : Fina L v Q) (s : St c L w) : PostE c Q (.returned v) w := by
  obtain ⟨h, x, y, z⟩ := s
  obtain ⟨k, le, q⟩ := f h x
  exact done_of q (y.mono le) (z.mono le)

theorem Fina.ret {v0 : Value} {M : List Asrt} (e : Ent L M) : Fina L v0 (Ink.ret v0 M) := fun h s => ⟨h, Leq.refl _, rfl, e.sat s⟩
theorem Fina.ret' {v0 v : Value} {M : List Asrt} (hv : v = v0) (e : Ent L M) : Fina L v (Ink.ret v0 M) := fun h s => ⟨h, Leq.refl _, hv, e.sat s⟩
theorem Fina.exP {α : Sort _} {f : α → Post} {v : Value} (x : α) (h : Fina L v (f x)) : Fina L v (Ink.exP f) := fun h' s =>
  let ⟨k, le, q⟩ := h h' s; ⟨k, le, x, q⟩
theorem Fina.puP {p : Prop} {v : Value} (hp : p) (h : Fina L v Q) : Fina L v (Ink.puP p Q) := fun h' s =>
  let ⟨k, le, q⟩ := h h' s; ⟨k, le, hp, q⟩
theorem Fina.imp {L' : List Asrt} {v : Value} (i : ∀ h, SatL L h → SatL L' h) (h : Fina L' v Q) : Fina L v Q := fun h' s => h h' (i _ s)

/-- One result, in a slot. -/
theorem KP.fin1 {t : Nat} {v : Value} (hr : fn.results = #[.tmp t]) (hv : T.lookup t = some v) (f : Fina L v Q) :
    KP c N T L (bodyPost P fn (PostE c Q) .ret) := fun a w g s =>
  bodyPost_ret (v := v) (by rw [results_tmp hr]; simp [g.at_ t v hv]) g.defers (f.done s)
theorem KP.fin0 (hr : fn.results = #[]) (f : Fina L (.tuple #[]) Q) :
    KP c N T L (bodyPost P fn (PostE c Q) .normal) := fun a w g s =>
  bodyPost_end (v := .tuple #[]) (results_none hr _ _ _) g.defers (f.done s)
theorem KP.fin0r (hr : fn.results = #[]) (f : Fina L (.tuple #[]) Q) :
    KP c N T L (bodyPost P fn (PostE c Q) .ret) := fun a w g s =>
  bodyPost_ret (v := .tuple #[]) (results_none hr _ _ _) g.defers (f.done s)
theorem KP.fin2 {t u : Nat} {v x : Value} (hr : fn.results = #[.tmp t, .tmp u]) (hv : T.lookup t = some v) (hx : T.lookup u = some x) (f : Fina L (.tuple #[v, x]) Q) :
    KP c N T L (bodyPost P fn (PostE c Q) .ret) := fun a w g s =>
  bodyPost_ret (v := .tuple #[v, x]) (by rw [results_tmp2 hr]; simp [g.at_ t v hv, g.at_ u x hx]) g.defers (f.done s)

/-! ### control flow -/
variable {R : Exit → Act → World → Prop} {x y : Code}
theorem CW.seq (h : CW P c N T L x (Exit.then (fun a w => y.wp P R a w) R)) : CW P c N T L (.seq x y) R := fun a w g s => wp_seq (h a w g s)
theorem CW.skip (h : KP c N T L (R .normal)) : CW P c N T L .skip R := fun a w g s => wp_skip (h a w g s)
theorem CW.exit {i : Nat} (h : KP c N T L (R (.exit i))) : CW P c N T L (.exit i) R := fun a w g s => wp_exit (h a w g s)
theorem CW.ret (h : KP c N T L (R .ret)) : CW P c N T L .ret R := fun a w g s => wp_ret (h a w g s)
theorem CW.block {i : Nat} (h : CW P c N T L x (Exit.inBlock i R)) : CW P c N T L (.block i x) R := fun a w g s => wp_block (h a w g s)
theorem CW.cond_t {o : Operand} (hc : ev T o = some (.bool true)) (h : CW P c N T L x R) : CW P c N T L (.cond o x y) R := fun a w g s => wp_cond_true (g.ev hc) (h a w g s)
theorem CW.cond_f {o : Operand} (hc : ev T o = some (.bool false)) (h : CW P c N T L y R) : CW P c N T L (.cond o x y) R := fun a w g s => wp_cond_false (g.ev hc) (h a w g s)
theorem CW.cond {o : Operand} {b : Bool} (hc : ev T o = some (.bool b)) (ht : b = true → CW P c N T L x R) (hf : b = false → CW P c N T L y R) : CW P c N T L (.cond o x y) R := fun a w g s =>
  wp_cond_split (g.ev hc) (fun e => ht e a w g s) (fun e => hf e a w g s)
theorem CW.condP {o : Operand} {p : Prop} {inst : Decidable p} (hc : ev T o = some (.bool (@decide p inst))) (ht : p → CW P c N T L x R) (hf : ¬ p → CW P c N T L y R) : CW P c N T L (.cond o x y) R :=
  CW.cond hc (fun e => ht (of_decide_eq_true e)) (fun e => hf (of_decide_eq_false e))

/-! what an exit meets -/
theorem KP.then_normal {K : Act → World → Prop} (h : KP c N T L K) : KP c N T L (Exit.then K R .normal) := h
theorem KP.then_code (h : CW P c N T L y R) : KP c N T L (Exit.then (fun a w => y.wp P R a w) R .normal) := h
theorem KP.then_ret {K : Act → World → Prop} (h : KP c N T L (R .ret)) : KP c N T L (Exit.then K R .ret) := h
theorem KP.then_exit {K : Act → World → Prop} {i : Nat} (h : KP c N T L (R (.exit i))) : KP c N T L (Exit.then K R (.exit i)) := h
theorem KP.block_normal {i : Nat} (h : KP c N T L (R .normal)) : KP c N T L (Exit.inBlock i R .normal) := h
theorem KP.block_ret {i : Nat} (h : KP c N T L (R .ret)) : KP c N T L (Exit.inBlock i R .ret) := h
theorem KP.block_hit {i : Nat} (h : KP c N T L (R .normal)) : KP c N T L (Exit.inBlock i R (.exit i)) := fun a w g s => by simpa [Exit.inBlock] using h a w g s
theorem KP.block_miss {i j : Nat} (hne : (j == i) = false) (h : KP c N T L (R (.exit j))) : KP c N T L (Exit.inBlock i R (.exit j)) := fun a w g s => by
  have : ¬ j = i := by simpa using hne
  simpa [Exit.inBlock, this] using h a w g s

/-- A loop: x runs over what the rounds are told by; m: what goes down. -/
def LoopK {X : Type _} (c : Cx) (N : Nat) (Tx : X → Tm) (Lx : X → List Asrt) (pre : X → Prop) (m : X → Nat) (n : Nat) (a : Act) (w : World) : Prop :=
  ∃ z, pre z ∧ m z < n ∧ Ag N a (Tx z) ∧ St c (Lx z) w
theorem CW.loop {X : Type _} (Tx : X → Tm) (Lx : X → List Asrt) (pre : X → Prop) (m : X → Nat) (x0 : X) {ks : List Nat} (h0 : pre x0) (hT : Keeps T ks (Tx x0)) (hL : Ent L (Lx x0))
    (round : ∀ z, pre z → CW P c N (Tx z) (Lx z) x (Exit.then (LoopK c N Tx Lx pre m (m z)) R)) : CW P c N T L (.loop x) R := fun a w g s => by
  refine wp_loop_ghost (fun n a w => ∃ z, pre z ∧ m z = n ∧ Ag N a (Tx z) ∧ St c (Lx z) w) (m x0) ⟨x0, h0, rfl, g.sub hT.sub, s.ent hL⟩ ?_
  rintro n a w ⟨z, hp, rfl, hg, hs⟩
  refine Code.wp_mono (fun e a w q => ?_) (round z hp a w hg hs)
  cases e with
  | normal => obtain ⟨z', h1, h2, h3, h4⟩ := q; exact ⟨m z', h2, z', h1, rfl, h3, h4⟩
  | _ => exact q
theorem KP.round {X : Type _} {Tx : X → Tm} {Lx : X → List Asrt} {pre : X → Prop} {m : X → Nat} {n : Nat} (z : X) {ks : List Nat} (hp : pre z) (hm : m z < n) (hT : Keeps T ks (Tx z)) (hL : Ent L (Lx z)) :
    KP c N T L (Exit.then (LoopK c N Tx Lx pre m n) R .normal) := fun _ _ g s => ⟨z, hp, hm, g.sub hT.sub, s.ent hL⟩
end
end Go.Ink
