/- Ink6: maps. A map's block is told by the list of its keys and elements. -/
import Derived.Test.YtpmhelfdmhjnbaaInk5
namespace Go.Ink
open Go
set_option linter.unusedVariables false
set_option linter.unusedSimpArgs false

section
variable {κ υ : Type}
theorem entries_len {ek : κ → Value} {ev : υ → Value} {es : Array MapEntry} {m : List (κ × υ)} (h : es.toList.map (fun e => (e.key, e.val)) = m.map (fun p => (ek p.1, ev p.2))) : es.size = m.length := by
  have := congrArg List.length h; simpa using this
theorem entries_keys {ek : κ → Value} {ev : υ → Value} {es : Array MapEntry} {m : List (κ × υ)} (h : es.toList.map (fun e => (e.key, e.val)) = m.map (fun p => (ek p.1, ev p.2))) : es.toList.map (·.key) = (m.map (·.1)).map ek := by
  have := congrArg (List.map Prod.fst) h
  simpa [List.map_map, Function.comp_def] using this
theorem entries_at {ek : κ → Value} {ev : υ → Value} {es : Array MapEntry} {m : List (κ × υ)} (h : es.toList.map (fun e => (e.key, e.val)) = m.map (fun p => (ek p.1, ev p.2))) {i : Nat} {k : κ} {v : υ} (hm : m[i]? = some (k, v)) : ∃ e, es.toList[i]? = some e ∧ e.key = ek k ∧ e.val = ev v := by
  have := congrArg (fun l => l[i]?) h
  simp only [List.getElem?_map, hm, Option.map_some] at this
  cases he : es.toList[i]? with
  | none => simp [he] at this
  | some e => simp [he] at this; exact ⟨e, rfl, this.1, this.2⟩

theorem map_eraseIdx' {α β : Type} (f : α → β) : ∀ (l : List α) (i : Nat), (l.eraseIdx i).map f = (l.map f).eraseIdx i
  | [], _ => by simp
  | _ :: l, 0 => by simp
  | _ :: l, i + 1 => by simp [map_eraseIdx' f l i]
variable [DecidableEq κ]

def mget (m : List (κ × υ)) (k : κ) : Option υ := (m.find? fun p => decide (p.1 = k)).map (·.2)
def mput (m : List (κ × υ)) (k : κ) (v : υ) : List (κ × υ) := if (mget m k).isSome then m.map (fun p => if p.1 = k then (k, v) else p) else m ++ [(k, v)]
def mdel (m : List (κ × υ)) (k : κ) : List (κ × υ) := m.filter fun p => decide (p.1 ≠ k)

def mapA (ek : κ → Value) (ev : υ → Value) (b : Nat) (m : List (κ × υ)) : Asrt := fun h =>
  (m.map (·.1)).Nodup ∧ ∃ es clock, h = one b (.map es clock) ∧ es.toList.map (fun e => (e.key, e.val)) = m.map (fun p => (ek p.1, ev p.2))

/-- What a type of keys must give. -/
class KeyE (P : Program) (kt : TypeId) (ek : κ → Value) : Prop where
  check : ∀ (e : Bool) (k : κ) (w : World), (Instr.checkKey e 10000 kt (ek k)).run P w = .ok () w
  find : ∀ (k : κ) (ks : List κ) (es : List MapEntry) (w : World), es.map (·.key) = ks.map ek →
    (Instr.findKey kt (ek k) es).run P w = .ok ((ks.findIdx? fun k' => decide (k' = k)).bind fun i => (es[i]?).map fun e => (i, e.val)) w
  bits : ∀ k : κ, Instr.sameBits 10000 (ek k) (ek k) = true

theorem mget_findIdx : ∀ (m : List (κ × υ)) (k : κ), mget m k = ((m.map (·.1)).findIdx? fun k' => decide (k' = k)).bind fun i => (m[i]?).map (·.2)
  | [], k => by simp [mget]
  | p :: m, k => by
    have ih := mget_findIdx m k
    simp only [mget] at ih ⊢
    simp only [List.map_cons, List.findIdx?_cons, List.find?_cons]
    by_cases h : p.1 = k
    · simp [h]
    · simp only [h, decide_false, Bool.false_eq_true, if_false, ih]
      cases (m.map (·.1)).findIdx? fun k' => decide (k' = k) <;> simp

/-- Found: where. -/
theorem mget_some {m : List (κ × υ)} {k : κ} {v : υ} (h : mget m k = some v) : ∃ i, ((m.map (·.1)).findIdx? fun k' => decide (k' = k)) = some i ∧ m[i]? = some (k, v) := by
  rw [mget_findIdx] at h
  cases hi : (m.map (·.1)).findIdx? fun k' => decide (k' = k) with
  | none => simp [hi] at h
  | some i =>
    rw [hi] at h
    simp only [Option.bind_some] at h
    refine ⟨i, rfl, ?_⟩
    obtain ⟨hlt, hp, _⟩ := List.findIdx?_eq_some_iff_getElem.1 hi
    cases hm : m[i]? with
    | none => simp [hm] at h
    | some p =>
      simp [hm] at h
      have : p.1 = k := by
        have hlt' : i < m.length := by simpa using hlt
        have e : m[i] = p := by rw [List.getElem?_eq_getElem hlt'] at hm; exact Option.some.inj hm
        simpa [e] using hp
      rw [← this, ← h]
theorem mget_none {m : List (κ × υ)} {k : κ} (h : mget m k = none) : ((m.map (·.1)).findIdx? fun k' => decide (k' = k)) = none := by
  rw [mget_findIdx] at h
  cases hi : (m.map (·.1)).findIdx? fun k' => decide (k' = k) with
  | none => rfl
  | some i =>
    rw [hi] at h
    obtain ⟨hlt, _, _⟩ := List.findIdx?_eq_some_iff_getElem.1 hi
    have hlt' : i < m.length := by simpa using hlt
    simp [List.getElem?_eq_getElem hlt'] at h
theorem mget_none_mem {m : List (κ × υ)} {k : κ} (h : mget m k = none) : k ∉ m.map (·.1) := by
  have := mget_none h
  rw [List.findIdx?_eq_none_iff] at this
  intro hm
  have := this k hm
  simp at this

variable {P : Program} {c : Cx} {N : Nat} {T : Tm} {L M L1 : List Asrt} {K : Act → World → Prop} {R : Exit → Act → World → Prop} {w : World} {A B : Asrt}
variable {dst : Option Tmp} {gd : Option (Nat × Bool)} {x y s : Operand} {u v : Value} {ty t kt e : TypeId} {pos : String} {aft : Array Edge} {b off o n d : Nat} {cs : List Value}
variable {ek : κ → Value} {ev' : υ → Value} {m : List (κ × υ)} {k : κ} {q : υ}

theorem run_getObj_map {es : Array MapEntry} {cl : Nat} (h : w.heap[b]? = some (.map es cl)) : (getObj b).run P w = .ok (.map es cl) w := by simp [getObj, Sem.run, h]

theorem mapA.look [KE : KeyE P kt ek] {h : Frag} (ha : mapA ek ev' b m h) (hs : Sub h w) : ∃ es cl, w.heap[b]? = some (.map es cl) ∧ es.toList.map (fun e => (e.key, e.val)) = m.map (fun p => (ek p.1, ev' p.2)) ∧
    (∀ k q, mget m k = some q → ∃ i, ((m.map (·.1)).findIdx? fun k' => decide (k' = k)) = some i ∧ m[i]? = some (k, q) ∧ (Instr.findKey kt (ek k) es.toList).run P w = .ok (some (i, ev' q)) w) ∧
    (∀ k, mget m k = none → (Instr.findKey kt (ek k) es.toList).run P w = .ok none w) := by
  obtain ⟨_, es, cl, rfl, he⟩ := ha
  refine ⟨es, cl, hs _ _ (one_self _ _), he, fun k q hk => ?_, fun k hk => ?_⟩
  · obtain ⟨i, hi, hm⟩ := mget_some hk
    obtain ⟨en, h1, h2, h3⟩ := entries_at he hm
    refine ⟨i, hi, hm, ?_⟩
    rw [KE.find k (m.map (·.1)) es.toList w (entries_keys he), hi]
    simp only [Option.bind_some, h1, Option.map_some, h3]
  · rw [KE.find k (m.map (·.1)) es.toList w (entries_keys he), mget_none hk]; rfl

theorem QY.lookup_some [MapT P t kt e] [KeyE P kt ek] (hx : ev T x = some (.map (some b))) (hy : ev T y = some (ek k)) (r : Rd c L (mapA ek ev' b m)) (hk : mget m k = some q) : QY P c N T L ⟨dst, .lookup t x y false, ty, pos, aft, gd⟩ (ev' q) := fun a w g st => by
  have hM : MapT P t kt e := inferInstance
  have hu := hM.out
  have hKE : KeyE P kt ek := inferInstance
  obtain ⟨h, ha, hs⟩ := r.frag st
  obtain ⟨es, cl, h1, _, h3, _⟩ := ha.look (P := P) (kt := kt) hs
  obtain ⟨i, _, _, h4⟩ := h3 k q hk
  simp [execOp, g.ev hx, g.ev hy, Instr.lookup, run_underlying hu, run_getObj_map (P := P) h1, hKE.check, h4]
theorem QY.lookup_none {by_ : Nat} {z : Value} [MapT P t kt e] [KeyE P kt ek] [TyI P e n by_ z] (hx : ev T x = some (.map (some b))) (hy : ev T y = some (ek k)) (r : Rd c L (mapA ek ev' b m)) (hk : mget m k = none) : QY P c N T L ⟨dst, .lookup t x y false, ty, pos, aft, gd⟩ z := fun a w g st => by
  have hM : MapT P t kt e := inferInstance
  have hu := hM.out
  have hKE : KeyE P kt ek := inferInstance
  obtain ⟨h, ha, hs⟩ := r.frag st
  obtain ⟨es, cl, h1, _, _, h3⟩ := ha.look (P := P) (kt := kt) hs
  simp [execOp, g.ev hx, g.ev hy, Instr.lookup, run_underlying hu, run_getObj_map (P := P) h1, hKE.check, h3 k hk, run_zero_ty e]
theorem QY.lookup2_some [MapT P t kt e] [KeyE P kt ek] (hx : ev T x = some (.map (some b))) (hy : ev T y = some (ek k)) (r : Rd c L (mapA ek ev' b m)) (hk : mget m k = some q) : QY P c N T L ⟨dst, .lookup t x y true, ty, pos, aft, gd⟩ (.tuple #[ev' q, .bool true]) := fun a w g st => by
  have hM : MapT P t kt e := inferInstance
  have hu := hM.out
  have hKE : KeyE P kt ek := inferInstance
  obtain ⟨h, ha, hs⟩ := r.frag st
  obtain ⟨es, cl, h1, _, h3, _⟩ := ha.look (P := P) (kt := kt) hs
  obtain ⟨i, _, _, h4⟩ := h3 k q hk
  simp [execOp, g.ev hx, g.ev hy, Instr.lookup, run_underlying hu, run_getObj_map (P := P) h1, hKE.check, h4]
theorem QY.lookup2_none {by_ : Nat} {z : Value} [MapT P t kt e] [KeyE P kt ek] [TyI P e n by_ z] (hx : ev T x = some (.map (some b))) (hy : ev T y = some (ek k)) (r : Rd c L (mapA ek ev' b m)) (hk : mget m k = none) : QY P c N T L ⟨dst, .lookup t x y true, ty, pos, aft, gd⟩ (.tuple #[z, .bool false]) := fun a w g st => by
  have hM : MapT P t kt e := inferInstance
  have hu := hM.out
  have hKE : KeyE P kt ek := inferInstance
  obtain ⟨h, ha, hs⟩ := r.frag st
  obtain ⟨es, cl, h1, _, _, h3⟩ := ha.look (P := P) (kt := kt) hs
  simp [execOp, g.ev hx, g.ev hy, Instr.lookup, run_underlying hu, run_getObj_map (P := P) h1, hKE.check, h3 k hk, run_zero_ty e]
omit [DecidableEq κ] in
theorem QY.len_map [MapT P t kt e] (hx : ev T x = some (.map (some b))) (r : Rd c L (mapA ek ev' b m)) : QY P c N T L ⟨dst, .call { callee := .builtin .len, args := #[x], argTypes := #[t] }, ty, pos, aft, gd⟩ (.int .i64 m.length) := fun a w g st => by
  have hM : MapT P t kt e := inferInstance
  have hu := hM.out
  obtain ⟨h, ⟨_, es, cl, rfl, he⟩, hs⟩ := r.frag st
  have h1 := hs _ _ (one_self _ _)
  simp [execOp, resolve, invoke, builtin, g.ev hx, Builtin.len_, run_underlying hu, run_getObj_map (P := P) h1, goInt, entries_len he]

/-! ### writing -/
def setObjW (w : World) (b : Nat) (o : Obj) : World := { w with heap := w.heap.setIfInBounds b o }
theorem run_setObj_map {es : Array MapEntry} {cl : Nat} {o : Obj} (h : w.heap[b]? = some (.map es cl)) : (setObj b o).run P w = .ok () (setObjW w b o) := by simp [setObj, Sem.run, h, setObjW]
theorem updAt_setObj {es : Array MapEntry} {cl : Nat} {o : Obj} (h : w.heap[b]? = some (.map es cl)) : UpdAt w (setObjW w b o) b o :=
  ⟨rfl, rfl, rfl, by simp [setObjW], by simp [setObjW, lt_of_heap h], fun k hk => by simp [setObjW, Array.getElem?_setIfInBounds_ne (fun e => hk e.symm)]⟩

theorem map_modify {m : List (κ × υ)} {i : Nat} {k : κ} {v0 v : υ} (hn : (m.map (·.1)).Nodup) (hm : m[i]? = some (k, v0)) : m.map (fun p => if p.1 = k then (k, v) else p) = m.modify i (fun _ => (k, v)) := by
  apply List.ext_getElem?
  intro j
  rw [List.getElem?_map, List.getElem?_modify]
  by_cases e : i = j
  · subst e; simp [hm]
  · cases hj : m[j]? with
    | none => simp
    | some p =>
      have hne : ¬ p.1 = k := by
        intro hk
        have h1 : (m.map (·.1))[i]? = some k := by simp [hm]
        have h2 : (m.map (·.1))[j]? = some k := by simp [hj, hk]
        have hi : i < (m.map (·.1)).length := (List.getElem?_eq_some_iff.1 h1).1
        exact e ((List.getElem?_inj hi hn).1 (h1.trans h2.symm))
      simp [e, hne]
theorem mput_keys {m : List (κ × υ)} {k : κ} {v : υ} (hn : (m.map (·.1)).Nodup) : ((mput m k v).map (·.1)).Nodup := by
  unfold mput
  split
  · have : (m.map (fun p => if p.1 = k then (k, v) else p)).map (·.1) = m.map (·.1) := by
      rw [List.map_map]; apply List.map_congr_left; intro p _; simp only [Function.comp]; split <;> simp_all
    rw [this]; exact hn
  · rename_i h
    have hnone : mget m k = none := by cases hh : mget m k <;> simp [hh] at h ⊢
    rw [List.map_append, List.nodup_append]
    refine ⟨hn, by simp, ?_⟩
    intro a ha b hb
    simp at hb
    subst hb
    intro e; subst e
    exact mget_none_mem hnone ha

theorem EW.mapUpdate [MapT P t kt e] [KeyE P kt ek] {z : Operand} (hx : ev T x = some (.map (some b))) (hy : ev T y = some (ek k)) (hz : ev T z = some (ev' q)) (p : Pick L (mapA ek ev' b m) L1)
    (h : KP c N T (mapA ek ev' b (mput m k q) :: L1) K) : EW P c N T L ⟨none, .mapUpdate t x y z, ty, pos, aft, gd⟩ R K := fun a w g st => by
  have hM : MapT P t kt e := inferInstance
  have hu := hM.out
  have hKE : KeyE P kt ek := inferInstance
  obtain ⟨hh, ha, hs, sf⟩ := (st.pick p).focus
  have hn := ha.1
  obtain ⟨es, cl, h1, he, hf, hf'⟩ := ha.look (P := P) (kt := kt) hs
  have hh1 : hh = one b (.map es cl) := by
    obtain ⟨_, es', cl', rfl, _⟩ := ha
    have := hs _ _ (one_self b (.map es' cl'))
    rw [h1] at this
    simp at this
    rw [this.1, this.2]
  subst hh1
  show Oper.upon P _ a K R _
  cases hk : mget m k with
  | some q0 =>
    obtain ⟨i, hi, hm, hfi⟩ := hf k q0 hk
    obtain ⟨en, h4, h5, h6⟩ := entries_at he hm
    have hen : es[i]? = some en := by simpa using h4
    have hr : (execOp a.eval ⟨none, .mapUpdate t x y z, ty, pos, aft, gd⟩).run P w = .ok .skip (setObjW w b (.map (es.modify i fun e => { e with key := ek k, val := ev' q }) cl)) := by
      simp [execOp, g.ev hx, g.ev hy, g.ev hz, Instr.mapUpdate, run_underlying hu, run_getObj_map (P := P) h1, hKE.check, hfi, hen, h5, Instr.keyThatStays, hKE.bits, run_setObj_map (P := P) h1]
    rw [hr]
    refine h _ _ g (sf.upd (b := b) (fun _ h' => by rw [h']; exact one_self _ _) (fun _ h' => ?_) (updAt_setObj h1))
    subst h'
    refine ⟨mput_keys hn, _, cl, (by funext k'; simp only [one]; split <;> rfl), ?_⟩
    unfold mput
    rw [hk]
    simp only [Option.isSome_some, if_true]
    rw [map_modify hn hm]
    apply List.ext_getElem?
    intro j
    have hej := congrArg (fun l => l[j]?) he
    simp only [List.getElem?_map] at hej
    simp only [Array.toList_modify, List.getElem?_map, List.getElem?_modify]
    by_cases e : i = j
    · subst e; simp [hen, hm]
    · simp only [e, if_false]
      simpa using hej
  | none =>
    have hfi := hf' k hk
    have hr : (execOp a.eval ⟨none, .mapUpdate t x y z, ty, pos, aft, gd⟩).run P w = .ok .skip (setObjW w b (.map (es.push { key := ek k, val := ev' q, born := cl }) (cl + 1))) := by
      simp [execOp, g.ev hx, g.ev hy, g.ev hz, Instr.mapUpdate, run_underlying hu, run_getObj_map (P := P) h1, hKE.check, hfi, run_setObj_map (P := P) h1]
    rw [hr]
    refine h _ _ g (sf.upd (b := b) (fun _ h' => by rw [h']; exact one_self _ _) (fun _ h' => ?_) (updAt_setObj h1))
    subst h'
    refine ⟨mput_keys hn, _, cl + 1, (by funext k'; simp only [one]; split <;> rfl), ?_⟩
    unfold mput
    rw [hk]
    simp [he]

theorem filter_erase {m : List (κ × υ)} {i : Nat} {k : κ} {v0 : υ} (hn : (m.map (·.1)).Nodup) (hm : m[i]? = some (k, v0)) : m.filter (fun p => decide (p.1 ≠ k)) = m.eraseIdx i := by
  induction m generalizing i with
  | nil => simp at hm
  | cons p m ih =>
    simp only [List.map_cons, List.nodup_cons] at hn
    cases i with
    | zero =>
      simp at hm; subst hm
      simp only [List.eraseIdx_zero, List.tail_cons]
      rw [List.filter_cons_of_neg (by simp)]
      apply List.filter_eq_self.2
      intro q hq
      have : q.1 ≠ k := fun e => hn.1 (List.mem_map.2 ⟨q, hq, e⟩)
      simpa using this
    | succ i =>
      simp at hm
      have hne : p.1 ≠ k := fun e => hn.1 (by rw [e]; exact List.mem_map.2 ⟨(k, v0), List.mem_of_getElem? hm, rfl⟩)
      rw [List.filter_cons_of_pos (by simpa using hne), List.eraseIdx_cons_succ, ih hn.2 hm]

theorem EW.delete [MapT P t kt e] [KeyE P kt ek] {kt' : TypeId} (hx : ev T x = some (.map (some b))) (hy : ev T y = some (ek k)) (p : Pick L (mapA ek ev' b m) L1)
    (h : KP c N T (mapA ek ev' b (mdel m k) :: L1) K) : EW P c N T L ⟨none, .call { callee := .builtin .delete, args := #[x, y], argTypes := #[t, kt'] }, ty, pos, aft, gd⟩ R K := fun a w g st => by
  have hM : MapT P t kt e := inferInstance
  have hu := hM.out
  have hKE : KeyE P kt ek := inferInstance
  obtain ⟨hh, ha, hs, sf⟩ := (st.pick p).focus
  have hn := ha.1
  obtain ⟨es, cl, h1, he, hf, hf'⟩ := ha.look (P := P) (kt := kt) hs
  have hh1 : hh = one b (.map es cl) := by
    obtain ⟨_, es', cl', rfl, _⟩ := ha
    have := hs _ _ (one_self b (.map es' cl'))
    rw [h1] at this
    simp at this
    rw [this.1, this.2]
  subst hh1
  have hdn : ((mdel m k).map (·.1)).Nodup := by
    unfold mdel
    exact hn.sublist (List.filter_sublist.map _)
  show Oper.upon P _ a K R _
  cases hk : mget m k with
  | some q0 =>
    obtain ⟨i, hi, hm, hfi⟩ := hf k q0 hk
    have hr : (execOp a.eval ⟨none, .call { callee := .builtin .delete, args := #[x, y], argTypes := #[t, kt'] }, ty, pos, aft, gd⟩).run P w = .ok (.value (.tuple #[])) (setObjW w b (.map (es.eraseIdxIfInBounds i) cl)) := by
      simp [execOp, resolve, invoke, builtin, g.ev hx, g.ev hy, Builtin.delete_, run_underlying hu, run_getObj_map (P := P) h1, hKE.check, hfi, run_setObj_map (P := P) h1]
    rw [hr]
    refine h _ _ g (sf.upd (b := b) (fun _ h' => by rw [h']; exact one_self _ _) (fun _ h' => ?_) (updAt_setObj h1))
    subst h'
    refine ⟨hdn, _, cl, (by funext k'; simp only [one]; split <;> rfl), ?_⟩
    unfold mdel
    rw [filter_erase hn hm]
    rw [Array.toList_eraseIdxIfInBounds, map_eraseIdx', he, map_eraseIdx']
  | none =>
    have hfi := hf' k hk
    have hr : (execOp a.eval ⟨none, .call { callee := .builtin .delete, args := #[x, y], argTypes := #[t, kt'] }, ty, pos, aft, gd⟩).run P w = .ok (.value (.tuple #[])) (setObjW w b (.map es cl)) := by
      simp [execOp, resolve, invoke, builtin, g.ev hx, g.ev hy, Builtin.delete_, run_underlying hu, run_getObj_map (P := P) h1, hKE.check, hfi, run_setObj_map (P := P) h1]
    rw [hr]
    refine h _ _ g (sf.upd (b := b) (fun _ h' => by rw [h']; exact one_self _ _) (fun _ h' => ?_) (updAt_setObj h1))
    subst h'
    refine ⟨hdn, _, cl, (by funext k'; simp only [one]; split <;> rfl), ?_⟩
    have : mdel m k = m := by
      unfold mdel
      apply List.filter_eq_self.2
      intro p hp
      have : p.1 ≠ k := fun e => mget_none_mem hk (by rw [← e]; exact List.mem_map_of_mem hp)
      simpa using this
    rw [this, he]

omit [DecidableEq κ] in
theorem EW.makeMap (hd : d < N) (h : ∀ g, KP c N ((d, .map (some g)) :: T) (mapA ek ev' g [] :: L) K) : EW P c N T L ⟨some d, .makeMap t none, ty, pos, aft, gd⟩ R K := fun a w g s => by
  have hr : (execOp a.eval ⟨some d, .makeMap t none, ty, pos, aft, gd⟩).run P w = .ok (.value (.map (some w.heap.size))) (w.alloc (.map #[] 0)) := by
    simp [execOp, Instr.makeMap]
  show Oper.upon P _ a K R _
  rw [hr]
  exact h _ _ _ (g.put hd _) (s.new ⟨by simp, #[], 0, rfl, by simp⟩)
end
end Go.Ink
