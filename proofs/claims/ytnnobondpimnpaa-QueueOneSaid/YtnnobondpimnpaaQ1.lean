import Derived.Test.YtnnobondpimnpaaQ0
/- The queue: what it is in memory, and its calls. -/
namespace Go.Proofs.Ytnnobondpimnpaa
open Go Go.Ink
set_option linter.unusedVariables false
set_option linter.unusedSimpArgs false
attribute [local irreducible] KP QY EW CW DW QG CP Spc DK Fina

structure QF (l : List Ask) (m : List (Place × Ask)) : Prop where
  nd : (l.map Ask.place).Nodup
  get : ∀ p, mget m p = l.find? (fun a => decide (a.place = p))
  ok : ∀ a ∈ l, 0 ≤ a.slot ∧ a.slot < 4 ∧ 0 ≤ a.shard ∧ a.shard < 6
/-- The queue q holds l. -/
def Qu (q : Nat) (l : List Ask) : Asrt := fun h => ∃ z : Value × Nat × List (Place × Ask), (QF l z.2.2 ∧ z.1.oneCell' = true) ∧ SatL [pt q 53 [z.1, .map (some z.2.1)], row 56 2 eP z.1 (l.map Ask.place), mapA pv av z.2.1 z.2.2] h
theorem Qu.intro {q bm : Nat} {l : List Ask} {v : Value} {m : List (Place × Ask)} (f : QF l m) (o : v.oneCell' = true) : ∀ h, SatL [pt q 53 [v, .map (some bm)], row 56 2 eP v (l.map Ask.place), mapA pv av bm m] h → Qu q l h := fun h s => ⟨(v, bm, m), ⟨f, o⟩, s⟩
theorem Qu.intro' {q bm : Nat} {l : List Ask} {v : Value} {m : List (Place × Ask)} {ps : List Place} (hp : ps = l.map Ask.place) (f : QF l m) (o : v.oneCell' = true) : ∀ h, SatL [pt q 53 [v, .map (some bm)], row 56 2 eP v ps, mapA pv av bm m] h → Qu q l h := hp ▸ Qu.intro f o
theorem KP.qu {c : Cx} {N : Nat} {T : Tm} {L : List Asrt} {K : Act → World → Prop} {q : Nat} {l : List Ask} (h : ∀ v bm m, QF l m → v.oneCell' = true → KP c N T (pt q 53 [v, .map (some bm)] :: row 56 2 eP v (l.map Ask.place) :: mapA pv av bm m :: L) K) : KP c N T (Qu q l :: L) K :=
  KP.open1 (fun _ x => x) fun z hz => h z.1 z.2.1 z.2.2 hz.1 hz.2
theorem CW.qu {P : Program} {c : Cx} {N : Nat} {T : Tm} {L : List Asrt} {R : Exit → Act → World → Prop} {code : Code} {q : Nat} {l : List Ask} (h : ∀ v bm m, QF l m → v.oneCell' = true → CW P c N T (pt q 53 [v, .map (some bm)] :: row 56 2 eP v (l.map Ask.place) :: mapA pv av bm m :: L) code R) : CW P c N T (Qu q l :: L) code R :=
  CW.kp (KP.qu fun v bm m f o => CW.pk (h v bm m f o))
abbrev qp (q : Nat) : Value := .pointer (some ⟨q, 0, none⟩)

theorem QF.nil : QF [] [] := ⟨by simp, fun p => rfl, by simp⟩
theorem len_nil : Spc Try.prog 20 #[.pointer none] [] [] (ret (iv 0) []) := by
  refine Spc.enter' (args := [.pointer none]) (T0 := [(0, .pointer none)]) Try.func20 rfl Try.ntmps20 (Nat.le_of_ble_eq_true rfl) rfl ?_
  intro w0 own
  repeat' (first
    | (with_reducible refine CW.seq ?_)
    | (with_reducible refine KP.list_nil ?_)
    | (with_reducible refine KP.then_code ?_)
    | (with_reducible refine CW.skip ?_)
    | (with_reducible refine CW.ret ?_)
    | (with_reducible refine KP.then_ret ?_)
    | (with_reducible refine KP.block_ret ?_)
    | (with_reducible refine CW.block ?_)
    | (with_reducible refine KP.block_normal ?_)
    | (with_reducible refine CW.exit ?_)
    | (with_reducible refine KP.then_exit ?_)
    | (with_reducible refine KP.block_hit ?_)
    | ((with_reducible refine KP.block_miss ?_ ?_); (· rfl))
    | ((with_reducible refine CW.cond_t ?_ ?_); (· rfl))
    | ((with_reducible refine CW.cond_f ?_ ?_); (· rfl))
    | ((with_reducible apply CW.condP); (· rfl))
    | ((with_reducible apply CW.cond); (· rfl))
    | (with_reducible refine CP.exP fun _ => ?_)
    | (with_reducible refine CP.puP fun _ => ?_)
    | ((with_reducible refine CP.ret_0 ?_ ?_); (· decide))
    | ((with_reducible refine CP.ret_1 ?_ ?_); (· decide))
    | ((with_reducible refine CP.ret_2 ?_ ?_); (· decide))
    | ((with_reducible refine CP.ret_3 ?_ ?_); (· decide))
    | ((with_reducible refine CP.ret_4 ?_ ?_); (· decide))
    | (with_reducible refine CP.ret0_0 ?_)
    | (with_reducible refine CP.ret0_1 ?_)
    | (with_reducible refine CP.ret0_2 ?_)
    | (with_reducible refine CP.ret0_3 ?_)
    | (with_reducible refine CP.ret0_4 ?_)
    | ((with_reducible refine CW.region (i := 0) ?_); try ((with_reducible apply KP.quiet); (· first | exact QY.assign rfl); (· decide)))
    | ((with_reducible refine CW.region (i := 1) ?_); try ((with_reducible apply KP.quiet); (· first | exact QY.move rfl); (· decide); try ((with_reducible apply KP.quiet); (· first | exact QY.eqnil_s rfl rfl | exact QY.eqnil_n rfl rfl); (· decide))))
    | ((with_reducible refine CW.region (i := 2) ?_); try ((with_reducible apply KP.quiet); (· first | exact QY.assign rfl); (· decide)))
    | ((with_reducible refine CW.region (i := 3) ?_); try ((with_reducible apply KP.quiet); (· first | exact QY.move rfl); (· decide); try ((with_reducible apply KP.quiet); (· first | exact QY.nilCheck_ptr rfl | exact QY.nilCheck_iface rfl | exact QY.nilCheck_func rfl); (· decide); try ((with_reducible apply KP.quiet); (· first | exact QY.fieldAddr0 rfl | exact QY.fieldAddr rfl); (· decide); try ((with_reducible apply KP.quiet); (· first | exact QY.load_s rfl (Rd.own (by with_reducible first | exact k0 | exact k1 | exact k2 | exact k3 | exact k4 | exact k5 | exact k6 | exact k7 | exact k8 | exact k9 | fail)) (Reads.pt1 (by rfl))); (· decide); try ((with_reducible apply KP.quiet); (· first | exact QY.len rfl | exact QY.len_str rfl); (· decide); try ((with_reducible apply KP.quiet); (· first | exact QY.assign rfl); (· decide))))))))
    | ((with_reducible apply KP.fin1); (· rfl); (· rfl))
    | ((with_reducible apply KP.fin2); (· rfl); (· rfl); (· rfl))
    | ((with_reducible refine KP.fin0 ?_ ?_); (· rfl))
    | ((with_reducible refine KP.fin0r ?_ ?_); (· rfl))
    | (intro _))
  exact Fina.ret .nil

theorem new_spec : Spc Try.prog 9 #[] [] [] (exP fun q => ret (qp q) [Qu q []]) := by
  refine Spc.enter' (args := []) (T0 := []) Try.func9 rfl Try.ntmps9 (Nat.le_of_ble_eq_true rfl) rfl ?_
  intro w0 own
  
  repeat' (first
    | (with_reducible refine CW.seq ?_)
    | (with_reducible refine KP.list_nil ?_)
    | (with_reducible refine KP.then_code ?_)
    | (with_reducible refine CW.skip ?_)
    | (with_reducible refine CW.ret ?_)
    | (with_reducible refine KP.then_ret ?_)
    | (with_reducible refine KP.block_ret ?_)
    | (with_reducible refine CW.block ?_)
    | (with_reducible refine KP.block_normal ?_)
    | (with_reducible refine CW.exit ?_)
    | (with_reducible refine KP.then_exit ?_)
    | (with_reducible refine KP.block_hit ?_)
    | ((with_reducible refine KP.block_miss ?_ ?_); (· rfl))
    | ((with_reducible refine CW.cond_t ?_ ?_); (· rfl))
    | ((with_reducible refine CW.cond_f ?_ ?_); (· rfl))
    | ((with_reducible apply CW.condP); (· rfl))
    | ((with_reducible apply CW.cond); (· rfl))
    | (with_reducible refine CP.exP fun _ => ?_)
    | (with_reducible refine CP.puP fun _ => ?_)
    | ((with_reducible refine CP.ret_0 ?_ ?_); (· decide))
    | ((with_reducible refine CP.ret_1 ?_ ?_); (· decide))
    | ((with_reducible refine CP.ret_2 ?_ ?_); (· decide))
    | ((with_reducible refine CP.ret_3 ?_ ?_); (· decide))
    | ((with_reducible refine CP.ret_4 ?_ ?_); (· decide))
    | (with_reducible refine CP.ret0_0 ?_)
    | (with_reducible refine CP.ret0_1 ?_)
    | (with_reducible refine CP.ret0_2 ?_)
    | (with_reducible refine CP.ret0_3 ?_)
    | (with_reducible refine CP.ret0_4 ?_)
    | ((with_reducible refine CW.region (i := 0) ?_); try ((with_reducible apply KP.quiet); (· first | exact QY.assign rfl); (· decide)))
    | ((with_reducible refine CW.region (i := 1) ?_); try ((with_reducible refine KP.eff ?_); (first | refine EW.makeMap (κ := Place) (υ := Ask) (ek := pv) (ev' := av) (by decide) ?_ | refine EW.makeMap (by decide) ?_); (repeat' (first | (with_reducible refine CP.exP fun _ => ?_) | (with_reducible refine CP.puP fun _ => ?_) | ((with_reducible refine CP.ret_0 ?_ ?_); (· decide)) | ((with_reducible refine CP.ret_1 ?_ ?_); (· decide)) | ((with_reducible refine CP.ret_2 ?_ ?_); (· decide)) | ((with_reducible refine CP.ret_3 ?_ ?_); (· decide)) | ((with_reducible refine CP.ret_4 ?_ ?_); (· decide)) | (with_reducible refine CP.ret0_0 ?_) | (with_reducible refine CP.ret0_1 ?_) | (with_reducible refine CP.ret0_2 ?_) | (with_reducible refine CP.ret0_3 ?_) | (with_reducible refine CP.ret0_4 ?_) | (intro _))); try ((with_reducible apply KP.quiet); (· first | exact QY.build (by (repeat (first | exact Fills.nil | (apply Fills.scal; (· rfl); (· rfl); (· first | rfl | assumption); (· (repeat (first | exact SetAt.head | apply SetAt.tail)))) | (apply Fills.agg; (· rfl); (· rfl); (· rfl); (· (repeat (first | exact SplAt.done | apply SplAt.put | apply SplAt.skip)))))))); (· decide); try ((with_reducible refine KP.eff ?_); (first | refine EW.box_a (by decide) rfl ?_); (repeat' (first | (with_reducible refine CP.exP fun _ => ?_) | (with_reducible refine CP.puP fun _ => ?_) | ((with_reducible refine CP.ret_0 ?_ ?_); (· decide)) | ((with_reducible refine CP.ret_1 ?_ ?_); (· decide)) | ((with_reducible refine CP.ret_2 ?_ ?_); (· decide)) | ((with_reducible refine CP.ret_3 ?_ ?_); (· decide)) | ((with_reducible refine CP.ret_4 ?_ ?_); (· decide)) | (with_reducible refine CP.ret0_0 ?_) | (with_reducible refine CP.ret0_1 ?_) | (with_reducible refine CP.ret0_2 ?_) | (with_reducible refine CP.ret0_3 ?_) | (with_reducible refine CP.ret0_4 ?_) | (intro _))); try ((with_reducible apply KP.quiet); (· first | exact QY.assign rfl); (· decide))))))
    | ((with_reducible apply KP.fin1); (· rfl); (· rfl))
    | ((with_reducible apply KP.fin2); (· rfl); (· rfl); (· rfl))
    | ((with_reducible refine KP.fin0 ?_ ?_); (· rfl))
    | ((with_reducible refine KP.fin0r ?_ ?_); (· rfl))
    | (intro _))
  exact Fina.exP _ (Fina.add (B := row 56 2 eP (.slice none 0 0) (([] : List Ask).map Ask.place)) row.none (Fina.gather (Split.cons (by with_reducible first | exact k0 | exact k1 | exact k2 | exact k3 | exact k4 | exact k5 | exact k6 | exact k7 | exact k8 | exact k9 | fail) (Split.cons (by with_reducible first | exact k0 | exact k1 | exact k2 | exact k3 | exact k4 | exact k5 | exact k6 | exact k7 | exact k8 | exact k9 | fail) (Split.cons (by with_reducible first | exact k0 | exact k1 | exact k2 | exact k3 | exact k4 | exact k5 | exact k6 | exact k7 | exact k8 | exact k9 | fail) Split.nil))) (Qu.intro (l := []) QF.nil rfl) (Fina.ret (Ent.cons (by with_reducible first | exact k0 | exact k1 | exact k2 | exact k3 | exact k4 | exact k5 | exact k6 | exact k7 | exact k8 | exact k9 | fail) Ent.nil))))

/-! ### plain facts -/
theorem nodup_lt : ∀ (n : Nat) (l : List Nat), l.Nodup → (∀ x ∈ l, x < n) → l.length ≤ n
  | 0, l, _, h => by cases l with | nil => simp | cons x _ => exact absurd (h x (by simp)) (by omega)
  | n + 1, l, hd, h => by
    have h1 := nodup_lt n (l.filter (· ≠ n)) (hd.filter _) (fun x hx => by
      have := List.mem_filter.1 hx
      have h2 := h x this.1
      have h3 : x ≠ n := by simpa using this.2
      omega)
    have h2 : l.length ≤ (l.filter (· ≠ n)).length + 1 := by
      clear h1 h
      induction l with
      | nil => simp
      | cons x l ih =>
        have hn := List.nodup_cons.1 hd
        by_cases e : x = n
        · subst e
          have : l.filter (fun y => decide (y ≠ x)) = l := List.filter_eq_self.2 (fun y hy => by simp; intro e; subst e; exact hn.1 hy)
          rw [List.filter_cons_of_neg (by simp), this]; simp
        · have := ih hn.2
          rw [List.filter_cons_of_pos (by simpa using e)]
          simp only [List.length_cons]; omega
    omega
theorem QF.len {l : List Ask} {m : List (Place × Ask)} (f : QF l m) : l.length ≤ 24 := by
  have h := nodup_lt 24 ((l.map Ask.place).map fun p => (p.slot * 6 + p.shard).toNat) ?_ ?_
  · simpa using h
  · have hnd := f.nd
    refine List.pairwise_map.2 (hnd.imp_of_mem ?_)
    intro a b ha hb hne e
    obtain ⟨a, ha', rfl⟩ := List.mem_map.1 ha
    obtain ⟨b, hb', rfl⟩ := List.mem_map.1 hb
    have h1 := f.ok a ha'
    have h2 := f.ok b hb'
    apply hne
    simp only [Ask.place, Place.mk.injEq] at e ⊢
    omega
  · intro x hx
    obtain ⟨p, hp, rfl⟩ := List.mem_map.1 hx
    obtain ⟨a, ha, rfl⟩ := List.mem_map.1 hp
    have h1 := f.ok a ha
    simp only [Ask.place]; omega

theorem mget_mput (m : List (Place × Ask)) (k p : Place) (v : Ask) : mget (mput m k v) p = if p = k then some v else mget m p := by
  unfold mput
  split
  · rename_i h
    induction m with
    | nil => simp [mget] at h
    | cons x m ih =>
      simp only [List.map_cons, mget, List.find?_cons] at h ⊢
      by_cases e : x.1 = k
      · subst e
        by_cases e2 : p = x.1
        · subst e2; simp
        · have : ¬ x.1 = p := fun e => e2 e.symm
          simp only [if_true, this, decide_false, if_neg e2]
          clear ih h
          induction m with
          | nil => rfl
          | cons y m ih =>
            simp only [List.map_cons, List.find?_cons]
            by_cases e3 : y.1 = x.1
            · have e4 : ¬ y.1 = p := by rw [e3]; exact this
              simp only [if_pos e3, this, e4, decide_false]; exact ih
            · simp only [if_neg e3]
              cases hd : decide (y.1 = p) with
              | true => rfl
              | false => exact ih
      · simp only [e, decide_false] at h
        have ih' := ih h
        simp only [if_neg e]
        cases hd : decide (x.1 = p) with
        | true =>
          have : ¬ p = k := by have := of_decide_eq_true hd; rw [← this]; exact e
          simp [this]
        | false => exact ih'
  · rename_i h
    simp only [mget, Option.isSome_map, List.find?_isSome, not_exists, not_and, Bool.not_eq_true, List.find?_append, List.find?_cons, List.find?_nil] at h ⊢
    by_cases e : p = k
    · subst e
      have : (m.find? fun q => decide (q.1 = p)) = none := List.find?_eq_none.2 (fun x hx => by simp [h x hx])
      simp [this]
    · have : ¬ k = p := fun h => e h.symm
      simp [this, e]
theorem mget_mdel (m : List (Place × Ask)) (k p : Place) : mget (mdel m k) p = if p = k then none else mget m p := by
  unfold mdel mget
  induction m with
  | nil => simp
  | cons x m ih =>
    by_cases e : x.1 = k
    · rw [List.filter_cons_of_neg (by simp [e]), ih]
      by_cases e2 : p = k
      · simp [e2]
      · have : ¬ x.1 = p := by rw [e]; exact fun h => e2 h.symm
        simp [e2, List.find?_cons, this]
    · rw [List.filter_cons_of_pos (by simp [e]), List.find?_cons, List.find?_cons]
      cases hd : decide (x.1 = p) with
      | true =>
        have : ¬ p = k := by have := of_decide_eq_true hd; rw [← this]; exact e
        simp [this]
      | false => exact ih
theorem find_repl (l : List Ask) (a : Ask) (p : Place) (h : (l.find? fun x => decide (x.place = a.place)).isSome) :
    (l.map fun y => if y.place = a.place then a else y).find? (fun x => decide (x.place = p)) = if p = a.place then some a else l.find? (fun x => decide (x.place = p)) := by
  induction l with
  | nil => simp at h
  | cons x l ih =>
    simp only [List.map_cons, List.find?_cons] at h ⊢
    by_cases e : x.place = a.place
    · simp only [if_pos e]
      by_cases e2 : p = a.place
      · subst e2; simp
      · have h1 : ¬ a.place = p := fun h => e2 h.symm
        have h2 : ¬ x.place = p := by rw [e]; exact h1
        simp only [h1, h2, decide_false, if_neg e2]
        clear ih h
        induction l with
        | nil => rfl
        | cons y l ih =>
          simp only [List.map_cons, List.find?_cons]
          by_cases e3 : y.place = a.place
          · have : ¬ y.place = p := by rw [e3]; exact h1
            simp only [if_pos e3, h1, this, decide_false]; exact ih
          · simp only [if_neg e3]
            cases hd : decide (y.place = p) with
            | true => rfl
            | false => exact ih
    · simp only [e, decide_false] at h
      simp only [if_neg e]
      cases hd : decide (x.place = p) with
      | true =>
        have : ¬ p = a.place := by have := of_decide_eq_true hd; rw [← this]; exact e
        simp [this]
      | false => exact ih h
theorem map_repl (l : List Ask) (a : Ask) : (l.map fun y => if y.place = a.place then a else y).map Ask.place = l.map Ask.place := by
  rw [List.map_map]
  apply List.map_congr_left
  intro x _
  simp only [Function.comp]
  split
  · rename_i h; exact h.symm
  · rfl
abbrev Ask.good (a : Ask) : Prop := 0 ≤ a.slot ∧ a.slot < 4 ∧ 0 ≤ a.shard ∧ a.shard < 6
theorem QF.push_new {l : List Ask} {m : List (Place × Ask)} (f : QF l m) {a : Ask} (g : a.good) (h : l.find? (fun x => decide (x.place = a.place)) = none) : QF (l ++ [a]) (mput m a.place a) := by
  refine ⟨?_, fun p => ?_, ?_⟩
  · rw [List.map_append, List.nodup_append]
    refine ⟨f.nd, by simp, ?_⟩
    intro x hx y hy e
    simp at hy
    subst hy; subst e
    obtain ⟨b, hb, e⟩ := List.mem_map.1 hx
    have := List.find?_eq_none.1 h b hb
    simp [e] at this
  · rw [mget_mput, f.get, List.find?_append]
    by_cases e : p = a.place
    · subst e; simp [h]
    · have : ¬ a.place = p := fun h => e h.symm
      simp [e, List.find?_cons, this]
  · intro b hb
    rcases List.mem_append.1 hb with hb | hb
    · exact f.ok b hb
    · simp at hb; subst hb; exact g
theorem QF.push_old {l : List Ask} {m : List (Place × Ask)} (f : QF l m) {a x : Ask} (g : a.good) (h : l.find? (fun x => decide (x.place = a.place)) = some x) : QF (l.map fun y => if y.place = a.place then a else y) (mput m a.place a) := by
  refine ⟨by rw [map_repl]; exact f.nd, fun p => ?_, ?_⟩
  · rw [mget_mput, find_repl l a p (by simp [h]), f.get]
  · intro b hb
    obtain ⟨c, hc, rfl⟩ := List.mem_map.1 hb
    split
    · exact g
    · exact f.ok c hc
theorem QF.pop {l : List Ask} {m : List (Place × Ask)} {a : Ask} (f : QF (a :: l) m) : QF l (mdel m a.place) := by
  have hn := f.nd
  simp only [List.map_cons, List.nodup_cons] at hn
  refine ⟨hn.2, fun p => ?_, fun b hb => f.ok b (by simp [hb])⟩
  rw [mget_mdel, f.get]
  by_cases e : p = a.place
  · subst e
    simp only [if_true]
    refine (List.find?_eq_none.2 fun x hx => ?_).symm
    simp only [decide_eq_true_eq]
    intro e
    exact hn.1 (e ▸ List.mem_map_of_mem hx)
  · have : ¬ a.place = p := fun h => e h.symm
    simp [e, List.find?_cons, this]

def pushF (l : List Ask) (a : Ask) : Bool × List Ask :=
  if a.good then
    match l.find? (fun x => decide (x.place = a.place)) with
    | some x => if a.query < x.query ∨ (x.query = a.query ∧ a.seq < x.seq) then (false, l) else (true, l.map fun y => if y.place = a.place then a else y)
    | none => (true, l ++ [a])
  else (false, l)
theorem app_ok {l : List Ask} {a : Ask} (h : l.length ≤ 24) : (l.map Ask.place).length + [a.place].length ≤ maxLen ∧ ((l.map Ask.place).length + [a.place].length) * 16 ≤ 140737488355328 := by
  simp [maxLen]; omega

theorem len_spec {q : Nat} {l : List Ask} : Spc Try.prog 20 #[qp q] [] [Qu q l] (ret (iv l.length) [Qu q l]) := by
  refine Spc.enter' (args := [qp q]) (T0 := [(0, qp q)]) Try.func20 rfl Try.ntmps20 (Nat.le_of_ble_eq_true rfl) rfl ?_
  intro w0 own
  refine CW.qu fun v bm m f o => ?_
  
  repeat' (first
    | (with_reducible refine CW.seq ?_)
    | (with_reducible refine KP.list_nil ?_)
    | (with_reducible refine KP.then_code ?_)
    | (with_reducible refine CW.skip ?_)
    | (with_reducible refine CW.ret ?_)
    | (with_reducible refine KP.then_ret ?_)
    | (with_reducible refine KP.block_ret ?_)
    | (with_reducible refine CW.block ?_)
    | (with_reducible refine KP.block_normal ?_)
    | (with_reducible refine CW.exit ?_)
    | (with_reducible refine KP.then_exit ?_)
    | (with_reducible refine KP.block_hit ?_)
    | ((with_reducible refine KP.block_miss ?_ ?_); (· rfl))
    | ((with_reducible refine CW.cond_t ?_ ?_); (· rfl))
    | ((with_reducible refine CW.cond_f ?_ ?_); (· rfl))
    | ((with_reducible apply CW.condP); (· rfl))
    | ((with_reducible apply CW.cond); (· rfl))
    | (with_reducible refine CP.exP fun _ => ?_)
    | (with_reducible refine CP.puP fun _ => ?_)
    | ((with_reducible refine CP.ret_0 ?_ ?_); (· decide))
    | ((with_reducible refine CP.ret_1 ?_ ?_); (· decide))
    | ((with_reducible refine CP.ret_2 ?_ ?_); (· decide))
    | ((with_reducible refine CP.ret_3 ?_ ?_); (· decide))
    | ((with_reducible refine CP.ret_4 ?_ ?_); (· decide))
    | (with_reducible refine CP.ret0_0 ?_)
    | (with_reducible refine CP.ret0_1 ?_)
    | (with_reducible refine CP.ret0_2 ?_)
    | (with_reducible refine CP.ret0_3 ?_)
    | (with_reducible refine CP.ret0_4 ?_)
    | ((with_reducible refine CW.region (i := 0) ?_); try ((with_reducible apply KP.quiet); (· first | exact QY.assign rfl); (· decide)))
    | ((with_reducible refine CW.region (i := 1) ?_); try ((with_reducible apply KP.quiet); (· first | exact QY.move rfl); (· decide); try ((with_reducible apply KP.quiet); (· first | exact QY.eqnil_s rfl rfl | exact QY.eqnil_n rfl rfl); (· decide))))
    | ((with_reducible refine CW.region (i := 2) ?_); try ((with_reducible apply KP.quiet); (· first | exact QY.assign rfl); (· decide)))
    | ((with_reducible refine CW.region (i := 3) ?_); try ((with_reducible apply KP.quiet); (· first | exact QY.move rfl); (· decide); try ((with_reducible apply KP.quiet); (· first | exact QY.nilCheck_ptr rfl | exact QY.nilCheck_iface rfl | exact QY.nilCheck_func rfl); (· decide); try ((with_reducible apply KP.quiet); (· first | exact QY.fieldAddr0 rfl | exact QY.fieldAddr rfl); (· decide); try ((with_reducible apply KP.quiet); (· first | exact QY.load_s rfl (Rd.own (by with_reducible first | exact k0 | exact k1 | exact k2 | exact k3 | exact k4 | exact k5 | exact k6 | exact k7 | exact k8 | exact k9 | fail)) (Reads.pt1 (by rfl))); (· decide); try ((with_reducible apply KP.quiet); (· first | exact QY.len_row rfl (Rd.own (by with_reducible first | exact k0 | exact k1 | exact k2 | exact k3 | exact k4 | exact k5 | exact k6 | exact k7 | exact k8 | exact k9 | fail)) RowL.row | exact QY.len rfl | exact QY.len_str rfl); (· decide); try ((with_reducible apply KP.quiet); (· first | exact QY.assign rfl); (· decide))))))))
    | ((with_reducible apply KP.fin1); (· rfl); (· rfl))
    | ((with_reducible apply KP.fin2); (· rfl); (· rfl); (· rfl))
    | ((with_reducible refine KP.fin0 ?_ ?_); (· rfl))
    | ((with_reducible refine KP.fin0r ?_ ?_); (· rfl))
    | (intro _))
  exact Fina.gather (Split.cons (by with_reducible first | exact k0 | exact k1 | exact k2 | exact k3 | exact k4 | exact k5 | exact k6 | exact k7 | exact k8 | exact k9 | fail) (Split.cons (by with_reducible first | exact k0 | exact k1 | exact k2 | exact k3 | exact k4 | exact k5 | exact k6 | exact k7 | exact k8 | exact k9 | fail) (Split.cons (by with_reducible first | exact k0 | exact k1 | exact k2 | exact k3 | exact k4 | exact k5 | exact k6 | exact k7 | exact k8 | exact k9 | fail) Split.nil))) (Qu.intro f o) (Fina.ret' (by simp) (Ent.cons (by with_reducible first | exact k0 | exact k1 | exact k2 | exact k3 | exact k4 | exact k5 | exact k6 | exact k7 | exact k8 | exact k9 | fail) Ent.nil))

end Go.Proofs.Ytnnobondpimnpaa
