import Derived.Test.YtpmhelfdmhjnbaaV0
/- The reference's merge as one thing; Put. -/
namespace Go.Proofs.Ytpmhelfdmhjnbaa
open Go Go.Ink Go.Plain
set_option linter.unusedVariables false
set_option linter.unusedSimpArgs false
attribute [local irreducible] KP QY EW CW DW DX QG CP Spc DK Fina wpList lessF

def Rg (m : Nat) (st : MS) : Asrt := fun h => ∃ z : Value × Value × List Sh, (st.Wf ∧ z.2.2.map Sh.p = st.shs ∧ z.1.oneCell' = true ∧ z.2.1.oneCell' = true) ∧ SatL [pt m 108 [z.1, iv st.n, z.2.1], row 110 7 eSh z.1 z.2.2, row 39 2 eI z.2.1 st.told, wl z.2.2] h
theorem Rg.intro {m : Nat} {st : MS} {n : Int} {sv tv : Value} {shs : List Sh} {told : List Item} (hn : n = st.n) (hw : st.Wf) (hs : shs.map Sh.p = st.shs) (ht : told = st.told) (o1 : sv.oneCell' = true) (o2 : tv.oneCell' = true) : ∀ h, SatL [pt m 108 [sv, iv n, tv], row 110 7 eSh sv shs, row 39 2 eI tv told, wl shs] h → Rg m st h := fun h s => by
  subst hn; subst ht; exact ⟨(sv, tv, shs), ⟨hw, hs, o1, o2⟩, s⟩
theorem KP.rg {c : Cx} {N : Nat} {T : Tm} {L : List Asrt} {K : Act → World → Prop} {m : Nat} {st : MS} (h : ∀ sv tv shs, st.Wf → shs.map Sh.p = st.shs → sv.oneCell' = true → tv.oneCell' = true → KP c N T (pt m 108 [sv, iv st.n, tv] :: row 110 7 eSh sv shs :: row 39 2 eI tv st.told :: wl shs :: L) K) : KP c N T (Rg m st :: L) K :=
  KP.open1 (fun _ x => x) fun z hz => h z.1 z.2.1 z.2.2 hz.1 hz.2.1 hz.2.2.1 hz.2.2.2
theorem CW.rg {P : Program} {c : Cx} {N : Nat} {T : Tm} {L : List Asrt} {R : Exit → Act → World → Prop} {code : Code} {m : Nat} {st : MS} (h : ∀ sv tv shs, st.Wf → shs.map Sh.p = st.shs → sv.oneCell' = true → tv.oneCell' = true → CW P c N T (pt m 108 [sv, iv st.n, tv] :: row 110 7 eSh sv shs :: row 39 2 eI tv st.told :: wl shs :: L) code R) : CW P c N T (Rg m st :: L) code R :=
  CW.kp (KP.rg fun sv tv shs a b d e => CW.pk (h sv tv shs a b d e))
theorem rros_ok {m : Nat} {n : Int} {sv tv : Value} {shs : List Sh} {told : List Item} {h : Frag} (s : SatL [pt m 108 [sv, iv n, tv], row 110 7 eSh sv shs, row 39 2 eI tv told, wl shs] h) : ∀ B ∈ rros m n sv tv shs told, ∃ hr, B hr ∧ Leq hr h := by
  have p := s.parts
  intro B hB
  simp only [rros, List.mem_cons, List.not_mem_nil, or_false] at hB
  rcases hB with rfl | rfl | rfl | rfl
  · exact p _ (by simp)
  · obtain ⟨k, hk, le⟩ := p (row 110 7 eSh sv shs) (by simp); exact ⟨k, row.rrow k hk, le⟩
  · obtain ⟨k, hk, le⟩ := p (row 39 2 eI tv told) (by simp); exact ⟨k, row.rrow k hk, le⟩
  · exact p _ (by simp)
structure MS.Small (st : MS) : Prop where
  last : ∀ s ∈ st.shs, s.last.word.size ≤ 1000000
  waits : ∀ s ∈ st.shs, ∀ x ∈ s.waits, x.word.size ≤ 1000000
theorem wf_len {st : MS} {shs : List Sh} (hw : st.Wf) (hm : shs.map Sh.p = st.shs) : shs.length ≤ 1000 := by
  have := hw.shs
  rw [← hm, List.length_map] at this; omega
theorem ref_doneM {m : Nat} {st : MS} : Spc Try.prog 96 #[qp m] [] [Rg m st] (ret (.bool st.done) [Rg m st]) :=
  Spc.mine0 fun h ⟨z, hz, s⟩ => ⟨_, done_eq hz.2.1 ▸ ref_done_spec (sv := z.1) (tv := z.2.1) hz.1.told, rros_ok s⟩
theorem ref_wantsM {m : Nat} {st : MS} : Spc Try.prog 91 #[qp m] [] [Rg m st] (exP fun v' => puP (v'.oneCell' = true) (ret v' [Rg m st, row 3 1 eN v' st.wants])) :=
  Spc.mine1 fun h ⟨z, hz, s⟩ => by
    have hl := wf_len hz.1 hz.2.1
    refine ⟨_, ?_, rros_ok s⟩
    have := ref_wants_spec (m := m) (n := st.n) (sv := z.1) (tv := z.2.1) (told := st.told) hz.1.told hl
    rw [done_eq hz.2.1, hz.2.1, show z.2.2.length = st.shs.length by rw [← hz.2.1, List.length_map]] at this
    exact this
theorem ref_sureM {m : Nat} {st : MS} {x : Item} {b : Bool} (hx : x.word.size ≤ 1000000) (hs : st.Small) (h : (!(st.shs.any fun s => s.might x)) = b) : Spc Try.prog 97 #[qp m, Iv x] [] [Rg m st] (ret (.bool b) [Rg m st]) :=
  Spc.mine0 fun hh ⟨z, hz, s⟩ => by
    have hl := wf_len hz.1 hz.2.1
    refine ⟨_, ?_, rros_ok s⟩
    have := ref_sure_spec (m := m) (n := st.n) (sv := z.1) (tv := z.2.1) (told := st.told) hx (shs := z.2.2) (fun q hq => hs.last q.p (by rw [← hz.2.1]; exact List.mem_map.2 ⟨q, hq, rfl⟩)) hl
    rw [← any_map (p := fun s => s.might x), hz.2.1, h] at this
    exact this
/-! ### Put, in plain words -/
theorem wants_mem {st : MS} {z : Int} (h : z ∈ st.wants) : st.done = false ∧ ∃ (j : Nat) (s : PSh), z = (j : Nat) ∧ st.shs[j]? = some s ∧ s.wanted = true := by
  unfold MS.wants at h
  cases hd : st.done
  · rw [hd, if_neg Bool.false_ne_true] at h
    refine ⟨rfl, ?_⟩
    unfold wantsU at h
    obtain ⟨j, hj, rfl⟩ := List.mem_map.1 h
    obtain ⟨h1, h2⟩ := List.mem_filter.1 hj
    cases hs : st.shs[j]? with
    | none => rw [hs] at h2; simp at h2
    | some s => rw [hs] at h2; exact ⟨j, s, rfl, hs, h2⟩
  · rw [hd, if_pos rfl] at h; simp at h
theorem mem_wants {st : MS} {j : Nat} {s : PSh} (hd : st.done = false) (hs : st.shs[j]? = some s) (hw : s.wanted = true) : (j : Int) ∈ st.wants := by
  unfold MS.wants
  rw [hd, if_neg Bool.false_ne_true]
  unfold wantsU
  refine List.mem_map.2 ⟨j, List.mem_filter.2 ⟨List.mem_range.2 (List.getElem?_eq_some_iff.1 hs).1, ?_⟩, rfl⟩
  rw [hs]; exact hw
theorem put_unwanted {st : MS} {i seq : Int} {items : List Item} {e : Bool} (h : i ∉ st.wants) : st.put i seq items e = (false, st) := by
  unfold MS.put
  split
  · rename_i h0
    obtain ⟨j, rfl⟩ := Int.eq_ofNat_of_zero_le h0
    rw [Int.toNat_natCast]
    cases hs : st.shs[j]? with
    | none => rfl
    | some s =>
      have ht : st.takes s seq items e = false := by
        unfold MS.takes
        cases hd : st.done
        · cases hw : s.wanted
          · simp
          · exact absurd (mem_wants hd hs hw) h
        · simp
      simp only [ht, Bool.false_eq_true, if_false]
  · rfl
def okI (s : PSh) (items : List Item) (i : Nat) (x : Item) : Prop := s.least ≤ x.dist ∧ (∀ (j : Nat) (y : Item), i = j + 1 → items[j]? = some y → lessF y x = true) ∧ (s.heard = true → lessF s.last x = true)
theorem chain_from {le : Int} : ∀ {l : List Item} {la : Item} {h : Bool}, chainF la h le l = true → (∀ x ∈ l, le ≤ x.dist ∧ (h = true → lessF la x = true)) ∧ (∀ (j : Nat) (y x : Item), l[j]? = some y → l[j + 1]? = some x → lessF y x = true)
  | [], _, _, _ => ⟨by simp, fun j y x h => by simp at h⟩
  | a :: l, la, h, hc => by
    simp only [chainF, Bool.and_eq_true, Bool.not_eq_true', Bool.or_eq_false_iff] at hc
    obtain ⟨⟨h1, h2⟩, h3⟩ := hc
    obtain ⟨g1, g2⟩ := chain_from h3
    have hla : h = true → lessF la a = true := fun e => by rw [e] at h1; simpa using h1
    have hda : le ≤ a.dist := by
      have := of_decide_eq_false h2; omega
    refine ⟨fun x hx => ?_, fun j y x hy hx => ?_⟩
    · rcases List.mem_cons.1 hx with rfl | hx
      · exact ⟨hda, hla⟩
      · exact ⟨(g1 x hx).1, fun e => less_trans (hla e) ((g1 x hx).2 rfl)⟩
    · cases j with
      | zero =>
        simp at hy hx
        subst hy
        exact (g1 x (List.mem_of_getElem? hx)).2 rfl
      | succ j =>
        simp at hy hx
        exact g2 j y x hy hx
theorem chain_back {le : Int} : ∀ {l : List Item} {la : Item} {h : Bool}, (∀ x ∈ l, le ≤ x.dist) → (∀ x, l[0]? = some x → h = true → lessF la x = true) → (∀ (j : Nat) (y x : Item), l[j]? = some y → l[j + 1]? = some x → lessF y x = true) → chainF la h le l = true
  | [], _, _, _, _, _ => rfl
  | a :: l, la, h, h1, h2, h3 => by
    have ih := chain_back (l := l) (la := a) (h := true) (fun x hx => h1 x (List.mem_cons_of_mem _ hx)) (fun x hx _ => h3 0 a x rfl (by simpa using hx)) (fun j y x hy hx => h3 (j + 1) y x (by simpa using hy) (by simpa using hx))
    have hd := h1 a (List.mem_cons_self ..)
    simp only [chainF, ih, Bool.and_true, Bool.not_eq_true', Bool.or_eq_false_iff]
    refine ⟨?_, decide_eq_false (by omega)⟩
    cases h with
    | false => rfl
    | true => simp [h2 a rfl rfl]
theorem chain_ok {s : PSh} {items : List Item} (h : ∀ (i : Nat) (x : Item), items[i]? = some x → okI s items i x) : chainF s.last s.heard s.least items = true :=
  chain_back (fun x hx => by obtain ⟨i, hi⟩ := List.getElem?_of_mem hx; exact (h i x hi).1) (fun x hx hh => (h 0 x hx).2.2 hh) (fun j y x hy hx => (h (j + 1) x hx).2.1 j y rfl hy)
theorem chain_bad {s : PSh} {items : List Item} {i : Nat} {x : Item} (hx : items[i]? = some x) (h : ¬ okI s items i x) : chainF s.last s.heard s.least items = false := by
  cases hc : chainF s.last s.heard s.least items
  · rfl
  · obtain ⟨g1, g2⟩ := chain_from hc
    have g3 := g1 x (List.mem_of_getElem? hx)
    exact absurd ⟨g3.1, fun j y e hy => by subst e; exact g2 j y x hy hx, g3.2⟩ h
end Go.Proofs.Ytpmhelfdmhjnbaa
