import Derived.Test.YtpmhelfdmhjnbaaS3
/- slices.symMergeCmpFunc of items: the general case. -/
namespace Go.Proofs.Ytpmhelfdmhjnbaa
open Go Go.Ink Go.Plain
set_option linter.unusedVariables false
set_option linter.unusedSimpArgs false
attribute [local irreducible] KP QY EW CW DW QG CP Spc DK Fina wpList lessF

/-- What the general case leans on: it is right for shorter ones. -/
def SymOK (k : Nat) : Prop := ∀ {v : Value} {P A B S : List Item} {a m b : Nat}, A.length + B.length < k → a = P.length → m = P.length + A.length → b = P.length + A.length + B.length → 0 < A.length → 0 < B.length → SortedI A → SortedI B → (P ++ A ++ B ++ S).length ≤ 100000 →
    Spc Try.prog 115 #[v, iv (a : Nat), iv (m : Nat), iv (b : Nat), cmpv] [] [row 39 2 eI v (P ++ (A ++ (B ++ S)))] (mpost v P (A ++ B) S)
theorem sorted_parts {A B : List Item} (h : SortedI (A ++ B)) : SortedI A ∧ SortedI B := ⟨(List.pairwise_append.1 h).1, (List.pairwise_append.1 h).2.1⟩
theorem join_sorted {L R A1 A2 B1 B2 : List Item} (hL : L.Perm (A1 ++ B1)) (hR : R.Perm (A2 ++ B2)) (sL : SortedI L) (sR : SortedI R) (hA : SortedI (A1 ++ A2)) (hB : SortedI (B1 ++ B2))
    (x1 : ∀ x ∈ A1, ∀ y ∈ B2, lessF y x = false) (x2 : ∀ x ∈ B1, ∀ y ∈ A2, lessF y x = false) : SortedI (L ++ R) := by
  refine List.pairwise_append.2 ⟨sL, sR, fun l hl r hr => ?_⟩
  have hl' := hL.mem_iff.1 hl
  have hr' := hR.mem_iff.1 hr
  rcases List.mem_append.1 hl' with h1 | h1 <;> rcases List.mem_append.1 hr' with h2 | h2
  · exact (List.pairwise_append.1 hA).2.2 l h1 r h2
  · exact x1 l h1 r h2
  · exact x2 l h1 r h2
  · exact (List.pairwise_append.1 hB).2.2 l h1 r h2
/-- The cut of the binary search. -/
theorem cut_cross {A B : List Item} {M s lo hi : Nat} (hA : SortedI A) (hB : SortedI B) (hs1 : lo ≤ s) (hs2 : s ≤ hi) (hhi : hi = M ∨ hi = A.length) (hlo : lo = 0 ∨ (lo + B.length = M)) (hhiA : hi ≤ A.length) (hhiM : hi ≤ M) (hMB : M ≤ B.length + lo)
    (h1 : ∀ c x y, lo ≤ c → c < s → A[c]? = some x → B[M - 1 - c]? = some y → lessF y x = false) (h2 : ∀ c x y, s ≤ c → c < hi → A[c]? = some x → B[M - 1 - c]? = some y → lessF y x = true) :
    (∀ x ∈ A.take s, ∀ y ∈ B.drop (M - s), lessF y x = false) ∧ (∀ x ∈ B.take (M - s), ∀ y ∈ A.drop s, lessF y x = false) := by
  constructor
  · intro x hx y hy
    obtain ⟨l, hl, hxl⟩ := mem_take_at hx
    obtain ⟨k, hk, hyk⟩ := mem_drop_at hy
    have hkB := (List.getElem?_eq_some_iff.1 hyk).1
    have hls : lo < s := by omega
    obtain ⟨x1, hx1⟩ := at_lt (xs := A) (i := s - 1) (by omega)
    obtain ⟨y1, hy1⟩ := at_lt (xs := B) (i := M - s) (by omega)
    have hp := h1 (s - 1) x1 y1 (by omega) (by omega) hx1 (by rw [← hy1]; congr 1; omega)
    exact le_trans' (sorted_get hA (by omega) hxl hx1) (le_trans' hp (sorted_get hB hk hy1 hyk))
  · intro x hx y hy
    obtain ⟨l, hl, hxl⟩ := mem_take_at hx
    obtain ⟨k, hk, hyk⟩ := mem_drop_at hy
    have hkA := (List.getElem?_eq_some_iff.1 hyk).1
    have hxB := (List.getElem?_eq_some_iff.1 hxl).1
    have hsh : s < hi := by omega
    obtain ⟨x0, hx0⟩ := at_lt (xs := A) (i := s) (by omega)
    obtain ⟨y0, hy0⟩ := at_lt (xs := B) (i := M - 1 - s) (by omega)
    have hp := h2 s x0 y0 (Nat.le_refl _) hsh hx0 hy0
    have h3 := le_lt (sorted_get hB (by omega) hxl hy0) hp
    exact less_asym (less_le h3 (sorted_get hA hk hx0 hyk))




set_option maxHeartbeats 8000000 in
theorem sym_gen {v : Value} {P A B S : List Item} {a m b : Nat} (ih : SymOK (A.length + B.length)) (ha : a = P.length) (hm : m = P.length + A.length) (hb : b = P.length + A.length + B.length) (hA2 : 2 ≤ A.length) (hB2 : 2 ≤ B.length) (hA : SortedI A) (hB : SortedI B) (hl : (P ++ A ++ B ++ S).length ≤ 100000) :
    Spc Try.prog 115 #[v, iv (a : Nat), iv (m : Nat), iv (b : Nat), cmpv] [] [row 39 2 eI v (P ++ (A ++ (B ++ S)))] (mpost v P (A ++ B) S) := by
  refine Spc.enter' (args := [v, iv (a : Nat), iv (m : Nat), iv (b : Nat), cmpv]) (T0 := [(0, v), (1, iv (a : Nat)), (2, iv (m : Nat)), (3, iv (b : Nat)), (4, cmpv)]) Try.func115 rfl Try.ntmps115 (Nat.le_of_ble_eq_true rfl) rfl ?_
  intro w0 own
  simp only [List.length_append] at hl
  obtain ⟨M, hM2⟩ : ∃ M, M = (A.length + B.length) / 2 := ⟨_, rfl⟩
  obtain rfl : m = a + A.length := by omega
  obtain ⟨mid, hmM⟩ : ∃ mid, mid = a + M := ⟨_, rfl⟩
  have hmid : (a + b) / 2 = mid := by omega
  repeat' (first
    | (with_reducible refine CW.seq ?_)
    | (with_reducible refine KP.then_code ?_)
    | (with_reducible refine CW.skip ?_)
    | (with_reducible refine CW.ret ?_)
    | (with_reducible refine KP.then_ret ?_)
    | (with_reducible refine KP.block_ret ?_)
    | (with_reducible refine CW.block ?_)
    | (with_reducible refine KP.block_normal ?_)
    | (with_reducible refine CW.exit ?_)
    | (with_reducible refine KP.then_exit ?_)
    | (with_reducible refine KP.block_hit ?_)
    | refine KP.bm ?_
    | refine CW.ct ?_
    | refine CW.cf ?_
    | (refine CW.cP ?_ ?_ <;> intro _ <;> try contradiction)
    | (refine CW.cs ?_ ?_ <;> intro _ <;> try contradiction)
    | (refine CW.region (i := 0) ?_ <;> refine KP.q QK.mv ?_ <;> refine KP.q QK.mv ?_ <;> refine KP.q (by first | exact QY.sub1N rfl rfl (by omega) | exact QY.subN rfl rfl (by omega) | exact QK.sub) ?_ <;> refine KP.q QK.eqi ?_ <;> refine KP.list_nil ?_)
    | (refine CW.region (i := 12) ?_ <;> refine KP.q QK.mv ?_ <;> refine KP.q QK.mv ?_ <;> refine KP.q (by first | exact QY.sub1N rfl rfl (by omega) | exact QY.subN rfl rfl (by omega) | exact QK.sub) ?_ <;> refine KP.q QK.eqi ?_ <;> refine KP.list_nil ?_)
    | (refine CW.region (i := 24) ?_ <;> refine KP.q QK.mv ?_ <;> refine KP.q QK.mv ?_ <;> refine KP.q (by first | exact QY.addN rfl rfl (by omega) | exact QK.add) ?_ <;> refine KP.q (by first | exact QY.toU rfl (by omega) | exact QY.toI rfl (by omega) | exact QK.cv) ?_ <;> refine KP.q (QY.half rfl rfl) ?_ <;> refine KP.q (by first | exact QY.toU rfl (by omega) | exact QY.toI rfl (by omega) | exact QK.cv) ?_ <;> refine KP.q QK.as ?_ <;> refine KP.list_nil ?_)
    | (refine CW.region (i := 25) ?_ <;> refine KP.q QK.mv ?_ <;> refine KP.q QK.mv ?_ <;> refine KP.q (by first | exact QY.addN rfl rfl (by omega) | exact QK.add) ?_ <;> refine KP.q QK.as ?_ <;> refine KP.list_nil ?_)
    | (refine CW.region (i := 26) ?_ <;> refine KP.q QK.as ?_ <;> refine KP.q QK.as ?_ <;> refine KP.list_nil ?_)
    | ((with_reducible refine KP.fin0 ?_ ?_); (· rfl))
    | ((with_reducible refine KP.fin0r ?_ ?_); (· rfl)))
  rw [hmid]
  subst hmM
  refine CW.mid2 (X := Nat × Nat) (fun z => [(0, v), (1, iv (a : Nat)), (2, iv ((a + A.length) : Nat)), (3, iv (b : Nat)), (4, cmpv), (18, iv ((a + M) : Nat)), (19, iv (((a + M) + (a + A.length) : Nat) : Int)), (20, iv ((a + z.1 : Nat) : Int)), (21, iv ((a + z.2 : Nat) : Int))]) (fun _ => [row 39 2 eI v (P ++ (A ++ (B ++ S)))])
    (fun z => (z.2 = M ∨ z.2 = A.length) ∧ (z.1 = 0 ∨ z.1 + B.length = M) ∧ z.2 ≤ A.length ∧ z.2 ≤ M ∧ M ≤ B.length + z.1 ∧ z.1 ≤ z.2) ?_ ?_
  · rcases Nat.lt_or_ge M A.length with h | h
    · repeat' (first
    | (with_reducible refine CW.seq ?_)
    | (with_reducible refine KP.then_code ?_)
    | (with_reducible refine CW.skip ?_)
    | (with_reducible refine CW.ret ?_)
    | (with_reducible refine KP.then_ret ?_)
    | (with_reducible refine KP.block_ret ?_)
    | (with_reducible refine CW.block ?_)
    | (with_reducible refine KP.block_normal ?_)
    | (with_reducible refine CW.exit ?_)
    | (with_reducible refine KP.then_exit ?_)
    | (with_reducible refine KP.block_hit ?_)
    | refine KP.bm ?_
    | refine CW.ct ?_
    | refine CW.cf ?_
    | (refine CW.cP ?_ ?_ <;> intro _ <;> try contradiction)
    | (refine CW.cs ?_ ?_ <;> intro _ <;> try contradiction)
    | (refine CW.region (i := 27) ?_ <;> refine KP.q QK.mv ?_ <;> refine KP.q QK.mv ?_ <;> refine KP.q QK.gtr ?_ <;> refine KP.list_nil ?_)
    | (refine CW.region (i := 28) ?_ <;> refine KP.q QK.mv ?_ <;> refine KP.q QK.mv ?_ <;> refine KP.q (by first | exact QY.sub1N rfl rfl (by omega) | exact QY.subN rfl rfl (by omega) | exact QK.sub) ?_ <;> refine KP.q QK.as ?_ <;> refine KP.list_nil ?_)
    | (refine CW.region (i := 29) ?_ <;> refine KP.q QK.mv ?_ <;> refine KP.q QK.as ?_ <;> refine KP.list_nil ?_)
    | ((with_reducible refine KP.fin0 ?_ ?_); (· rfl))
    | ((with_reducible refine KP.fin0r ?_ ?_); (· rfl)))
      rw [show (a + M) + (a + A.length) - b = a + (M - B.length) by omega]
      exact KA.joint (M - B.length, M) ⟨by simp, by simp only; omega, by simp only; omega, by simp, by simp only; omega, by simp only; omega⟩
    · repeat' (first
    | (with_reducible refine CW.seq ?_)
    | (with_reducible refine KP.then_code ?_)
    | (with_reducible refine CW.skip ?_)
    | (with_reducible refine CW.ret ?_)
    | (with_reducible refine KP.then_ret ?_)
    | (with_reducible refine KP.block_ret ?_)
    | (with_reducible refine CW.block ?_)
    | (with_reducible refine KP.block_normal ?_)
    | (with_reducible refine CW.exit ?_)
    | (with_reducible refine KP.then_exit ?_)
    | (with_reducible refine KP.block_hit ?_)
    | refine KP.bm ?_
    | refine CW.ct ?_
    | refine CW.cf ?_
    | (refine CW.cP ?_ ?_ <;> intro _ <;> try contradiction)
    | (refine CW.cs ?_ ?_ <;> intro _ <;> try contradiction)
    | (refine CW.region (i := 27) ?_ <;> refine KP.q QK.mv ?_ <;> refine KP.q QK.mv ?_ <;> refine KP.q QK.gtr ?_ <;> refine KP.list_nil ?_)
    | (refine CW.region (i := 30) ?_ <;> refine KP.q QK.mv ?_ <;> refine KP.q QK.as ?_ <;> refine KP.list_nil ?_)
    | (refine CW.region (i := 31) ?_ <;> refine KP.q QK.mv ?_ <;> refine KP.q QK.as ?_ <;> refine KP.list_nil ?_)
    | ((with_reducible refine KP.fin0 ?_ ?_); (· rfl))
    | ((with_reducible refine KP.fin0r ?_ ?_); (· rfl)))
      exact KA.joint (0, A.length) ⟨by simp, by simp, by simp, by simp only; omega, by simp only; omega, by simp⟩
  rintro ⟨lo, hi⟩ ⟨hhi, hlo, hhiA, hhiM, hMB, hlh⟩
  try dsimp only at hhi hlo hhiA hhiM hMB hlh ⊢
  repeat' (first
    | (with_reducible refine CW.seq ?_)
    | (with_reducible refine KP.then_code ?_)
    | (with_reducible refine CW.skip ?_)
    | (with_reducible refine CW.ret ?_)
    | (with_reducible refine KP.then_ret ?_)
    | (with_reducible refine KP.block_ret ?_)
    | (with_reducible refine CW.block ?_)
    | (with_reducible refine KP.block_normal ?_)
    | (with_reducible refine CW.exit ?_)
    | (with_reducible refine KP.then_exit ?_)
    | (with_reducible refine KP.block_hit ?_)
    | refine KP.bm ?_
    | refine CW.ct ?_
    | refine CW.cf ?_
    | (refine CW.cP ?_ ?_ <;> intro _ <;> try contradiction)
    | (refine CW.cs ?_ ?_ <;> intro _ <;> try contradiction)
    | (refine CW.region (i := 32) ?_ <;> refine KP.q QK.mv ?_ <;> refine KP.q (by first | exact QY.sub1N rfl rfl (by omega) | exact QY.subN rfl rfl (by omega) | exact QK.sub) ?_ <;> refine KP.q QK.as ?_ <;> refine KP.list_nil ?_)
    | ((with_reducible refine KP.fin0 ?_ ?_); (· rfl))
    | ((with_reducible refine KP.fin0r ?_ ?_); (· rfl)))
  refine CA.loop (X := Nat × Nat) (fun z => [(0, v), (1, iv (a : Nat)), (2, iv ((a + A.length) : Nat)), (3, iv (b : Nat)), (4, cmpv), (18, iv ((a + M) : Nat)), (19, iv (((a + M) + (a + A.length) : Nat) : Int)), (22, iv (((a + M) + (a + A.length) - 1 : Nat) : Int)), (20, iv ((a + z.1 : Nat) : Int)), (21, iv ((a + z.2 : Nat) : Int))]) (fun _ => [row 39 2 eI v (P ++ (A ++ (B ++ S)))])
    (fun z => lo ≤ z.1 ∧ z.1 ≤ z.2 ∧ z.2 ≤ hi ∧ (∀ c x y, lo ≤ c → c < z.1 → A[c]? = some x → B[M - 1 - c]? = some y → lessF y x = false) ∧ (∀ c x y, z.2 ≤ c → c < hi → A[c]? = some x → B[M - 1 - c]? = some y → lessF y x = true)) (fun z => z.2 - z.1)
    (lo, hi) ⟨Nat.le_refl _, hlh, Nat.le_refl _, fun c x y h1 h2 => absurd h2 (by simp only; omega), fun c x y h1 h2 => absurd h2 (by simp only at h1; omega)⟩ ?_
  rintro ⟨s, r⟩ ⟨hs1, hsr, hr, hf, ht⟩
  try dsimp only at hs1 hsr hr hf ht ⊢
  rcases Nat.lt_or_ge s r with hlt | hge
  · obtain ⟨cc, hcc⟩ : ∃ cc, cc = (a + s + (a + r)) / 2 := ⟨_, rfl⟩
    obtain ⟨x, hx⟩ := at_lt (xs := A) (i := cc - a) (by omega)
    obtain ⟨y, hy⟩ := at_lt (xs := B) (i := M - 1 - (cc - a)) (by omega)
    obtain ⟨Z, hZ⟩ : ∃ Z, Z = P ++ (A ++ (B ++ S)) := ⟨_, rfl⟩
    have hzl : Z.length = P.length + (A.length + (B.length + S.length)) := by rw [hZ]; simp
    have hzx : Z[(a + s + (a + r)) / 2]? = some x := by
      rw [hZ, get_in (by omega) (by omega), ← hx]; congr 1; omega
    have hzy : Z[(a + M) + (a + A.length) - 1 - (a + s + (a + r)) / 2]? = some y := by
      rw [hZ, ← List.append_assoc, get_in (by simp; omega) (by simp; omega), ← hy]; congr 1; simp; omega
    have hAt : ∀ c z w, c ≤ cc - a → A[c]? = some z → B[M - 1 - c]? = some w → lessF y x = false → lessF w z = false := fun c z w hc hz hw h =>
      le_trans' (sorted_get hA hc hz hx) (le_trans' h (sorted_get hB (by omega) hy hw))
    have hBt : ∀ c z w, cc - a ≤ c → A[c]? = some z → B[M - 1 - c]? = some w → lessF y x = true → lessF w z = true := fun c z w hc hz hw h =>
      less_le (le_lt (sorted_get hB (by omega) hw hy) h) (sorted_get hA hc hx hz)
    rw [← hZ]
    
    
    repeat' (first
    | (with_reducible refine CW.seq ?_)
    | (with_reducible refine KP.then_code ?_)
    | (with_reducible refine CW.skip ?_)
    | (with_reducible refine CW.ret ?_)
    | (with_reducible refine KP.then_ret ?_)
    | (with_reducible refine KP.block_ret ?_)
    | (with_reducible refine CW.block ?_)
    | (with_reducible refine KP.block_normal ?_)
    | (with_reducible refine CW.exit ?_)
    | (with_reducible refine KP.then_exit ?_)
    | (with_reducible refine KP.block_hit ?_)
    | refine KP.bm ?_
    | refine CW.ct ?_
    | refine CW.cf ?_
    | (refine CW.cP ?_ ?_ <;> intro _ <;> try contradiction)
    | (refine CW.cs ?_ ?_ <;> intro _ <;> try contradiction)
    | (refine CW.region (i := 33) ?_ <;> refine KP.q QK.mv ?_ <;> refine KP.q QK.mv ?_ <;> refine KP.q QK.lss ?_ <;> refine KP.list_nil ?_)
    | (refine CW.region (i := 34) ?_ <;> refine KP.q QK.mv ?_ <;> refine KP.q QK.mv ?_ <;> refine KP.q (by first | exact QY.addN rfl rfl (by omega) | exact QK.add) ?_ <;> refine KP.q (by first | exact QY.toU rfl (by omega) | exact QY.toI rfl (by omega) | exact QK.cv) ?_ <;> refine KP.q (QY.half rfl rfl) ?_ <;> refine KP.q (by first | exact QY.toU rfl (by omega) | exact QY.toI rfl (by omega) | exact QK.cv) ?_ <;> refine KP.q QK.as ?_ <;> refine KP.list_nil ?_)
    | (((with_reducible refine CW.draw (i := 35) ?_ [[], [], [], [], [2, 3], [1, 2, 3, 4], [1, 2, 3, 4, 5], [], [], [7, 8], [7, 8, 9], [0, 1, 2, 3, 4, 5, 6, 7, 8, 9, 10], [0, 1, 2, 3, 4, 5, 6, 7, 8, 9, 10, 11], [0, 1, 2, 3, 4, 5, 6, 7, 8, 9, 10, 11, 12]] ?_ ?_ ?_ ?_); (· rfl); (· kernel_rfl); (· kernel_rfl); (· repeat (first | exact NoHang.post | refine NoHang.then ?_ | refine NoHang.block ?_))) <;> refine DW.p 0 rfl (fun _ => QK.mv) ?_ <;> refine DW.p 1 rfl (fun _ => QK.mv) ?_ <;> refine DW.p 2 rfl (fun _ => QK.mv) ?_ <;> refine DW.p 3 rfl (fun _ => QK.mv) ?_ <;> refine DW.p 4 rfl (fun _ => (by first | exact QY.sub1N rfl rfl (by omega) | exact QY.subN rfl rfl (by omega) | exact QK.sub)) ?_ <;> refine DW.p 7 rfl (fun _ => QK.mv) ?_ <;> refine DW.p 8 rfl (fun _ => QK.mv) ?_ <;> refine DW.m 5 rfl QK.ia ?_ <;> refine DW.m 6 rfl (by first | exact QY.load_a rfl (Rd.own (by with_reducible first | exact k0 | exact k1 | exact k2 | exact k3 | exact k4 | exact k5 | exact k6 | exact k7 | exact k8 | exact k9 | fail)) (Reads.row RowL.row hzx) (by rfl) | exact QY.load_a rfl (Rd.own (by with_reducible first | exact k0 | exact k1 | exact k2 | exact k3 | exact k4 | exact k5 | exact k6 | exact k7 | exact k8 | exact k9 | fail)) (Reads.row RowL.row hzy) (by rfl) | exact QK.lda) ?_ <;> refine DW.m 9 rfl QK.ia ?_ <;> refine DW.m 10 rfl (by first | exact QY.load_a rfl (Rd.own (by with_reducible first | exact k0 | exact k1 | exact k2 | exact k3 | exact k4 | exact k5 | exact k6 | exact k7 | exact k8 | exact k9 | fail)) (Reads.row RowL.row hzx) (by rfl) | exact QY.load_a rfl (Rd.own (by with_reducible first | exact k0 | exact k1 | exact k2 | exact k3 | exact k4 | exact k5 | exact k6 | exact k7 | exact k8 | exact k9 | fail)) (Reads.row RowL.row hzy) (by rfl) | exact QK.lda) ?_ <;> (refine DW.ex 11 rfl ?_; intro hdk; ((refine EW.callv (vs := [Iv y, Iv x]) (caps := []) rfl (compare_spec (a := y) (b := x)) rfl .nil .nil ?_); repeat' first | refine CP.r ?_ | refine CP.r0 ?_ | refine CP.exP fun e169 => ?_ | refine CP.puP fun h169 => ?_); all_goals (refine DK.mk hdk .nil ?_; clear hdk)) <;> refine DW.p 12 rfl (fun _ => QK.lss) ?_ <;> refine DW.p 13 rfl (fun _ => QK.not) ?_ <;> refine DW.zz ?_)
    | (refine CW.region (i := 36) ?_ <;> refine KP.q QK.mv ?_ <;> refine KP.q (by first | exact QY.addN rfl rfl (by omega) | exact QK.add) ?_ <;> refine KP.q QK.as ?_ <;> refine KP.list_nil ?_)
    | (refine CW.region (i := 37) ?_ <;> refine KP.q QK.mv ?_ <;> refine KP.q QK.as ?_ <;> refine KP.list_nil ?_)
    | ((with_reducible refine KP.fin0 ?_ ?_); (· rfl))
    | ((with_reducible refine KP.fin0r ?_ ?_); (· rfl)))
    · rename_i hc
      have hc' : lessF y x = false := by
        cases h : lessF y x with
        | false => rfl
        | true => exfalso; unfold lessF at h; simp at h hc; omega
      rw [← hcc, show cc + 1 = a + (cc + 1 - a) by omega, hZ]
      refine KA.round (cc + 1 - a, r) ⟨by simp only; omega, by simp only; omega, hr, fun c z w h1 h2 h3 h4 => hAt c z w (by simp only at h2; omega) h3 h4 hc', ht⟩ (by simp only; omega)
    · rename_i hc
      have hc' : lessF y x = true := by
        cases h : lessF y x with
        | true => rfl
        | false => exfalso; unfold lessF at h; simp at h hc; omega
      rw [← hcc, show cc = a + (cc - a) by omega, hZ]
      refine KA.round (s, cc - a) ⟨hs1, by simp only; omega, by simp only; omega, hf, fun c z w h1 h2 h3 h4 => hBt c z w h1 h3 h4 hc'⟩ (by simp only; omega)
  · obtain rfl : s = r := by omega
    have hcr := cut_cross hA hB hs1 hr hhi hlo hhiA hhiM hMB hf ht
    obtain ⟨A1, hA1⟩ : ∃ A1, A1 = A.take s := ⟨_, rfl⟩
    obtain ⟨A2, hA2'⟩ : ∃ A2, A2 = A.drop s := ⟨_, rfl⟩
    obtain ⟨B1, hB1⟩ : ∃ B1, B1 = B.take (M - s) := ⟨_, rfl⟩
    obtain ⟨B2, hB2'⟩ : ∃ B2, B2 = B.drop (M - s) := ⟨_, rfl⟩
    rw [← hA1, ← hA2', ← hB1, ← hB2'] at hcr
    have hAA : A1 ++ A2 = A := by rw [hA1, hA2']; exact List.take_append_drop _ _
    have hBB : B1 ++ B2 = B := by rw [hB1, hB2']; exact List.take_append_drop _ _
    have a1 : A1.length = s := by rw [hA1]; simp; omega
    have b1 : B1.length = M - s := by rw [hB1]; simp; omega
    have a2 : A1.length + A2.length = A.length := by rw [← hAA]; simp
    have b2 : B1.length + B2.length = B.length := by rw [← hBB]; simp
    have sA := sorted_parts (hAA ▸ hA : SortedI (A1 ++ A2))
    have sB := sorted_parts (hBB ▸ hB : SortedI (B1 ++ B2))
    clear hf ht hA1 hA2' hB1 hB2'
    repeat' (first
    | (with_reducible refine CW.seq ?_)
    | (with_reducible refine KP.then_code ?_)
    | (with_reducible refine CW.skip ?_)
    | (with_reducible refine CW.ret ?_)
    | (with_reducible refine KP.then_ret ?_)
    | (with_reducible refine KP.block_ret ?_)
    | (with_reducible refine CW.block ?_)
    | (with_reducible refine KP.block_normal ?_)
    | (with_reducible refine CW.exit ?_)
    | (with_reducible refine KP.then_exit ?_)
    | (with_reducible refine KP.block_hit ?_)
    | refine KP.bm ?_
    | refine CW.ct ?_
    | refine CW.cf ?_
    | (refine CW.cP ?_ ?_ <;> intro _ <;> try contradiction)
    | (refine CW.cs ?_ ?_ <;> intro _ <;> try contradiction)
    | (refine CW.region (i := 33) ?_ <;> refine KP.q QK.mv ?_ <;> refine KP.q QK.mv ?_ <;> refine KP.q QK.lss ?_ <;> refine KP.list_nil ?_)
    | (refine CW.region (i := 38) ?_ <;> refine KP.q QK.mv ?_ <;> refine KP.q QK.mv ?_ <;> refine KP.q (by first | exact QY.sub1N rfl rfl (by omega) | exact QY.subN rfl rfl (by omega) | exact QK.sub) ?_ <;> refine KP.q QK.as ?_ <;> refine KP.list_nil ?_)
    | ((with_reducible refine KP.fin0 ?_ ?_); (· rfl))
    | ((with_reducible refine KP.fin0r ?_ ?_); (· rfl)))
    rw [show P ++ (A ++ (B ++ S)) = P ++ A1 ++ (A2 ++ (B1 ++ (B2 ++ S))) by rw [← hAA, ← hBB]; simp]
    refine CW.mid2 (X := Unit) (fun z => [(0, v), (1, iv (a : Nat)), (2, iv ((a + A.length) : Nat)), (3, iv (b : Nat)), (4, cmpv), (18, iv ((a + M) : Nat)), (20, iv ((a + s : Nat) : Int)), (24, iv (((a + M) + (a + A.length) - (a + s) : Nat) : Int))]) (fun _ => [row 39 2 eI v (P ++ (A1 ++ (B1 ++ (A2 ++ B2 ++ S))))]) (fun _ => True) ?_ ?_
    · have hrot : 0 < A2.length → 0 < B1.length → Spc Try.prog 119 #[v, iv ((a + s : Nat) : Int), iv ((a + A.length) : Nat), iv (((a + M) + (a + A.length) - (a + s) : Nat) : Int), cmpv] [] [row 39 2 eI v (P ++ A1 ++ (A2 ++ (B1 ++ (B2 ++ S))))] (ret (.tuple #[]) [row 39 2 eI v (P ++ A1 ++ (B1 ++ (A2 ++ (B2 ++ S))))]) := fun h1 h2 =>
        rotate_spec (P := P ++ A1) (A := A2) (B := B1) (S := B2 ++ S) (by simp; omega) (by simp; omega) (by simp; omega) h1 h2 (by simp; omega)
      have hfin : P ++ A1 ++ (B1 ++ (A2 ++ (B2 ++ S))) = P ++ (A1 ++ (B1 ++ (A2 ++ B2 ++ S))) := by simp
      rcases Nat.eq_zero_or_pos A2.length with hz | hz
      · repeat' (first
    | (with_reducible refine CW.seq ?_)
    | (with_reducible refine KP.then_code ?_)
    | (with_reducible refine CW.skip ?_)
    | (with_reducible refine CW.ret ?_)
    | (with_reducible refine KP.then_ret ?_)
    | (with_reducible refine KP.block_ret ?_)
    | (with_reducible refine CW.block ?_)
    | (with_reducible refine KP.block_normal ?_)
    | (with_reducible refine CW.exit ?_)
    | (with_reducible refine KP.then_exit ?_)
    | (with_reducible refine KP.block_hit ?_)
    | refine KP.bm ?_
    | refine CW.ct ?_
    | refine CW.cf ?_
    | (refine CW.cP ?_ ?_ <;> intro _ <;> try contradiction)
    | (refine CW.cs ?_ ?_ <;> intro _ <;> try contradiction)
    | (refine CW.region (i := 39) ?_ <;> refine KP.q QK.mv ?_ <;> refine KP.q QK.mv ?_ <;> refine KP.q QK.lss ?_ <;> refine KP.q QK.mv ?_ <;> (first | refine KP.gn ?_ | refine KP.gu ?_ | refine KP.qy QK.mv ?_ | ((first | refine KP.gsP (t := 181) ?_ ?_ | refine KP.gs (t := 181) ?_ ?_) <;> intro _ <;> first | contradiction | refine KP.gn ?_ | refine KP.qy QK.mv ?_)) <;> (first | refine KP.gn ?_ | refine KP.gu ?_ | refine KP.qy QK.mv ?_) <;> (first | refine KP.gn ?_ | refine KP.gu ?_ | refine KP.qy QK.lss ?_) <;> refine KP.q QK.pk ?_ <;> refine KP.list_nil ?_)
    | ((with_reducible refine KP.fin0 ?_ ?_); (· rfl))
    | ((with_reducible refine KP.fin0r ?_ ?_); (· rfl)))
        rw [show P ++ A1 ++ (A2 ++ (B1 ++ (B2 ++ S))) = P ++ (A1 ++ (B1 ++ (A2 ++ B2 ++ S))) by rw [List.length_eq_zero_iff.1 hz]; simp]
        exact KA.joint () trivial
      · rcases Nat.eq_zero_or_pos B1.length with hz' | hz'
        · repeat' (first
    | (with_reducible refine CW.seq ?_)
    | (with_reducible refine KP.then_code ?_)
    | (with_reducible refine CW.skip ?_)
    | (with_reducible refine CW.ret ?_)
    | (with_reducible refine KP.then_ret ?_)
    | (with_reducible refine KP.block_ret ?_)
    | (with_reducible refine CW.block ?_)
    | (with_reducible refine KP.block_normal ?_)
    | (with_reducible refine CW.exit ?_)
    | (with_reducible refine KP.then_exit ?_)
    | (with_reducible refine KP.block_hit ?_)
    | refine KP.bm ?_
    | refine CW.ct ?_
    | refine CW.cf ?_
    | (refine CW.cP ?_ ?_ <;> intro _ <;> try contradiction)
    | (refine CW.cs ?_ ?_ <;> intro _ <;> try contradiction)
    | (refine CW.region (i := 39) ?_ <;> refine KP.q QK.mv ?_ <;> refine KP.q QK.mv ?_ <;> refine KP.q QK.lss ?_ <;> refine KP.q QK.mv ?_ <;> (first | refine KP.gn ?_ | refine KP.gu ?_ | refine KP.qy QK.mv ?_ | ((first | refine KP.gsP (t := 181) ?_ ?_ | refine KP.gs (t := 181) ?_ ?_) <;> intro _ <;> first | contradiction | refine KP.gn ?_ | refine KP.qy QK.mv ?_)) <;> (first | refine KP.gn ?_ | refine KP.gu ?_ | refine KP.qy QK.mv ?_) <;> (first | refine KP.gn ?_ | refine KP.gu ?_ | refine KP.qy QK.lss ?_) <;> refine KP.q QK.pk ?_ <;> refine KP.list_nil ?_)
    | ((with_reducible refine KP.fin0 ?_ ?_); (· rfl))
    | ((with_reducible refine KP.fin0r ?_ ?_); (· rfl)))
          rw [show P ++ A1 ++ (A2 ++ (B1 ++ (B2 ++ S))) = P ++ (A1 ++ (B1 ++ (A2 ++ B2 ++ S))) by rw [List.length_eq_zero_iff.1 hz']; simp]
          exact KA.joint () trivial
        · 
          repeat' (first
    | (with_reducible refine CW.seq ?_)
    | (with_reducible refine KP.then_code ?_)
    | (with_reducible refine CW.skip ?_)
    | (with_reducible refine CW.ret ?_)
    | (with_reducible refine KP.then_ret ?_)
    | (with_reducible refine KP.block_ret ?_)
    | (with_reducible refine CW.block ?_)
    | (with_reducible refine KP.block_normal ?_)
    | (with_reducible refine CW.exit ?_)
    | (with_reducible refine KP.then_exit ?_)
    | (with_reducible refine KP.block_hit ?_)
    | refine KP.bm ?_
    | refine CW.ct ?_
    | refine CW.cf ?_
    | (refine CW.cP ?_ ?_ <;> intro _ <;> try contradiction)
    | (refine CW.cs ?_ ?_ <;> intro _ <;> try contradiction)
    | (refine CW.region (i := 39) ?_ <;> refine KP.q QK.mv ?_ <;> refine KP.q QK.mv ?_ <;> refine KP.q QK.lss ?_ <;> refine KP.q QK.mv ?_ <;> (first | refine KP.gn ?_ | refine KP.gu ?_ | refine KP.qy QK.mv ?_ | ((first | refine KP.gsP (t := 181) ?_ ?_ | refine KP.gs (t := 181) ?_ ?_) <;> intro _ <;> first | contradiction | refine KP.gn ?_ | refine KP.qy QK.mv ?_)) <;> (first | refine KP.gn ?_ | refine KP.gu ?_ | refine KP.qy QK.mv ?_) <;> (first | refine KP.gn ?_ | refine KP.gu ?_ | refine KP.qy QK.lss ?_) <;> refine KP.q QK.pk ?_ <;> refine KP.list_nil ?_)
    | (refine CW.region (i := 40) ?_ <;> refine KP.q QK.mv ?_ <;> refine KP.q QK.mv ?_ <;> refine KP.q QK.mv ?_ <;> refine KP.q QK.mv ?_ <;> refine KP.q QK.mv ?_ <;> (refine KP.e ?_; ((refine EK.call (hrot hz hz') ?_); repeat' first | refine CP.r ?_ | refine CP.r0 ?_ | refine CP.exP fun e191 => ?_ | refine CP.puP fun h191 => ?_)) <;> refine KP.list_nil ?_)
    | ((with_reducible refine KP.fin0 ?_ ?_); (· rfl))
    | ((with_reducible refine KP.fin0r ?_ ?_); (· rfl)))
          rw [hfin]
          exact KA.joint () trivial
    rintro - -
    repeat' (first
    | (with_reducible refine CW.seq ?_)
    | (with_reducible refine KP.then_code ?_)
    | (with_reducible refine CW.skip ?_)
    | (with_reducible refine CW.ret ?_)
    | (with_reducible refine KP.then_ret ?_)
    | (with_reducible refine KP.block_ret ?_)
    | (with_reducible refine CW.block ?_)
    | (with_reducible refine KP.block_normal ?_)
    | (with_reducible refine CW.exit ?_)
    | (with_reducible refine KP.then_exit ?_)
    | (with_reducible refine KP.block_hit ?_)
    | refine KP.bm ?_
    | refine CW.ct ?_
    | refine CW.cf ?_
    | (refine CW.cP ?_ ?_ <;> intro _ <;> try contradiction)
    | (refine CW.cs ?_ ?_ <;> intro _ <;> try contradiction)
    | ((with_reducible refine KP.fin0 ?_ ?_); (· rfl))
    | ((with_reducible refine KP.fin0r ?_ ?_); (· rfl)))
    refine CW.mid2 (X := List Item) (fun z => [(0, v), (3, iv (b : Nat)), (4, cmpv), (18, iv ((a + M) : Nat)), (24, iv (((a + M) + (a + A.length) - (a + s) : Nat) : Int))]) (fun L => [row 39 2 eI v (P ++ L ++ (A2 ++ (B2 ++ S)))]) (fun L => L.Perm (A1 ++ B1) ∧ SortedI L) ?_ ?_
    · rcases Nat.eq_zero_or_pos A1.length with hz | hz
      · repeat' (first
    | (with_reducible refine CW.seq ?_)
    | (with_reducible refine KP.then_code ?_)
    | (with_reducible refine CW.skip ?_)
    | (with_reducible refine CW.ret ?_)
    | (with_reducible refine KP.then_ret ?_)
    | (with_reducible refine KP.block_ret ?_)
    | (with_reducible refine CW.block ?_)
    | (with_reducible refine KP.block_normal ?_)
    | (with_reducible refine CW.exit ?_)
    | (with_reducible refine KP.then_exit ?_)
    | (with_reducible refine KP.block_hit ?_)
    | refine KP.bm ?_
    | refine CW.ct ?_
    | refine CW.cf ?_
    | (refine CW.cP ?_ ?_ <;> intro _ <;> try contradiction)
    | (refine CW.cs ?_ ?_ <;> intro _ <;> try contradiction)
    | (refine CW.region (i := 41) ?_ <;> refine KP.q QK.mv ?_ <;> refine KP.q QK.mv ?_ <;> refine KP.q QK.lss ?_ <;> refine KP.q QK.mv ?_ <;> (first | refine KP.gn ?_ | refine KP.gu ?_ | refine KP.qy QK.mv ?_ | ((first | refine KP.gsP (t := 195) ?_ ?_ | refine KP.gs (t := 195) ?_ ?_) <;> intro _ <;> first | contradiction | refine KP.gn ?_ | refine KP.qy QK.mv ?_)) <;> (first | refine KP.gn ?_ | refine KP.gu ?_ | refine KP.qy QK.mv ?_) <;> (first | refine KP.gn ?_ | refine KP.gu ?_ | refine KP.qy QK.lss ?_) <;> refine KP.q QK.pk ?_ <;> refine KP.list_nil ?_)
    | ((with_reducible refine KP.fin0 ?_ ?_); (· rfl))
    | ((with_reducible refine KP.fin0r ?_ ?_); (· rfl)))
        have e := List.length_eq_zero_iff.1 hz
        rw [show P ++ (A1 ++ (B1 ++ (A2 ++ B2 ++ S))) = P ++ B1 ++ (A2 ++ (B2 ++ S)) by rw [e]; simp]
        exact KA.joint B1 ⟨by rw [e]; exact .refl _, sB.1⟩
      · rcases Nat.eq_zero_or_pos B1.length with hz' | hz'
        · repeat' (first
    | (with_reducible refine CW.seq ?_)
    | (with_reducible refine KP.then_code ?_)
    | (with_reducible refine CW.skip ?_)
    | (with_reducible refine CW.ret ?_)
    | (with_reducible refine KP.then_ret ?_)
    | (with_reducible refine KP.block_ret ?_)
    | (with_reducible refine CW.block ?_)
    | (with_reducible refine KP.block_normal ?_)
    | (with_reducible refine CW.exit ?_)
    | (with_reducible refine KP.then_exit ?_)
    | (with_reducible refine KP.block_hit ?_)
    | refine KP.bm ?_
    | refine CW.ct ?_
    | refine CW.cf ?_
    | (refine CW.cP ?_ ?_ <;> intro _ <;> try contradiction)
    | (refine CW.cs ?_ ?_ <;> intro _ <;> try contradiction)
    | (refine CW.region (i := 41) ?_ <;> refine KP.q QK.mv ?_ <;> refine KP.q QK.mv ?_ <;> refine KP.q QK.lss ?_ <;> refine KP.q QK.mv ?_ <;> (first | refine KP.gn ?_ | refine KP.gu ?_ | refine KP.qy QK.mv ?_ | ((first | refine KP.gsP (t := 195) ?_ ?_ | refine KP.gs (t := 195) ?_ ?_) <;> intro _ <;> first | contradiction | refine KP.gn ?_ | refine KP.qy QK.mv ?_)) <;> (first | refine KP.gn ?_ | refine KP.gu ?_ | refine KP.qy QK.mv ?_) <;> (first | refine KP.gn ?_ | refine KP.gu ?_ | refine KP.qy QK.lss ?_) <;> refine KP.q QK.pk ?_ <;> refine KP.list_nil ?_)
    | ((with_reducible refine KP.fin0 ?_ ?_); (· rfl))
    | ((with_reducible refine KP.fin0r ?_ ?_); (· rfl)))
          have e := List.length_eq_zero_iff.1 hz'
          rw [show P ++ (A1 ++ (B1 ++ (A2 ++ B2 ++ S))) = P ++ A1 ++ (A2 ++ (B2 ++ S)) by rw [e]; simp]
          exact KA.joint A1 ⟨by rw [e, List.append_nil], sA.1⟩
        · have hi1 := ih (v := v) (P := P) (A := A1) (B := B1) (S := A2 ++ B2 ++ S) (a := a) (m := a + s) (b := (a + M)) (by omega) (by omega) (by omega) (by omega) hz hz' sA.1 sB.1 (by simp; omega)
          
          repeat' (first
    | (with_reducible refine CW.seq ?_)
    | (with_reducible refine KP.then_code ?_)
    | (with_reducible refine CW.skip ?_)
    | (with_reducible refine CW.ret ?_)
    | (with_reducible refine KP.then_ret ?_)
    | (with_reducible refine KP.block_ret ?_)
    | (with_reducible refine CW.block ?_)
    | (with_reducible refine KP.block_normal ?_)
    | (with_reducible refine CW.exit ?_)
    | (with_reducible refine KP.then_exit ?_)
    | (with_reducible refine KP.block_hit ?_)
    | refine KP.bm ?_
    | refine CW.ct ?_
    | refine CW.cf ?_
    | (refine CW.cP ?_ ?_ <;> intro _ <;> try contradiction)
    | (refine CW.cs ?_ ?_ <;> intro _ <;> try contradiction)
    | (refine CW.region (i := 41) ?_ <;> refine KP.q QK.mv ?_ <;> refine KP.q QK.mv ?_ <;> refine KP.q QK.lss ?_ <;> refine KP.q QK.mv ?_ <;> (first | refine KP.gn ?_ | refine KP.gu ?_ | refine KP.qy QK.mv ?_ | ((first | refine KP.gsP (t := 195) ?_ ?_ | refine KP.gs (t := 195) ?_ ?_) <;> intro _ <;> first | contradiction | refine KP.gn ?_ | refine KP.qy QK.mv ?_)) <;> (first | refine KP.gn ?_ | refine KP.gu ?_ | refine KP.qy QK.mv ?_) <;> (first | refine KP.gn ?_ | refine KP.gu ?_ | refine KP.qy QK.lss ?_) <;> refine KP.q QK.pk ?_ <;> refine KP.list_nil ?_)
    | (refine CW.region (i := 42) ?_ <;> refine KP.q QK.mv ?_ <;> refine KP.q QK.mv ?_ <;> refine KP.q QK.mv ?_ <;> refine KP.q QK.mv ?_ <;> refine KP.q QK.mv ?_ <;> (refine KP.e ?_; ((refine EK.call (hi1) ?_); repeat' first | refine CP.r ?_ | refine CP.r0 ?_ | refine CP.exP fun e205 => ?_ | refine CP.puP fun h205 => ?_)) <;> refine KP.list_nil ?_)
    | ((with_reducible refine KP.fin0 ?_ ?_); (· rfl))
    | ((with_reducible refine KP.fin0r ?_ ?_); (· rfl)))
          rw [show P ++ (e205 ++ (A2 ++ B2 ++ S)) = P ++ e205 ++ (A2 ++ (B2 ++ S)) by simp]
          exact KA.joint e205 h205
    rintro L ⟨hL, sL⟩
    have hLl := hL.length_eq
    simp only [List.length_append] at hLl
    have hperm : ∀ R, R.Perm (A2 ++ B2) → (L ++ R).Perm (A ++ B) := fun R hR => by
      rw [← hAA, ← hBB]
      refine (hL.append hR).trans ?_
      rw [List.append_assoc, List.append_assoc]
      refine List.Perm.append_left _ ?_
      rw [← List.append_assoc, ← List.append_assoc]
      exact List.Perm.append_right _ List.perm_append_comm
    have hjoin : ∀ R, R.Perm (A2 ++ B2) → SortedI R → SortedI (L ++ R) := fun R hR sR => join_sorted hL hR sL sR (hAA ▸ hA) (hBB ▸ hB) hcr.1 hcr.2
    rcases Nat.eq_zero_or_pos A2.length with hz | hz
    · repeat' (first
    | (with_reducible refine CW.seq ?_)
    | (with_reducible refine KP.then_code ?_)
    | (with_reducible refine CW.skip ?_)
    | (with_reducible refine CW.ret ?_)
    | (with_reducible refine KP.then_ret ?_)
    | (with_reducible refine KP.block_ret ?_)
    | (with_reducible refine CW.block ?_)
    | (with_reducible refine KP.block_normal ?_)
    | (with_reducible refine CW.exit ?_)
    | (with_reducible refine KP.then_exit ?_)
    | (with_reducible refine KP.block_hit ?_)
    | refine KP.bm ?_
    | refine CW.ct ?_
    | refine CW.cf ?_
    | (refine CW.cP ?_ ?_ <;> intro _ <;> try contradiction)
    | (refine CW.cs ?_ ?_ <;> intro _ <;> try contradiction)
    | (refine CW.region (i := 43) ?_ <;> refine KP.q QK.mv ?_ <;> refine KP.q QK.mv ?_ <;> refine KP.q QK.lss ?_ <;> refine KP.q QK.mv ?_ <;> (first | refine KP.gn ?_ | refine KP.gu ?_ | refine KP.qy QK.mv ?_ | ((first | refine KP.gsP (t := 209) ?_ ?_ | refine KP.gs (t := 209) ?_ ?_) <;> intro _ <;> first | contradiction | refine KP.gn ?_ | refine KP.qy QK.mv ?_)) <;> (first | refine KP.gn ?_ | refine KP.gu ?_ | refine KP.qy QK.mv ?_) <;> (first | refine KP.gn ?_ | refine KP.gu ?_ | refine KP.qy QK.lss ?_) <;> refine KP.q QK.pk ?_ <;> refine KP.list_nil ?_)
    | ((with_reducible refine KP.fin0 ?_ ?_); (· rfl))
    | ((with_reducible refine KP.fin0r ?_ ?_); (· rfl)))
      have e := List.length_eq_zero_iff.1 hz
      rw [show P ++ L ++ (A2 ++ (B2 ++ S)) = P ++ ((L ++ B2) ++ S) by rw [e]; simp]
      refine Fina.exP (L ++ B2) (Fina.puP ⟨hperm B2 (by rw [e]; exact .refl _), hjoin B2 (by rw [e]; exact .refl _) sB.2⟩ ?_)
      exact FA.ret
    · rcases Nat.eq_zero_or_pos B2.length with hz' | hz'
      · repeat' (first
    | (with_reducible refine CW.seq ?_)
    | (with_reducible refine KP.then_code ?_)
    | (with_reducible refine CW.skip ?_)
    | (with_reducible refine CW.ret ?_)
    | (with_reducible refine KP.then_ret ?_)
    | (with_reducible refine KP.block_ret ?_)
    | (with_reducible refine CW.block ?_)
    | (with_reducible refine KP.block_normal ?_)
    | (with_reducible refine CW.exit ?_)
    | (with_reducible refine KP.then_exit ?_)
    | (with_reducible refine KP.block_hit ?_)
    | refine KP.bm ?_
    | refine CW.ct ?_
    | refine CW.cf ?_
    | (refine CW.cP ?_ ?_ <;> intro _ <;> try contradiction)
    | (refine CW.cs ?_ ?_ <;> intro _ <;> try contradiction)
    | (refine CW.region (i := 43) ?_ <;> refine KP.q QK.mv ?_ <;> refine KP.q QK.mv ?_ <;> refine KP.q QK.lss ?_ <;> refine KP.q QK.mv ?_ <;> (first | refine KP.gn ?_ | refine KP.gu ?_ | refine KP.qy QK.mv ?_ | ((first | refine KP.gsP (t := 209) ?_ ?_ | refine KP.gs (t := 209) ?_ ?_) <;> intro _ <;> first | contradiction | refine KP.gn ?_ | refine KP.qy QK.mv ?_)) <;> (first | refine KP.gn ?_ | refine KP.gu ?_ | refine KP.qy QK.mv ?_) <;> (first | refine KP.gn ?_ | refine KP.gu ?_ | refine KP.qy QK.lss ?_) <;> refine KP.q QK.pk ?_ <;> refine KP.list_nil ?_)
    | ((with_reducible refine KP.fin0 ?_ ?_); (· rfl))
    | ((with_reducible refine KP.fin0r ?_ ?_); (· rfl)))
        have e := List.length_eq_zero_iff.1 hz'
        rw [show P ++ L ++ (A2 ++ (B2 ++ S)) = P ++ ((L ++ A2) ++ S) by rw [e]; simp]
        refine Fina.exP (L ++ A2) (Fina.puP ⟨hperm A2 (by rw [e, List.append_nil]), hjoin A2 (by rw [e, List.append_nil]) sA.2⟩ ?_)
        exact FA.ret
      · have hi2 := ih (v := v) (P := P ++ L) (A := A2) (B := B2) (S := S) (a := (a + M)) (m := (a + M) + (a + A.length) - (a + s)) (b := b) (by omega) (by simp; omega) (by simp; omega) (by simp; omega) hz hz' sA.2 sB.2 (by simp; omega)
        
        repeat' (first
    | (with_reducible refine CW.seq ?_)
    | (with_reducible refine KP.then_code ?_)
    | (with_reducible refine CW.skip ?_)
    | (with_reducible refine CW.ret ?_)
    | (with_reducible refine KP.then_ret ?_)
    | (with_reducible refine KP.block_ret ?_)
    | (with_reducible refine CW.block ?_)
    | (with_reducible refine KP.block_normal ?_)
    | (with_reducible refine CW.exit ?_)
    | (with_reducible refine KP.then_exit ?_)
    | (with_reducible refine KP.block_hit ?_)
    | refine KP.bm ?_
    | refine CW.ct ?_
    | refine CW.cf ?_
    | (refine CW.cP ?_ ?_ <;> intro _ <;> try contradiction)
    | (refine CW.cs ?_ ?_ <;> intro _ <;> try contradiction)
    | (refine CW.region (i := 43) ?_ <;> refine KP.q QK.mv ?_ <;> refine KP.q QK.mv ?_ <;> refine KP.q QK.lss ?_ <;> refine KP.q QK.mv ?_ <;> (first | refine KP.gn ?_ | refine KP.gu ?_ | refine KP.qy QK.mv ?_ | ((first | refine KP.gsP (t := 209) ?_ ?_ | refine KP.gs (t := 209) ?_ ?_) <;> intro _ <;> first | contradiction | refine KP.gn ?_ | refine KP.qy QK.mv ?_)) <;> (first | refine KP.gn ?_ | refine KP.gu ?_ | refine KP.qy QK.mv ?_) <;> (first | refine KP.gn ?_ | refine KP.gu ?_ | refine KP.qy QK.lss ?_) <;> refine KP.q QK.pk ?_ <;> refine KP.list_nil ?_)
    | (refine CW.region (i := 44) ?_ <;> refine KP.q QK.mv ?_ <;> refine KP.q QK.mv ?_ <;> refine KP.q QK.mv ?_ <;> refine KP.q QK.mv ?_ <;> refine KP.q QK.mv ?_ <;> (refine KP.e ?_; ((first | refine EK.call (hi2) ?_ | refine EK.call (hi1) ?_); repeat' first | refine CP.r ?_ | refine CP.r0 ?_ | refine CP.exP fun e219 => ?_ | refine CP.puP fun h219 => ?_)) <;> refine KP.list_nil ?_)
    | ((with_reducible refine KP.fin0 ?_ ?_); (· rfl))
    | ((with_reducible refine KP.fin0r ?_ ?_); (· rfl)))
        rw [show P ++ L ++ (e219 ++ S) = P ++ ((L ++ e219) ++ S) by simp]
        refine Fina.exP (L ++ e219) (Fina.puP ⟨hperm _ h219.1, hjoin _ h219.1 h219.2⟩ ?_)
        exact FA.ret

theorem sym_all : ∀ k, SymOK k
  | 0 => fun h => absurd h (by omega)
  | k + 1 => by
    intro hlt ha hm hb hA0 hB0 hA hB hl
    rename_i v P A B S a m b
    have ih : SymOK (A.length + B.length) := fun h => sym_all k (by omega)
    rcases Nat.lt_or_ge A.length 2 with h1 | h1
    · obtain ⟨x, rfl⟩ := List.length_eq_one_iff.1 (show A.length = 1 by omega)
      exact sym_one ha (by simpa using hm) (by simpa using hb) hB hl
    · rcases Nat.lt_or_ge B.length 2 with h2 | h2
      · obtain ⟨y, rfl⟩ := List.length_eq_one_iff.1 (show B.length = 1 by omega)
        exact sym_last ha hm (by simpa using hb) h1 hA (by simpa using hl)
      · exact sym_gen ih ha hm hb h1 h2 hA hB hl
end Go.Proofs.Ytpmhelfdmhjnbaa
