import Derived.Test.YtpmhelfdmhjnbaaTG
/- The check's awake. -/
namespace Go.Proofs.Ytpmhelfdmhjnbaa
open Go Go.Ink Go.Plain
set_option linter.unusedVariables false
set_option linter.unusedSimpArgs false
attribute [local irreducible] KP QY EW CW DW QG CP Spc DK Fina wpList lessF prefixF completeF rightF laterF

section
variable {v : Value} {ts : List ByteArray} {t a b : Td} {r : Bool}
theorem prefixE (hq : t.q.text.size ≤ 1000000) (hl : ts.length ≤ 50000) (ht : ∀ t ∈ ts, t.size ≤ 1000000) (h : prefixF ts t = r) : Spc Try.prog 42 #[v, .agg (eT t).toArray] [rrow 1 eS v ts, tdA t] [] (ret (.bool r) []) := h ▸ prefix_spec hq hl ht
theorem completeE (hq : t.q.text.size ≤ 1000000) (hl : ts.length ≤ 50000) (ht : ∀ t ∈ ts, t.size ≤ 1000000) (h : completeF ts t = r) : Spc Try.prog 44 #[v, .agg (eT t).toArray] [rrow 1 eS v ts, tdA t] [] (ret (.bool r) []) := h ▸ complete_spec hq hl ht
theorem rightE (hq : t.q.text.size ≤ 1000000) (hl : ts.length ≤ 50000) (ht : ∀ t ∈ ts, t.size ≤ 1000000) (h : rightF ts t = r) : Spc Try.prog 46 #[v, .agg (eT t).toArray] [rrow 1 eS v ts, tdA t] [] (ret (.bool r) []) := h ▸ right_spec hq hl ht
theorem laterE (h : laterF a b = r) : Spc Try.prog 48 #[.agg (eT a).toArray, .agg (eT b).toArray] [tdA a, tdA b] [] (ret (.bool r) []) := h ▸ later_spec
end
abbrev txtA : ByteArray := ⟨#[97]⟩
theorem runesA : runesF txtA = [97] := by
  unfold runesF
  rw [decs_step (by decide), decs_end (by decide)]
  decide
theorem fineA : fine txtA = true := by unfold fine; rw [runesA]; decide
theorem nearA : nearF txtA txtA 0 = some 0 := by
  unfold nearF; rw [runesA, fineA]; simp [dist, lev]
theorem sizeA : txtA.size ≤ 1000000 := by decide
abbrev qyA : Qy := ⟨txtA, 0, 1⟩
theorem topA : topF [txtA] qyA = [⟨0, txtA⟩] := by
  have hm : mayF qyA = true := by unfold mayF askedF lenF; rw [fineA, runesA]; decide
  rw [topF, hm, if_pos rfl]
  have : nearsF txtA 0 [txtA] = [⟨0, txtA⟩] := by simp [nearsF, nearA]
  unfold allF
  rw [this, sortF_id (by unfold SortedI Sorted; decide +kernel)]
  rfl
abbrev tdT : Td := ⟨0, qyA, .slice none 0 0, rfl, [], false, false⟩
abbrev tdU (b : Nat) : Td := ⟨0, qyA, .slice (some ⟨b, 0, none⟩) 1 1, rfl, [⟨0, txtA⟩], true, false⟩
theorem aw1T : prefixF [txtA] tdT = true := by unfold prefixF; rw [topA]; rfl
theorem aw2T : completeF [txtA] tdT = false := by unfold completeF prefixF; rw [topA]; rfl
theorem aw3T {b : Nat} : rightF [txtA] (tdU b) = true := by unfold rightF completeF prefixF beginF; rw [topA]; simp
theorem aw4T {b : Nat} : laterF tdT (tdU b) = true := by unfold laterF beginF; simp
theorem aw5T {b : Nat} : laterF (tdU b) tdT = false := by unfold laterF beginF; simp





theorem awakeC : Spc Try.prog 41 #[] [] [] (ret (.bool true) []) := by
  refine Spc.enter' (args := []) (T0 := []) Try.func41 rfl Try.ntmps41 (Nat.le_of_ble_eq_true rfl) rfl ?_
  intro w0 own
  refine CW.add (B := rrow 2 eI (.slice none 0 0) []) rrow.none ?_
  repeat' (first
    | (with_reducible refine CW.seq ?_)
    | (with_reducible refine KP.then_code ?_)
    | (with_reducible refine CW.skip ?_)
    | (with_reducible refine CW.ret ?_)
    | (with_reducible refine KP.then_ret ?_)
    | (with_reducible refine KP.block_ret ?_)
    | (with_reducible refine CW.block ?_)
    | (with_reducible refine KP.block_normal ?_)
    | (with_reducible refine CW.exit ?_)
    | (with_reducible refine KP.then_exit ?_)
    | (with_reducible refine KP.block_hit ?_)
    | refine KP.bm ?_
    | refine CW.ct ?_
    | refine CW.cf ?_
    | (refine CW.cP ?_ ?_ <;> intro _ <;> try contradiction)
    | (refine CW.cs ?_ ?_ <;> intro _ <;> try contradiction)
    | (refine CW.region (i := 0) ?_ <;> refine KP.q QK.as ?_ <;> refine KP.list_nil ?_)
    | (refine CW.region (i := 1) ?_ <;> refine KP.q QK.bd ?_ <;> refine KP.q QK.bd ?_ <;> (refine KP.e ?_; (refine EK.alloc ?_; intro b1)) <;> (refine KP.e ?_; (first | refine EK.st_a ?_ | refine EK.st_ra ?_ | refine EK.st_p ?_)) <;> refine KP.list_nil ?_)
    | (refine CW.region (i := 2) ?_ <;> refine KP.q QK.lda ?_ <;> (refine KP.e ?_; (refine EK.alloc ?_; intro b2)) <;> (refine KP.e ?_; (first | refine EK.st_a ?_ | refine EK.st_ra ?_ | refine EK.st_p ?_)) <;> refine KP.list_nil ?_)
    | (refine CW.region (i := 3) ?_ <;> refine KP.q QK.bd ?_ <;> (refine KP.e ?_; ((first | refine EW.buildSlice (by decide) rfl (by decide) (by decide) (by repeat (first | exact Fills.nil | (apply Fills.scal; (· rfl); (· rfl); (· first | rfl | assumption); (· (repeat (first | exact SetAt.head | apply SetAt.tail)))) | (apply Fills.agg; (· rfl); (· rfl); (· rfl); (· (repeat (first | exact SplAt.done | apply SplAt.put | apply SplAt.skip)))))) ?_ | refine EW.buildSlice1_s (by decide) rfl (by first | rfl | assumption) rfl ?_ | refine EW.buildSlice1_a (by decide) rfl (by rfl) (by rfl) (by decide) (by decide) ?_); intro b7)) <;> refine KP.q QK.fa ?_ <;> (refine KP.e ?_; (first | refine EK.st_s ?_ | refine EK.st_rf ?_ | refine EK.st_rf0 ?_)) <;> refine KP.list_nil ?_)
    | (refine CW.region (i := 4) ?_ <;> refine KP.q QK.fa ?_ <;> (refine KP.e ?_; (first | refine EK.st_s ?_ | refine EK.st_rf ?_ | refine EK.st_rf0 ?_)) <;> refine KP.list_nil ?_)
    | (refine CW.region (i := 5) ?_ <;> (refine KP.e ?_; ((first | refine EW.buildSlice (by decide) rfl (by decide) (by decide) (by repeat (first | exact Fills.nil | (apply Fills.scal; (· rfl); (· rfl); (· first | rfl | assumption); (· (repeat (first | exact SetAt.head | apply SetAt.tail)))) | (apply Fills.agg; (· rfl); (· rfl); (· rfl); (· (repeat (first | exact SplAt.done | apply SplAt.put | apply SplAt.skip)))))) ?_ | refine EW.buildSlice1_s (by decide) rfl (by first | rfl | assumption) rfl ?_ | refine EW.buildSlice1_a (by decide) rfl (by rfl) (by rfl) (by decide) (by decide) ?_); intro b10)) <;> refine KP.q QK.lda ?_ <;> (refine KP.e ?_; ((refine EK.call (prefixE (t := tdT) (ts := [txtA]) sizeA (by decide) (by decide) aw1T) ?_); repeat' first | refine CP.r ?_ | refine CP.r0 ?_ | refine CP.exP fun e12 => ?_ | refine CP.puP fun h12 => ?_)) <;> refine KP.q QK.mv ?_ <;> (first | refine KP.gn ?_ | refine KP.gu ?_ | (refine KP.gy ?_; refine KP.e ?_; ((first | refine EW.buildSlice (by decide) rfl (by decide) (by decide) (by repeat (first | exact Fills.nil | (apply Fills.scal; (· rfl); (· rfl); (· first | rfl | assumption); (· (repeat (first | exact SetAt.head | apply SetAt.tail)))) | (apply Fills.agg; (· rfl); (· rfl); (· rfl); (· (repeat (first | exact SplAt.done | apply SplAt.put | apply SplAt.skip)))))) ?_ | refine EW.buildSlice1_s (by decide) rfl (by first | rfl | assumption) rfl ?_ | refine EW.buildSlice1_a (by decide) rfl (by rfl) (by rfl) (by decide) (by decide) ?_); intro b14)) | ((first | refine KP.gsP (t := 13) ?_ ?_ | refine KP.gs (t := 13) ?_ ?_) <;> intro _ <;> first | contradiction | refine KP.gn ?_ | (refine KP.gy ?_; refine KP.e ?_; ((first | refine EW.buildSlice (by decide) rfl (by decide) (by decide) (by repeat (first | exact Fills.nil | (apply Fills.scal; (· rfl); (· rfl); (· first | rfl | assumption); (· (repeat (first | exact SetAt.head | apply SetAt.tail)))) | (apply Fills.agg; (· rfl); (· rfl); (· rfl); (· (repeat (first | exact SplAt.done | apply SplAt.put | apply SplAt.skip)))))) ?_ | refine EW.buildSlice1_s (by decide) rfl (by first | rfl | assumption) rfl ?_ | refine EW.buildSlice1_a (by decide) rfl (by rfl) (by rfl) (by decide) (by decide) ?_); intro b14)))) <;> (first | refine KP.gn ?_ | refine KP.gu ?_ | refine KP.qy QK.lda ?_) <;> (first | refine KP.gn ?_ | refine KP.gu ?_ | (refine KP.gy ?_; refine KP.e ?_; ((refine EK.call (completeE (t := tdT) (ts := [txtA]) sizeA (by decide) (by decide) aw2T) ?_); repeat' first | refine CP.r ?_ | refine CP.r0 ?_ | refine CP.exP fun e16 => ?_ | refine CP.puP fun h16 => ?_))) <;> (first | refine KP.gn ?_ | refine KP.gu ?_ | refine KP.qy QK.not ?_) <;> refine KP.q QK.pk ?_ <;> refine KP.q QK.mv ?_ <;> (first | refine KP.gn ?_ | refine KP.gu ?_ | (refine KP.gy ?_; refine KP.e ?_; ((first | refine EW.buildSlice (by decide) rfl (by decide) (by decide) (by repeat (first | exact Fills.nil | (apply Fills.scal; (· rfl); (· rfl); (· first | rfl | assumption); (· (repeat (first | exact SetAt.head | apply SetAt.tail)))) | (apply Fills.agg; (· rfl); (· rfl); (· rfl); (· (repeat (first | exact SplAt.done | apply SplAt.put | apply SplAt.skip)))))) ?_ | refine EW.buildSlice1_s (by decide) rfl (by first | rfl | assumption) rfl ?_ | refine EW.buildSlice1_a (by decide) rfl (by rfl) (by rfl) (by decide) (by decide) ?_); intro b20)) | ((first | refine KP.gsP (t := 19) ?_ ?_ | refine KP.gs (t := 19) ?_ ?_) <;> intro _ <;> first | contradiction | refine KP.gn ?_ | (refine KP.gy ?_; refine KP.e ?_; ((first | refine EW.buildSlice (by decide) rfl (by decide) (by decide) (by repeat (first | exact Fills.nil | (apply Fills.scal; (· rfl); (· rfl); (· first | rfl | assumption); (· (repeat (first | exact SetAt.head | apply SetAt.tail)))) | (apply Fills.agg; (· rfl); (· rfl); (· rfl); (· (repeat (first | exact SplAt.done | apply SplAt.put | apply SplAt.skip)))))) ?_ | refine EW.buildSlice1_s (by decide) rfl (by first | rfl | assumption) rfl ?_ | refine EW.buildSlice1_a (by decide) rfl (by rfl) (by rfl) (by decide) (by decide) ?_); intro b20)))) <;> (first | refine KP.gn ?_ | refine KP.gu ?_ | refine KP.qy QK.lda ?_) <;> (first | refine KP.gn ?_ | refine KP.gu ?_ | (refine KP.gy ?_; refine KP.e ?_; ((refine EK.call (rightE (t := tdU b7) (ts := [txtA]) sizeA (by decide) (by decide) aw3T) ?_); repeat' first | refine CP.r ?_ | refine CP.r0 ?_ | refine CP.exP fun e22 => ?_ | refine CP.puP fun h22 => ?_))) <;> refine KP.q QK.pk ?_ <;> refine KP.q QK.mv ?_ <;> (first | refine KP.gn ?_ | refine KP.gu ?_ | refine KP.qy QK.lda ?_ | ((first | refine KP.gsP (t := 24) ?_ ?_ | refine KP.gs (t := 24) ?_ ?_) <;> intro _ <;> first | contradiction | refine KP.gn ?_ | refine KP.qy QK.lda ?_)) <;> (first | refine KP.gn ?_ | refine KP.gu ?_ | refine KP.qy QK.lda ?_) <;> (first | refine KP.gn ?_ | refine KP.gu ?_ | (refine KP.gy ?_; refine KP.e ?_; ((first | refine EK.call (laterE (a := tdT) (b := tdU b7) aw4T) ?_ | refine EK.call (laterE (a := tdU b7) (b := tdT) aw5T) ?_); repeat' first | refine CP.r ?_ | refine CP.r0 ?_ | refine CP.exP fun e27 => ?_ | refine CP.puP fun h27 => ?_))) <;> refine KP.q QK.pk ?_ <;> refine KP.q QK.mv ?_ <;> (first | refine KP.gn ?_ | refine KP.gu ?_ | refine KP.qy QK.lda ?_ | ((first | refine KP.gsP (t := 29) ?_ ?_ | refine KP.gs (t := 29) ?_ ?_) <;> intro _ <;> first | contradiction | refine KP.gn ?_ | refine KP.qy QK.lda ?_)) <;> (first | refine KP.gn ?_ | refine KP.gu ?_ | refine KP.qy QK.lda ?_) <;> (first | refine KP.gn ?_ | refine KP.gu ?_ | (refine KP.gy ?_; refine KP.e ?_; ((first | refine EK.call (laterE (a := tdT) (b := tdU b7) aw4T) ?_ | refine EK.call (laterE (a := tdU b7) (b := tdT) aw5T) ?_); repeat' first | refine CP.r ?_ | refine CP.r0 ?_ | refine CP.exP fun e32 => ?_ | refine CP.puP fun h32 => ?_))) <;> (first | refine KP.gn ?_ | refine KP.gu ?_ | refine KP.qy QK.not ?_) <;> refine KP.q QK.pk ?_ <;> refine KP.q QK.as ?_ <;> refine KP.list_nil ?_)
    | ((with_reducible apply KP.fin1); (· rfl); (· rfl)))
  exact FA.ret

end Go.Proofs.Ytpmhelfdmhjnbaa
