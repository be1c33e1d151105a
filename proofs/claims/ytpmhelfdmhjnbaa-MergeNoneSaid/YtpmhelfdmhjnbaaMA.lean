import Derived.Test.YtpmhelfdmhjnbaaM8
import Derived.Test.YtpmhelfdmhjnbaaMD
/- MergeNone. -/
namespace Go.Proofs.Ytpmhelfdmhjnbaa
open Go Go.Ink
set_option linter.unusedVariables false
set_option linter.unusedSimpArgs false
attribute [local irreducible] KP QY EW CW DW QG CP Spc DK Fina wpList lessF










theorem mergeNone_spec {x : ActV} : Spc Try.prog 16 #[.agg (eAct x).toArray] [actA x] [] (ret (.bool true) []) := by
  refine Spc.enter' (args := [.agg (eAct x).toArray]) (T0 := [(0, .agg (eAct x).toArray)]) Try.func16 rfl Try.ntmps16 (Nat.le_of_ble_eq_true rfl) rfl ?_
  intro w0 own
  have hne : ¬ (Item.zero ≠ Item.zero) := by simp
  have he : Item.zero = Item.zero := rfl
  
  repeat' (first
    | (with_reducible refine CW.seq ?_)
    | (with_reducible refine KP.then_code ?_)
    | (with_reducible refine CW.skip ?_)
    | (with_reducible refine CW.ret ?_)
    | (with_reducible refine KP.then_ret ?_)
    | (with_reducible refine KP.block_ret ?_)
    | (with_reducible refine CW.block ?_)
    | (with_reducible refine KP.block_normal ?_)
    | (with_reducible refine CW.exit ?_)
    | (with_reducible refine KP.then_exit ?_)
    | (with_reducible refine KP.block_hit ?_)
    | refine KP.bm ?_
    | refine CW.ct ?_
    | refine CW.cf ?_
    | (refine CW.cP ?_ ?_ <;> intro _ <;> try contradiction)
    | (refine CW.cs ?_ ?_ <;> intro _ <;> try contradiction)
    | (refine CW.region (i := 0) ?_ <;> (refine KP.e ?_; (refine EK.box_a ?_; intro b1)) <;> refine KP.q QK.as ?_ <;> refine KP.list_nil ?_)
    | (refine CW.region (i := 1) ?_ <;> refine KP.q QK.fa ?_ <;> refine KP.q QK.lds ?_ <;> (refine KP.e ?_; ((refine EK.call (greatI_spec (xs := x.items)) ?_); repeat' first | refine CP.r ?_ | refine CP.r0 ?_ | refine CP.exP fun e8 => ?_ | refine CP.puP fun h8 => ?_)) <;> refine KP.list_nil ?_)
    | (refine CW.region (i := 2) ?_ <;> (refine KP.e ?_; ((refine EK.call (awakeM) ?_); repeat' first | refine CP.r ?_ | refine CP.r0 ?_ | refine CP.exP fun e9 => ?_ | refine CP.puP fun h9 => ?_)) <;> refine KP.q QK.as ?_ <;> refine KP.list_nil ?_)
    | (refine CW.region (i := 3) ?_ <;> refine KP.q QK.as ?_ <;> refine KP.list_nil ?_)
    | (refine CW.region (i := 4) ?_ <;> refine KP.q QK.mv ?_ <;> refine KP.q QK.fa ?_ <;> refine KP.q QK.lds ?_ <;> (refine KP.e ?_; ((refine EK.call (after_nil) ?_); repeat' first | refine CP.r ?_ | refine CP.r0 ?_ | refine CP.exP fun e14 => ?_ | refine CP.puP fun h14 => ?_)) <;> refine KP.q QK.mv ?_ <;> refine KP.q QK.ex ?_ <;> refine KP.q QK.ex ?_ <;> (refine KP.e ?_; (refine EK.alloc ?_; intro b4)) <;> (refine KP.e ?_; (first | refine EK.st_a ?_ | refine EK.st_ra ?_ | refine EK.st_p ?_)) <;> refine KP.q QK.as ?_ <;> refine KP.list_nil ?_)
    | (refine CW.region (i := 5) ?_ <;> refine KP.q QK.mv ?_ <;> refine KP.q QK.fa ?_ <;> refine KP.q QK.lds ?_ <;> refine KP.q QK.fa ?_ <;> refine KP.q QK.lds ?_ <;> refine KP.q QK.fa ?_ <;> refine KP.q QK.lds ?_ <;> refine KP.q QK.fa ?_ <;> refine KP.q QK.lds ?_ <;> (refine KP.e ?_; ((refine EK.call (put_nil (items := x.items)) ?_); repeat' first | refine CP.r ?_ | refine CP.r0 ?_ | refine CP.exP fun e26 => ?_ | refine CP.puP fun h26 => ?_)) <;> refine KP.q QK.not ?_ <;> refine KP.q QK.mv ?_ <;> (first | refine KP.gn ?_ | refine KP.gu ?_ | refine KP.qy QK.mv ?_ | ((first | refine KP.gsP (t := 28) ?_ ?_ | refine KP.gs (t := 28) ?_ ?_) <;> intro _ <;> first | contradiction | refine KP.gn ?_ | refine KP.qy QK.mv ?_)) <;> (first | refine KP.gn ?_ | refine KP.gu ?_ | (refine KP.gy ?_; refine KP.e ?_; ((refine EK.call (tell_nil) ?_); repeat' first | refine CP.r ?_ | refine CP.r0 ?_ | refine CP.exP fun e30 => ?_ | refine CP.puP fun h30 => ?_))) <;> (first | refine KP.gn ?_ | refine KP.gu ?_ | refine KP.qy QK.len ?_) <;> (first | refine KP.gn ?_ | refine KP.gu ?_ | refine KP.qy QK.eqi ?_) <;> refine KP.q QK.pk ?_ <;> refine KP.q QK.mv ?_ <;> (first | refine KP.gn ?_ | refine KP.gu ?_ | refine KP.qy QK.mv ?_ | ((first | refine KP.gsP (t := 34) ?_ ?_ | refine KP.gs (t := 34) ?_ ?_) <;> intro _ <;> first | contradiction | refine KP.gn ?_ | refine KP.qy QK.mv ?_)) <;> (first | refine KP.gn ?_ | refine KP.gu ?_ | (refine KP.gy ?_; refine KP.e ?_; ((refine EK.call (wants_nil) ?_); repeat' first | refine CP.r ?_ | refine CP.r0 ?_ | refine CP.exP fun e36 => ?_ | refine CP.puP fun h36 => ?_))) <;> (first | refine KP.gn ?_ | refine KP.gu ?_ | refine KP.qy QK.len ?_) <;> (first | refine KP.gn ?_ | refine KP.gu ?_ | refine KP.qy QK.eqi ?_) <;> refine KP.q QK.pk ?_ <;> refine KP.q QK.mv ?_ <;> (first | refine KP.gn ?_ | refine KP.gu ?_ | refine KP.qy QK.mv ?_ | ((first | refine KP.gsP (t := 40) ?_ ?_ | refine KP.gs (t := 40) ?_ ?_) <;> intro _ <;> first | contradiction | refine KP.gn ?_ | refine KP.qy QK.mv ?_)) <;> (first | refine KP.gn ?_ | refine KP.gu ?_ | refine KP.qy QK.fa ?_) <;> (first | refine KP.gn ?_ | refine KP.gu ?_ | refine KP.qy QK.lds ?_) <;> (first | refine KP.gn ?_ | refine KP.gu ?_ | (refine KP.gy ?_; refine KP.e ?_; ((refine EK.call (seq_nil) ?_); repeat' first | refine CP.r ?_ | refine CP.r0 ?_ | refine CP.exP fun e44 => ?_ | refine CP.puP fun h44 => ?_))) <;> (first | refine KP.gn ?_ | refine KP.gu ?_ | refine KP.qy QK.eqi ?_) <;> refine KP.q QK.pk ?_ <;> refine KP.q QK.mv ?_ <;> (first | refine KP.gn ?_ | refine KP.gu ?_ | refine KP.qy QK.lda ?_ | ((first | refine KP.gsP (t := 47) ?_ ?_ | refine KP.gs (t := 47) ?_ ?_) <;> intro _ <;> first | contradiction | refine KP.gn ?_ | refine KP.qy QK.lda ?_)) <;> (first | refine KP.gn ?_ | refine KP.gu ?_ | refine KP.qy QK.bd ?_) <;> (first | refine KP.gn ?_ | refine KP.gu ?_ | refine KP.qy (by first | exact QY.same (QY.eq_agg (enc := eI) (p := Item.zero) (q := Item.zero) rfl rfl) (dec_t rfl) | exact QK.eqa) ?_) <;> refine KP.q QK.pk ?_ <;> refine KP.q QK.mv ?_ <;> (first | refine KP.gn ?_ | refine KP.gu ?_ | refine KP.qy QK.mv ?_ | ((first | refine KP.gsP (t := 52) ?_ ?_ | refine KP.gs (t := 52) ?_ ?_) <;> intro _ <;> first | contradiction | refine KP.gn ?_ | refine KP.qy QK.mv ?_)) <;> (first | refine KP.gn ?_ | refine KP.gu ?_ | refine KP.qy QK.not ?_) <;> refine KP.q QK.pk ?_ <;> refine KP.q QK.mv ?_ <;> (first | refine KP.gn ?_ | refine KP.gu ?_ | refine KP.qy QK.mv ?_ | ((first | refine KP.gsP (t := 56) ?_ ?_ | refine KP.gs (t := 56) ?_ ?_) <;> intro _ <;> first | contradiction | refine KP.gn ?_ | refine KP.qy QK.mv ?_)) <;> (first | refine KP.gn ?_ | refine KP.gu ?_ | (refine KP.gy ?_; refine KP.e ?_; ((refine EK.call (done_nil) ?_); repeat' first | refine CP.r ?_ | refine CP.r0 ?_ | refine CP.exP fun e58 => ?_ | refine CP.puP fun h58 => ?_))) <;> (first | refine KP.gn ?_ | refine KP.gu ?_ | refine KP.qy QK.not ?_) <;> refine KP.q QK.pk ?_ <;> refine KP.q QK.mv ?_ <;> (first | refine KP.gn ?_ | refine KP.gu ?_ | refine KP.qy QK.mv ?_ | ((first | refine KP.gsP (t := 61) ?_ ?_ | refine KP.gs (t := 61) ?_ ?_) <;> intro _ <;> first | contradiction | refine KP.gn ?_ | refine KP.qy QK.mv ?_)) <;> (first | refine KP.gn ?_ | refine KP.gu ?_ | (refine KP.gy ?_; refine KP.e ?_; ((refine EK.call (told_nil) ?_); repeat' first | refine CP.r ?_ | refine CP.r0 ?_ | refine CP.exP fun e63 => ?_ | refine CP.puP fun h63 => ?_))) <;> (first | refine KP.gn ?_ | refine KP.gu ?_ | refine KP.qy QK.len ?_) <;> (first | refine KP.gn ?_ | refine KP.gu ?_ | refine KP.qy QK.eqi ?_) <;> refine KP.q QK.pk ?_ <;> refine KP.q QK.mv ?_ <;> (first | refine KP.gn ?_ | refine KP.gu ?_ | (refine KP.gy ?_; refine KP.e ?_; ((refine EK.call (awakeM) ?_); repeat' first | refine CP.r ?_ | refine CP.r0 ?_ | refine CP.exP fun e68 => ?_ | refine CP.puP fun h68 => ?_)) | ((first | refine KP.gsP (t := 67) ?_ ?_ | refine KP.gs (t := 67) ?_ ?_) <;> intro _ <;> first | contradiction | refine KP.gn ?_ | (refine KP.gy ?_; refine KP.e ?_; ((refine EK.call (awakeM) ?_); repeat' first | refine CP.r ?_ | refine CP.r0 ?_ | refine CP.exP fun e68 => ?_ | refine CP.puP fun h68 => ?_)))) <;> refine KP.q QK.pk ?_ <;> refine KP.q QK.as ?_ <;> refine KP.list_nil ?_)
    | ((with_reducible apply KP.fin1); (· rfl); (· rfl)))
  all_goals exact FA.ret

end Go.Proofs.Ytpmhelfdmhjnbaa
