/- ShimLevels comes to true, whatever the world, and turns nothing that was there. Conditions: none. -/
import Derived.Test.YtdhhfiaepnemcaaGreatCodeB
import Derived.Test.YtdhhfiaepnemcaaGreatRows
import Derived.Test.YtdhhfiaepnemcaaGreatFa
import Derived.Test.YtdhhfiaepnemcaaGreatFb
import Derived.Test.YtdhhfiaepnemcaaGreatSlx
set_option maxRecDepth 100000
namespace Go.Proofs.YtdhhfiaepnemcaaGreat.Am
open Go Go.Proofs.YtdhhfiaepnemcaaGreat
def SLr : RCode := (.seq (.reg c10_0) (.seq (.seq (.reg c10_1) (.cond (t 13) (.seq (.reg c10_2) .ret) .skip)) (.seq (.reg c10_3) (.seq (.seq (.reg c10_4) (.cond (t 26) (.seq (.reg c10_5) .ret) .skip)) (.seq (.reg c10_6) (.seq (.reg c10_7) (.seq (.seq (.reg c10_8) (.block 0 (.loop (.seq (.seq (.reg c10_9) (.cond (t 40) .skip (.exit 0))) (.seq (.block 1 (.seq (.reg c10_10) (.seq (.reg c10_11) (.seq (.reg c10_12) (.seq (.reg c10_13) (.cond (t 96) (.seq (.reg c10_14) .ret) .skip)))))) (.reg c10_15)))))) (.seq (.reg c10_16) .ret))))))))
theorem SLend : bld [] .leaf (fun T => runK tb1 100000 SLr .leaf ⟨T, 0⟩ (endK c10.results)) = some () := by kernel_rfl
theorem SLgood : Good Tryz.prog c10.results (.bool true) c10.code (Tr.leaf : Tr AV).env (heapOf [] 0) :=
  seg_end tb1_ok SLend
end Go.Proofs.YtdhhfiaepnemcaaGreat.Am

namespace Go.Proofs.YtdhhfiaepnemcaaGreat
open Go.ChangeShapes Go.WideShapes Go.ChangeAt Go.RowKit
open Go.Proofs.YtdhhfiaepnemcaaGreat.Am

theorem shimLevels_calls (w : World) : Calls Tryz.prog 10 #[] w fun e w' => e = .returned (.bool true) ∧ Kept w w' :=
  calls_of_good tb1_ok (rf := c10) (by kernel_rfl) SLgood w

theorem shimLevels_lifted (os : Os) (started : os.Started) (H : Type) (enc : TypeId × Value → H) :
    ReturnsInHanded {} Tryz.checked os 10 .any (Rows.shimLevelsSpec.pre6 enc Tryz.prog Tryz.f10 Rows.shimLevelsRow.domain false) (Rows.shimLevelsSpec.post enc Tryz.prog Tryz.f10 false true false false) := by
  refine returnsInHanded_of_change (C := Tryz.checked) Tryz.own started (by as_aux_lemma => kernel_rfl) Tryz.func10
    (ChangeSpec.witness6 (enc := enc) (C := Tryz.checked) false ⟨#[], #[], []⟩ 8 (by as_aux_lemma => kernel_rfl) (by as_aux_lemma => kernel_rfl) (by as_aux_lemma => kernel_rfl) (by as_aux_lemma => kernel_rfl)) ?_
  intro W base args ds gs before hval0 hW hcnd _
  have hW' := hW
  obtain ⟨p, q, hA0, hV, rfl, hfz, hnd⟩ := hW
  have hA : DataW.TrodAll enc Tryz.prog W 0 (fun _ => true) true Tryz.f10.params.toList args.toList ds p := hA0
  rw [Tryz.params10] at hA
  obtain ⟨rfl, rfl, rfl⟩ := trodAll_none hA
  obtain ⟨rfl, rfl⟩ := trodVars_none hV
  simp only [List.append_nil] at hW'
  refine (shimLevels_calls W).mono fun e W' ⟨he, hk⟩ => ?_
  subst he
  exact ⟨_, rfl, post_of_kept (pa := []) (pv := []) hW' (fun _ _ _ => trodAll_mk1 (trod_bool (P := Tryz.prog) Tryz.underlying4 true)) (fun sp _ => trodAll_mk0) (fun _ _ => rfl) rfl hk
    (ok_one (by as_aux_lemma => kernel_rfl) rfl (okWide_bool (P := Tryz.prog) Tryz.underlying4 true))⟩

theorem shimLevels_joined : joinedFacts Tryz.prog 10 Tryz.f10 Rows.shimLevelsSpec Rows.shimLevelsRow = true :=
  joined_of (by kernel_rfl) Tryz.laidOut Tryz.mapsRowed' (by kernel_rfl) (by kernel_rfl) (by kernel_rfl) Tryz.noStops (by kernel_rfl) Tryz.noKnobs
    shimLevels_inPlace shimLevels_unfollowed shimLevels_recurses shimLevels_named (by kernel_rfl) (by kernel_rfl) (by kernel_rfl) (by kernel_rfl) (by kernel_rfl)
    (by kernel_rfl) (by kernel_rfl) (by kernel_rfl) (by kernel_rfl) (by as_aux_lemma => rw [Tryz.plain]; rfl) rfl Tryz.heard Tryz.enter Tryz.noLifts Tryz.made
    (by kernel_rfl) (by kernel_rfl) (by kernel_rfl) (by kernel_rfl)

theorem shimLevels_holds : Rows.ShimLevelsSaid :=
  OpenClaim.holds_of_wide 10 Tryz.f10 rfl rfl rfl rfl rfl rfl rfl ⟨rfl, rfl, rfl, rfl, rfl⟩ rfl rfl rfl rfl rfl shimLevels_found Tryz.func10 shimLevels_joined
    (of_decide_eq_true (by as_aux_lemma => kernel_rfl)) (by unfold Func.isWrapper; first | (rw [if_pos (by decide +kernel)]; kernel_rfl) | (rw [if_neg (by decide +kernel)]; exact ⟨rfl, rfl⟩))
    (fun os started H enc _ => shimLevels_lifted os started H enc)

end Go.Proofs.YtdhhfiaepnemcaaGreat
