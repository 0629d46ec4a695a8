/- ModelForms comes to true, whatever the world, and turns nothing that was there. Conditions: none. -/
import Derived.Test.YtdhhfiaepnemcaaGreatCodeB
import Derived.Test.YtdhhfiaepnemcaaGreatRows
import Derived.Test.YtdhhfiaepnemcaaGreatFa
import Derived.Test.YtdhhfiaepnemcaaGreatFb
import Derived.Test.YtdhhfiaepnemcaaGreatMfx
set_option maxRecDepth 100000
namespace Go.Proofs.YtdhhfiaepnemcaaGreat.Am
open Go Go.Proofs.YtdhhfiaepnemcaaGreat
def MFr : RCode := (.seq (.reg c11_0) (.seq (.seq (.reg c11_1) (.cond (t 15) (.seq (.reg c11_2) .ret) .skip)) (.seq (.reg c11_3) (.seq (.seq (.reg c11_4) (.cond (t 29) (.seq (.reg c11_5) .ret) .skip)) (.seq (.reg c11_6) (.seq (.reg c11_7) (.seq (.reg c11_8) (.seq (.reg c11_9) (.seq (.reg c11_10) (.seq (.reg c11_11) (.seq (.reg c11_12) (.seq (.reg c11_13) (.seq (.reg c11_14) (.seq (.reg c11_15) .ret))))))))))))))
theorem MFend : bld [] .leaf (fun T => runK tb1 100000 MFr .leaf ⟨T, 0⟩ (endK c11.results)) = some () := by kernel_rfl
theorem MFgood : Good Tryz.prog c11.results (.bool true) c11.code (Tr.leaf : Tr AV).env (heapOf [] 0) :=
  seg_end tb1_ok MFend
end Go.Proofs.YtdhhfiaepnemcaaGreat.Am

namespace Go.Proofs.YtdhhfiaepnemcaaGreat
open Go.ChangeShapes Go.WideShapes Go.ChangeAt Go.RowKit
open Go.Proofs.YtdhhfiaepnemcaaGreat.Am

theorem modelForms_calls (w : World) : Calls Tryz.prog 11 #[] w fun e w' => e = .returned (.bool true) ∧ Kept w w' :=
  calls_of_good tb1_ok (rf := c11) (by kernel_rfl) MFgood w

theorem modelForms_lifted (os : Os) (started : os.Started) (H : Type) (enc : TypeId × Value → H) :
    ReturnsInHanded {} Tryz.checked os 11 .any (Rows.modelFormsSpec.pre6 enc Tryz.prog Tryz.f11 Rows.modelFormsRow.domain false) (Rows.modelFormsSpec.post enc Tryz.prog Tryz.f11 false true false false) := by
  refine returnsInHanded_of_change (C := Tryz.checked) Tryz.own started (by as_aux_lemma => kernel_rfl) Tryz.func11
    (ChangeSpec.witness6 (enc := enc) (C := Tryz.checked) false ⟨#[], #[], []⟩ 8 (by as_aux_lemma => kernel_rfl) (by as_aux_lemma => kernel_rfl) (by as_aux_lemma => kernel_rfl) (by as_aux_lemma => kernel_rfl)) ?_
  intro W base args ds gs before hval0 hW hcnd _
  have hW' := hW
  obtain ⟨p, q, hA0, hV, rfl, hfz, hnd⟩ := hW
  have hA : DataW.TrodAll enc Tryz.prog W 0 (fun _ => true) true Tryz.f11.params.toList args.toList ds p := hA0
  rw [Tryz.params11] at hA
  obtain ⟨rfl, rfl, rfl⟩ := trodAll_none hA
  obtain ⟨rfl, rfl⟩ := trodVars_none hV
  simp only [List.append_nil] at hW'
  refine (modelForms_calls W).mono fun e W' ⟨he, hk⟩ => ?_
  subst he
  exact ⟨_, rfl, post_of_kept (pa := []) (pv := []) hW' (fun _ _ _ => trodAll_mk1 (trod_bool (P := Tryz.prog) Tryz.underlying4 true)) (fun sp _ => trodAll_mk0) (fun _ _ => rfl) rfl hk
    (ok_one (by as_aux_lemma => kernel_rfl) rfl (okWide_bool (P := Tryz.prog) Tryz.underlying4 true))⟩

theorem modelForms_joined : joinedFacts Tryz.prog 11 Tryz.f11 Rows.modelFormsSpec Rows.modelFormsRow = true :=
  joined_of (by kernel_rfl) Tryz.laidOut Tryz.mapsRowed' (by kernel_rfl) (by kernel_rfl) (by kernel_rfl) Tryz.noStops (by kernel_rfl) Tryz.noKnobs
    modelForms_inPlace modelForms_unfollowed modelForms_recurses modelForms_named (by kernel_rfl) (by kernel_rfl) (by kernel_rfl) (by kernel_rfl) (by kernel_rfl)
    (by kernel_rfl) (by kernel_rfl) (by kernel_rfl) (by kernel_rfl) (by as_aux_lemma => rw [Tryz.plain]; rfl) rfl Tryz.heard Tryz.enter Tryz.noLifts Tryz.made
    (by kernel_rfl) (by kernel_rfl) (by kernel_rfl) (by kernel_rfl)

theorem modelForms_holds : Rows.ModelFormsSaid :=
  OpenClaim.holds_of_wide 11 Tryz.f11 rfl rfl rfl rfl rfl rfl rfl ⟨rfl, rfl, rfl, rfl, rfl⟩ rfl rfl rfl rfl rfl modelForms_found Tryz.func11 modelForms_joined
    (of_decide_eq_true (by as_aux_lemma => kernel_rfl)) (by unfold Func.isWrapper; first | (rw [if_pos (by decide +kernel)]; kernel_rfl) | (rw [if_neg (by decide +kernel)]; exact ⟨rfl, rfl⟩))
    (fun os started H enc _ => modelForms_lifted os started H enc)

end Go.Proofs.YtdhhfiaepnemcaaGreat
