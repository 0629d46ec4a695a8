/- ModelTags comes to true for every input, and turns nothing that was there. Conditions: none. -/
import Derived.Test.YtdhhfiaepnemcaaGreatLg
import Derived.Test.YtdhhfiaepnemcaaGreatMtt
import Derived.Test.YtdhhfiaepnemcaaGreatRows
import Derived.Test.YtdhhfiaepnemcaaGreatFa
import Derived.Test.YtdhhfiaepnemcaaGreatFb
import Derived.Test.YtdhhfiaepnemcaaGreatMtx
set_option maxRecDepth 100000
set_option linter.unusedSimpArgs false
set_option linter.unusedVariables false
namespace Go.Proofs.YtdhhfiaepnemcaaGreat
open Go.ChangeShapes Go.WideShapes Go.ChangeAt Go.RowKit
open Go.Proofs.YtdhhfiaepnemcaaGreat.Am

theorem Tryz.layC : layC Tryz.prog = true := by kernel_rfl

theorem modelTags_call : ∀ xs, HdAll Tryz.prog Tryz.f12.params.toList xs → ∃ h', ACalls Tryz.prog 12 xs AHeap.empty (.bool true) h' := by
  intro xs h
  rw [Tryz.params12] at h
  obtain ⟨a0, _, rfl, h0, a1, _, rfl, h1, rfl⟩ := h
  obtain ⟨l, hl, rfl⟩ := hd_u8 Tryz.underlying5 h0
  obtain ⟨d, hd, rfl⟩ := hd_u8 Tryz.underlying5 h1
  exact ⟨_, mt_calls l d hl hd AHeap.empty⟩

theorem modelTags_lifted (os : Os) (started : os.Started) (H : Type) (enc : TypeId × Value → H) :
    ReturnsInHanded {} Tryz.checked os 12 .any (Rows.modelTagsSpec.pre6 enc Tryz.prog Tryz.f12 Rows.modelTagsRow.domain false) (Rows.modelTagsSpec.post enc Tryz.prog Tryz.f12 false true false false) :=
  law_lifted (C := Tryz.checked) Tryz.own started (by as_aux_lemma => kernel_rfl) Tryz.func12
    (ChangeSpec.witness6 (enc := enc) (C := Tryz.checked) false ⟨#[], #[.int .u8 0, .int .u8 0], []⟩ 12 (by as_aux_lemma => kernel_rfl) (by as_aux_lemma => kernel_rfl) (by as_aux_lemma => kernel_rfl) (by as_aux_lemma => kernel_rfl))
    Tryz.laidOut Tryz.layC rfl (fun ds h => match ds, h with | [d0, d1], _ => rfl) rfl (by as_aux_lemma => kernel_rfl) (by as_aux_lemma => kernel_rfl) modelTags_call

theorem modelTags_joined : joinedFacts Tryz.prog 12 Tryz.f12 Rows.modelTagsSpec Rows.modelTagsRow = true :=
  joined_of (by kernel_rfl) Tryz.laidOut Tryz.mapsRowed' (by kernel_rfl) (by kernel_rfl) (by kernel_rfl) Tryz.noStops (by kernel_rfl) Tryz.noKnobs
    modelTags_inPlace modelTags_unfollowed modelTags_recurses modelTags_named (by kernel_rfl) (by kernel_rfl) (by kernel_rfl) (by kernel_rfl) (by kernel_rfl)
    (by kernel_rfl) (by kernel_rfl) (by kernel_rfl) (by kernel_rfl) (by as_aux_lemma => rw [Tryz.plain]; rfl) rfl Tryz.heard Tryz.enter Tryz.noLifts Tryz.made
    (by kernel_rfl) (by kernel_rfl) (by kernel_rfl) (by kernel_rfl)

theorem modelTags_holds : Rows.ModelTagsSaid :=
  OpenClaim.holds_of_wide 12 Tryz.f12 rfl rfl rfl rfl rfl rfl rfl ⟨rfl, rfl, rfl, rfl, rfl⟩ rfl rfl rfl rfl rfl modelTags_found Tryz.func12 modelTags_joined
    (of_decide_eq_true (by as_aux_lemma => kernel_rfl)) (by unfold Func.isWrapper; first | (rw [if_pos (by decide +kernel)]; kernel_rfl) | (rw [if_neg (by decide +kernel)]; exact ⟨rfl, rfl⟩))
    (fun os started H enc _ => modelTags_lifted os started H enc)

end Go.Proofs.YtdhhfiaepnemcaaGreat
