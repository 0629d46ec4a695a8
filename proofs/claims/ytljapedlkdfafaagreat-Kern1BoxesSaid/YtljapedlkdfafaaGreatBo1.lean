/- Kern1Boxes comes to true for every input, and turns nothing that was there. Conditions: none. -/
import Derived.Test.YtljapedlkdfafaaGreatOk
import Derived.Test.YtljapedlkdfafaaGreatQc
import Derived.Test.YtljapedlkdfafaaGreatRows
import Derived.Test.YtljapedlkdfafaaGreatFa
import Derived.Test.YtljapedlkdfafaaGreatFb
import Derived.Test.YtljapedlkdfafaaGreatBo1x
set_option maxRecDepth 100000
set_option linter.unusedSimpArgs false
set_option linter.unusedVariables false
namespace Go.Proofs.YtljapedlkdfafaaGreat
open Go.ChangeShapes Go.WideShapes Go.ChangeAt Go.RowKit
open Go.Proofs.YtljapedlkdfafaaGreat.Am

theorem Tryz.JG : JG Tryz.prog = true := by kernel_rfl

theorem kern1Boxes_call : ∀ xs, SZ Tryz.prog Tryz.f4.params.toList xs → ∃ h', an Tryz.prog 4 xs aa.empty (.bool true) h' := by
  intro xs h
  rw [Tryz.params4] at h
  obtain ⟨a0, _, rfl, h0, a1, _, rfl, h1, rfl⟩ := h
  obtain ⟨n, hn, rfl⟩ := avu Tryz.underlying5 h0
  obtain ⟨m, hm, rfl⟩ := avu Tryz.underlying5 h1
  obtain ⟨h', c, _⟩ := ave tb_ok (h := aa.empty) hn hm
  exact ⟨h', c⟩

theorem kern1Boxes_lifted (os : Os) (started : os.Started) (H : Type) (enc : TypeId × Value → H) :
    ReturnsInHanded {} Tryz.checked os 4 .any (Rows.kern1BoxesSpec.pre6 enc Tryz.prog Tryz.f4 Rows.kern1BoxesRow.domain false) (Rows.kern1BoxesSpec.post enc Tryz.prog Tryz.f4 false true false false) :=
  avd (C := Tryz.checked) Tryz.own started (by as_aux_lemma => kernel_rfl) Tryz.func4
    (ChangeSpec.witness6 (enc := enc) (C := Tryz.checked) false ⟨#[], #[.int .u8 0, .int .u8 0], []⟩ 12 (by as_aux_lemma => kernel_rfl) (by as_aux_lemma => kernel_rfl) (by as_aux_lemma => kernel_rfl) (by as_aux_lemma => kernel_rfl))
    Tryz.laidOut Tryz.JG rfl (fun ds h => match ds, h with | [d0, d1], _ => rfl) rfl (by as_aux_lemma => kernel_rfl) (by as_aux_lemma => kernel_rfl) kern1Boxes_call

theorem kern1Boxes_joined : joinedFacts Tryz.prog 4 Tryz.f4 Rows.kern1BoxesSpec Rows.kern1BoxesRow = true :=
  joined_of (by kernel_rfl) Tryz.laidOut Tryz.mapsRowed' (by kernel_rfl) (by kernel_rfl) (by kernel_rfl) Tryz.noStops (by kernel_rfl) Tryz.noKnobs
    kern1Boxes_inPlace kern1Boxes_unfollowed kern1Boxes_recurses kern1Boxes_named (by kernel_rfl) (by kernel_rfl) (by kernel_rfl) (by kernel_rfl) (by kernel_rfl)
    (by kernel_rfl) (by kernel_rfl) (by kernel_rfl) (by kernel_rfl) (by as_aux_lemma => rw [Tryz.plain]; rfl) rfl Tryz.heard Tryz.enter Tryz.noLifts Tryz.made
    (by kernel_rfl) (by kernel_rfl) (by kernel_rfl) (by kernel_rfl)

theorem kern1Boxes_holds : Rows.Kern1BoxesSaid :=
  OpenClaim.holds_of_wide 4 Tryz.f4 rfl rfl rfl rfl rfl rfl rfl ⟨rfl, rfl, rfl, rfl, rfl⟩ rfl rfl rfl rfl rfl kern1Boxes_found Tryz.func4 kern1Boxes_joined
    (of_decide_eq_true (by as_aux_lemma => kernel_rfl)) (by unfold Func.isWrapper; first | (rw [if_pos (by decide +kernel)]; kernel_rfl) | (rw [if_neg (by decide +kernel)]; exact ⟨rfl, rfl⟩))
    (fun os started H enc _ => kern1Boxes_lifted os started H enc)

end Go.Proofs.YtljapedlkdfafaaGreat
