/- Kern1Costs comes to true for every input, and turns nothing that was there. Conditions: none. -/
import Derived.Test.YtoioonbabnomkaaGreatOk
import Derived.Test.YtoioonbabnomkaaGreatQd
import Derived.Test.YtoioonbabnomkaaGreatRows
import Derived.Test.YtoioonbabnomkaaGreatFa
import Derived.Test.YtoioonbabnomkaaGreatFb
import Derived.Test.YtoioonbabnomkaaGreatX3x
set_option maxRecDepth 100000
set_option linter.unusedSimpArgs false
set_option linter.unusedVariables false
namespace Go.Proofs.YtoioonbabnomkaaGreat
open Go.ChangeShapes Go.WideShapes Go.ChangeAt Go.RowKit
open Go.Proofs.YtoioonbabnomkaaGreat.Am

theorem Tryz.Tl : Tl Tryz.prog = true := by kernel_rfl

theorem kern1Costs_call : ∀ xs, ae9 Tryz.prog Tryz.f5.params.toList xs → ∃ h', al Tryz.prog 5 xs aa.empty (.bool true) h' := by
  intro xs h
  rw [Tryz.params5] at h
  obtain ⟨a0, _, rfl, h0, rfl⟩ := h
  obtain ⟨ns, rfl, _, hw⟩ := aUg Tryz.underlying22 Tryz.underlying5 h0
  obtain ⟨b, hb⟩ := aLB hw
  rw [hb]
  obtain ⟨h', c, _⟩ := aUd tb_ok (h := aa.empty) (l := b) (t := .au)
  exact ⟨h', c⟩

theorem kern1Costs_lifted (os : Os) (started : os.Started) (H : Type) (enc : TypeId × Value → H) :
    ReturnsInHanded {} Tryz.checked os 5 .any (Rows.kern1CostsSpec.pre6 enc Tryz.prog Tryz.f5 Rows.kern1CostsRow.domain false) (Rows.kern1CostsSpec.post enc Tryz.prog Tryz.f5 false true false false) :=
  aT9 (C := Tryz.checked) Tryz.own started (by as_aux_lemma => kernel_rfl) Tryz.func5
    (ChangeSpec.witness6 (enc := enc) (C := Tryz.checked) false ⟨#[], #[.slice none 0 0], []⟩ 12 (by as_aux_lemma => kernel_rfl) (by as_aux_lemma => kernel_rfl) (by as_aux_lemma => kernel_rfl) (by as_aux_lemma => kernel_rfl))
    Tryz.laidOut Tryz.Tl rfl (fun ds h => match ds, h with | [d0], _ => rfl) rfl (by as_aux_lemma => kernel_rfl) (by as_aux_lemma => kernel_rfl) kern1Costs_call

theorem kern1Costs_joined : joinedFacts Tryz.prog 5 Tryz.f5 Rows.kern1CostsSpec Rows.kern1CostsRow = true :=
  joined_of (by kernel_rfl) Tryz.laidOut Tryz.mapsRowed' (by kernel_rfl) (by kernel_rfl) (by kernel_rfl) Tryz.noStops (by kernel_rfl) Tryz.noKnobs
    kern1Costs_inPlace kern1Costs_unfollowed kern1Costs_recurses kern1Costs_named (by kernel_rfl) (by kernel_rfl) (by kernel_rfl) (by kernel_rfl) (by kernel_rfl)
    (by kernel_rfl) (by kernel_rfl) (by kernel_rfl) (by kernel_rfl) (by as_aux_lemma => rw [Tryz.plain]; rfl) rfl Tryz.heard Tryz.enter Tryz.noLifts Tryz.made
    (by kernel_rfl) (by kernel_rfl) (by kernel_rfl) (by kernel_rfl)

theorem kern1Costs_holds : Rows.Kern1CostsSaid :=
  OpenClaim.holds_of_wide 5 Tryz.f5 rfl rfl rfl rfl rfl rfl rfl ⟨rfl, rfl, rfl, rfl, rfl⟩ rfl rfl rfl rfl rfl kern1Costs_found Tryz.func5 kern1Costs_joined
    (of_decide_eq_true (by as_aux_lemma => kernel_rfl)) (by unfold Func.isWrapper; first | (rw [if_pos (by decide +kernel)]; kernel_rfl) | (rw [if_neg (by decide +kernel)]; exact ⟨rfl, rfl⟩))
    (fun os started H enc _ => kern1Costs_lifted os started H enc)

end Go.Proofs.YtoioonbabnomkaaGreat
