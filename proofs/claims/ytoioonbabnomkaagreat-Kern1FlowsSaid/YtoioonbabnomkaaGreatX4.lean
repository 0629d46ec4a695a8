/- Kern1Flows comes to true for every input, and turns nothing that was there. Conditions: none. -/
import Derived.Test.YtoioonbabnomkaaGreatOk
import Derived.Test.YtoioonbabnomkaaGreatQd
import Derived.Test.YtoioonbabnomkaaGreatRows
import Derived.Test.YtoioonbabnomkaaGreatFa
import Derived.Test.YtoioonbabnomkaaGreatFb
import Derived.Test.YtoioonbabnomkaaGreatX4x
set_option maxRecDepth 100000
set_option linter.unusedSimpArgs false
set_option linter.unusedVariables false
namespace Go.Proofs.YtoioonbabnomkaaGreat
open Go.ChangeShapes Go.WideShapes Go.ChangeAt Go.RowKit
open Go.Proofs.YtoioonbabnomkaaGreat.Am

theorem Tryz.Tl : Tl Tryz.prog = true := by kernel_rfl

theorem kern1Flows_call : ∀ xs, ae9 Tryz.prog Tryz.f6.params.toList xs → ∃ h', al Tryz.prog 6 xs aa.empty (.bool true) h' := by
  intro xs h
  rw [Tryz.params6] at h
  obtain ⟨a0, _, rfl, h0, a1, _, rfl, h1, a2, _, rfl, h2, rfl⟩ := h
  obtain ⟨ns, rfl, _, hw⟩ := aUg Tryz.underlying22 Tryz.underlying5 h0
  obtain ⟨b, hb⟩ := aLB hw
  rw [hb]
  obtain ⟨x, hx, rfl⟩ := aUx Tryz.underlying5 h1
  obtain ⟨y, hy, rfl⟩ := aUx Tryz.underlying5 h2
  obtain ⟨h', c, _⟩ := aUb tb_ok (h := aa.empty) (l := b) (t := .au) hx hy
  exact ⟨h', c⟩

theorem kern1Flows_lifted (os : Os) (started : os.Started) (H : Type) (enc : TypeId × Value → H) :
    ReturnsInHanded {} Tryz.checked os 6 .any (Rows.kern1FlowsSpec.pre6 enc Tryz.prog Tryz.f6 Rows.kern1FlowsRow.domain false) (Rows.kern1FlowsSpec.post enc Tryz.prog Tryz.f6 false true false false) :=
  aT9 (C := Tryz.checked) Tryz.own started (by as_aux_lemma => kernel_rfl) Tryz.func6
    (ChangeSpec.witness6 (enc := enc) (C := Tryz.checked) false ⟨#[], #[.slice none 0 0, .int .u8 0, .int .u8 0], []⟩ 12 (by as_aux_lemma => kernel_rfl) (by as_aux_lemma => kernel_rfl) (by as_aux_lemma => kernel_rfl) (by as_aux_lemma => kernel_rfl))
    Tryz.laidOut Tryz.Tl rfl (fun ds h => match ds, h with | [d0, d1, d2], _ => rfl) rfl (by as_aux_lemma => kernel_rfl) (by as_aux_lemma => kernel_rfl) kern1Flows_call

theorem kern1Flows_joined : joinedFacts Tryz.prog 6 Tryz.f6 Rows.kern1FlowsSpec Rows.kern1FlowsRow = true :=
  joined_of (by kernel_rfl) Tryz.laidOut Tryz.mapsRowed' (by kernel_rfl) (by kernel_rfl) (by kernel_rfl) Tryz.noStops (by kernel_rfl) Tryz.noKnobs
    kern1Flows_inPlace kern1Flows_unfollowed kern1Flows_recurses kern1Flows_named (by kernel_rfl) (by kernel_rfl) (by kernel_rfl) (by kernel_rfl) (by kernel_rfl)
    (by kernel_rfl) (by kernel_rfl) (by kernel_rfl) (by kernel_rfl) (by as_aux_lemma => rw [Tryz.plain]; rfl) rfl Tryz.heard Tryz.enter Tryz.noLifts Tryz.made
    (by kernel_rfl) (by kernel_rfl) (by kernel_rfl) (by kernel_rfl)

theorem kern1Flows_holds : Rows.Kern1FlowsSaid :=
  OpenClaim.holds_of_wide 6 Tryz.f6 rfl rfl rfl rfl rfl rfl rfl ⟨rfl, rfl, rfl, rfl, rfl⟩ rfl rfl rfl rfl rfl kern1Flows_found Tryz.func6 kern1Flows_joined
    (of_decide_eq_true (by as_aux_lemma => kernel_rfl)) (by unfold Func.isWrapper; first | (rw [if_pos (by decide +kernel)]; kernel_rfl) | (rw [if_neg (by decide +kernel)]; exact ⟨rfl, rfl⟩))
    (fun os started H enc _ => kern1Flows_lifted os started H enc)

end Go.Proofs.YtoioonbabnomkaaGreat
