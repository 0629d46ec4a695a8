/- Kern1Copies comes to true for every input, and turns nothing that was there. Conditions: none. -/
import Derived.Test.YtoioonbabnomkaaGreatOk
import Derived.Test.YtoioonbabnomkaaGreatQd
import Derived.Test.YtoioonbabnomkaaGreatRows
import Derived.Test.YtoioonbabnomkaaGreatFa
import Derived.Test.YtoioonbabnomkaaGreatFb
import Derived.Test.YtoioonbabnomkaaGreatX6x
set_option maxRecDepth 100000
set_option linter.unusedSimpArgs false
set_option linter.unusedVariables false
namespace Go.Proofs.YtoioonbabnomkaaGreat
open Go.ChangeShapes Go.WideShapes Go.ChangeAt Go.RowKit
open Go.Proofs.YtoioonbabnomkaaGreat.Am

theorem Tryz.Tl : Tl Tryz.prog = true := by kernel_rfl

theorem kern1Copies_call : ∀ xs, ae9 Tryz.prog Tryz.f8.params.toList xs → ∃ h', al Tryz.prog 8 xs aa.empty (.bool true) h' := by
  intro xs h
  rw [Tryz.params8] at h
  obtain ⟨a0, _, rfl, h0, a1, _, rfl, h1, rfl⟩ := h
  obtain ⟨ns, rfl, _, hw⟩ := aUg Tryz.underlying22 Tryz.underlying5 h0
  obtain ⟨b, hb⟩ := aLB hw
  rw [hb]
  obtain ⟨ms, rfl, _, hv⟩ := aUg Tryz.underlying22 Tryz.underlying5 h1
  obtain ⟨d, hd⟩ := aLB hv
  rw [hd]
  obtain ⟨h', c, _⟩ := aUa tb_ok (h := aa.empty) (l := b) (m := d) (t := .au) (t' := .au)
  exact ⟨h', c⟩

theorem kern1Copies_lifted (os : Os) (started : os.Started) (H : Type) (enc : TypeId × Value → H) :
    ReturnsInHanded {} Tryz.checked os 8 .any (Rows.kern1CopiesSpec.pre6 enc Tryz.prog Tryz.f8 Rows.kern1CopiesRow.domain false) (Rows.kern1CopiesSpec.post enc Tryz.prog Tryz.f8 false true false false) :=
  aT9 (C := Tryz.checked) Tryz.own started (by as_aux_lemma => kernel_rfl) Tryz.func8
    (ChangeSpec.witness6 (enc := enc) (C := Tryz.checked) false ⟨#[], #[.slice none 0 0, .slice none 0 0], []⟩ 12 (by as_aux_lemma => kernel_rfl) (by as_aux_lemma => kernel_rfl) (by as_aux_lemma => kernel_rfl) (by as_aux_lemma => kernel_rfl))
    Tryz.laidOut Tryz.Tl rfl (fun ds h => match ds, h with | [d0, d1], _ => rfl) rfl (by as_aux_lemma => kernel_rfl) (by as_aux_lemma => kernel_rfl) kern1Copies_call

theorem kern1Copies_joined : joinedFacts Tryz.prog 8 Tryz.f8 Rows.kern1CopiesSpec Rows.kern1CopiesRow = true :=
  joined_of (by kernel_rfl) Tryz.laidOut Tryz.mapsRowed' (by kernel_rfl) (by kernel_rfl) (by kernel_rfl) Tryz.noStops (by kernel_rfl) Tryz.noKnobs
    kern1Copies_inPlace kern1Copies_unfollowed kern1Copies_recurses kern1Copies_named (by kernel_rfl) (by kernel_rfl) (by kernel_rfl) (by kernel_rfl) (by kernel_rfl)
    (by kernel_rfl) (by kernel_rfl) (by kernel_rfl) (by kernel_rfl) (by as_aux_lemma => rw [Tryz.plain]; rfl) rfl Tryz.heard Tryz.enter Tryz.noLifts Tryz.made
    (by kernel_rfl) (by kernel_rfl) (by kernel_rfl) (by kernel_rfl)

theorem kern1Copies_holds : Rows.Kern1CopiesSaid :=
  OpenClaim.holds_of_wide 8 Tryz.f8 rfl rfl rfl rfl rfl rfl rfl ⟨rfl, rfl, rfl, rfl, rfl⟩ rfl rfl rfl rfl rfl kern1Copies_found Tryz.func8 kern1Copies_joined
    (of_decide_eq_true (by as_aux_lemma => kernel_rfl)) (by unfold Func.isWrapper; first | (rw [if_pos (by decide +kernel)]; kernel_rfl) | (rw [if_neg (by decide +kernel)]; exact ⟨rfl, rfl⟩))
    (fun os started H enc _ => kern1Copies_lifted os started H enc)

end Go.Proofs.YtoioonbabnomkaaGreat
