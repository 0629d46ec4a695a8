/- QuietComes comes to true for every input, and turns nothing that was there. Conditions: none. -/
import Derived.Test.YtmffhohcjifllaaGreatOk
import Derived.Test.YtmffhohcjifllaaGreatQc
import Derived.Test.YtmffhohcjifllaaGreatRows
import Derived.Test.YtmffhohcjifllaaGreatFa
import Derived.Test.YtmffhohcjifllaaGreatFb
import Derived.Test.YtmffhohcjifllaaGreatQm1x
set_option maxRecDepth 100000
set_option linter.unusedSimpArgs false
set_option linter.unusedVariables false
namespace Go.Proofs.YtmffhohcjifllaaGreat
open Go.ChangeShapes Go.WideShapes Go.ChangeAt Go.RowKit
open Go.Proofs.YtmffhohcjifllaaGreat.Am

theorem Tryz.KM : KM Tryz.prog = true := by kernel_rfl

theorem quietComes_call : ∀ xs, UM Tryz.prog Tryz.f3.params.toList xs → ∃ h', an Tryz.prog 3 xs aa.empty (.bool true) h' := by
  intro xs h
  rw [Tryz.params3] at h
  obtain ⟨a0, _, rfl, h0, rfl⟩ := h
  obtain ⟨ns, rfl, _, hw⟩ := axl Tryz.underlying22 Tryz.underlying5 h0
  obtain ⟨b, hb⟩ := aoC hw
  rw [hb]
  obtain ⟨h', c, _⟩ := axj tb_ok (h := aa.empty) (l := b) (t := .ao)
  exact ⟨h', c⟩

theorem quietComes_lifted (os : Os) (started : os.Started) (H : Type) (enc : TypeId × Value → H) :
    ReturnsInHanded {} Tryz.checked os 3 .any (Rows.quietComesSpec.pre6 enc Tryz.prog Tryz.f3 Rows.quietComesRow.domain false) (Rows.quietComesSpec.post enc Tryz.prog Tryz.f3 false true false false) :=
  axi (C := Tryz.checked) Tryz.own started (by as_aux_lemma => kernel_rfl) Tryz.func3
    (ChangeSpec.witness6 (enc := enc) (C := Tryz.checked) false ⟨#[], #[.slice none 0 0], []⟩ 12 (by as_aux_lemma => kernel_rfl) (by as_aux_lemma => kernel_rfl) (by as_aux_lemma => kernel_rfl) (by as_aux_lemma => kernel_rfl))
    Tryz.laidOut Tryz.KM rfl (fun ds h => match ds, h with | [d0], _ => rfl) rfl (by as_aux_lemma => kernel_rfl) (by as_aux_lemma => kernel_rfl) quietComes_call

theorem quietComes_joined : joinedFacts Tryz.prog 3 Tryz.f3 Rows.quietComesSpec Rows.quietComesRow = true :=
  joined_of (by kernel_rfl) Tryz.laidOut Tryz.mapsRowed' (by kernel_rfl) (by kernel_rfl) (by kernel_rfl) Tryz.noStops (by kernel_rfl) Tryz.noKnobs
    quietComes_inPlace quietComes_unfollowed quietComes_recurses quietComes_named (by kernel_rfl) (by kernel_rfl) (by kernel_rfl) (by kernel_rfl) (by kernel_rfl)
    (by kernel_rfl) (by kernel_rfl) (by kernel_rfl) (by kernel_rfl) (by as_aux_lemma => rw [Tryz.plain]; rfl) rfl Tryz.heard Tryz.enter Tryz.noLifts Tryz.made
    (by kernel_rfl) (by kernel_rfl) (by kernel_rfl) (by kernel_rfl)

theorem quietComes_holds : Rows.QuietComesSaid :=
  OpenClaim.holds_of_wide 3 Tryz.f3 rfl rfl rfl rfl rfl rfl rfl ⟨rfl, rfl, rfl, rfl, rfl⟩ rfl rfl rfl rfl rfl quietComes_found Tryz.func3 quietComes_joined
    (of_decide_eq_true (by as_aux_lemma => kernel_rfl)) (by unfold Func.isWrapper; first | (rw [if_pos (by decide +kernel)]; kernel_rfl) | (rw [if_neg (by decide +kernel)]; exact ⟨rfl, rfl⟩))
    (fun os started H enc _ => quietComes_lifted os started H enc)

end Go.Proofs.YtmffhohcjifllaaGreat
