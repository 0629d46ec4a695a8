/- Kern1Copying comes to true for every input, and turns nothing that was there. Conditions: none. -/
import Derived.Test.YtljapedlkdfafaaGreatOk
import Derived.Test.YtljapedlkdfafaaGreatQc
import Derived.Test.YtljapedlkdfafaaGreatRows
import Derived.Test.YtljapedlkdfafaaGreatFa
import Derived.Test.YtljapedlkdfafaaGreatFb
import Derived.Test.YtljapedlkdfafaaGreatCp1x
set_option maxRecDepth 100000
set_option linter.unusedSimpArgs false
set_option linter.unusedVariables false
namespace Go.Proofs.YtljapedlkdfafaaGreat
open Go.ChangeShapes Go.WideShapes Go.ChangeAt Go.RowKit
open Go.Proofs.YtljapedlkdfafaaGreat.Am

theorem Tryz.JD : JD Tryz.prog = true := by kernel_rfl

theorem kern1Copying_call : ∀ xs, Ta Tryz.prog Tryz.f7.params.toList xs → ∃ h', an Tryz.prog 7 xs aa.empty (.bool true) h' := by
  intro xs h
  rw [Tryz.params7] at h
  obtain ⟨a0, _, rfl, h0, a1, _, rfl, h1, rfl⟩ := h
  obtain ⟨n, hn, rfl⟩ := axb Tryz.underlying5 h0
  obtain ⟨m, hm, rfl⟩ := axb Tryz.underlying5 h1
  obtain ⟨h', c, _⟩ := awV tb_ok (h := aa.empty) hn hm
  exact ⟨h', c⟩

theorem kern1Copying_lifted (os : Os) (started : os.Started) (H : Type) (enc : TypeId × Value → H) :
    ReturnsInHanded {} Tryz.checked os 7 .any (Rows.kern1CopyingSpec.pre6 enc Tryz.prog Tryz.f7 Rows.kern1CopyingRow.domain false) (Rows.kern1CopyingSpec.post enc Tryz.prog Tryz.f7 false true false false) :=
  awW (C := Tryz.checked) Tryz.own started (by as_aux_lemma => kernel_rfl) Tryz.func7
    (ChangeSpec.witness6 (enc := enc) (C := Tryz.checked) false ⟨#[], #[.int .u8 0, .int .u8 0], []⟩ 12 (by as_aux_lemma => kernel_rfl) (by as_aux_lemma => kernel_rfl) (by as_aux_lemma => kernel_rfl) (by as_aux_lemma => kernel_rfl))
    Tryz.laidOut Tryz.JD rfl (fun ds h => match ds, h with | [d0, d1], _ => rfl) rfl (by as_aux_lemma => kernel_rfl) (by as_aux_lemma => kernel_rfl) kern1Copying_call

theorem kern1Copying_joined : joinedFacts Tryz.prog 7 Tryz.f7 Rows.kern1CopyingSpec Rows.kern1CopyingRow = true :=
  joined_of (by kernel_rfl) Tryz.laidOut Tryz.mapsRowed' (by kernel_rfl) (by kernel_rfl) (by kernel_rfl) Tryz.noStops (by kernel_rfl) Tryz.noKnobs
    kern1Copying_inPlace kern1Copying_unfollowed kern1Copying_recurses kern1Copying_named (by kernel_rfl) (by kernel_rfl) (by kernel_rfl) (by kernel_rfl) (by kernel_rfl)
    (by kernel_rfl) (by kernel_rfl) (by kernel_rfl) (by kernel_rfl) (by as_aux_lemma => rw [Tryz.plain]; rfl) rfl Tryz.heard Tryz.enter Tryz.noLifts Tryz.made
    (by kernel_rfl) (by kernel_rfl) (by kernel_rfl) (by kernel_rfl)

theorem kern1Copying_holds : Rows.Kern1CopyingSaid :=
  OpenClaim.holds_of_wide 7 Tryz.f7 rfl rfl rfl rfl rfl rfl rfl ⟨rfl, rfl, rfl, rfl, rfl⟩ rfl rfl rfl rfl rfl kern1Copying_found Tryz.func7 kern1Copying_joined
    (of_decide_eq_true (by as_aux_lemma => kernel_rfl)) (by unfold Func.isWrapper; first | (rw [if_pos (by decide +kernel)]; kernel_rfl) | (rw [if_neg (by decide +kernel)]; exact ⟨rfl, rfl⟩))
    (fun os started H enc _ => kern1Copying_lifted os started H enc)

end Go.Proofs.YtljapedlkdfafaaGreat
