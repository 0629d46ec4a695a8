/- Kern1Letters comes to true for every input, and turns nothing that was there. Conditions: none. -/
import Derived.Test.YtljapedlkdfafaaGreatOk
import Derived.Test.YtljapedlkdfafaaGreatQc
import Derived.Test.YtljapedlkdfafaaGreatRows
import Derived.Test.YtljapedlkdfafaaGreatFa
import Derived.Test.YtljapedlkdfafaaGreatFb
import Derived.Test.YtljapedlkdfafaaGreatLe1x
set_option maxRecDepth 100000
set_option linter.unusedSimpArgs false
set_option linter.unusedVariables false
namespace Go.Proofs.YtljapedlkdfafaaGreat
open Go.ChangeShapes Go.WideShapes Go.ChangeAt Go.RowKit
open Go.Proofs.YtljapedlkdfafaaGreat.Am

theorem Tryz.JG : JG Tryz.prog = true := by kernel_rfl

theorem kern1Letters_call : ∀ xs, SZ Tryz.prog Tryz.f6.params.toList xs → ∃ h', an Tryz.prog 6 xs aa.empty (.bool true) h' := by
  intro xs h
  rw [Tryz.params6] at h
  obtain ⟨a0, _, rfl, h0, a1, _, rfl, h1, rfl⟩ := h
  obtain ⟨l, rfl⟩ := avf Tryz.underlying52 Tryz.underlying35 Tryz.underlying5 h0
  obtain ⟨n, hn, rfl⟩ := avu Tryz.underlying5 h1
  obtain ⟨h', c, _⟩ := avc tb_ok (h := aa.empty) (l := l) (tl := .ao) hn
  exact ⟨h', c⟩

theorem kern1Letters_lifted (os : Os) (started : os.Started) (H : Type) (enc : TypeId × Value → H) :
    ReturnsInHanded {} Tryz.checked os 6 .any (Rows.kern1LettersSpec.pre6 enc Tryz.prog Tryz.f6 Rows.kern1LettersRow.domain false) (Rows.kern1LettersSpec.post enc Tryz.prog Tryz.f6 false true false false) :=
  avd (C := Tryz.checked) Tryz.own started (by as_aux_lemma => kernel_rfl) Tryz.func6
    (ChangeSpec.witness6 (enc := enc) (C := Tryz.checked) false ⟨#[], #[.slice none 0 0, .int .u8 0], []⟩ 12 (by as_aux_lemma => kernel_rfl) (by as_aux_lemma => kernel_rfl) (by as_aux_lemma => kernel_rfl) (by as_aux_lemma => kernel_rfl))
    Tryz.laidOut Tryz.JG rfl (fun ds h => match ds, h with | [d0, d1], _ => rfl) rfl (by as_aux_lemma => kernel_rfl) (by as_aux_lemma => kernel_rfl) kern1Letters_call

theorem kern1Letters_joined : joinedFacts Tryz.prog 6 Tryz.f6 Rows.kern1LettersSpec Rows.kern1LettersRow = true :=
  joined_of (by kernel_rfl) Tryz.laidOut Tryz.mapsRowed' (by kernel_rfl) (by kernel_rfl) (by kernel_rfl) Tryz.noStops (by kernel_rfl) Tryz.noKnobs
    kern1Letters_inPlace kern1Letters_unfollowed kern1Letters_recurses kern1Letters_named (by kernel_rfl) (by kernel_rfl) (by kernel_rfl) (by kernel_rfl) (by kernel_rfl)
    (by kernel_rfl) (by kernel_rfl) (by kernel_rfl) (by kernel_rfl) (by as_aux_lemma => rw [Tryz.plain]; rfl) rfl Tryz.heard Tryz.enter Tryz.noLifts Tryz.made
    (by kernel_rfl) (by kernel_rfl) (by kernel_rfl) (by kernel_rfl)

theorem kern1Letters_holds : Rows.Kern1LettersSaid :=
  OpenClaim.holds_of_wide 6 Tryz.f6 rfl rfl rfl rfl rfl rfl rfl ⟨rfl, rfl, rfl, rfl, rfl⟩ rfl rfl rfl rfl rfl kern1Letters_found Tryz.func6 kern1Letters_joined
    (of_decide_eq_true (by as_aux_lemma => kernel_rfl)) (by unfold Func.isWrapper; first | (rw [if_pos (by decide +kernel)]; kernel_rfl) | (rw [if_neg (by decide +kernel)]; exact ⟨rfl, rfl⟩))
    (fun os started H enc _ => kern1Letters_lifted os started H enc)

end Go.Proofs.YtljapedlkdfafaaGreat
