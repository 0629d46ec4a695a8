/- Kern1Stats comes to true for every input, and turns nothing that was there. Conditions: none. -/
import Derived.Test.YtljapedlkdfafaaGreatOk
import Derived.Test.YtljapedlkdfafaaGreatQc
import Derived.Test.YtljapedlkdfafaaGreatRows
import Derived.Test.YtljapedlkdfafaaGreatFa
import Derived.Test.YtljapedlkdfafaaGreatFb
import Derived.Test.YtljapedlkdfafaaGreatSt1x
set_option maxRecDepth 100000
set_option linter.unusedSimpArgs false
set_option linter.unusedVariables false
namespace Go.Proofs.YtljapedlkdfafaaGreat
open Go.ChangeShapes Go.WideShapes Go.ChangeAt Go.RowKit
open Go.Proofs.YtljapedlkdfafaaGreat.Am

theorem Tryz.JD : JD Tryz.prog = true := by kernel_rfl

theorem kern1Stats_call : ∀ xs, Ta Tryz.prog Tryz.f5.params.toList xs → ∃ h', an Tryz.prog 5 xs aa.empty (.bool true) h' := by
  intro xs h
  rw [Tryz.params5] at h
  obtain ⟨a0, _, rfl, h0, a1, _, rfl, h1, a2, _, rfl, h2, rfl⟩ := h
  obtain ⟨k, hk, rfl⟩ := axb Tryz.underlying5 h0
  obtain ⟨c, hc, rfl⟩ := aw0 Tryz.underlying44 h1
  obtain ⟨n, hn, rfl⟩ := axb Tryz.underlying5 h2
  obtain ⟨h', c, _⟩ := awX tb_ok (h := aa.empty) hk hc hn
  exact ⟨h', c⟩

theorem kern1Stats_lifted (os : Os) (started : os.Started) (H : Type) (enc : TypeId × Value → H) :
    ReturnsInHanded {} Tryz.checked os 5 .any (Rows.kern1StatsSpec.pre6 enc Tryz.prog Tryz.f5 Rows.kern1StatsRow.domain false) (Rows.kern1StatsSpec.post enc Tryz.prog Tryz.f5 false true false false) :=
  awW (C := Tryz.checked) Tryz.own started (by as_aux_lemma => kernel_rfl) Tryz.func5
    (ChangeSpec.witness6 (enc := enc) (C := Tryz.checked) false ⟨#[], #[.int .u8 0, .int .u16 0, .int .u8 0], []⟩ 12 (by as_aux_lemma => kernel_rfl) (by as_aux_lemma => kernel_rfl) (by as_aux_lemma => kernel_rfl) (by as_aux_lemma => kernel_rfl))
    Tryz.laidOut Tryz.JD rfl (fun ds h => match ds, h with | [d0, d1, d2], _ => rfl) rfl (by as_aux_lemma => kernel_rfl) (by as_aux_lemma => kernel_rfl) kern1Stats_call

theorem kern1Stats_joined : joinedFacts Tryz.prog 5 Tryz.f5 Rows.kern1StatsSpec Rows.kern1StatsRow = true :=
  joined_of (by kernel_rfl) Tryz.laidOut Tryz.mapsRowed' (by kernel_rfl) (by kernel_rfl) (by kernel_rfl) Tryz.noStops (by kernel_rfl) Tryz.noKnobs
    kern1Stats_inPlace kern1Stats_unfollowed kern1Stats_recurses kern1Stats_named (by kernel_rfl) (by kernel_rfl) (by kernel_rfl) (by kernel_rfl) (by kernel_rfl)
    (by kernel_rfl) (by kernel_rfl) (by kernel_rfl) (by kernel_rfl) (by as_aux_lemma => rw [Tryz.plain]; rfl) rfl Tryz.heard Tryz.enter Tryz.noLifts Tryz.made
    (by kernel_rfl) (by kernel_rfl) (by kernel_rfl) (by kernel_rfl)

theorem kern1Stats_holds : Rows.Kern1StatsSaid :=
  OpenClaim.holds_of_wide 5 Tryz.f5 rfl rfl rfl rfl rfl rfl rfl ⟨rfl, rfl, rfl, rfl, rfl⟩ rfl rfl rfl rfl rfl kern1Stats_found Tryz.func5 kern1Stats_joined
    (of_decide_eq_true (by as_aux_lemma => kernel_rfl)) (by unfold Func.isWrapper; first | (rw [if_pos (by decide +kernel)]; kernel_rfl) | (rw [if_neg (by decide +kernel)]; exact ⟨rfl, rfl⟩))
    (fun os started H enc _ => kern1Stats_lifted os started H enc)

end Go.Proofs.YtljapedlkdfafaaGreat
