/- Kern1Cats comes to true for every input, and turns nothing that was there. Conditions: none. -/
import Derived.Test.YtljapedlkdfafaaGreatOk
import Derived.Test.YtljapedlkdfafaaGreatQc
import Derived.Test.YtljapedlkdfafaaGreatRows
import Derived.Test.YtljapedlkdfafaaGreatFa
import Derived.Test.YtljapedlkdfafaaGreatFb
import Derived.Test.YtljapedlkdfafaaGreatCa1x
set_option maxRecDepth 100000
set_option linter.unusedSimpArgs false
set_option linter.unusedVariables false
namespace Go.Proofs.YtljapedlkdfafaaGreat
open Go.ChangeShapes Go.WideShapes Go.ChangeAt Go.RowKit
open Go.Proofs.YtljapedlkdfafaaGreat.Am

theorem Tryz.JG : JG Tryz.prog = true := by kernel_rfl

theorem kern1Cats_call : ∀ xs, SZ Tryz.prog Tryz.f3.params.toList xs → ∃ h', an Tryz.prog 3 xs aa.empty (.bool true) h' := by
  intro xs h
  rw [Tryz.params3] at h
  obtain ⟨a0, _, rfl, h0, a1, _, rfl, h1, rfl⟩ := h
  obtain ⟨n, hn, rfl⟩ := avu Tryz.underlying5 h0
  obtain ⟨m, hm, rfl⟩ := avu Tryz.underlying5 h1
  obtain ⟨h', c, _⟩ := avg tb_ok (h := aa.empty) hn hm
  exact ⟨h', c⟩

theorem kern1Cats_lifted (os : Os) (started : os.Started) (H : Type) (enc : TypeId × Value → H) :
    ReturnsInHanded {} Tryz.checked os 3 .any (Rows.kern1CatsSpec.pre6 enc Tryz.prog Tryz.f3 Rows.kern1CatsRow.domain false) (Rows.kern1CatsSpec.post enc Tryz.prog Tryz.f3 false true false false) :=
  avd (C := Tryz.checked) Tryz.own started (by as_aux_lemma => kernel_rfl) Tryz.func3
    (ChangeSpec.witness6 (enc := enc) (C := Tryz.checked) false ⟨#[], #[.int .u8 0, .int .u8 0], []⟩ 12 (by as_aux_lemma => kernel_rfl) (by as_aux_lemma => kernel_rfl) (by as_aux_lemma => kernel_rfl) (by as_aux_lemma => kernel_rfl))
    Tryz.laidOut Tryz.JG rfl (fun ds h => match ds, h with | [d0, d1], _ => rfl) rfl (by as_aux_lemma => kernel_rfl) (by as_aux_lemma => kernel_rfl) kern1Cats_call

theorem kern1Cats_joined : joinedFacts Tryz.prog 3 Tryz.f3 Rows.kern1CatsSpec Rows.kern1CatsRow = true :=
  joined_of (by kernel_rfl) Tryz.laidOut Tryz.mapsRowed' (by kernel_rfl) (by kernel_rfl) (by kernel_rfl) Tryz.noStops (by kernel_rfl) Tryz.noKnobs
    kern1Cats_inPlace kern1Cats_unfollowed kern1Cats_recurses kern1Cats_named (by kernel_rfl) (by kernel_rfl) (by kernel_rfl) (by kernel_rfl) (by kernel_rfl)
    (by kernel_rfl) (by kernel_rfl) (by kernel_rfl) (by kernel_rfl) (by as_aux_lemma => rw [Tryz.plain]; rfl) rfl Tryz.heard Tryz.enter Tryz.noLifts Tryz.made
    (by kernel_rfl) (by kernel_rfl) (by kernel_rfl) (by kernel_rfl)

theorem kern1Cats_holds : Rows.Kern1CatsSaid :=
  OpenClaim.holds_of_wide 3 Tryz.f3 rfl rfl rfl rfl rfl rfl rfl ⟨rfl, rfl, rfl, rfl, rfl⟩ rfl rfl rfl rfl rfl kern1Cats_found Tryz.func3 kern1Cats_joined
    (of_decide_eq_true (by as_aux_lemma => kernel_rfl)) (by unfold Func.isWrapper; first | (rw [if_pos (by decide +kernel)]; kernel_rfl) | (rw [if_neg (by decide +kernel)]; exact ⟨rfl, rfl⟩))
    (fun os started H enc _ => kern1Cats_lifted os started H enc)

end Go.Proofs.YtljapedlkdfafaaGreat
