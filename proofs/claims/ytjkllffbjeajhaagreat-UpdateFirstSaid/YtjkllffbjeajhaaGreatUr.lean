/- UpdateFirst comes to true for every input, and turns nothing that was there. Conditions: none. -/
import Derived.Test.YtjkllffbjeajhaaGreatUf
import Derived.Test.YtjkllffbjeajhaaGreatRows
import Derived.Test.YtjkllffbjeajhaaGreatFa
import Derived.Test.YtjkllffbjeajhaaGreatFb
import Derived.Test.YtjkllffbjeajhaaGreatUrx
set_option maxRecDepth 100000
set_option linter.unusedSimpArgs false
set_option linter.unusedVariables false
namespace Go.Proofs.YtjkllffbjeajhaaGreat
open Go.ChangeShapes Go.WideShapes Go.ChangeAt Go.RowKit
open Go.Proofs.YtjkllffbjeajhaaGreat.Am

theorem Tryz.layC : layC Tryz.prog = true := by kernel_rfl

theorem updateFirst_call : ∀ xs, HdAll Tryz.prog Tryz.f3.params.toList xs → ∃ h', ACalls Tryz.prog 3 xs AHeap.empty (.bool true) h' := by
  intro xs h
  rw [Tryz.params3] at h
  obtain ⟨a0, _, rfl, h0, a1, _, rfl, h1, a2, _, rfl, h2, rfl⟩ := h
  obtain ⟨a, ha, rfl⟩ := hd_u8 Tryz.underlying5 h0
  obtain ⟨s, _, rfl⟩ := hd_u8 Tryz.underlying5 h1
  obtain ⟨f, rfl⟩ := hd_bool Tryz.underlying4 h2
  exact tb_ok.law (rf := c3) rfl (Nat.le_of_ble_eq_true rfl) (updateFirst_wp tb_ok begun28 ufN (s := s) (f := f) ha)

theorem updateFirst_lifted (os : Os) (started : os.Started) (H : Type) (enc : TypeId × Value → H) :
    ReturnsInHanded {} Tryz.checked os 3 .any (Rows.updateFirstSpec.pre6 enc Tryz.prog Tryz.f3 Rows.updateFirstRow.domain false) (Rows.updateFirstSpec.post enc Tryz.prog Tryz.f3 false true false false) :=
  law_lifted (C := Tryz.checked) Tryz.own started (by as_aux_lemma => kernel_rfl) Tryz.func3
    (ChangeSpec.witness6 (enc := enc) (C := Tryz.checked) false ⟨#[], #[.int .u8 0, .int .u8 0, .bool false], []⟩ 12 (by as_aux_lemma => kernel_rfl) (by as_aux_lemma => kernel_rfl) (by as_aux_lemma => kernel_rfl) (by as_aux_lemma => kernel_rfl))
    Tryz.laidOut Tryz.layC rfl (fun ds h => match ds, h with | [d0, d1, d2], _ => rfl) rfl (by as_aux_lemma => kernel_rfl) (by as_aux_lemma => kernel_rfl) updateFirst_call

theorem updateFirst_joined : joinedFacts Tryz.prog 3 Tryz.f3 Rows.updateFirstSpec Rows.updateFirstRow = true :=
  joined_of (by kernel_rfl) Tryz.laidOut Tryz.mapsRowed' (by kernel_rfl) (by kernel_rfl) (by kernel_rfl) Tryz.noStops (by kernel_rfl) Tryz.noKnobs
    updateFirst_inPlace updateFirst_unfollowed updateFirst_recurses updateFirst_named (by kernel_rfl) (by kernel_rfl) (by kernel_rfl) (by kernel_rfl) (by kernel_rfl)
    (by kernel_rfl) (by kernel_rfl) (by kernel_rfl) (by kernel_rfl) (by as_aux_lemma => rw [Tryz.plain]; rfl) rfl Tryz.heard Tryz.enter Tryz.noLifts Tryz.made
    (by kernel_rfl) (by kernel_rfl) (by kernel_rfl) (by kernel_rfl)

theorem updateFirst_holds : Rows.UpdateFirstSaid :=
  OpenClaim.holds_of_wide 3 Tryz.f3 rfl rfl rfl rfl rfl rfl rfl ⟨rfl, rfl, rfl, rfl, rfl⟩ rfl rfl rfl rfl rfl updateFirst_found Tryz.func3 updateFirst_joined
    (of_decide_eq_true (by as_aux_lemma => kernel_rfl)) (by unfold Func.isWrapper; first | (rw [if_pos (by decide +kernel)]; kernel_rfl) | (rw [if_neg (by decide +kernel)]; exact ⟨rfl, rfl⟩))
    (fun os started H enc _ => updateFirst_lifted os started H enc)

end Go.Proofs.YtjkllffbjeajhaaGreat
