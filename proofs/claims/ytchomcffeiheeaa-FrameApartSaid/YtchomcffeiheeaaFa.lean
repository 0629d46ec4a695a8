/- FrameApart comes to true for every input, and turns nothing that was there. Conditions: none. -/
import Derived.Test.YtchomcffeiheeaaL12
import Derived.Test.YtchomcffeiheeaaRows
set_option maxRecDepth 100000
set_option linter.unusedSimpArgs false
set_option linter.unusedVariables false
namespace Go.Proofs.Ytchomcffeiheeaa
open Go.ChangeShapes Go.WideShapes Go.ChangeAt Go.RowKit
open Go.Proofs.Ytchomcffeiheeaa.Am

theorem Try.own : ownKnob Try.prog.godebug = none := by kernel_rfl
theorem Try.laidOut : laidOutB Try.prog = true := by kernel_rfl
theorem Try.layC : layC Try.prog = true := by kernel_rfl

theorem frameApart_call : ∀ xs, HdAll Try.prog Try.f6.params.toList xs → ∃ h', ACalls Try.prog 6 xs AHeap.empty (.bool true) h' := by
  intro xs h
  rw [Try.params6] at h
  obtain ⟨a0, _, rfl, h0, a1, _, rfl, h1, a2, _, rfl, h2, rfl⟩ := h
  obtain ⟨f, _, rfl⟩ := hd_u8 Try.underlying5 h0
  obtain ⟨off, _, rfl⟩ := hd_u8 Try.underlying5 h1
  obtain ⟨b, _, rfl⟩ := hd_u8 Try.underlying5 h2
  exact tb_ok.law (rf := c6) rfl (Nat.le_of_ble_eq_true rfl) (frameApart_wp tb_ok)

theorem frameApart_lifted (os : Os) (started : os.Started) (H : Type) (enc : TypeId × Value → H) :
    ReturnsInHanded {} Try.checked os 6 .any (Rows.frameApartSpec.pre6 enc Try.prog Try.f6 Rows.frameApartRow.domain false) (Rows.frameApartSpec.post enc Try.prog Try.f6 false true false false) :=
  law_lifted (C := Try.checked) Try.own started (by kernel_rfl) Try.func6
    (ChangeSpec.witness6 (enc := enc) (C := Try.checked) false ⟨#[], #[.int .u8 0, .int .u8 0, .int .u8 0], []⟩ 12 (by kernel_rfl) (by kernel_rfl) (by kernel_rfl) (by kernel_rfl))
    Try.laidOut Try.layC rfl (fun ds h => match ds, h with | [d0, d1, d2], _ => rfl) rfl (by kernel_rfl) (by kernel_rfl) frameApart_call

theorem frameApart_holds : Rows.FrameApartSaid :=
  OpenClaim.holds_of_wide 6 Try.f6 rfl rfl rfl rfl rfl rfl rfl ⟨rfl, rfl, rfl, rfl, rfl⟩ rfl rfl rfl rfl rfl (by kernel_rfl) Try.func6 (by kernel_rfl)
    (of_decide_eq_true (by kernel_rfl)) (by unfold Func.isWrapper; first | (rw [if_pos (by decide +kernel)]; kernel_rfl) | (rw [if_neg (by decide +kernel)]; exact ⟨rfl, rfl⟩))
    (fun os started H enc _ => frameApart_lifted os started H enc)

end Go.Proofs.Ytchomcffeiheeaa
