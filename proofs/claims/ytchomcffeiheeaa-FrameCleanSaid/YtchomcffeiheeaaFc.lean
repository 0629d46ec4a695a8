/- FrameClean comes to true for every input, and turns nothing that was there. Conditions: none. -/
import Derived.Test.YtchomcffeiheeaaL12
import Derived.Test.YtchomcffeiheeaaRows
set_option maxRecDepth 100000
set_option linter.unusedSimpArgs false
set_option linter.unusedVariables false
namespace Go.Proofs.Ytchomcffeiheeaa
open Go.ChangeShapes Go.WideShapes Go.ChangeAt Go.RowKit
open Go.Proofs.Ytchomcffeiheeaa.Am

theorem Try.own : ownKnob Try.prog.godebug = none := by kernel_rfl
theorem Try.laidOut : laidOutB Try.prog = true := by kernel_rfl
theorem Try.layC : layC Try.prog = true := by kernel_rfl

theorem frameClean_call : ∀ xs, HdAll Try.prog Try.f8.params.toList xs → ∃ h', ACalls Try.prog 8 xs AHeap.empty (.bool true) h' := by
  intro xs h
  rw [Try.params8] at h
  obtain ⟨a0, _, rfl, h0, a1, _, rfl, h1, rfl⟩ := h
  obtain ⟨bs, rfl, hl, _⟩ := hd_ints Try.underlying45 Try.underlying5 h0
  obtain ⟨n, _, rfl⟩ := hd_u8 Try.underlying5 h1
  exact tb_ok.law (rf := c8) rfl (Nat.le_of_ble_eq_true rfl) (frameClean_wp tb_ok)

theorem frameClean_lifted (os : Os) (started : os.Started) (H : Type) (enc : TypeId × Value → H) :
    ReturnsInHanded {} Try.checked os 8 .any (Rows.frameCleanSpec.pre6 enc Try.prog Try.f8 Rows.frameCleanRow.domain false) (Rows.frameCleanSpec.post enc Try.prog Try.f8 false true false false) :=
  law_lifted (C := Try.checked) Try.own started (by kernel_rfl) Try.func8
    (ChangeSpec.witness6 (enc := enc) (C := Try.checked) false ⟨#[], #[.slice none 0 0, .int .u8 0], []⟩ 12 (by kernel_rfl) (by kernel_rfl) (by kernel_rfl) (by kernel_rfl))
    Try.laidOut Try.layC rfl (fun ds h => match ds, h with | [d0, d1], _ => rfl) rfl (by kernel_rfl) (by kernel_rfl) frameClean_call

theorem frameClean_holds : Rows.FrameCleanSaid :=
  OpenClaim.holds_of_wide 8 Try.f8 rfl rfl rfl rfl rfl rfl rfl ⟨rfl, rfl, rfl, rfl, rfl⟩ rfl rfl rfl rfl rfl (by kernel_rfl) Try.func8 (by kernel_rfl)
    (of_decide_eq_true (by kernel_rfl)) (by unfold Func.isWrapper; first | (rw [if_pos (by decide +kernel)]; kernel_rfl) | (rw [if_neg (by decide +kernel)]; exact ⟨rfl, rfl⟩))
    (fun os started H enc _ => frameClean_lifted os started H enc)

end Go.Proofs.Ytchomcffeiheeaa
