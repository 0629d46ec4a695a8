/- PagesFull comes to true for every input, and turns nothing that was there. Conditions: none. -/
import Derived.Test.YtchomcffeiheeaaL13
import Derived.Test.YtchomcffeiheeaaRows
set_option maxRecDepth 100000
set_option linter.unusedSimpArgs false
set_option linter.unusedVariables false
namespace Go.Proofs.Ytchomcffeiheeaa
open Go.ChangeShapes Go.WideShapes Go.ChangeAt Go.RowKit
open Go.Proofs.Ytchomcffeiheeaa.Am

theorem Try.own : ownKnob Try.prog.godebug = none := by kernel_rfl
theorem Try.laidOut : laidOutB Try.prog = true := by kernel_rfl
theorem Try.layC : layC Try.prog = true := by kernel_rfl

theorem pagesFull_call : ∀ xs, HdAll Try.prog Try.f13.params.toList xs → ∃ h', ACalls Try.prog 13 xs AHeap.empty (.bool true) h' := by
  intro xs h
  rw [Try.params13] at h
  obtain ⟨a0, _, rfl, h0, a1, _, rfl, h1, rfl⟩ := h
  obtain ⟨f, _, rfl⟩ := hd_u8 Try.underlying5 h0
  obtain ⟨s, _, rfl⟩ := hd_u8 Try.underlying5 h1
  exact tb_ok.law (rf := c13) rfl (Nat.le_of_ble_eq_true rfl) (pagesFull_wp tb_ok)

theorem pagesFull_lifted (os : Os) (started : os.Started) (H : Type) (enc : TypeId × Value → H) :
    ReturnsInHanded {} Try.checked os 13 .any (Rows.pagesFullSpec.pre6 enc Try.prog Try.f13 Rows.pagesFullRow.domain false) (Rows.pagesFullSpec.post enc Try.prog Try.f13 false true false false) :=
  law_lifted (C := Try.checked) Try.own started (by kernel_rfl) Try.func13
    (ChangeSpec.witness6 (enc := enc) (C := Try.checked) false ⟨#[], #[.int .u8 0, .int .u8 0], []⟩ 12 (by kernel_rfl) (by kernel_rfl) (by kernel_rfl) (by kernel_rfl))
    Try.laidOut Try.layC rfl (fun ds h => match ds, h with | [d0, d1], _ => rfl) rfl (by kernel_rfl) (by kernel_rfl) pagesFull_call

theorem pagesFull_holds : Rows.PagesFullSaid :=
  OpenClaim.holds_of_wide 13 Try.f13 rfl rfl rfl rfl rfl rfl rfl ⟨rfl, rfl, rfl, rfl, rfl⟩ rfl rfl rfl rfl rfl (by kernel_rfl) Try.func13 (by kernel_rfl)
    (of_decide_eq_true (by kernel_rfl)) (by unfold Func.isWrapper; first | (rw [if_pos (by decide +kernel)]; kernel_rfl) | (rw [if_neg (by decide +kernel)]; exact ⟨rfl, rfl⟩))
    (fun os started H enc _ => pagesFull_lifted os started H enc)

end Go.Proofs.Ytchomcffeiheeaa
