/- PagesParts comes to true for every input, and turns nothing that was there. Conditions: none. -/
import Derived.Test.YtchomcffeiheeaaL13
import Derived.Test.YtchomcffeiheeaaRows
set_option maxRecDepth 100000
set_option linter.unusedSimpArgs false
set_option linter.unusedVariables false
namespace Go.Proofs.Ytchomcffeiheeaa
open Go.ChangeShapes Go.WideShapes Go.ChangeAt Go.RowKit
open Go.Proofs.Ytchomcffeiheeaa.Am

theorem Try.own : ownKnob Try.prog.godebug = none := by kernel_rfl
theorem Try.laidOut : laidOutB Try.prog = true := by kernel_rfl
theorem Try.layC : layC Try.prog = true := by kernel_rfl

theorem pagesParts_call : ∀ xs, HdAll Try.prog Try.f10.params.toList xs → ∃ h', ACalls Try.prog 10 xs AHeap.empty (.bool true) h' := by
  intro xs h
  rw [Try.params10] at h
  obtain ⟨a0, _, rfl, h0, a1, _, rfl, h1, a2, _, rfl, h2, a3, _, rfl, h3, rfl⟩ := h
  obtain ⟨l, rfl, _, _⟩ := hd_ints Try.underlying45 Try.underlying5 h0
  obtain ⟨cut, hc, rfl⟩ := hd_u8 Try.underlying5 h1
  obtain ⟨fr, hf, rfl⟩ := hd_u8 Try.underlying5 h2
  obtain ⟨n, hn, rfl⟩ := hd_u8 Try.underlying5 h3
  exact tb_ok.law (rf := c10) rfl (Nat.le_of_ble_eq_true rfl) (pagesParts_wp tb_ok (l := l) (t := .unk) hc hf hn)

theorem pagesParts_lifted (os : Os) (started : os.Started) (H : Type) (enc : TypeId × Value → H) :
    ReturnsInHanded {} Try.checked os 10 .any (Rows.pagesPartsSpec.pre6 enc Try.prog Try.f10 Rows.pagesPartsRow.domain false) (Rows.pagesPartsSpec.post enc Try.prog Try.f10 false true false false) :=
  law_lifted (C := Try.checked) Try.own started (by kernel_rfl) Try.func10
    (ChangeSpec.witness6 (enc := enc) (C := Try.checked) false ⟨#[], #[.slice none 0 0, .int .u8 0, .int .u8 0, .int .u8 0], []⟩ 12 (by kernel_rfl) (by kernel_rfl) (by kernel_rfl) (by kernel_rfl))
    Try.laidOut Try.layC rfl (fun ds h => match ds, h with | [d0, d1, d2, d3], _ => rfl) rfl (by kernel_rfl) (by kernel_rfl) pagesParts_call

theorem pagesParts_holds : Rows.PagesPartsSaid :=
  OpenClaim.holds_of_wide 10 Try.f10 rfl rfl rfl rfl rfl rfl rfl ⟨rfl, rfl, rfl, rfl, rfl⟩ rfl rfl rfl rfl rfl (by kernel_rfl) Try.func10 (by kernel_rfl)
    (of_decide_eq_true (by kernel_rfl)) (by unfold Func.isWrapper; first | (rw [if_pos (by decide +kernel)]; kernel_rfl) | (rw [if_neg (by decide +kernel)]; exact ⟨rfl, rfl⟩))
    (fun os started H enc _ => pagesParts_lifted os started H enc)

end Go.Proofs.Ytchomcffeiheeaa
