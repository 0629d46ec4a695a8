/- FrameAll comes to true for every input, and turns nothing that was there. Conditions: none. -/
import Derived.Test.YtchomcffeiheeaaL12x
import Derived.Test.YtchomcffeiheeaaRows
set_option maxRecDepth 100000
set_option linter.unusedSimpArgs false
set_option linter.unusedVariables false
namespace Go.Proofs.Ytchomcffeiheeaa
open Go.ChangeShapes Go.WideShapes Go.ChangeAt Go.RowKit
open Go.Proofs.Ytchomcffeiheeaa.Am

theorem Try.own : ownKnob Try.prog.godebug = none := by kernel_rfl
theorem Try.laidOut : laidOutB Try.prog = true := by kernel_rfl
theorem Try.layC : layC Try.prog = true := by kernel_rfl

theorem frameAll_call : ∀ xs, HdAll Try.prog Try.f7.params.toList xs → ∃ h', ACalls Try.prog 7 xs AHeap.empty (.bool true) h' := by
  intro xs h
  rw [Try.params7] at h
  obtain ⟨a0, _, rfl, h0, a1, _, rfl, h1, rfl⟩ := h
  obtain ⟨n, rfl, _⟩ := hd_int Try.underlying3 h0
  obtain ⟨xs, rfl, hl, f, hx⟩ := hd_slice Try.underlying44 h1
  have key : ∀ row ∈ xs, ∃ kd f off b, row = opRow kd f off b := fun row hr => by
    obtain ⟨h1, hone⟩ := hx row hr
    obtain ⟨hlen, f', hf⟩ := hd_struct_list Try.underlying48 h1
    obtain ⟨kd, e0, _⟩ := hd_int_list Try.underlying3 (hd_field hf 0 rfl)
    obtain ⟨fr, e1, _⟩ := hd_int_list Try.underlying3 (hd_field hf 1 rfl)
    obtain ⟨off, e2, _⟩ := hd_int_list Try.underlying3 (hd_field hf 2 rfl)
    obtain ⟨b, e3, _⟩ := hd_int_list Try.underlying5 (hd_field hf 3 rfl)
    have hc : Try.prog.cellsOf 48 = 4 := by kernel_rfl
    rw [hc] at hlen
    have q0 := cell_of_one e0
    have q1 := cell_of_one e1
    have q2 := cell_of_one e2
    have q3 := cell_of_one e3
    match row, hlen, q0, q1, q2, q3 with
    | [a0, a1, a2, a3], _, q0, q1, q2, q3 =>
      cases q0; cases q1; cases q2; cases q3
      exact ⟨kd, fr, off, b, rfl⟩
  exact tb_ok.law (rf := c7) rfl (Nat.le_of_ble_eq_true rfl) (frameAll_wp tb_ok (t := .unk) key)

theorem frameAll_lifted (os : Os) (started : os.Started) (H : Type) (enc : TypeId × Value → H) :
    ReturnsInHanded {} Try.checked os 7 .any (Rows.frameAllSpec.pre6 enc Try.prog Try.f7 Rows.frameAllRow.domain false) (Rows.frameAllSpec.post enc Try.prog Try.f7 false true false false) :=
  law_lifted (C := Try.checked) Try.own started (by kernel_rfl) Try.func7
    (ChangeSpec.witness6 (enc := enc) (C := Try.checked) false ⟨#[], #[.int .i64 0, .slice none 0 0], []⟩ 12 (by kernel_rfl) (by kernel_rfl) (by kernel_rfl) (by kernel_rfl))
    Try.laidOut Try.layC rfl (fun ds h => match ds, h with | [d0, d1], _ => rfl) rfl (by kernel_rfl) (by kernel_rfl) frameAll_call

theorem frameAll_holds : Rows.FrameAllSaid :=
  OpenClaim.holds_of_wide 7 Try.f7 rfl rfl rfl rfl rfl rfl rfl ⟨rfl, rfl, rfl, rfl, rfl⟩ rfl rfl rfl rfl rfl (by kernel_rfl) Try.func7 (by kernel_rfl)
    (of_decide_eq_true (by kernel_rfl)) (by unfold Func.isWrapper; first | (rw [if_pos (by decide +kernel)]; kernel_rfl) | (rw [if_neg (by decide +kernel)]; exact ⟨rfl, rfl⟩))
    (fun os started H enc _ => frameAll_lifted os started H enc)

end Go.Proofs.Ytchomcffeiheeaa
