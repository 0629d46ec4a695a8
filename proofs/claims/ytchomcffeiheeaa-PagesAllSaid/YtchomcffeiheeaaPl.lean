/- PagesAll comes to true for every input, and turns nothing that was there. Conditions: none. -/
import Derived.Test.YtchomcffeiheeaaL13y
import Derived.Test.YtchomcffeiheeaaRows
set_option maxRecDepth 100000
set_option linter.unusedSimpArgs false
set_option linter.unusedVariables false
namespace Go.Proofs.Ytchomcffeiheeaa
open Go.ChangeShapes Go.WideShapes Go.ChangeAt Go.RowKit
open Go.Proofs.Ytchomcffeiheeaa.Am

theorem Try.own : ownKnob Try.prog.godebug = none := by kernel_rfl
theorem Try.laidOut : laidOutB Try.prog = true := by kernel_rfl
theorem Try.layC : layC Try.prog = true := by kernel_rfl

theorem pagesAll_call : ∀ xs, HdAll Try.prog Try.f11.params.toList xs → ∃ h', ACalls Try.prog 11 xs AHeap.empty (.bool true) h' := by
  intro xs h
  rw [Try.params11] at h
  obtain ⟨a0, _, rfl, h0, a1, _, rfl, h1, rfl⟩ := h
  obtain ⟨n, rfl, _⟩ := hd_int Try.underlying3 h0
  obtain ⟨xs, rfl, hl, f, hx⟩ := hd_slice Try.underlying61 h1
  have key : ∀ row ∈ xs, ∃ kd off n id bb, row = opRow13 kd off n id bb := fun row hr => by
    obtain ⟨h1, hone⟩ := hx row hr
    obtain ⟨hlen, f', hf⟩ := hd_struct_list Try.underlying65 h1
    obtain ⟨kd, e0, _⟩ := hd_int_list Try.underlying3 (hd_field hf 0 rfl)
    obtain ⟨off, e1, _⟩ := hd_int_list Try.underlying3 (hd_field hf 1 rfl)
    obtain ⟨n, e2, _⟩ := hd_int_list Try.underlying3 (hd_field hf 2 rfl)
    obtain ⟨id, e3, _⟩ := hd_int_list Try.underlying30 (hd_field hf 3 rfl)
    obtain ⟨ys, e4, _, f5, hy⟩ := hd_slice_list Try.underlying45 (hd_field hf 4 rfl)
    obtain ⟨bb, rfl, _⟩ := exists_map (f := fun n => [AV.int .u8 n]) (p := fun n => (Lit.int .u8 n).wf = true) (fun row hr => hd_int_list Try.underlying5 (hy row hr).1)
    have hc : Try.prog.cellsOf 65 = 5 := by kernel_rfl
    rw [hc] at hlen
    have q0 := cell_of_one e0
    have q1 := cell_of_one e1
    have q2 := cell_of_one e2
    have q3 := cell_of_one e3
    have q4 := cell_of_one e4
    match row, hlen, q0, q1, q2, q3, q4 with
    | [a0, a1, a2, a3, a4], _, q0, q1, q2, q3, q4 =>
      cases q0; cases q1; cases q2; cases q3; cases q4
      exact ⟨kd, off, n, id, bb, rfl⟩
  exact tb_ok.law (rf := c11) rfl (Nat.le_of_ble_eq_true rfl) (pagesAll_wp tb_ok (t := .unk) key)

theorem pagesAll_lifted (os : Os) (started : os.Started) (H : Type) (enc : TypeId × Value → H) :
    ReturnsInHanded {} Try.checked os 11 .any (Rows.pagesAllSpec.pre6 enc Try.prog Try.f11 Rows.pagesAllRow.domain false) (Rows.pagesAllSpec.post enc Try.prog Try.f11 false true false false) :=
  law_lifted (C := Try.checked) Try.own started (by kernel_rfl) Try.func11
    (ChangeSpec.witness6 (enc := enc) (C := Try.checked) false ⟨#[], #[.int .i64 0, .slice none 0 0], []⟩ 12 (by kernel_rfl) (by kernel_rfl) (by kernel_rfl) (by kernel_rfl))
    Try.laidOut Try.layC rfl (fun ds h => match ds, h with | [d0, d1], _ => rfl) rfl (by kernel_rfl) (by kernel_rfl) pagesAll_call

theorem pagesAll_holds : Rows.PagesAllSaid :=
  OpenClaim.holds_of_wide 11 Try.f11 rfl rfl rfl rfl rfl rfl rfl ⟨rfl, rfl, rfl, rfl, rfl⟩ rfl rfl rfl rfl rfl (by kernel_rfl) Try.func11 (by kernel_rfl)
    (of_decide_eq_true (by kernel_rfl)) (by unfold Func.isWrapper; first | (rw [if_pos (by decide +kernel)]; kernel_rfl) | (rw [if_neg (by decide +kernel)]; exact ⟨rfl, rfl⟩))
    (fun os started H enc _ => pagesAll_lifted os started H enc)

end Go.Proofs.Ytchomcffeiheeaa
