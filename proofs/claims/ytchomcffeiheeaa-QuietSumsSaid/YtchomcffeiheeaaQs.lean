/- QuietSums comes to true for every input, and turns nothing that was there. Conditions: none. -/
import Derived.Test.YtchomcffeiheeaaQt
import Derived.Test.YtchomcffeiheeaaRows
set_option maxRecDepth 100000
set_option linter.unusedSimpArgs false
set_option linter.unusedVariables false
namespace Go.Proofs.Ytchomcffeiheeaa
open Go.ChangeShapes Go.WideShapes Go.ChangeAt Go.RowKit
open Go.Proofs.Ytchomcffeiheeaa.Am

theorem Try.own : ownKnob Try.prog.godebug = none := by kernel_rfl
theorem Try.laidOut : laidOutB Try.prog = true := by kernel_rfl
theorem Try.layC : layC Try.prog = true := by kernel_rfl

theorem quietSums_call : ∀ xs, HdAll Try.prog Try.f5.params.toList xs → ∃ h', ACalls Try.prog 5 xs AHeap.empty (.bool true) h' := by
  intro xs h
  rw [Try.params5] at h
  obtain ⟨a0, _, rfl, h0, rfl⟩ := h
  obtain ⟨xs, rfl, hl, f, hx⟩ := hd_slice Try.underlying22 h0
  have key : ∀ row ∈ xs, ∃ t, ThRow row t := fun row hr => by
    obtain ⟨h1, hone⟩ := hx row hr
    obtain ⟨hlen, f', hf⟩ := hd_struct_list Try.underlying32 h1
    obtain ⟨d, hd, _⟩ := hd_int_list Try.underlying3 (hd_field hf 3 rfl)
    obtain ⟨dn, hdn, _⟩ := hd_int_list Try.underlying3 (hd_field hf 6 rfl)
    obtain ⟨n, hn, _⟩ := hd_int_list Try.underlying3 (hd_field hf 7 rfl)
    have hc : Try.prog.cellsOf 32 = 12 := by kernel_rfl
    exact ⟨⟨d, dn, n⟩, by rw [hlen, hc], cell_of_one hd, cell_of_one hdn, cell_of_one hn, hone⟩
  have hts : ∃ ts, ThRows xs ts := by
    clear hl hx h0
    induction xs with
    | nil => exact ⟨[], rfl, fun i t h => by simp at h⟩
    | cons r rs ih =>
      obtain ⟨t, ht⟩ := key r (by simp)
      obtain ⟨ts, h1, h2⟩ := ih (fun row hr => key row (List.mem_cons_of_mem _ hr))
      refine ⟨t :: ts, by simp [h1], fun i u hi => ?_⟩
      cases i with
      | zero => simp at hi; subst hi; exact ⟨r, rfl, ht⟩
      | succ i => obtain ⟨row, e1, e2⟩ := h2 i u (by simpa using hi); exact ⟨row, by simpa using e1, e2⟩
  obtain ⟨ts, hts⟩ := hts
  exact tb_ok.law (rf := c5) rfl (Nat.le_of_ble_eq_true rfl) (quietSums_wp tb_ok hts .unk)

theorem quietSums_lifted (os : Os) (started : os.Started) (H : Type) (enc : TypeId × Value → H) :
    ReturnsInHanded {} Try.checked os 5 .any (Rows.quietSumsSpec.pre6 enc Try.prog Try.f5 Rows.quietSumsRow.domain false) (Rows.quietSumsSpec.post enc Try.prog Try.f5 false true false false) :=
  law_lifted (C := Try.checked) Try.own started (by kernel_rfl) Try.func5
    (ChangeSpec.witness6 (enc := enc) (C := Try.checked) false ⟨#[], #[.slice none 0 0], []⟩ 12 (by kernel_rfl) (by kernel_rfl) (by kernel_rfl) (by kernel_rfl))
    Try.laidOut Try.layC rfl (fun ds h => match ds, h with | [d0], _ => rfl) rfl (by kernel_rfl) (by kernel_rfl) quietSums_call

theorem quietSums_holds : Rows.QuietSumsSaid :=
  OpenClaim.holds_of_wide 5 Try.f5 rfl rfl rfl rfl rfl rfl rfl ⟨rfl, rfl, rfl, rfl, rfl⟩ rfl rfl rfl rfl rfl (by kernel_rfl) Try.func5 (by kernel_rfl)
    (of_decide_eq_true (by kernel_rfl)) (by unfold Func.isWrapper; first | (rw [if_pos (by decide +kernel)]; kernel_rfl) | (rw [if_neg (by decide +kernel)]; exact ⟨rfl, rfl⟩))
    (fun os started H enc _ => quietSums_lifted os started H enc)

end Go.Proofs.Ytchomcffeiheeaa
