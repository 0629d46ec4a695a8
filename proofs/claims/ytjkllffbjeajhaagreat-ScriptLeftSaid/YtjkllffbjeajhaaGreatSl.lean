/- ScriptLeft comes to true for every input, and turns nothing that was there. Conditions: none. -/
import Derived.Test.YtjkllffbjeajhaaGreatSc
import Derived.Test.YtjkllffbjeajhaaGreatRows
import Derived.Test.YtjkllffbjeajhaaGreatFa
import Derived.Test.YtjkllffbjeajhaaGreatFb
import Derived.Test.YtjkllffbjeajhaaGreatSlx
set_option maxRecDepth 100000
set_option linter.unusedSimpArgs false
set_option linter.unusedVariables false
namespace Go.Proofs.YtjkllffbjeajhaaGreat
open Go.ChangeShapes Go.WideShapes Go.ChangeAt Go.RowKit
open Go.Proofs.YtjkllffbjeajhaaGreat.Am

theorem Tryz.layC : layC Tryz.prog = true := by kernel_rfl

theorem scriptLeft_call : ∀ xs, HdAll Tryz.prog Tryz.f7.params.toList xs → ∃ h', ACalls Tryz.prog 7 xs AHeap.empty (.bool true) h' := by
  intro xs h
  rw [Tryz.params7] at h
  obtain ⟨a0, _, rfl, h0, rfl⟩ := h
  obtain ⟨cs, rfl, hone, hlen, f, hf⟩ := hd_struct Tryz.underlying45 h0
  obtain ⟨k, e0, _⟩ := hd_int_list Tryz.underlying3 (hd_field hf 0 rfl)
  obtain ⟨t, e1, _⟩ := hd_int_list Tryz.underlying3 (hd_field hf 1 rfl)
  obtain ⟨ys, e2, _, f5, hy⟩ := hd_slice_list Tryz.underlying42 (hd_field hf 2 rfl)
  obtain ⟨l, rfl, hw⟩ := exists_map (f := fun n => [AV.int .u8 n]) (p := fun n => (Lit.int .u8 n).wf = true) (fun row hr => hd_int_list Tryz.underlying5 (hy row hr).1)
  obtain ⟨b, hb⟩ := ints_BS hw
  have hc : Tryz.prog.cellsOf 45 = 3 := by kernel_rfl
  rw [hc] at hlen
  have q0 := cell_of_one e0
  have q1 := cell_of_one e1
  have q2 := cell_of_one e2
  rw [hb] at q2
  have hr : StR cs ⟨k, t, b⟩ := by
    match cs, hlen, q0, q1, q2 with
    | [a0, a1, a2], _, q0, q1, q2 =>
      cases q0; cases q1; cases q2
      exact ⟨_, rfl⟩
  exact tb_ok.law (rf := c7) rfl (Nat.le_of_ble_eq_true rfl) (scriptLeft_wp tb_ok begun30 hr)

theorem scriptLeft_lifted (os : Os) (started : os.Started) (H : Type) (enc : TypeId × Value → H) :
    ReturnsInHanded {} Tryz.checked os 7 .any (Rows.scriptLeftSpec.pre6 enc Tryz.prog Tryz.f7 Rows.scriptLeftRow.domain false) (Rows.scriptLeftSpec.post enc Tryz.prog Tryz.f7 false true false false) :=
  law_lifted (C := Tryz.checked) Tryz.own started (by as_aux_lemma => kernel_rfl) Tryz.func7
    (ChangeSpec.witness6 (enc := enc) (C := Tryz.checked) false ⟨#[], #[.agg #[.int .i64 0, .int .i64 0, .slice none 0 0]], []⟩ 12 (by as_aux_lemma => kernel_rfl) (by as_aux_lemma => kernel_rfl) (by as_aux_lemma => kernel_rfl) (by as_aux_lemma => kernel_rfl))
    Tryz.laidOut Tryz.layC rfl (fun ds h => match ds, h with | [d0], _ => rfl) rfl (by as_aux_lemma => kernel_rfl) (by as_aux_lemma => kernel_rfl) scriptLeft_call

theorem scriptLeft_joined : joinedFacts Tryz.prog 7 Tryz.f7 Rows.scriptLeftSpec Rows.scriptLeftRow = true :=
  joined_of (by kernel_rfl) Tryz.laidOut Tryz.mapsRowed' (by kernel_rfl) (by kernel_rfl) (by kernel_rfl) Tryz.noStops (by kernel_rfl) Tryz.noKnobs
    scriptLeft_inPlace scriptLeft_unfollowed scriptLeft_recurses scriptLeft_named (by kernel_rfl) (by kernel_rfl) (by kernel_rfl) (by kernel_rfl) (by kernel_rfl)
    (by kernel_rfl) (by kernel_rfl) (by kernel_rfl) (by kernel_rfl) (by as_aux_lemma => rw [Tryz.plain]; rfl) rfl Tryz.heard Tryz.enter Tryz.noLifts Tryz.made
    (by kernel_rfl) (by kernel_rfl) (by kernel_rfl) (by kernel_rfl)

theorem scriptLeft_holds : Rows.ScriptLeftSaid :=
  OpenClaim.holds_of_wide 7 Tryz.f7 rfl rfl rfl rfl rfl rfl rfl ⟨rfl, rfl, rfl, rfl, rfl⟩ rfl rfl rfl rfl rfl scriptLeft_found Tryz.func7 scriptLeft_joined
    (of_decide_eq_true (by as_aux_lemma => kernel_rfl)) (by unfold Func.isWrapper; first | (rw [if_pos (by decide +kernel)]; kernel_rfl) | (rw [if_neg (by decide +kernel)]; exact ⟨rfl, rfl⟩))
    (fun os started H enc _ => scriptLeft_lifted os started H enc)

end Go.Proofs.YtjkllffbjeajhaaGreat
