/- MachineTags comes to true for every input, and turns nothing that was there. Conditions: none. -/
import Derived.Test.YtjkllffbjeajhaaGreatMt
import Derived.Test.YtjkllffbjeajhaaGreatRows
import Derived.Test.YtjkllffbjeajhaaGreatFa
import Derived.Test.YtjkllffbjeajhaaGreatFb
import Derived.Test.YtjkllffbjeajhaaGreatMtrx
set_option maxRecDepth 100000
set_option linter.unusedSimpArgs false
set_option linter.unusedVariables false
namespace Go.Proofs.YtjkllffbjeajhaaGreat
open Go.ChangeShapes Go.WideShapes Go.ChangeAt Go.RowKit
open Go.Proofs.YtjkllffbjeajhaaGreat.Am

theorem Tryz.layC : layC Tryz.prog = true := by kernel_rfl

theorem machineTags_call : ∀ xs, HdAll Tryz.prog Tryz.f8.params.toList xs → ∃ h', ACalls Tryz.prog 8 xs AHeap.empty (.bool true) h' := by
  intro xs h
  rw [Tryz.params8] at h
  obtain ⟨a0, _, rfl, h0, a1, _, rfl, h1, a2, _, rfl, h2, rfl⟩ := h
  obtain ⟨t, rfl, _⟩ := hd_int Tryz.underlying3 h0
  obtain ⟨fault, rfl⟩ := hd_bool Tryz.underlying4 h1
  obtain ⟨ahead, rfl⟩ := hd_bool Tryz.underlying4 h2
  exact tb_ok.law (rf := c8) rfl (Nat.le_of_ble_eq_true rfl) (mt_all (t := t) (fault := fault) (ahead := ahead))

theorem machineTags_lifted (os : Os) (started : os.Started) (H : Type) (enc : TypeId × Value → H) :
    ReturnsInHanded {} Tryz.checked os 8 .any (Rows.machineTagsSpec.pre6 enc Tryz.prog Tryz.f8 Rows.machineTagsRow.domain false) (Rows.machineTagsSpec.post enc Tryz.prog Tryz.f8 false true false false) :=
  law_lifted (C := Tryz.checked) Tryz.own started (by as_aux_lemma => kernel_rfl) Tryz.func8
    (ChangeSpec.witness6 (enc := enc) (C := Tryz.checked) false ⟨#[], #[.int .i64 0, .bool false, .bool false], []⟩ 12 (by as_aux_lemma => kernel_rfl) (by as_aux_lemma => kernel_rfl) (by as_aux_lemma => kernel_rfl) (by as_aux_lemma => kernel_rfl))
    Tryz.laidOut Tryz.layC rfl (fun ds h => match ds, h with | [d0, d1, d2], _ => rfl) rfl (by as_aux_lemma => kernel_rfl) (by as_aux_lemma => kernel_rfl) machineTags_call

theorem machineTags_joined : joinedFacts Tryz.prog 8 Tryz.f8 Rows.machineTagsSpec Rows.machineTagsRow = true :=
  joined_of (by kernel_rfl) Tryz.laidOut Tryz.mapsRowed' (by kernel_rfl) (by kernel_rfl) (by kernel_rfl) Tryz.noStops (by kernel_rfl) Tryz.noKnobs
    machineTags_inPlace machineTags_unfollowed machineTags_recurses machineTags_named (by kernel_rfl) (by kernel_rfl) (by kernel_rfl) (by kernel_rfl) (by kernel_rfl)
    (by kernel_rfl) (by kernel_rfl) (by kernel_rfl) (by kernel_rfl) (by as_aux_lemma => rw [Tryz.plain]; rfl) rfl Tryz.heard Tryz.enter Tryz.noLifts Tryz.made
    (by kernel_rfl) (by kernel_rfl) (by kernel_rfl) (by kernel_rfl)

theorem machineTags_holds : Rows.MachineTagsSaid :=
  OpenClaim.holds_of_wide 8 Tryz.f8 rfl rfl rfl rfl rfl rfl rfl ⟨rfl, rfl, rfl, rfl, rfl⟩ rfl rfl rfl rfl rfl machineTags_found Tryz.func8 machineTags_joined
    (of_decide_eq_true (by as_aux_lemma => kernel_rfl)) (by unfold Func.isWrapper; first | (rw [if_pos (by decide +kernel)]; kernel_rfl) | (rw [if_neg (by decide +kernel)]; exact ⟨rfl, rfl⟩))
    (fun os started H enc _ => machineTags_lifted os started H enc)

end Go.Proofs.YtjkllffbjeajhaaGreat
