/- ScriptBack comes to true for every input, and turns nothing that was there. Conditions: none. -/
import Derived.Test.YtjkllffbjeajhaaGreatSc
import Derived.Test.YtjkllffbjeajhaaGreatRows
import Derived.Test.YtjkllffbjeajhaaGreatFa
import Derived.Test.YtjkllffbjeajhaaGreatFb
import Derived.Test.YtjkllffbjeajhaaGreatSbx
set_option maxRecDepth 100000
set_option linter.unusedSimpArgs false
set_option linter.unusedVariables false
namespace Go.Proofs.YtjkllffbjeajhaaGreat
open Go.ChangeShapes Go.WideShapes Go.ChangeAt Go.RowKit
open Go.Proofs.YtjkllffbjeajhaaGreat.Am

theorem Tryz.layC : layC Tryz.prog = true := by kernel_rfl

theorem scriptBack_call : ∀ xs, HdAll Tryz.prog Tryz.f5.params.toList xs → ∃ h', ACalls Tryz.prog 5 xs AHeap.empty (.bool true) h' := by
  intro xs h
  rw [Tryz.params5] at h
  obtain ⟨a0, _, rfl, h0, rfl⟩ := h
  obtain ⟨l, rfl, _, hw⟩ := hd_ints Tryz.underlying42 Tryz.underlying5 h0
  obtain ⟨b, hb⟩ := ints_BS hw
  rw [hb]
  exact tb_ok.law (rf := c5) rfl (Nat.le_of_ble_eq_true rfl) (scriptBack_wp tb_ok begun30 (t := .unk))

theorem scriptBack_lifted (os : Os) (started : os.Started) (H : Type) (enc : TypeId × Value → H) :
    ReturnsInHanded {} Tryz.checked os 5 .any (Rows.scriptBackSpec.pre6 enc Tryz.prog Tryz.f5 Rows.scriptBackRow.domain false) (Rows.scriptBackSpec.post enc Tryz.prog Tryz.f5 false true false false) :=
  law_lifted (C := Tryz.checked) Tryz.own started (by as_aux_lemma => kernel_rfl) Tryz.func5
    (ChangeSpec.witness6 (enc := enc) (C := Tryz.checked) false ⟨#[], #[.slice none 0 0], []⟩ 12 (by as_aux_lemma => kernel_rfl) (by as_aux_lemma => kernel_rfl) (by as_aux_lemma => kernel_rfl) (by as_aux_lemma => kernel_rfl))
    Tryz.laidOut Tryz.layC rfl (fun ds h => match ds, h with | [d0], _ => rfl) rfl (by as_aux_lemma => kernel_rfl) (by as_aux_lemma => kernel_rfl) scriptBack_call

theorem scriptBack_joined : joinedFacts Tryz.prog 5 Tryz.f5 Rows.scriptBackSpec Rows.scriptBackRow = true :=
  joined_of (by kernel_rfl) Tryz.laidOut Tryz.mapsRowed' (by kernel_rfl) (by kernel_rfl) (by kernel_rfl) Tryz.noStops (by kernel_rfl) Tryz.noKnobs
    scriptBack_inPlace scriptBack_unfollowed scriptBack_recurses scriptBack_named (by kernel_rfl) (by kernel_rfl) (by kernel_rfl) (by kernel_rfl) (by kernel_rfl)
    (by kernel_rfl) (by kernel_rfl) (by kernel_rfl) (by kernel_rfl) (by as_aux_lemma => rw [Tryz.plain]; rfl) rfl Tryz.heard Tryz.enter Tryz.noLifts Tryz.made
    (by kernel_rfl) (by kernel_rfl) (by kernel_rfl) (by kernel_rfl)

theorem scriptBack_holds : Rows.ScriptBackSaid :=
  OpenClaim.holds_of_wide 5 Tryz.f5 rfl rfl rfl rfl rfl rfl rfl ⟨rfl, rfl, rfl, rfl, rfl⟩ rfl rfl rfl rfl rfl scriptBack_found Tryz.func5 scriptBack_joined
    (of_decide_eq_true (by as_aux_lemma => kernel_rfl)) (by unfold Func.isWrapper; first | (rw [if_pos (by decide +kernel)]; kernel_rfl) | (rw [if_neg (by decide +kernel)]; exact ⟨rfl, rfl⟩))
    (fun os started H enc _ => scriptBack_lifted os started H enc)

end Go.Proofs.YtjkllffbjeajhaaGreat
