/- QuietForms comes to true, whatever the world, and turns nothing that was there. Conditions: none. -/
import Derived.Test.YtchomcffeiheeaaCode
import Derived.Test.YtchomcffeiheeaaRows
set_option maxRecDepth 100000
namespace Go.Proofs.Ytchomcffeiheeaa
open Go.ChangeShapes Go.WideShapes Go.ChangeAt Go.RowKit
open Go.Proofs.Ytchomcffeiheeaa.Am

theorem Try.own : ownKnob Try.prog.godebug = none := by kernel_rfl
theorem Try.laidOut : laidOutB Try.prog = true := by kernel_rfl

def isTrue (v : AV) (_ : CH) : Option Unit := match v with
  | .bool true => some ()
  | _ => none

theorem isTrue_eq {v : AV} {H : CH} (h : isTrue v H = some ()) : v = .bool true := by
  unfold isTrue at h
  split at h
  · rfl
  · cases h

theorem quietForms_run : callOf Code.tb (runK Code.tb 400) 4 [] ⟨.leaf, 0⟩ isTrue = some () := by kernel_rfl

theorem quietForms_calls (w : World) : Calls Try.prog 4 #[] w fun e w' => e = .returned (.bool true) ∧ Kept w w' := by
  obtain ⟨v, H', h1, h2⟩ := eval_calls Code.tb_ok quietForms_run
  obtain rfl := isTrue_eq h2
  exact calls_true h1 (I := fun _ _ => False) (fun _ _ h => h.elim) ⟨rfl, fun i v c h => by simp at h⟩

theorem quietForms_lifted (os : Os) (started : os.Started) (H : Type) (enc : TypeId × Value → H) :
    ReturnsInHanded {} Try.checked os 4 .any (Rows.quietFormsSpec.pre6 enc Try.prog Try.f4 Rows.quietFormsRow.domain false) (Rows.quietFormsSpec.post enc Try.prog Try.f4 false true false false) := by
  refine returnsInHanded_of_change (C := Try.checked) Try.own started (by kernel_rfl) Try.func4
    (ChangeSpec.witness6 (enc := enc) (C := Try.checked) false ⟨#[], #[], []⟩ 8 (by kernel_rfl) (by kernel_rfl) (by kernel_rfl) (by kernel_rfl)) ?_
  intro W base args ds gs before hval0 hW hcnd _
  have hW' := hW
  obtain ⟨p, q, hA0, hV, rfl, hfz, hnd⟩ := hW
  have hA : DataW.TrodAll enc Try.prog W 0 (fun _ => true) true Try.f4.params.toList args.toList ds p := hA0
  rw [Try.params4] at hA
  obtain ⟨rfl, rfl, rfl⟩ := trodAll_none hA
  obtain ⟨rfl, rfl⟩ := trodVars_none hV
  simp only [List.append_nil] at hW'
  refine (quietForms_calls W).mono fun e W' ⟨he, hk⟩ => ?_
  subst he
  exact ⟨_, rfl, post_of_kept (pa := []) (pv := []) hW' (fun _ _ _ => trodAll_mk1 (trod_bool (P := Try.prog) Try.underlying4 true)) (fun sp _ => trodAll_mk0) (fun _ _ => rfl) rfl hk
    (ok_one (by kernel_rfl) rfl (okWide_bool (P := Try.prog) Try.underlying4 true))⟩

theorem quietForms_holds : Rows.QuietFormsSaid :=
  OpenClaim.holds_of_wide 4 Try.f4 rfl rfl rfl rfl rfl rfl rfl ⟨rfl, rfl, rfl, rfl, rfl⟩ rfl rfl rfl rfl rfl (by kernel_rfl) Try.func4 (by kernel_rfl)
    (of_decide_eq_true (by kernel_rfl)) (by unfold Func.isWrapper; first | (rw [if_pos (by decide +kernel)]; kernel_rfl) | (rw [if_neg (by decide +kernel)]; exact ⟨rfl, rfl⟩))
    (fun os started H enc _ => quietForms_lifted os started H enc)

end Go.Proofs.Ytchomcffeiheeaa
