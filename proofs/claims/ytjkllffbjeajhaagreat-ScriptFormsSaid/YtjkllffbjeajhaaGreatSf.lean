/- ScriptForms comes to true, whatever the world, and turns nothing that was there. Conditions: none. -/
import Derived.Test.YtjkllffbjeajhaaGreatCodeB
import Derived.Test.YtjkllffbjeajhaaGreatRows
import Derived.Test.YtjkllffbjeajhaaGreatFa
import Derived.Test.YtjkllffbjeajhaaGreatFb
import Derived.Test.YtjkllffbjeajhaaGreatSfx
set_option maxRecDepth 100000
namespace Go.Proofs.YtjkllffbjeajhaaGreat.Am
open Go Go.Proofs.YtjkllffbjeajhaaGreat
def Sft1 : Tr AV := (.node (.node (.node .leaf (some .undef) .leaf) none .leaf) (some (.bool false)) (.node .leaf (some .undef) .leaf))
def Sfe1 : List (Nat × Blk) := []
def Sfn1 : Nat := 1078
def Sfl1 : List RCode := [(.reg c6_0), (.seq (.reg c6_1) (.cond (t 3) (.seq (.reg c6_2) .ret) .skip))]
theorem Sf1 : bld [] .leaf (fun T => runK tb1 100000 (Sfl1.foldr .seq .skip) .leaf ⟨T, 0⟩ (covK Sft1 Sfe1 Sfn1)) = some () := by kernel_rfl
def Sfr : RCode := (.seq (.reg c6_3) (.seq (.seq (.reg c6_4) (.cond (t 8) (.seq (.reg c6_5) .ret) .skip)) (.seq (.reg c6_6) .ret)))
theorem Sfend : bld Sfe1 .leaf (fun T => runK tb1 100000 Sfr Sft1 ⟨T, Sfn1⟩ (endK c6.results)) = some () := by kernel_rfl
theorem Sfgood : Good Tryz.prog c6.results (.bool true) c6.code (Tr.leaf : Tr AV).env (heapOf [] 0) :=
  seg_good tb1_ok Sfl1 Sf1 (seg_end tb1_ok Sfend)
end Go.Proofs.YtjkllffbjeajhaaGreat.Am

namespace Go.Proofs.YtjkllffbjeajhaaGreat
open Go.ChangeShapes Go.WideShapes Go.ChangeAt Go.RowKit
open Go.Proofs.YtjkllffbjeajhaaGreat.Am

theorem scriptForms_calls (w : World) : Calls Tryz.prog 6 #[] w fun e w' => e = .returned (.bool true) ∧ Kept w w' :=
  calls_of_good tb1_ok (rf := c6) (by kernel_rfl) Sfgood w

theorem scriptForms_lifted (os : Os) (started : os.Started) (H : Type) (enc : TypeId × Value → H) :
    ReturnsInHanded {} Tryz.checked os 6 .any (Rows.scriptFormsSpec.pre6 enc Tryz.prog Tryz.f6 Rows.scriptFormsRow.domain false) (Rows.scriptFormsSpec.post enc Tryz.prog Tryz.f6 false true false false) := by
  refine returnsInHanded_of_change (C := Tryz.checked) Tryz.own started (by as_aux_lemma => kernel_rfl) Tryz.func6
    (ChangeSpec.witness6 (enc := enc) (C := Tryz.checked) false ⟨#[], #[], []⟩ 8 (by as_aux_lemma => kernel_rfl) (by as_aux_lemma => kernel_rfl) (by as_aux_lemma => kernel_rfl) (by as_aux_lemma => kernel_rfl)) ?_
  intro W base args ds gs before hval0 hW hcnd _
  have hW' := hW
  obtain ⟨p, q, hA0, hV, rfl, hfz, hnd⟩ := hW
  have hA : DataW.TrodAll enc Tryz.prog W 0 (fun _ => true) true Tryz.f6.params.toList args.toList ds p := hA0
  rw [Tryz.params6] at hA
  obtain ⟨rfl, rfl, rfl⟩ := trodAll_none hA
  obtain ⟨rfl, rfl⟩ := trodVars_none hV
  simp only [List.append_nil] at hW'
  refine (scriptForms_calls W).mono fun e W' ⟨he, hk⟩ => ?_
  subst he
  exact ⟨_, rfl, post_of_kept (pa := []) (pv := []) hW' (fun _ _ _ => trodAll_mk1 (trod_bool (P := Tryz.prog) Tryz.underlying4 true)) (fun sp _ => trodAll_mk0) (fun _ _ => rfl) rfl hk
    (ok_one (by as_aux_lemma => kernel_rfl) rfl (okWide_bool (P := Tryz.prog) Tryz.underlying4 true))⟩

theorem scriptForms_joined : joinedFacts Tryz.prog 6 Tryz.f6 Rows.scriptFormsSpec Rows.scriptFormsRow = true :=
  joined_of (by kernel_rfl) Tryz.laidOut Tryz.mapsRowed' (by kernel_rfl) (by kernel_rfl) (by kernel_rfl) Tryz.noStops (by kernel_rfl) Tryz.noKnobs
    scriptForms_inPlace scriptForms_unfollowed scriptForms_recurses scriptForms_named (by kernel_rfl) (by kernel_rfl) (by kernel_rfl) (by kernel_rfl) (by kernel_rfl)
    (by kernel_rfl) (by kernel_rfl) (by kernel_rfl) (by kernel_rfl) (by as_aux_lemma => rw [Tryz.plain]; rfl) rfl Tryz.heard Tryz.enter Tryz.noLifts Tryz.made
    (by kernel_rfl) (by kernel_rfl) (by kernel_rfl) (by kernel_rfl)

theorem scriptForms_holds : Rows.ScriptFormsSaid :=
  OpenClaim.holds_of_wide 6 Tryz.f6 rfl rfl rfl rfl rfl rfl rfl ⟨rfl, rfl, rfl, rfl, rfl⟩ rfl rfl rfl rfl rfl scriptForms_found Tryz.func6 scriptForms_joined
    (of_decide_eq_true (by as_aux_lemma => kernel_rfl)) (by unfold Func.isWrapper; first | (rw [if_pos (by decide +kernel)]; kernel_rfl) | (rw [if_neg (by decide +kernel)]; exact ⟨rfl, rfl⟩))
    (fun os started H enc _ => scriptForms_lifted os started H enc)

end Go.Proofs.YtjkllffbjeajhaaGreat
