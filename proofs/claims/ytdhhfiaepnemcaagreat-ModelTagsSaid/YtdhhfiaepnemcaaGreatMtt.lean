import Derived.Test.YtdhhfiaepnemcaaGreatCodeB
import Derived.Test.YtdhhfiaepnemcaaGreatLg
set_option maxRecDepth 100000
set_option linter.unusedSimpArgs false
set_option linter.unusedVariables false
namespace Go.Proofs.YtdhhfiaepnemcaaGreat.Am
open Go Go.Proofs.YtdhhfiaepnemcaaGreat

def MBr : RCode := c28.code
theorem MBend : bld [] .leaf (fun T => runK tb1 100000 MBr .leaf ⟨T, 0⟩ (endK c28.results)) = some () := by kernel_rfl
theorem mt_begun (h : AHeap) : ACalls Tryz.prog 28 [] h (.bool true) h :=
  acalls_of_good tb1_ok (rf := c28) (by kernel_rfl) (seg_end tb1_ok MBend) h

def MTl : List RCode := [.reg c12_0, .seq (.reg c12_1) (.cond (t 12) (.seq (.reg c12_2) .ret) .skip), .reg c12_3, .seq (.reg c12_4) (.cond (t 22) (.reg c12_5) .skip)]
def MTr : RCode := (.seq (.reg c12_6) (.seq (.seq (.reg c12_7) (.cond (t 41) (.seq (.reg c12_8) .ret) .skip)) (.seq (.reg c12_9) (.seq (.reg c12_10) (.seq (.reg c12_11) (.seq (.seq (.reg c12_12) (.cond (t 52) (.block 0 (.seq (.reg c12_13) (.cond (t 53) (.reg c12_14) (.seq (.reg c12_15) (.cond (t 58) (.reg c12_16) (.seq (.reg c12_17) (.cond (t 65) (.reg c12_18) .skip))))))) .skip)) (.seq (.reg c12_19) .ret)))))))
theorem MTcode : c12.code = MTl.foldr .seq MTr := rfl
/-- What is left behind the head. -/
def MTst (a b : Nat) : List (Nat × Blk) := [(0, .cells [.int .u8 ((1 + b : Nat) : Int), .vs (if a = b then [] else [[.int .u16 3, .int .u8 ((1 + a : Nat) : Int)]]) .full])]
def MTt : Tr AV := (.node (.node (.node (.node (.node .leaf (some .undef) .leaf) (some .undef) (.node .leaf (some .undef) .leaf)) (some .undef) (.node (.node .leaf (some .undef) .leaf) (some .undef) (.node .leaf (some .undef) .leaf))) (some .undef) (.node (.node (.node .leaf (some .undef) .leaf) (some .undef) (.node .leaf (some .undef) .leaf)) (some (.ptr 0 0)) (.node (.node .leaf (some .undef) .leaf) (some .undef) (.node .leaf (some .undef) .leaf)))) (some .undef) (.node (.node (.node (.node .leaf (some .undef) .leaf) (some .undef) (.node .leaf (some .undef) .leaf)) (some .undef) (.node (.node .leaf (some .undef) .leaf) (some .undef) (.node .leaf (some .undef) .leaf))) (some .undef) (.node (.node (.node .leaf (some .undef) .leaf) (some .undef) (.node .leaf (some .undef) .leaf)) (some .undef) (.node (.node .leaf (some .undef) .leaf) (some .undef) (.node .leaf (some .undef) .leaf)))))
theorem MTsub {ρ : Env} (h5 : ρ 5 = .ptr 0 0) (hb : ∀ i, 31 ≤ i → ρ i = .tup []) (i : Nat) : MTt.env i = .undef ∨ MTt.env i = ρ i := by
  unfold Tr.env
  cases hg : MTt.get i with
  | some v =>
    have hall : (MTt.ents.all fun p => undefB p.2 || (Nat.beq p.1 5 && eqV 9 p.2 (.ptr 0 0))) = true := by decide +kernel
    have h1 := List.all_eq_true.1 hall _ (Tr.get_ents hg)
    simp only [Bool.or_eq_true, Bool.and_eq_true] at h1
    rcases h1 with h1 | ⟨h1, h2⟩
    · exact .inl (undefB_eq h1)
    · have e : i = 5 := Nat.eq_of_beq_eq_true h1
      subst e
      exact .inr ((eqV_sound _ _ _ h2).trans h5.symm)
  | none =>
    refine .inr (hb i ?_).symm
    have hs : ∀ i, i < 31 → (MTt.get i).isSome = true := by decide +kernel
    rcases Nat.lt_or_ge i 31 with h | h
    · have := hs i h
      rw [hg] at this
      cases this
    · exact h

theorem MT00 : bld (MTst 0 0) .leaf (fun T => runK tb1 100000 MTr MTt ⟨T, 1⟩ (endK c12.results)) = some () := by kernel_rfl
theorem MT01 : bld (MTst 0 1) .leaf (fun T => runK tb1 100000 MTr MTt ⟨T, 1⟩ (endK c12.results)) = some () := by kernel_rfl
theorem MT02 : bld (MTst 0 2) .leaf (fun T => runK tb1 100000 MTr MTt ⟨T, 1⟩ (endK c12.results)) = some () := by kernel_rfl
theorem MT03 : bld (MTst 0 3) .leaf (fun T => runK tb1 100000 MTr MTt ⟨T, 1⟩ (endK c12.results)) = some () := by kernel_rfl
theorem MT10 : bld (MTst 1 0) .leaf (fun T => runK tb1 100000 MTr MTt ⟨T, 1⟩ (endK c12.results)) = some () := by kernel_rfl
theorem MT11 : bld (MTst 1 1) .leaf (fun T => runK tb1 100000 MTr MTt ⟨T, 1⟩ (endK c12.results)) = some () := by kernel_rfl
theorem MT12 : bld (MTst 1 2) .leaf (fun T => runK tb1 100000 MTr MTt ⟨T, 1⟩ (endK c12.results)) = some () := by kernel_rfl
theorem MT13 : bld (MTst 1 3) .leaf (fun T => runK tb1 100000 MTr MTt ⟨T, 1⟩ (endK c12.results)) = some () := by kernel_rfl
theorem MT20 : bld (MTst 2 0) .leaf (fun T => runK tb1 100000 MTr MTt ⟨T, 1⟩ (endK c12.results)) = some () := by kernel_rfl
theorem MT21 : bld (MTst 2 1) .leaf (fun T => runK tb1 100000 MTr MTt ⟨T, 1⟩ (endK c12.results)) = some () := by kernel_rfl
theorem MT22 : bld (MTst 2 2) .leaf (fun T => runK tb1 100000 MTr MTt ⟨T, 1⟩ (endK c12.results)) = some () := by kernel_rfl
theorem MT23 : bld (MTst 2 3) .leaf (fun T => runK tb1 100000 MTr MTt ⟨T, 1⟩ (endK c12.results)) = some () := by kernel_rfl
theorem MT30 : bld (MTst 3 0) .leaf (fun T => runK tb1 100000 MTr MTt ⟨T, 1⟩ (endK c12.results)) = some () := by kernel_rfl
theorem MT31 : bld (MTst 3 1) .leaf (fun T => runK tb1 100000 MTr MTt ⟨T, 1⟩ (endK c12.results)) = some () := by kernel_rfl
theorem MT32 : bld (MTst 3 2) .leaf (fun T => runK tb1 100000 MTr MTt ⟨T, 1⟩ (endK c12.results)) = some () := by kernel_rfl
theorem MT33 : bld (MTst 3 3) .leaf (fun T => runK tb1 100000 MTr MTt ⟨T, 1⟩ (endK c12.results)) = some () := by kernel_rfl

theorem MTcase : ∀ a b : Nat, a < 4 → b < 4 → Good Tryz.prog c12.results (.bool true) MTr MTt.env (heapOf (MTst a b) 1)
  | 0, 0, _, _ => seg_end tb1_ok MT00
  | 0, 1, _, _ => seg_end tb1_ok MT01
  | 0, 2, _, _ => seg_end tb1_ok MT02
  | 0, 3, _, _ => seg_end tb1_ok MT03
  | 1, 0, _, _ => seg_end tb1_ok MT10
  | 1, 1, _, _ => seg_end tb1_ok MT11
  | 1, 2, _, _ => seg_end tb1_ok MT12
  | 1, 3, _, _ => seg_end tb1_ok MT13
  | 2, 0, _, _ => seg_end tb1_ok MT20
  | 2, 1, _, _ => seg_end tb1_ok MT21
  | 2, 2, _, _ => seg_end tb1_ok MT22
  | 2, 3, _, _ => seg_end tb1_ok MT23
  | 3, 0, _, _ => seg_end tb1_ok MT30
  | 3, 1, _, _ => seg_end tb1_ok MT31
  | 3, 2, _, _ => seg_end tb1_ok MT32
  | 3, 3, _, _ => seg_end tb1_ok MT33
  | 0, b + 4, _, h => absurd h (by omega)
  | 1, b + 4, _, h => absurd h (by omega)
  | 2, b + 4, _, h => absurd h (by omega)
  | 3, b + 4, _, h => absurd h (by omega)
  | a + 4, _, h, _ => absurd h (by omega)

theorem wrapL (l : Nat) : IntKind.u8.wrap (1 + (l : Int).tmod 4) = ((1 + l % 4 : Nat) : Int) := by
  have h : (l : Int).tmod 4 = ((l % 4 : Nat) : Int) := rfl
  have h4 : l % 4 < 4 := Nat.mod_lt _ (by decide)
  rw [h]
  generalize l % 4 = a at h4
  match a, h4 with
  | 0, _ => rfl
  | 1, _ => rfl
  | 2, _ => rfl
  | 3, _ => rfl
  | a + 4, h => exact absurd h (by omega)

theorem MTheap {a b : Nat} {h : AHeap} (hg : h.get 0 = some (.cells [.int .u8 ((1 + b : Nat) : Int), .vs (if a = b then [] else [[.int .u16 3, .int .u8 ((1 + a : Nat) : Int)]]) .full])) (k : Nat) (x : Blk) (hx : (heapOf (MTst a b) 1).get k = some x) : h.get k = some x := by
  have := lkp_mem hx
  simp only [MTst, List.mem_singleton, Prod.mk.injEq] at this
  obtain ⟨rfl, rfl⟩ := this
  exact hg

theorem MThead (l d : Nat) (hl : l < 256) (hd : d < 256) : WP Tryz.prog (MTl.foldr .seq .skip) (fun e ρ' h' => e = .normal ∧ Good Tryz.prog c12.results (.bool true) MTr ρ' h') (args0 [.int .u8 l, .int .u8 d]) AHeap.empty := by
  have hc := MTcase (l % 4) (d % 4) (Nat.mod_lt _ (by decide)) (Nat.mod_lt _ (by decide))
  have hput : ∀ (i k : Nat) (ρ : Env) (v : AV), 31 ≤ i → k < 31 → put ρ (some k) v i = ρ i := fun i k ρ v h1 h2 => by
    show (if i = k then v else ρ i) = ρ i
    rw [if_neg (by omega)]
  have harg : ∀ i, 31 ≤ i → args0 [.int .u8 l, .int .u8 d] i = .tup [] := fun i h => by
    match i, h with
    | i + 2, h => rfl
  unfold MTl
  simp only [List.foldr_cons, List.foldr_nil]
  simp (decide := true) only [st, c12, c12_0, c12_1, c12_2, c12_3, c12_4, c12_5, c12_6, c12_7, c12_8, c12_9, c12_10, c12_11, c12_12, c12_13, c12_14, c12_15, c12_16, c12_17, c12_18, c12_19]
  refine execC_by (mt_begun _) ?_
  simp (decide := true) only [st, c12, c12_0, c12_1, c12_2, c12_3, c12_4, c12_5, c12_6, c12_7, c12_8, c12_9, c12_10, c12_11, c12_12, c12_13, c12_14, c12_15, c12_16, c12_17, c12_18, c12_19]
  simp only [wrapL]
  refine WPc_by (fun hp => ?_) (fun hp => ?_)
  · simp (decide := true) only [st, c12, c12_0, c12_1, c12_2, c12_3, c12_4, c12_5, c12_6, c12_7, c12_8, c12_9, c12_10, c12_11, c12_12, c12_13, c12_14, c12_15, c12_16, c12_17, c12_18, c12_19]
    simp only [wrapL]
    refine good_sub hc (MTsub ?_ ?_) ?_ (MTheap ?_)
    · rfl
    · intro i hi
      have hp2 := fun (k : Nat) (ρ : Env) (v : AV) (hk : k < 31) => hput i k ρ v hi hk
      simp (decide := true) only [hp2, harg i hi]
    · exact Nat.le_refl 1
    · rw [if_neg (by omega)]
      rfl
  · simp (decide := true) only [st, c12, c12_0, c12_1, c12_2, c12_3, c12_4, c12_5, c12_6, c12_7, c12_8, c12_9, c12_10, c12_11, c12_12, c12_13, c12_14, c12_15, c12_16, c12_17, c12_18, c12_19]
    refine good_sub hc (MTsub ?_ ?_) ?_ (MTheap ?_)
    · rfl
    · intro i hi
      have hp2 := fun (k : Nat) (ρ : Env) (v : AV) (hk : k < 31) => hput i k ρ v hi hk
      simp (decide := true) only [hp2, harg i hi]
    · exact Nat.le_refl 1
    · rw [if_pos (by omega)]
      rfl

theorem mt_calls (l d : Nat) (hl : l < 256) (hd : d < 256) (h : AHeap) : ACalls Tryz.prog 12 [.int .u8 l, .int .u8 d] h (.bool true) h :=
  acalls_of_goodA tb1_ok (rf := c12) (args := [.int .u8 l, .int .u8 d]) (by kernel_rfl) (show 2 ≤ c12.ntmps by decide) (fun a ha => by
    simp only [List.mem_cons, List.not_mem_nil, or_false] at ha
    rcases ha with rfl | rfl
    · exact ⟨_, _, rfl⟩
    · exact ⟨_, _, rfl⟩) (good_head tb1_ok.follow MTl (MThead l d hl hd)) h
end Go.Proofs.YtdhhfiaepnemcaaGreat.Am
