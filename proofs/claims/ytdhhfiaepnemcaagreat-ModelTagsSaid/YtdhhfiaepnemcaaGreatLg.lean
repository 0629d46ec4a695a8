/- A run from the arguments on, in pieces: arguments that are integers. Conditions: none. -/
import Derived.Test.YtdhhfiaepnemcaaGreatLib
set_option maxRecDepth 100000
set_option linter.unusedVariables false
namespace Go.Proofs.YtdhhfiaepnemcaaGreat.Am
open Go
variable {P : Program} {ι : Inj} {I : Imm} {w : World}

theorem LR.plain {as : List AV} {cs : List Value} (hl : LR ι I w as cs) (hp : ∀ a ∈ as, ∃ k n, a = .int k n) : LR (fun _ => none) I w as cs := by
  refine ⟨hl.1, fun i v c hv hc => ?_⟩
  obtain ⟨k, n, rfl⟩ := hp v (List.mem_of_getElem? hv)
  have := hl.2 i _ c hv hc
  cases this
  exact .int _ _

theorem calls_of_goodA0 {tb : Tbl} (hT : TblOK P tb) {f : Nat} {rf : RFunc} (hf : tb.fn f = some rf) {args : List AV} (hn : args.length ≤ rf.ntmps) (hg : Good P rf.results (.bool true) rf.code (args0 args) (heapOf [] 0)) (I : Imm) (w : World) (hI : ∀ k j, I k j → k < w.heap.size)
    {cargs : Array Value} (hl : LR (fun _ => none) I w args cargs.toList) :
    Calls P f cargs w fun e w' => ∃ ι' I' h', e = .returned (.bool true) ∧ HR ι' I' h' w' ∧ Ext (0 ≤ ·) (fun _ => none) I AHeap.empty w ι' I' h' w' := by
  obtain ⟨fn, md, h2, h3⟩ := hT.fn f rf hf
  unfold cFunc at h3
  simp only [Option.bind_eq_bind, Option.bind_eq_some_iff] at h3
  obtain ⟨c, hbody, code, hcode, rs, hrs, hc⟩ := h3
  cases hc
  simp only at *
  refine calls_of_wp h2 hbody ?_
  have H : HR (fun _ => none) I (heapOf [] 0) w := empty_HR (w := w) I hI
  have hsz : cargs.size = args.length := by have := hl.1; simpa using this.symm
  have A : AR (fun _ => none) I w fn.ntmps (args0 args) { tmps := cargs ++ Array.replicate (fn.ntmps - cargs.size) undef, defers := [] } := by
    refine ⟨rfl, by simp; omega, fun t => ?_⟩
    by_cases ht : t < args.length
    · have h1 := List.getElem?_eq_getElem ht
      obtain ⟨u, hu, hv⟩ := hl.get h1
      have e1 : args0 args t = args[t] := by simp [args0, List.getD, h1]
      have e2 : (cargs ++ Array.replicate (fn.ntmps - cargs.size) undef).getD t undef = u := by
        rw [Array.getD_eq_getD_getElem?, Array.getElem?_append_left (by omega)]
        have : cargs[t]? = some u := by simpa using hu
        rw [this]; rfl
      rw [e1, e2]; exact hv
    · have e1 : args0 args t = .tup [] := by simp [args0, List.getD, List.getElem?_eq_none (show args.length ≤ t by omega)]
      have e2 : (cargs ++ Array.replicate (fn.ntmps - cargs.size) undef).getD t undef = undef := by
        rw [Array.getD_eq_getD_getElem?, Array.getElem?_append_right (by omega), Array.getElem?_replicate]
        split <;> rfl
      rw [e1, e2]; exact undef_VR
  refine wp_mono (hg md fn.ntmps (fun _ => none) I w (fun _ => none) I w _ H A (Ext.refl _ _ _ _ _) c hcode) ?_
  rintro x a' w' ⟨hx, ι', I', h', ρ', A', H', E, vs, hr, hv⟩
  obtain ⟨u, hu, hvu⟩ := results_sim H' A' hrs hr
  rw [hv] at hvu
  cases hvu
  have : bodyPost P fn (fun e w' => ∃ ι' I' h', e = .returned (.bool true) ∧ HR ι' I' h' w' ∧ Ext (0 ≤ ·) (fun _ => none) I AHeap.empty w ι' I' h' w') .normal a' w' := ⟨A'.defers, _, hu, ι', I', h', rfl, H', E⟩
  rcases hx with rfl | rfl
  · exact this
  · exact this

theorem acalls_of_goodA {tb : Tbl} (hT : TblOK P tb) {f : Nat} {rf : RFunc} (hf : tb.fn f = some rf) {args : List AV} (hn : args.length ≤ rf.ntmps) (hp : ∀ a ∈ args, ∃ k n, a = .int k n) (hg : Good P rf.results (.bool true) rf.code (args0 args) (heapOf [] 0)) (h : AHeap) : ACalls P f args h (.bool true) h := by
  intro ι I w cargs H hl
  refine (calls_of_goodA0 hT hf hn hg I w H.Iin (hl.plain hp)).mono ?_
  rintro e w' ⟨ι', I', h', rfl, H', E⟩
  have hno : ∀ k j, ¬ Owned (fun _ => none) AHeap.empty k j := fun k j ⟨b, l, x, hb, _⟩ => by cases hb
  have hcell : ∀ k j, k < w.heap.size → w'.cell? ⟨k, j, none⟩ = w.cell? ⟨k, j, none⟩ := fun k j hk => E.cell k j hk (hno k j)
  have hI' : ∀ k j, I' k j → I k j ∨ w.heap.size ≤ k := fun k j hk => by
    rcases E.inew k j hk with h | h | h
    · exact .inl h
    · exact (hno k j h).elim
    · exact .inr h
  have hlt : ∀ b l k j, ι b = some l → l.has k j → k < w.heap.size := fun b l k j hb hl => by rw [Loc.has_block hl]; exact H.inside b l hb
  have hmono : ∀ a c, VR ι I w a c → VR ι I' w' a c := fun a c hx => hx.mono (fun _ _ h => h) E.imm (fun k j hk => hcell k j (H.Iin k j hk))
  refine ⟨_, ι, I', rfl, .bool true, ?_, ?_⟩
  · exact
    { dom := H.dom, inside := fun b l hb => Nat.lt_of_lt_of_le (H.inside b l hb) E.size
      cells := fun b cs l hg hb => by
        obtain ⟨cb, o, room, rfl, h1, h2, h3⟩ := H.cells b cs l hg hb
        refine ⟨cb, o, room, rfl, h1, h2, fun j hj => ?_⟩
        obtain ⟨c, e1, e2, e3⟩ := h3 j hj
        have hin : cb < w.heap.size := H.inside b _ hb
        exact ⟨c, by rw [hcell _ _ hin]; exact e1, by rw [E.frozen _ _ hin]; exact e2, fun v hv => hmono _ _ (e3 v hv)⟩
      maps := fun b es l hg hb => by
        obtain ⟨cb, es', clock, rfl, h1, h2, h3⟩ := H.maps b es l hg hb
        have hin : cb < w.heap.size := H.inside b _ hb
        exact ⟨cb, es', clock, rfl, by rw [E.block cb hin (fun j => hno cb j)]; exact h1, h2, fun i k v e e1 e2 => ⟨hmono _ _ (h3 i k v e e1 e2).1, hmono _ _ (h3 i k v e e1 e2).2⟩⟩
      tails := fun b l hg hb => by
        obtain ⟨cb, lo, hi, rfl, h1⟩ := H.tails b l hg hb
        have hin : cb < w.heap.size := H.inside b _ hb
        refine ⟨cb, lo, hi, rfl, fun j e1 e2 => ?_⟩
        obtain ⟨c, e3, e4⟩ := h1 j e1 e2
        exact ⟨c, by rw [hcell _ _ hin]; exact e3, by rw [E.frozen _ _ hin]; exact e4⟩
      disj := H.disj
      imm := fun b l x k j hb hg hl hk => by
        rcases hI' k j hk with h1 | h1
        · exact H.imm b l x k j hb hg hl h1
        · have := hlt b l k j hb hl; omega
      Iin := H'.Iin
      pl := fun b cs cb o room hg hb n => by rw [E.frozen cb n (H.inside b _ hb)]; exact H.pl b cs cb o room hg hb n }
  · exact
    { keep := fun _ _ => rfl, more := fun _ _ h => h, next := Nat.le_refl _, imm := E.imm, os := E.os, tape := E.tape, output := E.output, size := E.size
      block := fun k hk _ => E.block k hk (fun j => hno k j)
      cell := fun k j hk _ => hcell k j hk
      frozen := E.frozen
      own := fun k j h => .inl h
      inew := fun k j hk => by rcases hI' k j hk with h1 | h1; exact .inl h1; exact .inr (.inr h1)
      lost := fun _ _ _ => rfl }



/-- The head of a run by the calculus, the rest from what is still read. -/
theorem good_head (hm : P.follows .mixedOrders = true) {rs : List RRes} {r : AV} (L : List RCode) {rest : RCode} {ρ : Env} {h : AHeap}
    (hw : WP P (L.foldr .seq .skip) (fun e ρ' h' => e = .normal ∧ Good P rs r rest ρ' h') ρ h) : Good P rs r (L.foldr .seq rest) ρ h := by
  obtain ⟨e, ρ', h', hb, rfl, hg⟩ := hw
  exact good_list hm hg L hb
end Go.Proofs.YtdhhfiaepnemcaaGreat.Am
