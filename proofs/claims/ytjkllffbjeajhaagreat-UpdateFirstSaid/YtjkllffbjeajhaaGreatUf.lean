/- A call at a heap that holds more, a call by the evaluator; UpdateFirst walked. Conditions: none. -/
import Derived.Test.YtjkllffbjeajhaaGreatCodeB
set_option maxRecDepth 100000
set_option linter.unusedSimpArgs false
set_option linter.unusedVariables false
set_option linter.unnecessarySimpa false
/- A call at a heap that holds more; a call by the evaluator at a heap that is given as a list. -/
namespace Go.Proofs.YtjkllffbjeajhaaGreat.Am
open Go
section
variable {P : Program}

/-- What the call has not asked for stays. -/
def joinH (h0 h h' : AHeap) : AHeap := { get := fun b => match h'.get b with | some x => some x | none => if b < h.next then (match h0.get b with | none => h.get b | some _ => none) else none, next := h'.next }

theorem joinH_of {h0 h h' : AHeap} {b : Nat} {x : Blk} (hx : h'.get b = some x) : (joinH h0 h h').get b = some x := by simp [joinH, hx]

theorem ACalls.sub {f : Nat} {args : List AV} {h0 h h' : AHeap} {r : AV} (hc : ACalls P f args h0 r h') (hsub : ∀ b x, h0.get b = some x → h.get b = some x) (hn : h.next ≤ h0.next) : ACalls P f args h r (joinH h0 h h') := by
  intro ι I w cargs H hl
  have H0 : HR ι I h0 w := H.onDom (fun b l hb => Nat.lt_of_lt_of_le (H.dom b l hb) hn) (fun b l x _ hx => hsub b x hx)
  refine (hc ι I w cargs H0 hl).mono ?_
  rintro e w' ⟨v, ι', I', rfl, hv, H', E⟩
  have hcase : ∀ b x, (joinH h0 h h').get b = some x → h'.get b = some x ∨ (h'.get b = none ∧ b < h.next ∧ h0.get b = none ∧ h.get b = some x) := fun b x hb => by
    simp only [joinH] at hb
    split at hb
    · rename_i y hy; cases hb; exact .inl hy
    · rename_i hy
      split at hb
      · rename_i hlt
        split at hb
        · rename_i h0b; exact .inr ⟨hy, hlt, h0b, hb⟩
        · cases hb
      · cases hb
  have hown0 : ∀ k j, Owned ι h0 k j → Owned ι h k j := fun k j ⟨b, l, x, h1, h2, h3⟩ => ⟨b, l, x, h1, hsub b x h2, h3⟩
  have hkeep : ∀ b, b < h.next → ι' b = ι b := fun b hb => E.keep b (by omega)
  refine ⟨v, ι', I', rfl, hv, ?_, ?_⟩
  · refine H.join H' E (fun b l x _ hx => hsub b x hx) (by simp [joinH]) (fun b x hb => ?_)
    rcases hcase b x hb with h1 | ⟨_, h2, h3, h4⟩
    · exact .inl h1
    · cases hq : ι b with
      | none => exact .inr (.inr (by rw [hkeep b h2, hq]))
      | some l => exact .inr (.inl ⟨h4, h3, l, rfl⟩)
  · exact
    { keep := fun b hb => E.keep b (by omega), more := E.more, next := by have := E.next; simp only [joinH]; omega, imm := E.imm, os := E.os, tape := E.tape, output := E.output, size := E.size
      block := fun k hk ho => E.block k hk (fun j hj => ho j (hown0 k j hj))
      cell := fun k j hk ho => E.cell k j hk (fun hj => ho (hown0 k j hj))
      frozen := fun k j hk ho => E.frozen k j hk (fun hj => ho (hown0 k j hj))
      own := fun k j ⟨b, l, x, h1, h2, h3⟩ => by
        rcases hcase b x h2 with h4 | ⟨_, h5, h6, h7⟩
        · rcases E.own k j ⟨b, l, x, h1, h4, h3⟩ with h | h
          · exact .inl (hown0 k j h)
          · exact .inr h
        · exact .inl ⟨b, l, x, by rw [← hkeep b h5]; exact h1, h7, h3⟩
      inew := fun k j hk => by
        rcases E.inew k j hk with h | h | h
        · exact .inl h
        · exact .inr (.inl (hown0 k j h))
        · exact .inr (.inr h)
      lost := fun b hb hi => by
        have hlt : b < h.next := by omega
        have h1 := E.lost b (by omega) hi
        simp only [joinH, h1, hlt, if_true]
        cases h2 : h0.get b with
        | none => rfl
        | some x => exact (hsub b x h2).symm }

theorem ACalls.weak {f : Nat} {args args' : List AV} {h h' : AHeap} {r : AV} (hc : ACalls P f args h r h') (hl : args.length = args'.length) (hw : ∀ (i : Nat) (a b : AV), args[i]? = some a → args'[i]? = some b → a = b ∨ a = .undef ∨ (a = .any1 ∧ b.one = true) ∨ a = b.strip) : ACalls P f args' h r h' := by
  intro ι I w cargs H hlr
  refine hc ι I w cargs H ⟨hl.trans hlr.1, fun i v c hv hcv => ?_⟩
  have hi : i < args'.length := by rw [← hl]; exact (List.getElem?_eq_some_iff.1 hv).1
  have hb := List.getElem?_eq_getElem hi
  have hr := hlr.2 i _ c hb hcv
  rcases hw i v _ hv hb with h1 | h1 | ⟨h1, h2⟩ | h1
  · rw [h1]; exact hr
  · rw [h1]; exact .undef _
  · rw [h1]; exact .any1 _ (hr.one h2)
  · rw [h1]; exact hr.strip

/-- A call by the evaluator, at a heap that is given as a list. -/
def atK (tC : List (Nat × Blk)) (nx : Nat) (r : AV) (v : AV) (H : CH) : Option Unit := match eqV 100 v r && covH tC H && Nat.beq H.next nx with
  | true => some ()
  | false => none

theorem call_at {tb : Tbl} (hT : TblOK P tb) {fuel f : Nat} {args : List AV} {es es' : List (Nat × Blk)} {nx nx' : Nat} {r : AV} (h : bld es .leaf (fun T => callOf tb (runK tb fuel) f args ⟨T, nx⟩ (atK es' nx' r)) = some ()) :
    ∃ h', ACalls P f args (heapOf es nx) r h' ∧ h'.next = nx' ∧ ∀ b x, (heapOf es' nx').get b = some x → h'.get b = some x := by
  obtain ⟨t0, h0, hr⟩ := bld_sound h
  obtain ⟨v, H', hc, hk⟩ := eval_calls hT hr
  rw [heapOf_den h0] at hc
  unfold atK at hk
  split at hk
  · rename_i hb
    simp only [Bool.and_eq_true, Nat.beq_eq] at hb
    obtain ⟨⟨h1, h2⟩, h3⟩ := hb
    have := eqV_sound _ _ _ h1
    subst this
    exact ⟨H'.den, hc, h3, covH_sound h2⟩
  · cases hk

theorem hd_bool {t : TypeId} {a : AV} (hu : P.underlying t = some .bool) (h : HdV P t a) : ∃ b, a = .bool b := by
  obtain ⟨f, h⟩ := h.none_row hu rfl
  cases f with
  | zero => exact h.elim
  | succ f =>
    unfold Hd at h
    rw [hu] at h
    obtain ⟨b, h1⟩ := h
    cases h1
    exact ⟨b, rfl⟩

end
end Go.Proofs.YtjkllffbjeajhaaGreat.Am

namespace Go.Proofs.YtjkllffbjeajhaaGreat.Am
open Go
variable {P : Program}

def ufLab (b : Bool) : List AV := [.int .u8 2, .vs (if b then [[.int .u16 9, .int .u8 3]] else []) .full]
def ufRows (j : Nat) : List (List AV) := [ufLab (0 == j), ufLab (1 == j), ufLab (2 == j)]

theorem updateFirst_wp (ok : TblOK P tb) (begun : ∀ h, ACalls P 10 [] h (.bool true) h)
    (hN : ∀ j, j < 3 → ∃ es nx h1 h2, ACalls P 11 [(AV.agg [.int .i64 40, .int .i64 0, .vs (ufRows j) .unk]).strip] (heapOf [] 100) (.tup [.ptr 107 0, .int .i64 0]) h1 ∧ h1.next = nx ∧ (∀ b x, (heapOf es nx).get b = some x → h1.get b = some x) ∧
      ACalls P 12 [.ptr 107 0, .any1, .any1] (heapOf es nx) (.tup [.nil, .agg [.int .i64 3, .int .i64 14, .int .i64 0, .int .i64 0]]) h2)
    {a s : Nat} {f : Bool} (ha : a < 256) : WP P c3.code (lawK c3.results) (args0 [.int .u8 a, .int .u8 s, .bool f]) AHeap.empty := by
  have hn0 : AHeap.empty.next = 0 := rfl
  have hrem : (a : Int).tmod 3 = ((a % 3 : Nat) : Int) := by rw [Int.tmod_eq_emod_of_nonneg (by omega)]; omega
  have hw : IntKind.wrap .i64 ((a % 3 : Nat) : Int) = ((a % 3 : Nat) : Int) := wrapN (by omega)
  obtain ⟨es, nx, h1, h2, k1, k2, k3, k4⟩ := hN (a % 3) (by omega)
  have hj3 : a % 3 < 3 := by omega
  generalize hj : a % 3 = j at hrem hw k1 k3 k4 hj3
  have hrp : ∀ z w : List AV, (List.replicate 1 z).set 0 w = [w] := fun _ _ => rfl
  simp (decide := true) only [st, c3, c3_0, c3_1, c3_2]
  refine execC_by (begun _) ?_
  simp (decide := true) only [st, c3, c3_0, c3_1, c3_2, c3_3, c3_4, hn0]
  let I : Nat → Env → AHeap → Prop := fun n ρ h' => ∃ (i : Nat) (v : AV), 3 = i + n ∧ ρ 0 = .int .u8 a ∧ ρ 1 = .int .u8 s ∧ ρ 2 = .bool f ∧ ρ 7 = .ptr 0 0 ∧ ρ 8 = .int .i64 i ∧ h'.next = 1 + 2 * i ∧ h'.get 0 = some (.cells [.int .i64 40, .int .i64 0, v]) ∧ App AHeap.empty h' v ((ufRows j).take i)
  refine wp_loop_n I ?_ 3 ⟨0, .vs [] .full, rfl, by simp (decide := true) only [st], by simp (decide := true) only [st], by simp (decide := true) only [st], by simp (decide := true) only [st], by simp (decide := true) only [st], rfl, by simp [AHeap.set], App.nil _ _⟩
  rintro n ρ h' ⟨i, v, hin, r0, r1, r2, r7, r8, hnx, hg, happ⟩
  have hc := cellsOf_of hg
  by_cases hi : i < 3
  · have hi' : (i : Int) < 3 := by omega
    have hw1 := wrapN1 (show i < 2 ^ 61 by omega)
    have hlen : (ufRows j).length = 3 := rfl
    have hrow : (ufRows j).take (i + 1) = (ufRows j).take i ++ [ufLab (i == j)] := by
      match i, hi with
      | 0, _ => rfl
      | 1, _ => rfl
      | 2, _ => rfl
    have hne : ¬ h'.next = 0 := by omega
    have hne' : ¬ 0 = h'.next := by omega
    have step : ∀ lv : AV, ufLab (i == j) = [.int .u8 2, lv] → ∃ v' h2', appF 32 2 (h'.next + 1) ((h'.at h'.next (Blk.cells [.int .u8 0, .vs [] .full])).set h'.next (some (Blk.cells [.int .u8 2, lv]))) v (some [[.int .u8 2, lv]]) = some (v', h2') ∧
        App AHeap.empty h2' v' ((ufRows j).take (i + 1)) ∧ h2'.next = h'.next + 2 ∧ h2'.get 0 = some (.cells [.int .i64 40, .int .i64 0, v]) := fun lv hl => by
      have hH : App AHeap.empty ((h'.at h'.next (Blk.cells [.int .u8 0, .vs [] .full])).set h'.next (some (Blk.cells [.int .u8 2, lv]))) v ((ufRows j).take i) := happ.to (by simp [AHeap.set, AHeap.at]) (fun k _ h2 h3 => by
        have : ¬ k = h'.next := by omega
        simp [AHeap.set, AHeap.at, this, h3])
      have hln : ((ufRows j).take i).length ≤ 3 := by simp [hlen]; omega
      obtain ⟨v', h2', e1, e2, _, e4, e5, e6, _⟩ := hH.app ⟨by simp [hn0], fun b hb => by simp [hn0] at hb⟩ (bytes := 32) (sz := 2) (id := h'.next + 1) (by simp [hn0]) [[.int .u8 2, lv]] (by
        match i, hi with
        | 0, _ => rfl
        | 1, _ => rfl
        | 2, _ => rfl) (by simp only [List.length_singleton]; omega) (by simp only [List.length_singleton]; omega)
      refine ⟨v', h2', e1, by rw [hrow, hl]; exact e2, ?_, ?_⟩
      · obtain ⟨t2, rfl, rfl | ⟨k, rfl, q1, q2, q3⟩⟩ := e2
        · exfalso
          obtain ⟨t0, rfl, ht0⟩ := hH
          simp only [appF] at e1
          rw [if_neg (by simp)] at e1
          split at e1
          · rcases ht0 with rfl | ⟨k, rfl, q1, q2, q3⟩
            · cases e1
            · simp only [q3] at e1; cases e1
          · cases e1
        · have hk : k = h'.next + 1 := by
            obtain ⟨t0, rfl, ht0⟩ := hH
            simp only [appF] at e1
            rw [if_neg (by simp)] at e1
            split at e1
            · rcases ht0 with rfl | ⟨k, rfl, q1, q2, q3⟩
              · cases e1; rfl
              · simp only [q3] at e1; cases e1; rfl
            · cases e1
          simp only [AHeap.set, AHeap.at] at e4 e5
          omega
      · rw [e6 0 (by omega) (by simp [AHeap.set, AHeap.at, hne', hg])]
        simp [AHeap.set, AHeap.at, hne', hg]
    have hset : ∀ z w w', ((h'.at h'.next z).set h'.next w).set h'.next w' = (h'.at h'.next z).set h'.next w' := fun z w w' => by
      simp only [AHeap.set, AHeap.at]; congr 1; funext i; by_cases hi : i = h'.next <;> simp [hi]
    by_cases hij : i = j
    · obtain ⟨v', h2', e1, e2, e3, e4⟩ := step (.vs [[.int .u16 9, .int .u8 3]] .full) (by rw [hij]; simp only [beq_self_eq_true]; rfl)
      subst hij
      have hc2 := cellsOf_of e4
      obtain ⟨t2, rfl, ht2⟩ := e2
      simp (decide := true) only [st, c3, c3_0, c3_1, c3_2, c3_3, c3_4, c3_5, c3_6, c3_7, c3_8, c3_9, c3_10, r0, r7, r8, hi', hrem, hw, hrp, hc, hne, hne', hw1, e1, hc2, hset]
      refine ⟨n - 1, by omega, i + 1, .vs ((ufRows i).take (i + 1)) t2, by omega, by simp (decide := true) only [st, r0], by simp (decide := true) only [st, r1], by simp (decide := true) only [st, r2], by simp (decide := true) only [st, r7], by simp (decide := true) only [st], ?_, ?_, ?_⟩
      · simp only [AHeap.set]; omega
      · simp [AHeap.set]
      · exact App.to ⟨t2, rfl, ht2⟩ (by simp [AHeap.set]) (fun k _ _ h3 => by
          have : ¬ k = 0 := fun e => by rw [e, e4] at h3; cases h3
          simp [AHeap.set, this, h3])
    · have hij' : ¬ (i : Int) = (j : Int) := by omega
      have hbf : (i == j) = false := by simpa using hij
      obtain ⟨v', h2', e1, e2, e3, e4⟩ := step (.vs [] .full) (by rw [hbf]; rfl)
      have hc2 := cellsOf_of e4
      obtain ⟨t2, rfl, ht2⟩ := e2
      simp (decide := true) only [st, c3, c3_0, c3_1, c3_2, c3_3, c3_4, c3_5, c3_6, c3_7, c3_8, c3_9, c3_10, r0, r7, r8, hi', hrem, hw, hrp, hij', hc, hne, hne', hw1, e1, hc2, hset]
      refine ⟨n - 1, by omega, i + 1, .vs ((ufRows j).take (i + 1)) t2, by omega, by simp (decide := true) only [st, r0], by simp (decide := true) only [st, r1], by simp (decide := true) only [st, r2], by simp (decide := true) only [st, r7], by simp (decide := true) only [st], ?_, ?_, ?_⟩
      · simp only [AHeap.set]; omega
      · simp [AHeap.set]
      · exact App.to ⟨t2, rfl, ht2⟩ (by simp [AHeap.set]) (fun k _ _ h3 => by
          have : ¬ k = 0 := fun e => by rw [e, e4] at h3; cases h3
          simp [AHeap.set, this, h3])
  · have hi' : ¬ (i : Int) < 3 := by omega
    have hi3 : i = 3 := by omega
    subst hi3
    have htk : (ufRows j).take 3 = ufRows j := rfl
    rw [htk] at happ
    obtain ⟨tt, rfl, _⟩ := happ
    have hle : h'.next ≤ 100 := by omega
    have g1 := (k1.sub (h := h') (fun b x hx => by cases hx) (by show h'.next ≤ 100; omega))
    have g1' : ACalls P 11 [.agg [.int .i64 40, .int .i64 0, .vs (ufRows j) tt]] h' (.tup [.ptr 107 0, .int .i64 0]) (joinH (heapOf [] 100) h' h1) := g1.weak rfl (fun i a b ha hb => by
      match i with
      | 0 => cases ha; cases hb; exact .inr (.inr (.inr rfl))
      | i + 1 => simp at ha)
    have g2 := k4.sub (h := joinH (heapOf [] 100) h' h1) (fun b x hx => joinH_of (k3 b x hx)) (by show h1.next ≤ nx; omega)
    have g2' : ACalls P 12 [.ptr 107 0, .int .i64 (IntKind.wrap .i64 s), .bool f] _ _ _ := g2.weak (args' := [.ptr 107 0, .int .i64 (IntKind.wrap .i64 s), .bool f]) rfl (fun i a b ha hb => by
      match i with
      | 0 => cases ha; cases hb; exact .inl rfl
      | 1 => cases ha; cases hb; exact .inr (.inr (.inl ⟨rfl, rfl⟩))
      | 2 => cases ha; cases hb; exact .inr (.inr (.inl ⟨rfl, rfl⟩))
      | i + 3 => simp at ha)
    simp (decide := true) only [st, c3_5, c3_11, r7, r8, hi', hc]
    refine execC_by g1' ?_
    simp (decide := true) only [st, c3_12, r1, r2]
    refine execC_by g2' ?_
    simp (decide := true) only [st, c3_13, lawK_ret]

end Go.Proofs.YtjkllffbjeajhaaGreat.Am

namespace Go.Proofs.YtjkllffbjeajhaaGreat.Am
open Go Go.Proofs.YtjkllffbjeajhaaGreat
theorem begun28 : ∀ h, ACalls Tryz.prog 10 [] h (.bool true) h := begun_of tb1_ok (f := 10) (n := 1000) (by kernel_rfl)
def UFa0r : AV := (.tup [(.ptr 107 0), (.int .i64 0)])
def UFa0e : List (Nat × Blk) := [(101, (.map [((.int .u64 1), (.int .i64 0))])), (102, (.cells [(.int .u8 1), (.rs 285 0 1 4), (.map (some 101))])), (103, (.cells (rp 512 [(.int .u8 0), (.int .u8 0), (.int .u8 0), (.int .u8 0), (.int .u8 0), (.int .u8 0), (.int .u8 0), (.int .u8 0), (.int .u8 0), (.int .u8 0), (.int .u8 0), (.int .u8 0), (.int .u8 0), (.int .u8 0), (.int .u8 0), (.int .u8 0), (.bool false)] []))), (104, (.cells [(.rs 103 0 512 17)])), (105, (.map [])), (106, (.cells [(.ptr 104 0), (.map (some 105))])), (107, (.cells [(.rs 196 0 3 12), (.ptr 102 0), (.ptr 106 0)])), (160, .tail), (196, (.cells [(.int .u8 2), (.vs [[(.int .u16 9), (.int .u8 3)]] (.own 160)), (.vs [] .full), (.vs [] .full), (.vs [] .full), (.int .i64 0), (.int .i64 0), (.int .u64 0), (.int .u64 0), (.int .i64 0), (.int .i64 0), (.bool false), (.int .u8 2), (.vs [] .full), (.vs [] .full), (.vs [] .full), (.vs [] .full), (.int .i64 0), (.int .i64 0), (.int .u64 0), (.int .u64 0), (.int .i64 0), (.int .i64 0), (.bool false), (.int .u8 2), (.vs [] .full), (.vs [] .full), (.vs [] .full), (.vs [] .full), (.int .i64 0), (.int .i64 0), (.int .u64 0), (.int .u64 0), (.int .i64 0), (.int .i64 0), (.bool false)])), (285, (.cells [(.int .u64 1), (.vs [[(.int .u8 1)], [(.int .u8 1)], [(.int .u8 0)], [(.int .u8 0)], [(.int .u8 0)], [(.int .u8 0)], [(.int .u8 0)], [(.int .u8 0)], [(.int .u8 0)], [(.int .u8 1)], [(.int .u8 2)], [(.int .u8 0)], [(.int .u8 0)], [(.int .u8 40)], [(.int .u8 0)], [(.int .u8 0)], [(.int .u8 0)], [(.int .u8 1)]] (.own 306)), (.bool true), (.int .i64 1)])), (306, .tail)]
def UFa0n : Nat := 307
def UFb0r : AV := (.tup [.nil, (.agg [(.int .i64 3), (.int .i64 14), (.int .i64 0), (.int .i64 0)])])
def UFb0e : List (Nat × Blk) := []
def UFb0n : Nat := 361
def UFa1r : AV := (.tup [(.ptr 107 0), (.int .i64 0)])
def UFa1e : List (Nat × Blk) := [(101, (.map [((.int .u64 1), (.int .i64 0))])), (102, (.cells [(.int .u8 1), (.rs 285 0 1 4), (.map (some 101))])), (103, (.cells (rp 512 [(.int .u8 0), (.int .u8 0), (.int .u8 0), (.int .u8 0), (.int .u8 0), (.int .u8 0), (.int .u8 0), (.int .u8 0), (.int .u8 0), (.int .u8 0), (.int .u8 0), (.int .u8 0), (.int .u8 0), (.int .u8 0), (.int .u8 0), (.int .u8 0), (.bool false)] []))), (104, (.cells [(.rs 103 0 512 17)])), (105, (.map [])), (106, (.cells [(.ptr 104 0), (.map (some 105))])), (107, (.cells [(.rs 196 0 3 12), (.ptr 102 0), (.ptr 106 0)])), (184, .tail), (196, (.cells [(.int .u8 2), (.vs [] .full), (.vs [] .full), (.vs [] .full), (.vs [] .full), (.int .i64 0), (.int .i64 0), (.int .u64 0), (.int .u64 0), (.int .i64 0), (.int .i64 0), (.bool false), (.int .u8 2), (.vs [[(.int .u16 9), (.int .u8 3)]] (.own 184)), (.vs [] .full), (.vs [] .full), (.vs [] .full), (.int .i64 0), (.int .i64 0), (.int .u64 0), (.int .u64 0), (.int .i64 0), (.int .i64 0), (.bool false), (.int .u8 2), (.vs [] .full), (.vs [] .full), (.vs [] .full), (.vs [] .full), (.int .i64 0), (.int .i64 0), (.int .u64 0), (.int .u64 0), (.int .i64 0), (.int .i64 0), (.bool false)])), (285, (.cells [(.int .u64 1), (.vs [[(.int .u8 1)], [(.int .u8 1)], [(.int .u8 0)], [(.int .u8 0)], [(.int .u8 0)], [(.int .u8 0)], [(.int .u8 0)], [(.int .u8 0)], [(.int .u8 0)], [(.int .u8 1)], [(.int .u8 2)], [(.int .u8 0)], [(.int .u8 0)], [(.int .u8 40)], [(.int .u8 0)], [(.int .u8 0)], [(.int .u8 0)], [(.int .u8 1)]] (.own 306)), (.bool true), (.int .i64 1)])), (306, .tail)]
def UFa1n : Nat := 307
def UFb1r : AV := (.tup [.nil, (.agg [(.int .i64 3), (.int .i64 14), (.int .i64 0), (.int .i64 0)])])
def UFb1e : List (Nat × Blk) := []
def UFb1n : Nat := 387
def UFa2r : AV := (.tup [(.ptr 107 0), (.int .i64 0)])
def UFa2e : List (Nat × Blk) := [(101, (.map [((.int .u64 1), (.int .i64 0))])), (102, (.cells [(.int .u8 1), (.rs 285 0 1 4), (.map (some 101))])), (103, (.cells (rp 512 [(.int .u8 0), (.int .u8 0), (.int .u8 0), (.int .u8 0), (.int .u8 0), (.int .u8 0), (.int .u8 0), (.int .u8 0), (.int .u8 0), (.int .u8 0), (.int .u8 0), (.int .u8 0), (.int .u8 0), (.int .u8 0), (.int .u8 0), (.int .u8 0), (.bool false)] []))), (104, (.cells [(.rs 103 0 512 17)])), (105, (.map [])), (106, (.cells [(.ptr 104 0), (.map (some 105))])), (107, (.cells [(.rs 195 0 3 12), (.ptr 102 0), (.ptr 106 0)])), (195, (.cells [(.int .u8 2), (.vs [] .full), (.vs [] .full), (.vs [] .full), (.vs [] .full), (.int .i64 0), (.int .i64 0), (.int .u64 0), (.int .u64 0), (.int .i64 0), (.int .i64 0), (.bool false), (.int .u8 2), (.vs [] .full), (.vs [] .full), (.vs [] .full), (.vs [] .full), (.int .i64 0), (.int .i64 0), (.int .u64 0), (.int .u64 0), (.int .i64 0), (.int .i64 0), (.bool false), (.int .u8 2), (.vs [[(.int .u16 9), (.int .u8 3)]] (.own 208)), (.vs [] .full), (.vs [] .full), (.vs [] .full), (.int .i64 0), (.int .i64 0), (.int .u64 0), (.int .u64 0), (.int .i64 0), (.int .i64 0), (.bool false)])), (208, .tail), (285, (.cells [(.int .u64 1), (.vs [[(.int .u8 1)], [(.int .u8 1)], [(.int .u8 0)], [(.int .u8 0)], [(.int .u8 0)], [(.int .u8 0)], [(.int .u8 0)], [(.int .u8 0)], [(.int .u8 0)], [(.int .u8 1)], [(.int .u8 2)], [(.int .u8 0)], [(.int .u8 0)], [(.int .u8 40)], [(.int .u8 0)], [(.int .u8 0)], [(.int .u8 0)], [(.int .u8 1)]] (.own 306)), (.bool true), (.int .i64 1)])), (306, .tail)]
def UFa2n : Nat := 307
def UFb2r : AV := (.tup [.nil, (.agg [(.int .i64 3), (.int .i64 14), (.int .i64 0), (.int .i64 0)])])
def UFb2e : List (Nat × Blk) := []
def UFb2n : Nat := 413
theorem UFka0 : bld [] .leaf (fun T => callOf tb1 (runK tb1 1000) 11 [(AV.agg [.int .i64 40, .int .i64 0, .vs (ufRows 0) .unk]).strip] ⟨T, 100⟩ (atK UFa0e UFa0n UFa0r)) = some () := by kernel_rfl
theorem UFkb0 : bld UFa0e .leaf (fun T => callOf tb1 (runK tb1 1000) 12 [.ptr 107 0, .any1, .any1] ⟨T, UFa0n⟩ (atK [] UFb0n UFb0r)) = some () := by kernel_rfl
theorem UFka1 : bld [] .leaf (fun T => callOf tb1 (runK tb1 1000) 11 [(AV.agg [.int .i64 40, .int .i64 0, .vs (ufRows 1) .unk]).strip] ⟨T, 100⟩ (atK UFa1e UFa1n UFa1r)) = some () := by kernel_rfl
theorem UFkb1 : bld UFa1e .leaf (fun T => callOf tb1 (runK tb1 1000) 12 [.ptr 107 0, .any1, .any1] ⟨T, UFa1n⟩ (atK [] UFb1n UFb1r)) = some () := by kernel_rfl
theorem UFka2 : bld [] .leaf (fun T => callOf tb1 (runK tb1 1000) 11 [(AV.agg [.int .i64 40, .int .i64 0, .vs (ufRows 2) .unk]).strip] ⟨T, 100⟩ (atK UFa2e UFa2n UFa2r)) = some () := by kernel_rfl
theorem UFkb2 : bld UFa2e .leaf (fun T => callOf tb1 (runK tb1 1000) 12 [.ptr 107 0, .any1, .any1] ⟨T, UFa2n⟩ (atK [] UFb2n UFb2r)) = some () := by kernel_rfl
theorem ufN : ∀ j, j < 3 → ∃ es nx h1 h2, ACalls Tryz.prog 11 [(AV.agg [.int .i64 40, .int .i64 0, .vs (ufRows j) .unk]).strip] (heapOf [] 100) (.tup [.ptr 107 0, .int .i64 0]) h1 ∧ h1.next = nx ∧ (∀ b x, (heapOf es nx).get b = some x → h1.get b = some x) ∧
      ACalls Tryz.prog 12 [.ptr 107 0, .any1, .any1] (heapOf es nx) (.tup [.nil, .agg [.int .i64 3, .int .i64 14, .int .i64 0, .int .i64 0]]) h2 := by
  intro j hj
  match j, hj with
  | 0, _ =>
    obtain ⟨h1, k1, k2, k3⟩ := call_at tb1_ok UFka0
    obtain ⟨h2, k4, _, _⟩ := call_at tb1_ok UFkb0
    exact ⟨UFa0e, UFa0n, h1, h2, k1, k2, k3, k4⟩
  | 1, _ =>
    obtain ⟨h1, k1, k2, k3⟩ := call_at tb1_ok UFka1
    obtain ⟨h2, k4, _, _⟩ := call_at tb1_ok UFkb1
    exact ⟨UFa1e, UFa1n, h1, h2, k1, k2, k3, k4⟩
  | 2, _ =>
    obtain ⟨h1, k1, k2, k3⟩ := call_at tb1_ok UFka2
    obtain ⟨h2, k4, _, _⟩ := call_at tb1_ok UFkb2
    exact ⟨UFa2e, UFa2n, h1, h2, k1, k2, k3, k4⟩
end Go.Proofs.YtjkllffbjeajhaaGreat.Am
