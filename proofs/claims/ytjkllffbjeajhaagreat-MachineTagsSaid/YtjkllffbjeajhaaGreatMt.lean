/- A call at a heap that holds more, a call by the evaluator; MachineTags walked. Conditions: none. -/
import Derived.Test.YtjkllffbjeajhaaGreatCodeB
set_option maxRecDepth 100000
set_option linter.unusedSimpArgs false
set_option linter.unusedVariables false
set_option linter.unnecessarySimpa false
/- A call at a heap that holds more; a call by the evaluator at a heap that is given as a list. -/
namespace Go.Proofs.YtjkllffbjeajhaaGreat.Am
open Go
section
variable {P : Program}

/-- What the call has not asked for stays. -/
def joinH (h0 h h' : AHeap) : AHeap := { get := fun b => match h'.get b with | some x => some x | none => if b < h.next then (match h0.get b with | none => h.get b | some _ => none) else none, next := h'.next }

theorem joinH_of {h0 h h' : AHeap} {b : Nat} {x : Blk} (hx : h'.get b = some x) : (joinH h0 h h').get b = some x := by simp [joinH, hx]

theorem ACalls.sub {f : Nat} {args : List AV} {h0 h h' : AHeap} {r : AV} (hc : ACalls P f args h0 r h') (hsub : ∀ b x, h0.get b = some x → h.get b = some x) (hn : h.next ≤ h0.next) : ACalls P f args h r (joinH h0 h h') := by
  intro ι I w cargs H hl
  have H0 : HR ι I h0 w := H.onDom (fun b l hb => Nat.lt_of_lt_of_le (H.dom b l hb) hn) (fun b l x _ hx => hsub b x hx)
  refine (hc ι I w cargs H0 hl).mono ?_
  rintro e w' ⟨v, ι', I', rfl, hv, H', E⟩
  have hcase : ∀ b x, (joinH h0 h h').get b = some x → h'.get b = some x ∨ (h'.get b = none ∧ b < h.next ∧ h0.get b = none ∧ h.get b = some x) := fun b x hb => by
    simp only [joinH] at hb
    split at hb
    · rename_i y hy; cases hb; exact .inl hy
    · rename_i hy
      split at hb
      · rename_i hlt
        split at hb
        · rename_i h0b; exact .inr ⟨hy, hlt, h0b, hb⟩
        · cases hb
      · cases hb
  have hown0 : ∀ k j, Owned ι h0 k j → Owned ι h k j := fun k j ⟨b, l, x, h1, h2, h3⟩ => ⟨b, l, x, h1, hsub b x h2, h3⟩
  have hkeep : ∀ b, b < h.next → ι' b = ι b := fun b hb => E.keep b (by omega)
  refine ⟨v, ι', I', rfl, hv, ?_, ?_⟩
  · refine H.join H' E (fun b l x _ hx => hsub b x hx) (by simp [joinH]) (fun b x hb => ?_)
    rcases hcase b x hb with h1 | ⟨_, h2, h3, h4⟩
    · exact .inl h1
    · cases hq : ι b with
      | none => exact .inr (.inr (by rw [hkeep b h2, hq]))
      | some l => exact .inr (.inl ⟨h4, h3, l, rfl⟩)
  · exact
    { keep := fun b hb => E.keep b (by omega), more := E.more, next := by have := E.next; simp only [joinH]; omega, imm := E.imm, os := E.os, tape := E.tape, output := E.output, size := E.size
      block := fun k hk ho => E.block k hk (fun j hj => ho j (hown0 k j hj))
      cell := fun k j hk ho => E.cell k j hk (fun hj => ho (hown0 k j hj))
      frozen := fun k j hk ho => E.frozen k j hk (fun hj => ho (hown0 k j hj))
      own := fun k j ⟨b, l, x, h1, h2, h3⟩ => by
        rcases hcase b x h2 with h4 | ⟨_, h5, h6, h7⟩
        · rcases E.own k j ⟨b, l, x, h1, h4, h3⟩ with h | h
          · exact .inl (hown0 k j h)
          · exact .inr h
        · exact .inl ⟨b, l, x, by rw [← hkeep b h5]; exact h1, h7, h3⟩
      inew := fun k j hk => by
        rcases E.inew k j hk with h | h | h
        · exact .inl h
        · exact .inr (.inl (hown0 k j h))
        · exact .inr (.inr h)
      lost := fun b hb hi => by
        have hlt : b < h.next := by omega
        have h1 := E.lost b (by omega) hi
        simp only [joinH, h1, hlt, if_true]
        cases h2 : h0.get b with
        | none => rfl
        | some x => exact (hsub b x h2).symm }

theorem ACalls.weak {f : Nat} {args args' : List AV} {h h' : AHeap} {r : AV} (hc : ACalls P f args h r h') (hl : args.length = args'.length) (hw : ∀ (i : Nat) (a b : AV), args[i]? = some a → args'[i]? = some b → a = b ∨ a = .undef ∨ (a = .any1 ∧ b.one = true) ∨ a = b.strip) : ACalls P f args' h r h' := by
  intro ι I w cargs H hlr
  refine hc ι I w cargs H ⟨hl.trans hlr.1, fun i v c hv hcv => ?_⟩
  have hi : i < args'.length := by rw [← hl]; exact (List.getElem?_eq_some_iff.1 hv).1
  have hb := List.getElem?_eq_getElem hi
  have hr := hlr.2 i _ c hb hcv
  rcases hw i v _ hv hb with h1 | h1 | ⟨h1, h2⟩ | h1
  · rw [h1]; exact hr
  · rw [h1]; exact .undef _
  · rw [h1]; exact .any1 _ (hr.one h2)
  · rw [h1]; exact hr.strip

/-- A call by the evaluator, at a heap that is given as a list. -/
def atK (tC : List (Nat × Blk)) (nx : Nat) (r : AV) (v : AV) (H : CH) : Option Unit := match eqV 100 v r && covH tC H && Nat.beq H.next nx with
  | true => some ()
  | false => none

theorem call_at {tb : Tbl} (hT : TblOK P tb) {fuel f : Nat} {args : List AV} {es es' : List (Nat × Blk)} {nx nx' : Nat} {r : AV} (h : bld es .leaf (fun T => callOf tb (runK tb fuel) f args ⟨T, nx⟩ (atK es' nx' r)) = some ()) :
    ∃ h', ACalls P f args (heapOf es nx) r h' ∧ h'.next = nx' ∧ ∀ b x, (heapOf es' nx').get b = some x → h'.get b = some x := by
  obtain ⟨t0, h0, hr⟩ := bld_sound h
  obtain ⟨v, H', hc, hk⟩ := eval_calls hT hr
  rw [heapOf_den h0] at hc
  unfold atK at hk
  split at hk
  · rename_i hb
    simp only [Bool.and_eq_true, Nat.beq_eq] at hb
    obtain ⟨⟨h1, h2⟩, h3⟩ := hb
    have := eqV_sound _ _ _ h1
    subst this
    exact ⟨H'.den, hc, h3, covH_sound h2⟩
  · cases hk

theorem hd_bool {t : TypeId} {a : AV} (hu : P.underlying t = some .bool) (h : HdV P t a) : ∃ b, a = .bool b := by
  obtain ⟨f, h⟩ := h.none_row hu rfl
  cases f with
  | zero => exact h.elim
  | succ f =>
    unfold Hd at h
    rw [hu] at h
    obtain ⟨b, h1⟩ := h
    cases h1
    exact ⟨b, rfl⟩

theorem ACalls.weakV {f : Nat} {args args' : List AV} {h h' : AHeap} {r : AV} (hc : ACalls P f args h r h') (hl : args.length = args'.length) (hw : ∀ (i : Nat) (a b : AV), args[i]? = some a → args'[i]? = some b → ∀ (ι : Inj) (I : Imm) (w : World) (v : Value), VR ι I w b v → VR ι I w a v) : ACalls P f args' h r h' := by
  intro ι I w cargs H hlr
  refine hc ι I w cargs H ⟨hl.trans hlr.1, fun i v c hv hcv => ?_⟩
  have hi : i < args'.length := by rw [← hl]; exact (List.getElem?_eq_some_iff.1 hv).1
  have hb := List.getElem?_eq_getElem hi
  exact hw i v _ hv hb ι I w c (hlr.2 i _ c hb hcv)

theorem VR.agg_imp {l m : List AV} (hl : l.length = m.length) {ι : Inj} {I : Imm} {w : World} {v : Value} (hw : ∀ (i : Nat) (a b : AV), l[i]? = some a → m[i]? = some b → ∀ v, VR ι I w b v → VR ι I w a v) (h : VR ι I w (.agg m) v) : VR ι I w (.agg l) v := by
  cases h with
  | agg _ cs' h1 h2 =>
    refine .agg _ _ (hl.trans h1) (fun i a c ha hc => ?_)
    have hi : i < m.length := by rw [← hl]; exact (List.getElem?_eq_some_iff.1 ha).1
    have hb := List.getElem?_eq_getElem hi
    exact hw i a _ ha hb c (h2 i _ c hb hc)

theorem VR.any1_of {ι : Inj} {I : Imm} {w : World} {a : AV} {v : Value} (h : VR ι I w a v) (h1 : a.one = true) : VR ι I w .any1 v := .any1 v (h.one h1)

end
end Go.Proofs.YtjkllffbjeajhaaGreat.Am

namespace Go.Proofs.YtjkllffbjeajhaaGreat.Am
open Go
variable {P : Program}

def JJ (P : Program) (f : Nat) (args : List AV) (es : List (Nat × Blk)) (nx : Nat) (r : AV) (es' : List (Nat × Blk)) (nx' : Nat) : Prop :=
  ∃ h', ACalls P f args (heapOf es nx) r h' ∧ h'.next = nx' ∧ (∀ b x, lkp es' b = some x → h'.get b = some x) ∧ h'.get 266 = none

def fine (es : List (Nat × Blk)) (n : Nat) : Bool := es.all fun p => Nat.blt p.1 n && !(Nat.beq p.1 266)

structure MTS (tg : List AV) (es : List (Nat × Blk)) (m : Nat) (H : AHeap) : Prop where
  sub : ∀ b x, lkp es b = some x → H.get b = some x
  fin : fine es m = true
  tag : H.get 266 = some (.cells tg)
  tlt : 266 < m
  next : H.next = m

theorem fine_lt {es : List (Nat × Blk)} {n : Nat} (h : fine es n = true) {b : Nat} {x : Blk} (hb : lkp es b = some x) : b < n ∧ b ≠ 266 := by
  have := List.all_eq_true.1 h _ (lkp_mem hb)
  simp only [Bool.and_eq_true, Nat.blt_eq] at this
  exact ⟨this.1, fun e => by have := this.2; rw [e] at this; cases this⟩

theorem fine_mono {es : List (Nat × Blk)} {n m : Nat} (h : fine es n = true) (hn : n ≤ m) : fine es m = true := by
  refine List.all_eq_true.2 (fun p hp => ?_)
  have := List.all_eq_true.1 h p hp
  simp only [Bool.and_eq_true, Nat.blt_eq] at this ⊢
  exact ⟨by omega, this.2⟩

variable {tg : List AV} {es es' : List (Nat × Blk)} {m nx nx' f : Nat} {H : AHeap} {args : List AV} {r : AV}

theorem MTS.call (S : MTS tg es m H) (J : JJ P f args es nx r es' nx') (hm : m ≤ nx) (hf : fine es' nx' = true) (hx : m ≤ nx') : ∃ H', ACalls P f args H r H' ∧ MTS tg es' nx' H' := by
  obtain ⟨h', c1, c2, c3, c4⟩ := J
  refine ⟨_, c1.sub (h := H) S.sub (by rw [S.next]; exact hm), ?_⟩
  have hno : (heapOf es nx).get 266 = none := by
    cases hq : (heapOf es nx).get 266 with
    | none => rfl
    | some x => exact ((fine_lt S.fin hq).2 rfl).elim
  have hlt : 266 < H.next := by rw [S.next]; exact S.tlt
  exact { sub := fun b x hb => joinH_of (c3 b x hb), fin := hf, tag := by simp only [joinH, c4, hlt, if_true, hno]; exact S.tag, tlt := by have := S.tlt; omega, next := c2 }

theorem MTS.alloc (S : MTS tg es m H) (x : Blk) : MTS tg es (m + 1) (H.at H.next x) where
  sub b y hb := by
    have := (fine_lt S.fin hb).1
    have hne : ¬ b = H.next := by rw [S.next]; omega
    simp [AHeap.at, hne, S.sub b y hb]
  fin := fine_mono S.fin (by omega)
  tag := by
    have := S.tlt
    have hne : ¬ 266 = H.next := by rw [S.next]; omega
    simp [AHeap.at, hne, S.tag]
  tlt := by have := S.tlt; omega
  next := by simp [AHeap.at, S.next]

theorem MTS.reply (S : MTS tg es m H) (x : Blk) (y : Option Blk) : MTS tg es (m + 1) ((H.at H.next x).set H.next y) where
  sub b z hb := by
    have := (fine_lt S.fin hb).1
    have hne : ¬ b = H.next := by rw [S.next]; omega
    simp [AHeap.at, AHeap.set, hne, S.sub b z hb]
  fin := fine_mono S.fin (by omega)
  tag := by
    have := S.tlt
    have hne : ¬ 266 = H.next := by rw [S.next]; omega
    simp [AHeap.at, AHeap.set, hne, S.tag]
  tlt := by have := S.tlt; omega
  next := by simp [AHeap.at, AHeap.set, S.next]

def mtBody : RCode := (.seq (.seq (.reg c8_18) (.cond (Am.t 55) .skip (.exit 0))) (.seq (.block 1 (.seq (.seq (.reg c8_19) (.cond (Am.t 74) (.seq (.reg c8_20) .ret) .skip)) (.seq (.reg c8_21) (.seq (.reg c8_22) (.seq (.seq (.reg c8_23) (.cond (Am.t 87) (.reg c8_24) .skip)) (.seq (.reg c8_25) (.cond (Am.t 103) (.seq (.reg c8_26) .ret) .skip))))))) (.reg c8_27)))

structure MTR (t : Int) (fault ahead : Bool) (lb i : Nat) (ρ : Env) : Prop where
  r0 : ρ 0 = .int .i64 t
  r1 : ρ 1 = .bool fault
  r2 : ρ 2 = .bool ahead
  r7 : ρ 7 = .ptr 263 0
  r10 : ρ 10 = .rs lb 0 2 12
  r11 : ρ 11 = .int .i64 i

theorem mt_round (ok : TblOK P tb) {t : Int} {fault ahead : Bool} {lb i : Nat} {lc : List AV} {b : Bool} {d : List UInt8} {tl : Tail} {ρ : Env} {K : AExit → Env → AHeap → Prop} (hi : i < 2)
    (R : MTR t fault ahead lb i ρ) (S : MTS tg es m H) (hl5 : lkp es lb = some (.cells lc)) (hl6 : lkp es' lb = some (.cells lc)) (hb : lc[i * 12 + 11]? = some (.bool b)) (h0 : b = (decide ((i : Int) = t) && !ahead && !fault)) (hd : d = if b then [0, 0, 0] else [2, 0])
    (J : JJ P 23 [.ptr 263 0, .agg [.int .i64 1, .int .i64 i, .vs (BS [12]) .unk]] es nx (.tup [.agg [.int .i64 i, .int .i64 0, .int .u64 i, .vs (BS d) tl], .bool true]) es' nx') (hm : m ≤ nx) (hf : fine es' nx' = true) (hx : m ≤ nx')
    (hK : ∀ ρ' H', MTR t fault ahead lb (i + 1) ρ' → MTS tg es' (nx' + 1) H' → K .normal ρ' H') : WP P mtBody K ρ H := by
  obtain ⟨r0, r1, r2, r7, r10, r11⟩ := R
  have g5 := cellsOf_of (S.sub _ _ hl5)
  obtain ⟨H6, c6, S6⟩ := S.call J hm hf hx
  have hrp : ∀ z w : List AV, (List.replicate 1 z).set 0 w = [w] := fun _ _ => rfl
  have hi' : (i : Int) < 2 := by omega
  have hi0 : (0 : Int) ≤ (i : Int) := by omega
  have hi2 : (i : Int) < ((2 : Nat) : Int) := by omega
  have hwi := wrapN1 (show i < 2 ^ 61 by omega)
  unfold mtBody
  simp (decide := true) only [st, c8_18, r11, hi']
  refine exec_cut (fun ρ' => ρ' 74 = .bool false ∧ MTR t fault ahead lb i ρ') ?_ ?_
  · by_cases hit : (i : Int) = t
    · have hb' : b = (!ahead && !fault) := by rw [h0]; simp [hit]
      subst hb'
      cases ahead <;> cases fault <;> (
        simp only [Bool.not_true, Bool.not_false, Bool.and_true, Bool.and_false] at hb
        simp (decide := true) only [st, c8_19, r0, r1, r2, r10, r11, g5, hb, eq_true hit, hi0, hi', hi2, Int.toNat_natCast, Nat.zero_add]
        exact ⟨rfl, by simp (decide := true) only [st, r0], by simp (decide := true) only [st, r1], by simp (decide := true) only [st, r2], by simp (decide := true) only [st, r7], by simp (decide := true) only [st, r10], by simp (decide := true) only [st, r11]⟩)
    · have hb' : b = false := by rw [h0]; simp [hit]
      subst hb'
      cases ahead <;> cases fault <;> (
        simp (decide := true) only [st, c8_19, r0, r1, r2, r10, r11, g5, hb, eq_false hit, hi0, hi', hi2, Int.toNat_natCast, Nat.zero_add]
        exact ⟨rfl, by simp (decide := true) only [st, r0], by simp (decide := true) only [st, r1], by simp (decide := true) only [st, r2], by simp (decide := true) only [st, r7], by simp (decide := true) only [st, r10], by simp (decide := true) only [st, r11]⟩)
  · rintro ρ' ⟨r74, r0, r1, r2, r7, r10, r11⟩
    have hst : ACalls P 23 [.ptr 263 0, .agg [.int .i64 1, .int .i64 i, .vs [[.int .u8 12]] .full]] H _ H6 := c6.weak (args' := [.ptr 263 0, .agg [.int .i64 1, .int .i64 i, .vs [[.int .u8 12]] .full]]) rfl (fun k a b ha hb => by
      match k with
      | 0 => cases ha; cases hb; exact .inl rfl
      | 1 => cases ha; cases hb; exact .inr (.inr (.inr rfl))
      | k + 2 => simp at ha)
    have S7 := S6.reply (.cells [.int .i64 0, .int .i64 0, .int .u64 0, .vs [] .full]) (some (.cells [.int .i64 i, .int .i64 0, .int .u64 i, .vs (BS d) tl]))
    simp (decide := true) only [st, c8_21, r74, r7, r11, hrp]
    refine execC_by hst ?_
    simp (decide := true) only [st, c8_22, r10, r11]
    have g7 := cellsOf_of (S7.sub _ _ hl6)
    generalize hH7 : (H6.at H6.next (Blk.cells [.int .i64 0, .int .i64 0, .int .u64 0, .vs [] .full])).set H6.next (some (.cells [.int .i64 i, .int .i64 0, .int .u64 i, .vs (BS d) tl])) = H7 at S7 g7 ⊢
    have g8 : cellsOf H7 H6.next = some [.int .i64 i, .int .i64 0, .int .u64 i, .vs (BS d) tl] := cellsOf_of (by rw [← hH7]; simp [AHeap.set])
    have hwu : IntKind.wrap .u64 (i : Int) = i := wrapU (by omega)
    have s3 : abin false .neq (.str ⟨[0, 0, 0].toArray⟩) (.str ⟨⟨[0, 0, 0]⟩⟩) = some (.bool false) := by rw [abin_strn (l := [0, 0, 0]) (m := [0, 0, 0])]; rfl
    have s2 : abin false .neq (.str ⟨[2, 0].toArray⟩) (.str ⟨⟨[2, 0]⟩⟩) = some (.bool false) := by rw [abin_strn (l := [2, 0]) (m := [2, 0])]; rfl
    cases b with
    | true =>
      simp only [if_true] at hd
      subst hd
      simp (decide := true) only [st, c8_23, c8_24, r10, r11, g7, hb, hi0, hi', hi2, Int.toNat_natCast, Nat.zero_add]
      simp (decide := true) only [st, c8_25, c8_27, r11, g8, BS_head, BS_bytes, Option.bind_some, Option.map_some, s3, hwu, hwi]
      exact hK _ _ ⟨by simp (decide := true) only [st, r0], by simp (decide := true) only [st, r1], by simp (decide := true) only [st, r2], by simp (decide := true) only [st, r7], by simp (decide := true) only [st, r10], by simp (decide := true) only [st]⟩ S7
    | false =>
      simp only [Bool.false_eq_true, if_false] at hd
      subst hd
      simp (decide := true) only [st, c8_23, c8_24, r10, r11, g7, hb, hi0, hi', hi2, Int.toNat_natCast, Nat.zero_add]
      simp (decide := true) only [st, c8_25, c8_27, r11, g8, BS_head, BS_bytes, Option.bind_some, Option.map_some, s2, hwu, hwi]
      exact hK _ _ ⟨by simp (decide := true) only [st, r0], by simp (decide := true) only [st, r1], by simp (decide := true) only [st, r2], by simp (decide := true) only [st, r7], by simp (decide := true) only [st, r10], by simp (decide := true) only [st]⟩ S7

def mtEnd : RCode := .seq (.seq (.reg c8_15) (.cond (Am.t 53) (.seq (.reg c8_16) .ret) .skip)) (.seq (.seq (.reg c8_17) (.block 0 (.loop mtBody))) (.seq (.reg c8_28) .ret))

theorem mt_loop (ok : TblOK P tb) {t : Int} {fault ahead : Bool} {lb : Nat} {lc : List AV} {b0 b1 : Bool} {d0 d1 : List UInt8} {t0 t1 : Tail} {es6 es7 : List (Nat × Blk)} {nx6 nx7 nx6' nx7' : Nat} {ρ : Env}
    (r0 : ρ 0 = .int .i64 t) (r1 : ρ 1 = .bool fault) (r2 : ρ 2 = .bool ahead) (r7 : ρ 7 = .ptr 263 0) (r10 : ρ 10 = .rs lb 0 2 12) (S : MTS tg es m H)
    (hl5 : lkp es lb = some (.cells lc)) (hl6 : lkp es6 lb = some (.cells lc)) (hl7 : lkp es7 lb = some (.cells lc)) (hb0 : lc[11]? = some (.bool b0)) (hb1 : lc[23]? = some (.bool b1))
    (h0 : b0 = (decide ((0 : Int) = t) && !ahead && !fault)) (h1 : b1 = (decide ((1 : Int) = t) && !ahead && !fault))
    (hd0 : d0 = if b0 then [0, 0, 0] else [2, 0]) (hd1 : d1 = if b1 then [0, 0, 0] else [2, 0])
    (J6 : JJ P 23 [.ptr 263 0, .agg [.int .i64 1, .int .i64 0, .vs (BS [12]) .unk]] es nx6 (.tup [.agg [.int .i64 0, .int .i64 0, .int .u64 0, .vs (BS d0) t0], .bool true]) es6 nx6') (hm6 : m ≤ nx6) (hf6 : fine es6 nx6' = true) (hx6 : m ≤ nx6')
    (J7 : JJ P 23 [.ptr 263 0, .agg [.int .i64 1, .int .i64 1, .vs (BS [12]) .unk]] es6 nx7 (.tup [.agg [.int .i64 1, .int .i64 0, .int .u64 1, .vs (BS d1) t1], .bool true]) es7 nx7') (hm7 : nx6' + 1 ≤ nx7) (hf7 : fine es7 nx7' = true) (hx7 : nx6' + 1 ≤ nx7') :
    WP P mtEnd (lawK [.tmp 6]) ρ H := by
  unfold mtEnd
  simp (decide := true) only [st, c8_15, c8_17, r10]
  let I : Nat → Env → AHeap → Prop := fun n ρ' H' => (n = 2 ∧ MTR t fault ahead lb 0 ρ' ∧ MTS tg es m H') ∨ (n = 1 ∧ MTR t fault ahead lb 1 ρ' ∧ MTS tg es6 (nx6' + 1) H') ∨ (n = 0 ∧ MTR t fault ahead lb 2 ρ' ∧ MTS tg es7 (nx7' + 1) H')
  refine wp_loop_n I ?_ 2 (.inl ⟨rfl, ⟨by simp (decide := true) only [st, r0], by simp (decide := true) only [st, r1], by simp (decide := true) only [st, r2], by simp (decide := true) only [st, r7], by simp (decide := true) only [st, r10], by simp (decide := true) only [st]⟩, S⟩)
  rintro n ρ' H' (⟨rfl, R, S'⟩ | ⟨rfl, R, S'⟩ | ⟨rfl, R, S'⟩)
  · exact mt_round ok (i := 0) (by omega) R S' hl5 hl6 hb0 h0 hd0 J6 hm6 hf6 hx6 (fun ρ2 H2 R2 S2 => ⟨1, by omega, .inr (.inl ⟨rfl, R2, S2⟩)⟩)
  · exact mt_round ok (i := 1) (by omega) R S' hl6 hl7 hb1 h1 hd1 J7 hm7 hf7 hx7 (fun ρ2 H2 R2 S2 => ⟨0, by omega, .inr (.inr ⟨rfl, R2, S2⟩)⟩)
  · have hno : ¬ ((2 : Nat) : Int) < 2 := by omega
    unfold mtBody
    simp (decide := true) only [st, c8_18, c8_28, R.r11, hno, lawK_ret]

end Go.Proofs.YtjkllffbjeajhaaGreat.Am

namespace Go.Proofs.YtjkllffbjeajhaaGreat.Am
open Go
variable {P : Program}

def mtTag (t : Int) : List AV := [.int .i64 4, .int .i64 t, .vs [] .full]
def mtRep : AV := .tup [.agg [.int .i64 0, .int .i64 0, .int .u64 0, .vs [] .full], .bool false]
def mtCfg : AV := .agg [.int .i64 40, .int .i64 1000, .vs [[.int .u8 2, .vs [] .unk], [.int .u8 2, .vs [] .unk]] .unk]

theorem step_any {h h' : AHeap} {r : AV} {f : Nat} {t : Int} (hc : ACalls P f [.ptr 263 0, .agg [.int .i64 4, .any1, .vs [] .unk]] h r h') : ACalls P f [.ptr 263 0, .agg (mtTag t)] h r h' :=
  hc.weakV rfl (fun i a b ha hb ι I w v hv => by
    match i with
    | 0 => cases ha; cases hb; exact hv
    | 1 =>
      cases ha; cases hb
      refine VR.agg_imp (m := mtTag t) (l := [.int .i64 4, .any1, .vs [] .unk]) rfl (fun j a b ha hb v hv => ?_) hv
      match j with
      | 0 => cases ha; cases hb; exact hv
      | 1 => cases ha; cases hb; exact hv.any1_of rfl
      | 2 => cases ha; cases hb; exact hv.strip
      | j + 3 => simp at ha
    | i + 2 => simp at ha)
theorem step_full {h h' : AHeap} {r : AV} {f : Nat} {k t : Int} (hc : ACalls P f [.ptr 263 0, .agg [.int .i64 k, .int .i64 t, .vs [] .unk]] h r h') : ACalls P f [.ptr 263 0, .agg [.int .i64 k, .int .i64 t, .vs [] .full]] h r h' :=
  hc.weak rfl (fun i a b ha hb => by
    match i with
    | 0 => cases ha; cases hb; exact .inl rfl
    | 1 => cases ha; cases hb; exact .inr (.inr (.inr rfl))
    | i + 2 => simp at ha)

/-- The head: the machine is made, the tag is laid out. -/
theorem mt_head (ok : TblOK P tb) (begun : ∀ h, ACalls P 13 [] h (.bool true) h) {t : Int} {fault ahead : Bool} {es : List (Nat × Blk)} (J : JJ P 22 [mtCfg] [] 100 (.tup [.ptr 263 0, .int .i64 0]) es 266) (hf : fine es 266 = true)
    {K : AExit → Env → AHeap → Prop} {rest : RCode}
    (hK : ∀ ρ H, ρ 0 = .int .i64 t → ρ 1 = .bool fault → ρ 2 = .bool ahead → ρ 7 = .ptr 263 0 → ρ 9 = .ptr 266 0 → MTS (mtTag t) es 267 H → WP P rest K ρ H) (hret : ∀ ρ H, False → K .ret ρ H) :
    WP P (.seq (.reg c8_0) (.seq (.seq (.reg c8_1) (.cond (Am.t 16) (.seq (.reg c8_2) .ret) .skip)) (.seq (.reg c8_3) (.seq (.seq (.reg c8_4) (.cond (Am.t 30) (.seq (.reg c8_5) .ret) .skip)) (.seq (.reg c8_6) rest))))) K (args0 [.int .i64 t, .bool fault, .bool ahead]) AHeap.empty := by
  obtain ⟨h', k1, k2, k3, k4⟩ := J
  have g1 := k1.sub (h := AHeap.empty) (fun b x hx => by cases hx) (Nat.zero_le _)
  have g2 : ACalls P 22 [.agg [.int .i64 40, .int .i64 1000, .vs [[.int .u8 2, .vs [] .full], [.int .u8 2, .vs [] .full]] .full]] AHeap.empty _ _ := g1.weak (args' := [.agg [.int .i64 40, .int .i64 1000, .vs [[.int .u8 2, .vs [] .full], [.int .u8 2, .vs [] .full]] .full]]) rfl (fun i a b ha hb => by
    match i with
    | 0 => cases ha; cases hb; exact .inr (.inr (.inr rfl))
    | i + 1 => simp at ha)
  have hrp : ∀ z w : List AV, (List.replicate 2 z).set 0 w = [w, z] := fun _ _ => rfl
  have hrp2 : ∀ z w v : List AV, [w, z].set 1 v = [w, v] := fun _ _ _ => rfl
  have hnx : (joinH (heapOf [] 100) AHeap.empty h').next = 266 := k2
  simp (decide := true) only [st, c8_0, c8_1]
  refine execC_by (begun _) ?_
  simp (decide := true) only [st, c8_3, hrp, hrp2, List.length_cons, List.length_nil]
  refine execC_by g2 ?_
  simp (decide := true) only [st, c8_4, c8_6, hnx]
  refine hK _ _ (by simp (decide := true) only [st]) (by simp (decide := true) only [st]) (by simp (decide := true) only [st]) (by simp (decide := true) only [st]) (by simp (decide := true) only [st]) ?_
  have hlt : ∀ b x, lkp es b = some x → ¬ b = 266 := fun b x hb => (fine_lt hf hb).2
  exact { sub := fun b x hb => by simp [AHeap.set, AHeap.at, hlt b x hb, joinH_of (k3 b x hb)], fin := fine_mono hf (by omega), tag := by simp [AHeap.set, AHeap.at, mtTag], tlt := by omega, next := by simp [AHeap.set, AHeap.at, hnx] }

end Go.Proofs.YtjkllffbjeajhaaGreat.Am

namespace Go.Proofs.YtjkllffbjeajhaaGreat.Am
open Go
variable {P : Program}

def mtA (k : Int) (t : AV) : List AV := [.ptr 263 0, .agg [.int .i64 k, t, .vs [] .unk]]

theorem tries_no (ok : TblOK P tb) {H : AHeap} {k0 k1 k2 k3 k4 k5 k6 k8 : AV} (hm : H.get 263 = some (.cells [k0, k1, k2, k3, k4, k5, k6, .bool false, k8])) : ACalls P 43 [.ptr 263 0] H (.tup []) H := by
  refine ok.calls (rf := c43) rfl (Nat.le_of_ble_eq_true rfl) ?_
  have hc := cellsOf_of hm
  simp (decide := true) only [st, c43, c43_0, hc]

/-- A tag of a thread that is none turns nothing. -/
theorem tag_other (ok : TblOK P tb) {t : Int} {H : AHeap} {k0 k2 k4 k5 k6 k8 : AV} {nb : Nat} (hn : t < 0 ∨ 2 ≤ t) (hm : H.get 263 = some (.cells [k0, .ptr nb 0, k2, .rs 259 0 2 1, k4, k5, k6, .bool false, k8])) (hlt : 263 < H.next) :
    ACalls P 23 [.ptr 263 0, .agg (mtTag t)] H mtRep H := by
  refine ok.keeps (rf := c23) rfl (Nat.le_of_ble_eq_true rfl) rfl ?_
  have hne : ¬ 263 = H.next := by omega
  have hne1 : ¬ 263 = H.next + 1 := by omega
  have e1 : ¬ H.next = H.next + 1 := by omega
  have hc := cellsOf_of hm
  unfold mtTag mtRep
  simp (decide := true) only [st, c23, c23_0, c23_1, c23_2, c23_3, c23_4, c23_5, c23_6, c23_7, c23_8, c23_9, c23_10, c23_11, hne, hne1, hc, e1]
  have x1 : ((H.at H.next (Blk.cells [.int .i64 4, .int .i64 t, .vs [] .full])).at (H.next + 1) (Blk.cells [.int .i64 0, .int .i64 0, .int .u64 0, .vs [] .full])).next = H.next + 2 := by simp [AHeap.at]
  have x2 : ((H.at H.next (Blk.cells [.int .i64 4, .int .i64 t, .vs [] .full])).at (H.next + 1) (Blk.cells [.int .i64 0, .int .i64 0, .int .u64 0, .vs [] .full])).get 263 = H.get 263 := by simp [AHeap.at, hne, hne1]
  have x3 : ((H.at H.next (Blk.cells [.int .i64 4, .int .i64 t, .vs [] .full])).at (H.next + 1) (Blk.cells [.int .i64 0, .int .i64 0, .int .u64 0, .vs [] .full])).get H.next = some (.cells [.int .i64 4, .int .i64 t, .vs [] .full]) := by simp [AHeap.at]
  have x4 : ((H.at H.next (Blk.cells [.int .i64 4, .int .i64 t, .vs [] .full])).at (H.next + 1) (Blk.cells [.int .i64 0, .int .i64 0, .int .u64 0, .vs [] .full])).get (H.next + 1) = some (.cells [.int .i64 0, .int .i64 0, .int .u64 0, .vs [] .full]) := by simp [AHeap.at]
  have x5 : Old H ((H.at H.next (Blk.cells [.int .i64 4, .int .i64 t, .vs [] .full])).at (H.next + 1) (Blk.cells [.int .i64 0, .int .i64 0, .int .u64 0, .vs [] .full])) := ((Old.refl H).at (Nat.le_refl _)).at (by omega)
  generalize ((H.at H.next (Blk.cells [.int .i64 4, .int .i64 t, .vs [] .full])).at (H.next + 1) (Blk.cells [.int .i64 0, .int .i64 0, .int .u64 0, .vs [] .full])) = X at x1 x2 x3 x4 x5 ⊢
  refine WP_regD0n 20 rfl rfl ?_
  have y2 : (X.clean 20).get 263 = H.get 263 := by simp only [AHeap.clean]; rw [if_pos (by omega), x2]
  have y3 := cellsOf_of (show (X.clean 20).get H.next = some (.cells [.int .i64 4, .int .i64 t, .vs [] .full]) by simp only [AHeap.clean]; rw [if_pos (by omega), x3])
  have y4 := cellsOf_of (show (X.clean 20).get (H.next + 1) = some (.cells [.int .i64 0, .int .i64 0, .int .u64 0, .vs [] .full]) by simp only [AHeap.clean]; rw [if_pos (by omega), x4])
  have y1 := cellsOf_of (y2.trans hm)
  have tr := tries_no ok (y2.trans hm)
  have old := x5.clean (n := 20)
  generalize X.clean 20 = Y at y1 y2 y3 y4 tr old ⊢
  by_cases h0 : 0 ≤ t
  · have h2 : ¬ t < ((2 : Nat) : Int) := by omega
    simp (decide := true) only [st, c23_12, c23_14, y1, y3, h0, h2]
    refine execC_by tr ?_
    simp (decide := true) only [st, c23_15, y4]
    exact fun b hb => by simp [show ¬ b = H.next + 1 by omega, old.get b hb]
  · simp (decide := true) only [st, c23_12, c23_14, y1, y3, h0]
    refine execC_by tr ?_
    simp (decide := true) only [st, c23_15, y4]
    exact fun b hb => by simp [show ¬ b = H.next + 1 by omega, old.get b hb]

theorem mt_a (ok : TblOK P tb) (begun : ∀ h, ACalls P 13 [] h (.bool true) h) {t : Int} {e0 e1 e3 e5 e6 e7 : List (Nat × Blk)} {n1 m1 n3 m3 n5 m5 n6 m6 n7 m7 lb : Nat} {lc : List AV} {b0 b1 : Bool} {d0 d1 : List UInt8} {t0 t1 : Tail}
    (J0 : JJ P 22 [mtCfg] [] 100 (.tup [.ptr 263 0, .int .i64 0]) e0 266) (f0 : fine e0 266 = true)
    (J1 : JJ P 23 (mtA 4 .any1) e0 n1 mtRep e1 m1) (f1 : fine e1 m1 = true)
    (J3 : JJ P 23 (mtA 2 (.int .i64 0)) e1 n3 mtRep e3 m3) (f3 : fine e3 m3 = true)
    (J5 : JJ P 24 [.ptr 263 0] e3 n5 (.rs lb 0 2 12) e5 m5) (f5 : fine e5 m5 = true)
    (hl5 : lkp e5 lb = some (.cells lc)) (hl6 : lkp e6 lb = some (.cells lc)) (hl7 : lkp e7 lb = some (.cells lc)) (hb0 : lc[11]? = some (.bool b0)) (hb1 : lc[23]? = some (.bool b1))
    (h0 : b0 = (decide ((0 : Int) = t) && !true && !false)) (h1 : b1 = (decide ((1 : Int) = t) && !true && !false)) (hd0 : d0 = if b0 then [0, 0, 0] else [2, 0]) (hd1 : d1 = if b1 then [0, 0, 0] else [2, 0])
    (J6 : JJ P 23 [.ptr 263 0, .agg [.int .i64 1, .int .i64 0, .vs (BS [12]) .unk]] e5 n6 (.tup [.agg [.int .i64 0, .int .i64 0, .int .u64 0, .vs (BS d0) t0], .bool true]) e6 m6) (f6 : fine e6 m6 = true)
    (J7 : JJ P 23 [.ptr 263 0, .agg [.int .i64 1, .int .i64 1, .vs (BS [12]) .unk]] e6 n7 (.tup [.agg [.int .i64 1, .int .i64 0, .int .u64 1, .vs (BS d1) t1], .bool true]) e7 m7) (f7 : fine e7 m7 = true)
    (hc : 267 ≤ n1 ∧ 267 ≤ m1 ∧ m1 ≤ n3 ∧ m1 ≤ m3 ∧ m3 ≤ n5 ∧ m3 ≤ m5 ∧ m5 ≤ n6 ∧ m5 ≤ m6 ∧ m6 + 1 ≤ n7 ∧ m6 + 1 ≤ m7) :
    WP P c8.code (lawK c8.results) (args0 [.int .i64 t, .bool false, .bool true]) AHeap.empty := by
  obtain ⟨q0, q1, q2, q3, q4, q5, q6, q7, q8, q9⟩ := hc
  refine mt_head ok begun (fault := false) (ahead := true) J0 f0 ?_ (fun _ _ h => h.elim)
  intro ρ H r0 r1 r2 r7 r9 S0
  have tg := cellsOf_of S0.tag
  obtain ⟨H1, k1, S1⟩ := S0.call J1 q0 f1 q1
  simp (decide := true) only [st, c8_7, c8_8, r0, r1, r2, r7, r9, tg, mtTag]
  refine execC_by (step_any k1) ?_
  have tg := cellsOf_of S1.tag
  obtain ⟨H2, k2, S2⟩ := S1.call J3 q2 f3 q3
  simp (decide := true) only [st, c8_9, c8_11, r0, r1, r2, r7, r9, tg, mtTag]
  refine execC_by (step_full k2) ?_
  have tg := cellsOf_of S2.tag
  obtain ⟨H3, k3, S3⟩ := S2.call J5 q4 f5 q5
  simp (decide := true) only [st, c8_12, c8_14, r0, r1, r2, r7, r9, tg, mtTag]
  refine execC_by k3 ?_
  have tg := cellsOf_of S3.tag
  refine exec_cut (fun ρ' => ρ' 0 = .int .i64 t ∧ ρ' 1 = .bool false ∧ ρ' 2 = .bool true ∧ ρ' 7 = .ptr 263 0 ∧ ρ' 10 = .rs lb 0 2 12) ?_ ?_
  · simp (decide := true) only [st, r0, r1, r2, r7]
  · rintro ρ' ⟨r0, r1, r2, r7, r10⟩
    exact mt_loop ok r0 r1 r2 r7 r10 S3 hl5 hl6 hl7 hb0 hb1 h0 h1 hd0 hd1 J6 q6 f6 q7 J7 q8 f7 q9

theorem mt_b (ok : TblOK P tb) (begun : ∀ h, ACalls P 13 [] h (.bool true) h) {t : Int} {e0 e1 e2 e3 e5 e6 e7 : List (Nat × Blk)} {n1 m1 n2 m2 n3 m3 n5 m5 n6 m6 n7 m7 lb : Nat} {lc : List AV} {b0 b1 : Bool} {d0 d1 : List UInt8} {t0 t1 : Tail}
    (J0 : JJ P 22 [mtCfg] [] 100 (.tup [.ptr 263 0, .int .i64 0]) e0 266) (f0 : fine e0 266 = true)
    (J1 : JJ P 23 (mtA 4 .any1) e0 n1 mtRep e1 m1) (f1 : fine e1 m1 = true)
    (J2 : JJ P 23 (mtA 3 (.int .i64 0)) e1 n2 mtRep e2 m2) (f2 : fine e2 m2 = true)
    (J3 : JJ P 23 (mtA 2 (.int .i64 0)) e2 n3 mtRep e3 m3) (f3 : fine e3 m3 = true)
    (J5 : JJ P 24 [.ptr 263 0] e3 n5 (.rs lb 0 2 12) e5 m5) (f5 : fine e5 m5 = true)
    (hl5 : lkp e5 lb = some (.cells lc)) (hl6 : lkp e6 lb = some (.cells lc)) (hl7 : lkp e7 lb = some (.cells lc)) (hb0 : lc[11]? = some (.bool b0)) (hb1 : lc[23]? = some (.bool b1))
    (h0 : b0 = (decide ((0 : Int) = t) && !true && !true)) (h1 : b1 = (decide ((1 : Int) = t) && !true && !true)) (hd0 : d0 = if b0 then [0, 0, 0] else [2, 0]) (hd1 : d1 = if b1 then [0, 0, 0] else [2, 0])
    (J6 : JJ P 23 [.ptr 263 0, .agg [.int .i64 1, .int .i64 0, .vs (BS [12]) .unk]] e5 n6 (.tup [.agg [.int .i64 0, .int .i64 0, .int .u64 0, .vs (BS d0) t0], .bool true]) e6 m6) (f6 : fine e6 m6 = true)
    (J7 : JJ P 23 [.ptr 263 0, .agg [.int .i64 1, .int .i64 1, .vs (BS [12]) .unk]] e6 n7 (.tup [.agg [.int .i64 1, .int .i64 0, .int .u64 1, .vs (BS d1) t1], .bool true]) e7 m7) (f7 : fine e7 m7 = true)
    (hc : 267 ≤ n1 ∧ 267 ≤ m1 ∧ m1 ≤ n2 ∧ m1 ≤ m2 ∧ m2 ≤ n3 ∧ m2 ≤ m3 ∧ m3 ≤ n5 ∧ m3 ≤ m5 ∧ m5 ≤ n6 ∧ m5 ≤ m6 ∧ m6 + 1 ≤ n7 ∧ m6 + 1 ≤ m7) :
    WP P c8.code (lawK c8.results) (args0 [.int .i64 t, .bool true, .bool true]) AHeap.empty := by
  obtain ⟨q0, q1, q2, q3, q4, q5, q6, q7, q8, q9, q10, q11⟩ := hc
  refine mt_head ok begun (fault := true) (ahead := true) J0 f0 ?_ (fun _ _ h => h.elim)
  intro ρ H r0 r1 r2 r7 r9 S0
  have tg := cellsOf_of S0.tag
  obtain ⟨H1, k1, S1⟩ := S0.call J1 q0 f1 q1
  simp (decide := true) only [st, c8_7, c8_8, r0, r1, r2, r7, r9, tg, mtTag]
  refine execC_by (step_any k1) ?_
  have tg := cellsOf_of S1.tag
  obtain ⟨H2, k2, S2⟩ := S1.call J2 q2 f2 q3
  simp (decide := true) only [st, c8_9, c8_10, r0, r1, r2, r7, r9, tg, mtTag]
  refine execC_by (step_full k2) ?_
  have tg := cellsOf_of S2.tag
  obtain ⟨H3, k3, S3⟩ := S2.call J3 q4 f3 q5
  simp (decide := true) only [st, c8_11, r0, r1, r2, r7, r9, tg, mtTag]
  refine execC_by (step_full k3) ?_
  have tg := cellsOf_of S3.tag
  obtain ⟨H4, k4, S4⟩ := S3.call J5 q6 f5 q7
  simp (decide := true) only [st, c8_12, c8_14, r0, r1, r2, r7, r9, tg, mtTag]
  refine execC_by k4 ?_
  have tg := cellsOf_of S4.tag
  refine exec_cut (fun ρ' => ρ' 0 = .int .i64 t ∧ ρ' 1 = .bool true ∧ ρ' 2 = .bool true ∧ ρ' 7 = .ptr 263 0 ∧ ρ' 10 = .rs lb 0 2 12) ?_ ?_
  · simp (decide := true) only [st, r0, r1, r2, r7]
  · rintro ρ' ⟨r0, r1, r2, r7, r10⟩
    exact mt_loop ok r0 r1 r2 r7 r10 S4 hl5 hl6 hl7 hb0 hb1 h0 h1 hd0 hd1 J6 q8 f6 q9 J7 q10 f7 q11

theorem mt_c (ok : TblOK P tb) (begun : ∀ h, ACalls P 13 [] h (.bool true) h) {t : Int} {e0 e2 e3 e4 e5 e6 e7 : List (Nat × Blk)} {n2 m2 n3 m3 n4 m4 n5 m5 n6 m6 n7 m7 lb : Nat} {lc : List AV} {b0 b1 : Bool} {d0 d1 : List UInt8} {t0 t1 : Tail}
    (J0 : JJ P 22 [mtCfg] [] 100 (.tup [.ptr 263 0, .int .i64 0]) e0 266) (f0 : fine e0 266 = true)
    (J2 : JJ P 23 (mtA 3 (.int .i64 0)) e0 n2 mtRep e2 m2) (f2 : fine e2 m2 = true)
    (J3 : JJ P 23 (mtA 2 (.int .i64 0)) e2 n3 mtRep e3 m3) (f3 : fine e3 m3 = true)
    (J4 : JJ P 23 (mtA 4 .any1) e3 n4 mtRep e4 m4) (f4 : fine e4 m4 = true)
    (J5 : JJ P 24 [.ptr 263 0] e4 n5 (.rs lb 0 2 12) e5 m5) (f5 : fine e5 m5 = true)
    (hl5 : lkp e5 lb = some (.cells lc)) (hl6 : lkp e6 lb = some (.cells lc)) (hl7 : lkp e7 lb = some (.cells lc)) (hb0 : lc[11]? = some (.bool b0)) (hb1 : lc[23]? = some (.bool b1))
    (h0 : b0 = (decide ((0 : Int) = t) && !false && !true)) (h1 : b1 = (decide ((1 : Int) = t) && !false && !true)) (hd0 : d0 = if b0 then [0, 0, 0] else [2, 0]) (hd1 : d1 = if b1 then [0, 0, 0] else [2, 0])
    (J6 : JJ P 23 [.ptr 263 0, .agg [.int .i64 1, .int .i64 0, .vs (BS [12]) .unk]] e5 n6 (.tup [.agg [.int .i64 0, .int .i64 0, .int .u64 0, .vs (BS d0) t0], .bool true]) e6 m6) (f6 : fine e6 m6 = true)
    (J7 : JJ P 23 [.ptr 263 0, .agg [.int .i64 1, .int .i64 1, .vs (BS [12]) .unk]] e6 n7 (.tup [.agg [.int .i64 1, .int .i64 0, .int .u64 1, .vs (BS d1) t1], .bool true]) e7 m7) (f7 : fine e7 m7 = true)
    (hc : 267 ≤ n2 ∧ 267 ≤ m2 ∧ m2 ≤ n3 ∧ m2 ≤ m3 ∧ m3 ≤ n4 ∧ m3 ≤ m4 ∧ m4 ≤ n5 ∧ m4 ≤ m5 ∧ m5 ≤ n6 ∧ m5 ≤ m6 ∧ m6 + 1 ≤ n7 ∧ m6 + 1 ≤ m7) :
    WP P c8.code (lawK c8.results) (args0 [.int .i64 t, .bool true, .bool false]) AHeap.empty := by
  obtain ⟨q0, q1, q2, q3, q4, q5, q6, q7, q8, q9, q10, q11⟩ := hc
  refine mt_head ok begun (fault := true) (ahead := false) J0 f0 ?_ (fun _ _ h => h.elim)
  intro ρ H r0 r1 r2 r7 r9 S0
  have tg := cellsOf_of S0.tag
  obtain ⟨H1, k1, S1⟩ := S0.call J2 q0 f2 q1
  simp (decide := true) only [st, c8_7, c8_9, c8_10, r0, r1, r2, r7, r9, tg, mtTag]
  refine execC_by (step_full k1) ?_
  have tg := cellsOf_of S1.tag
  obtain ⟨H2, k2, S2⟩ := S1.call J3 q2 f3 q3
  simp (decide := true) only [st, c8_11, r0, r1, r2, r7, r9, tg, mtTag]
  refine execC_by (step_full k2) ?_
  have tg := cellsOf_of S2.tag
  obtain ⟨H3, k3, S3⟩ := S2.call J4 q4 f4 q5
  simp (decide := true) only [st, c8_12, c8_13, r0, r1, r2, r7, r9, tg, mtTag]
  refine execC_by (step_any k3) ?_
  have tg := cellsOf_of S3.tag
  obtain ⟨H4, k4, S4⟩ := S3.call J5 q6 f5 q7
  simp (decide := true) only [st, c8_14, r0, r1, r2, r7, r9, tg, mtTag]
  refine execC_by k4 ?_
  have tg := cellsOf_of S4.tag
  refine exec_cut (fun ρ' => ρ' 0 = .int .i64 t ∧ ρ' 1 = .bool true ∧ ρ' 2 = .bool false ∧ ρ' 7 = .ptr 263 0 ∧ ρ' 10 = .rs lb 0 2 12) ?_ ?_
  · simp (decide := true) only [st, r0, r1, r2, r7]
  · rintro ρ' ⟨r0, r1, r2, r7, r10⟩
    exact mt_loop ok r0 r1 r2 r7 r10 S4 hl5 hl6 hl7 hb0 hb1 h0 h1 hd0 hd1 J6 q8 f6 q9 J7 q10 f7 q11

theorem mt_d (ok : TblOK P tb) (begun : ∀ h, ACalls P 13 [] h (.bool true) h) {t : Int} {e0 e3 e4 e5 e6 e7 : List (Nat × Blk)} {n3 m3 n4 m4 n5 m5 n6 m6 n7 m7 lb : Nat} {lc : List AV} {b0 b1 : Bool} {d0 d1 : List UInt8} {t0 t1 : Tail}
    (J0 : JJ P 22 [mtCfg] [] 100 (.tup [.ptr 263 0, .int .i64 0]) e0 266) (f0 : fine e0 266 = true)
    (J3 : JJ P 23 (mtA 2 (.int .i64 0)) e0 n3 mtRep e3 m3) (f3 : fine e3 m3 = true)
    (J4 : JJ P 23 (mtA 4 (.int .i64 0)) e3 n4 mtRep e4 m4) (f4 : fine e4 m4 = true)
    (J5 : JJ P 24 [.ptr 263 0] e4 n5 (.rs lb 0 2 12) e5 m5) (f5 : fine e5 m5 = true)
    (hl5 : lkp e5 lb = some (.cells lc)) (hl6 : lkp e6 lb = some (.cells lc)) (hl7 : lkp e7 lb = some (.cells lc)) (hb0 : lc[11]? = some (.bool b0)) (hb1 : lc[23]? = some (.bool b1))
    (h0 : b0 = (decide ((0 : Int) = 0) && !false && !false)) (h1 : b1 = (decide ((1 : Int) = 0) && !false && !false)) (hd0 : d0 = if b0 then [0, 0, 0] else [2, 0]) (hd1 : d1 = if b1 then [0, 0, 0] else [2, 0])
    (J6 : JJ P 23 [.ptr 263 0, .agg [.int .i64 1, .int .i64 0, .vs (BS [12]) .unk]] e5 n6 (.tup [.agg [.int .i64 0, .int .i64 0, .int .u64 0, .vs (BS d0) t0], .bool true]) e6 m6) (f6 : fine e6 m6 = true)
    (J7 : JJ P 23 [.ptr 263 0, .agg [.int .i64 1, .int .i64 1, .vs (BS [12]) .unk]] e6 n7 (.tup [.agg [.int .i64 1, .int .i64 0, .int .u64 1, .vs (BS d1) t1], .bool true]) e7 m7) (f7 : fine e7 m7 = true)
    (hc : 267 ≤ n3 ∧ 267 ≤ m3 ∧ m3 ≤ n4 ∧ m3 ≤ m4 ∧ m4 ≤ n5 ∧ m4 ≤ m5 ∧ m5 ≤ n6 ∧ m5 ≤ m6 ∧ m6 + 1 ≤ n7 ∧ m6 + 1 ≤ m7) :
    WP P c8.code (lawK c8.results) (args0 [.int .i64 0, .bool false, .bool false]) AHeap.empty := by
  obtain ⟨q0, q1, q2, q3, q4, q5, q6, q7, q8, q9⟩ := hc
  refine mt_head ok begun (fault := false) (ahead := false) J0 f0 ?_ (fun _ _ h => h.elim)
  intro ρ H r0 r1 r2 r7 r9 S0
  have tg := cellsOf_of S0.tag
  obtain ⟨H1, k1, S1⟩ := S0.call J3 q0 f3 q1
  simp (decide := true) only [st, c8_7, c8_9, c8_11, r0, r1, r2, r7, r9, tg, mtTag]
  refine execC_by (step_full k1) ?_
  have tg := cellsOf_of S1.tag
  obtain ⟨H2, k2, S2⟩ := S1.call J4 q2 f4 q3
  simp (decide := true) only [st, c8_12, c8_13, r0, r1, r2, r7, r9, tg, mtTag]
  refine execC_by (step_full k2) ?_
  have tg := cellsOf_of S2.tag
  obtain ⟨H3, k3, S3⟩ := S2.call J5 q4 f5 q5
  simp (decide := true) only [st, c8_14, r0, r1, r2, r7, r9, tg, mtTag]
  refine execC_by k3 ?_
  have tg := cellsOf_of S3.tag
  refine exec_cut (fun ρ' => ρ' 0 = .int .i64 0 ∧ ρ' 1 = .bool false ∧ ρ' 2 = .bool false ∧ ρ' 7 = .ptr 263 0 ∧ ρ' 10 = .rs lb 0 2 12) ?_ ?_
  · simp (decide := true) only [st, r0, r1, r2, r7]
  · rintro ρ' ⟨r0, r1, r2, r7, r10⟩
    exact mt_loop ok r0 r1 r2 r7 r10 S3 hl5 hl6 hl7 hb0 hb1 h0 h1 hd0 hd1 J6 q6 f6 q7 J7 q8 f7 q9

theorem mt_e (ok : TblOK P tb) (begun : ∀ h, ACalls P 13 [] h (.bool true) h) {t : Int} {e0 e3 e4 e5 e6 e7 : List (Nat × Blk)} {n3 m3 n4 m4 n5 m5 n6 m6 n7 m7 lb : Nat} {lc : List AV} {b0 b1 : Bool} {d0 d1 : List UInt8} {t0 t1 : Tail}
    (J0 : JJ P 22 [mtCfg] [] 100 (.tup [.ptr 263 0, .int .i64 0]) e0 266) (f0 : fine e0 266 = true)
    (J3 : JJ P 23 (mtA 2 (.int .i64 0)) e0 n3 mtRep e3 m3) (f3 : fine e3 m3 = true)
    (J4 : JJ P 23 (mtA 4 (.int .i64 1)) e3 n4 mtRep e4 m4) (f4 : fine e4 m4 = true)
    (J5 : JJ P 24 [.ptr 263 0] e4 n5 (.rs lb 0 2 12) e5 m5) (f5 : fine e5 m5 = true)
    (hl5 : lkp e5 lb = some (.cells lc)) (hl6 : lkp e6 lb = some (.cells lc)) (hl7 : lkp e7 lb = some (.cells lc)) (hb0 : lc[11]? = some (.bool b0)) (hb1 : lc[23]? = some (.bool b1))
    (h0 : b0 = (decide ((0 : Int) = 1) && !false && !false)) (h1 : b1 = (decide ((1 : Int) = 1) && !false && !false)) (hd0 : d0 = if b0 then [0, 0, 0] else [2, 0]) (hd1 : d1 = if b1 then [0, 0, 0] else [2, 0])
    (J6 : JJ P 23 [.ptr 263 0, .agg [.int .i64 1, .int .i64 0, .vs (BS [12]) .unk]] e5 n6 (.tup [.agg [.int .i64 0, .int .i64 0, .int .u64 0, .vs (BS d0) t0], .bool true]) e6 m6) (f6 : fine e6 m6 = true)
    (J7 : JJ P 23 [.ptr 263 0, .agg [.int .i64 1, .int .i64 1, .vs (BS [12]) .unk]] e6 n7 (.tup [.agg [.int .i64 1, .int .i64 0, .int .u64 1, .vs (BS d1) t1], .bool true]) e7 m7) (f7 : fine e7 m7 = true)
    (hc : 267 ≤ n3 ∧ 267 ≤ m3 ∧ m3 ≤ n4 ∧ m3 ≤ m4 ∧ m4 ≤ n5 ∧ m4 ≤ m5 ∧ m5 ≤ n6 ∧ m5 ≤ m6 ∧ m6 + 1 ≤ n7 ∧ m6 + 1 ≤ m7) :
    WP P c8.code (lawK c8.results) (args0 [.int .i64 1, .bool false, .bool false]) AHeap.empty := by
  obtain ⟨q0, q1, q2, q3, q4, q5, q6, q7, q8, q9⟩ := hc
  refine mt_head ok begun (fault := false) (ahead := false) J0 f0 ?_ (fun _ _ h => h.elim)
  intro ρ H r0 r1 r2 r7 r9 S0
  have tg := cellsOf_of S0.tag
  obtain ⟨H1, k1, S1⟩ := S0.call J3 q0 f3 q1
  simp (decide := true) only [st, c8_7, c8_9, c8_11, r0, r1, r2, r7, r9, tg, mtTag]
  refine execC_by (step_full k1) ?_
  have tg := cellsOf_of S1.tag
  obtain ⟨H2, k2, S2⟩ := S1.call J4 q2 f4 q3
  simp (decide := true) only [st, c8_12, c8_13, r0, r1, r2, r7, r9, tg, mtTag]
  refine execC_by (step_full k2) ?_
  have tg := cellsOf_of S2.tag
  obtain ⟨H3, k3, S3⟩ := S2.call J5 q4 f5 q5
  simp (decide := true) only [st, c8_14, r0, r1, r2, r7, r9, tg, mtTag]
  refine execC_by k3 ?_
  have tg := cellsOf_of S3.tag
  refine exec_cut (fun ρ' => ρ' 0 = .int .i64 1 ∧ ρ' 1 = .bool false ∧ ρ' 2 = .bool false ∧ ρ' 7 = .ptr 263 0 ∧ ρ' 10 = .rs lb 0 2 12) ?_ ?_
  · simp (decide := true) only [st, r0, r1, r2, r7]
  · rintro ρ' ⟨r0, r1, r2, r7, r10⟩
    exact mt_loop ok r0 r1 r2 r7 r10 S3 hl5 hl6 hl7 hb0 hb1 h0 h1 hd0 hd1 J6 q6 f6 q7 J7 q8 f7 q9

theorem mt_f (ok : TblOK P tb) (begun : ∀ h, ACalls P 13 [] h (.bool true) h) {t : Int} {e0 e3 e5 e6 e7 : List (Nat × Blk)} {n3 m3 n5 m5 n6 m6 n7 m7 lb : Nat} {lc : List AV} {b0 b1 : Bool} {d0 d1 : List UInt8} {t0 t1 : Tail}
    (ho : t < 0 ∨ 2 ≤ t) {k0 k2 k4 k5 k6 k8 : AV} {nb : Nat} (hm3 : lkp e3 263 = some (.cells [k0, .ptr nb 0, k2, .rs 259 0 2 1, k4, k5, k6, .bool false, k8]))
    (J0 : JJ P 22 [mtCfg] [] 100 (.tup [.ptr 263 0, .int .i64 0]) e0 266) (f0 : fine e0 266 = true)
    (J3 : JJ P 23 (mtA 2 (.int .i64 0)) e0 n3 mtRep e3 m3) (f3 : fine e3 m3 = true)
    (J5 : JJ P 24 [.ptr 263 0] e3 n5 (.rs lb 0 2 12) e5 m5) (f5 : fine e5 m5 = true)
    (hl5 : lkp e5 lb = some (.cells lc)) (hl6 : lkp e6 lb = some (.cells lc)) (hl7 : lkp e7 lb = some (.cells lc)) (hb0 : lc[11]? = some (.bool b0)) (hb1 : lc[23]? = some (.bool b1))
    (h0 : b0 = (decide ((0 : Int) = t) && !false && !false)) (h1 : b1 = (decide ((1 : Int) = t) && !false && !false)) (hd0 : d0 = if b0 then [0, 0, 0] else [2, 0]) (hd1 : d1 = if b1 then [0, 0, 0] else [2, 0])
    (J6 : JJ P 23 [.ptr 263 0, .agg [.int .i64 1, .int .i64 0, .vs (BS [12]) .unk]] e5 n6 (.tup [.agg [.int .i64 0, .int .i64 0, .int .u64 0, .vs (BS d0) t0], .bool true]) e6 m6) (f6 : fine e6 m6 = true)
    (J7 : JJ P 23 [.ptr 263 0, .agg [.int .i64 1, .int .i64 1, .vs (BS [12]) .unk]] e6 n7 (.tup [.agg [.int .i64 1, .int .i64 0, .int .u64 1, .vs (BS d1) t1], .bool true]) e7 m7) (f7 : fine e7 m7 = true)
    (hc : 267 ≤ n3 ∧ 267 ≤ m3 ∧ m3 ≤ n5 ∧ m3 ≤ m5 ∧ m5 ≤ n6 ∧ m5 ≤ m6 ∧ m6 + 1 ≤ n7 ∧ m6 + 1 ≤ m7) :
    WP P c8.code (lawK c8.results) (args0 [.int .i64 t, .bool false, .bool false]) AHeap.empty := by
  obtain ⟨q0, q1, q2, q3, q4, q5, q6, q7⟩ := hc
  refine mt_head ok begun (fault := false) (ahead := false) J0 f0 ?_ (fun _ _ h => h.elim)
  intro ρ H r0 r1 r2 r7 r9 S0
  have tg := cellsOf_of S0.tag
  obtain ⟨H1, k1, S1⟩ := S0.call J3 q0 f3 q1
  simp (decide := true) only [st, c8_7, c8_9, c8_11, r0, r1, r2, r7, r9, tg, mtTag]
  refine execC_by (step_full k1) ?_
  have tg := cellsOf_of S1.tag
  simp (decide := true) only [st, c8_12, c8_13, r0, r1, r2, r7, r9, tg, mtTag]
  refine execC_by (tag_other ok ho (S1.sub _ _ hm3) (by rw [S1.next]; have := S1.tlt; omega)) ?_
  obtain ⟨H2, k2, S2⟩ := S1.call J5 q2 f5 q3
  simp (decide := true) only [st, c8_14, r0, r1, r2, r7, r9, tg, mtTag]
  refine execC_by k2 ?_
  have tg := cellsOf_of S2.tag
  refine exec_cut (fun ρ' => ρ' 0 = .int .i64 t ∧ ρ' 1 = .bool false ∧ ρ' 2 = .bool false ∧ ρ' 7 = .ptr 263 0 ∧ ρ' 10 = .rs lb 0 2 12) ?_ ?_
  · simp (decide := true) only [st, r0, r1, r2, r7]
  · rintro ρ' ⟨r0, r1, r2, r7, r10⟩
    exact mt_loop ok r0 r1 r2 r7 r10 S2 hl5 hl6 hl7 hb0 hb1 h0 h1 hd0 hd1 J6 q4 f6 q5 J7 q6 f7 q7

def atJ (tC : List (Nat × Blk)) (nx : Nat) (r : AV) (v : AV) (H : CH) : Option Unit := match eqV 100 v r && covH tC H && Nat.beq H.next nx && fine tC nx && (match H.t.get 266 with | none => true | some _ => false) with
  | true => some ()
  | false => none

theorem jj_at {tb : Tbl} (hT : TblOK P tb) {fuel f : Nat} {args : List AV} {es es' : List (Nat × Blk)} {nx nx' : Nat} {r : AV} (h : bld es .leaf (fun T => callOf tb (runK tb fuel) f args ⟨T, nx⟩ (atJ es' nx' r)) = some ()) :
    JJ P f args es nx r es' nx' ∧ fine es' nx' = true := by
  obtain ⟨t0, h0, hr⟩ := bld_sound h
  obtain ⟨v, H', hc, hk⟩ := eval_calls hT hr
  rw [heapOf_den h0] at hc
  unfold atJ at hk
  split at hk
  · rename_i hb
    simp only [Bool.and_eq_true, Nat.beq_eq] at hb
    obtain ⟨⟨⟨⟨h1, h2⟩, h3⟩, h4⟩, h5⟩ := hb
    have := eqV_sound _ _ _ h1
    subst this
    refine ⟨⟨H'.den, hc, h3, covH_sound h2, ?_⟩, h4⟩
    show H'.t.get 266 = none
    revert h5
    cases H'.t.get 266 with
    | none => intro _; rfl
    | some x => intro h5; cases h5
  · cases hk

end Go.Proofs.YtjkllffbjeajhaaGreat.Am

namespace Go.Proofs.YtjkllffbjeajhaaGreat.Am
open Go Go.Proofs.YtjkllffbjeajhaaGreat
theorem begun30 : ∀ h, ACalls Tryz.prog 13 [] h (.bool true) h := begun_of tb1_ok (f := 13) (n := 1000) (by kernel_rfl)
end Go.Proofs.YtjkllffbjeajhaaGreat.Am

namespace Go.Proofs.YtjkllffbjeajhaaGreat.Am
open Go Go.Proofs.YtjkllffbjeajhaaGreat
def MTnr : AV := (.tup [(.ptr 263 0), (.int .i64 0)])
def MTne : List (Nat × Blk) := [(102, (.map [((.int .u64 1), (.int .i64 0))])), (103, (.cells [(.int .u8 1), (.rs 233 0 1 4), (.map (some 102))])), (104, (.cells (rp 512 [(.int .u8 0), (.int .u8 0), (.int .u8 0), (.int .u8 0), (.int .u8 0), (.int .u8 0), (.int .u8 0), (.int .u8 0), (.int .u8 0), (.int .u8 0), (.int .u8 0), (.int .u8 0), (.int .u8 0), (.int .u8 0), (.int .u8 0), (.int .u8 0), (.bool false)] []))), (105, (.cells [(.rs 104 0 512 17)])), (106, (.map [])), (107, (.cells [(.ptr 105 0), (.map (some 106))])), (108, (.cells [(.rs 144 0 2 12), (.ptr 103 0), (.ptr 107 0)])), (144, (.cells [(.int .u8 2), (.vs [] .full), (.vs [] .full), (.vs [] .full), (.vs [] .full), (.int .i64 0), (.int .i64 0), (.int .u64 0), (.int .u64 0), (.int .i64 0), (.int .i64 0), (.bool false), (.int .u8 2), (.vs [] .full), (.vs [] .full), (.vs [] .full), (.vs [] .full), (.int .i64 0), (.int .i64 0), (.int .u64 0), (.int .u64 0), (.int .i64 0), (.int .i64 0), (.bool false)])), (233, (.cells [(.int .u64 1), (.vs [[(.int .u8 1)], [(.int .u8 1)], [(.int .u8 0)], [(.int .u8 0)], [(.int .u8 0)], [(.int .u8 0)], [(.int .u8 0)], [(.int .u8 0)], [(.int .u8 0)], [(.int .u8 1)], [(.int .u8 2)], [(.int .u8 0)], [(.int .u8 0)], [(.int .u8 40)], [(.int .u8 0)], [(.int .u8 0)], [(.int .u8 0)], [(.int .u8 1)]] (.own 254)), (.bool true), (.int .i64 1)])), (254, .tail), (259, (.cells [(.bool false), (.bool false)])), (261, (.cells [(.int .i64 0), (.int .i64 0)])), (263, (.cells [(.ptr 108 0), .nil, (.int .i64 1000), (.rs 259 0 2 1), (.rs 261 0 2 1), (.int .i64 0), (.int .i64 0), (.bool false), (.bool false)]))]
def MTnn : Nat := 266
def Ma1r : AV := (.tup [(.agg [(.int .i64 0), (.int .i64 0), (.int .u64 0), (.vs [] .full)]), (.bool false)])
def Ma1e : List (Nat × Blk) := [(102, (.map [((.int .u64 1), (.int .i64 0))])), (103, (.cells [(.int .u8 1), (.rs 233 0 1 4), (.map (some 102))])), (104, (.cells (rp 512 [(.int .u8 0), (.int .u8 0), (.int .u8 0), (.int .u8 0), (.int .u8 0), (.int .u8 0), (.int .u8 0), (.int .u8 0), (.int .u8 0), (.int .u8 0), (.int .u8 0), (.int .u8 0), (.int .u8 0), (.int .u8 0), (.int .u8 0), (.int .u8 0), (.bool false)] []))), (105, (.cells [(.rs 104 0 512 17)])), (106, (.map [])), (107, (.cells [(.ptr 105 0), (.map (some 106))])), (108, (.cells [(.rs 144 0 2 12), (.ptr 103 0), (.ptr 107 0)])), (144, (.cells [(.int .u8 2), (.vs [] .full), (.vs [] .full), (.vs [] .full), (.vs [] .full), (.int .i64 0), (.int .i64 0), (.int .u64 0), (.int .u64 0), (.int .i64 0), (.int .i64 0), (.bool false), (.int .u8 2), (.vs [] .full), (.vs [] .full), (.vs [] .full), (.vs [] .full), (.int .i64 0), (.int .i64 0), (.int .u64 0), (.int .u64 0), (.int .i64 0), (.int .i64 0), (.bool false)])), (233, (.cells [(.int .u64 1), (.vs [[(.int .u8 1)], [(.int .u8 1)], [(.int .u8 0)], [(.int .u8 0)], [(.int .u8 0)], [(.int .u8 0)], [(.int .u8 0)], [(.int .u8 0)], [(.int .u8 0)], [(.int .u8 1)], [(.int .u8 2)], [(.int .u8 0)], [(.int .u8 0)], [(.int .u8 40)], [(.int .u8 0)], [(.int .u8 0)], [(.int .u8 0)], [(.int .u8 1)]] (.own 254)), (.bool true), (.int .i64 1)])), (254, .tail), (259, (.cells [(.bool false), (.bool false)])), (261, (.cells [(.int .i64 0), (.int .i64 0)])), (263, (.cells [(.ptr 108 0), .nil, (.int .i64 1000), (.rs 259 0 2 1), (.rs 261 0 2 1), (.int .i64 0), (.int .i64 0), (.bool false), (.bool false)]))]
def Ma1n : Nat := 298
def Ma3r : AV := (.tup [(.agg [(.int .i64 0), (.int .i64 0), (.int .u64 0), (.vs [] .full)]), (.bool false)])
def Ma3e : List (Nat × Blk) := [(102, (.map [((.int .u64 1), (.int .i64 0))])), (103, (.cells [(.int .u8 1), (.rs 233 0 1 4), (.map (some 102))])), (104, (.cells (rp 512 [(.int .u8 0), (.int .u8 0), (.int .u8 0), (.int .u8 0), (.int .u8 0), (.int .u8 0), (.int .u8 0), (.int .u8 0), (.int .u8 0), (.int .u8 0), (.int .u8 0), (.int .u8 0), (.int .u8 0), (.int .u8 0), (.int .u8 0), (.int .u8 0), (.bool false)] []))), (105, (.cells [(.rs 104 0 512 17)])), (106, (.map [])), (107, (.cells [(.ptr 105 0), (.map (some 106))])), (108, (.cells [(.rs 144 0 2 12), (.ptr 103 0), (.ptr 107 0)])), (144, (.cells [(.int .u8 2), (.vs [] .full), (.vs [] .full), (.vs [] .full), (.vs [] .full), (.int .i64 0), (.int .i64 0), (.int .u64 0), (.int .u64 0), (.int .i64 0), (.int .i64 0), (.bool false), (.int .u8 2), (.vs [] .full), (.vs [] .full), (.vs [] .full), (.vs [] .full), (.int .i64 0), (.int .i64 0), (.int .u64 0), (.int .u64 0), (.int .i64 0), (.int .i64 0), (.bool false)])), (233, (.cells [(.int .u64 1), (.vs [[(.int .u8 1)], [(.int .u8 1)], [(.int .u8 0)], [(.int .u8 0)], [(.int .u8 0)], [(.int .u8 0)], [(.int .u8 0)], [(.int .u8 0)], [(.int .u8 0)], [(.int .u8 1)], [(.int .u8 2)], [(.int .u8 0)], [(.int .u8 0)], [(.int .u8 40)], [(.int .u8 0)], [(.int .u8 0)], [(.int .u8 0)], [(.int .u8 1)]] (.own 254)), (.bool true), (.int .i64 1)])), (254, .tail), (259, (.cells [(.bool false), (.bool false)])), (261, (.cells [(.int .i64 0), (.int .i64 0)])), (263, (.cells [(.ptr 108 0), (.ptr 703 0), (.int .i64 1000), (.rs 259 0 2 1), (.rs 261 0 2 1), (.int .i64 2), (.int .i64 0), (.bool false), (.bool false)])), (696, (.cells [(.int .u8 0), (.vs [] .full), (.vs [] .full), (.vs [] .full), (.vs [] .full), (.int .i64 0), (.int .i64 0), (.int .u64 0), (.int .u64 0), (.int .i64 0), (.int .i64 0), (.bool false), (.int .u8 0), (.vs [] .full), (.vs [] .full), (.vs [] .full), (.vs [] .full), (.int .i64 0), (.int .i64 0), (.int .u64 0), (.int .u64 0), (.int .i64 0), (.int .i64 0), (.bool false)])), (697, (.map [((.int .u64 1), (.int .i64 0))])), (698, (.cells [(.int .u8 2), (.rs 937 0 1 4), (.map (some 697))])), (699, (.cells (rp 512 [(.int .u8 0), (.int .u8 0), (.int .u8 0), (.int .u8 0), (.int .u8 0), (.int .u8 0), (.int .u8 0), (.int .u8 0), (.int .u8 0), (.int .u8 0), (.int .u8 0), (.int .u8 0), (.int .u8 0), (.int .u8 0), (.int .u8 0), (.int .u8 0), (.bool false)] []))), (700, (.cells [(.rs 699 0 512 17)])), (701, (.map [])), (702, (.cells [(.ptr 700 0), (.map (some 701))])), (703, (.cells [(.rs 696 0 2 12), (.ptr 698 0), (.ptr 702 0)])), (937, (.cells [(.int .u64 1), (.vs [[(.int .u8 2)], [(.int .u8 1)], [(.int .u8 0)], [(.int .u8 0)], [(.int .u8 0)], [(.int .u8 0)], [(.int .u8 0)], [(.int .u8 0)], [(.int .u8 0)], [(.int .u8 1)], [(.int .u8 0)], [(.int .u8 0)], [(.int .u8 0)], [(.int .u8 0)], [(.int .u8 40)], [(.int .u8 0)], [(.int .u8 0)], [(.int .u8 0)], [(.int .u8 1)]] (.own 958)), (.bool true), (.int .i64 1)])), (958, .tail)]
def Ma3n : Nat := 1160
def Ma5r : AV := (.rs 1221 0 2 12)
def Ma5e : List (Nat × Blk) := [(102, (.map [((.int .u64 1), (.int .i64 0))])), (103, (.cells [(.int .u8 1), (.rs 233 0 1 4), (.map (some 102))])), (104, (.cells (rp 512 [(.int .u8 0), (.int .u8 0), (.int .u8 0), (.int .u8 0), (.int .u8 0), (.int .u8 0), (.int .u8 0), (.int .u8 0), (.int .u8 0), (.int .u8 0), (.int .u8 0), (.int .u8 0), (.int .u8 0), (.int .u8 0), (.int .u8 0), (.int .u8 0), (.bool false)] []))), (105, (.cells [(.rs 104 0 512 17)])), (106, (.map [])), (107, (.cells [(.ptr 105 0), (.map (some 106))])), (108, (.cells [(.rs 144 0 2 12), (.ptr 103 0), (.ptr 107 0)])), (144, (.cells [(.int .u8 2), (.vs [] .full), (.vs [] .full), (.vs [] .full), (.vs [] .full), (.int .i64 0), (.int .i64 0), (.int .u64 0), (.int .u64 0), (.int .i64 0), (.int .i64 0), (.bool false), (.int .u8 2), (.vs [] .full), (.vs [] .full), (.vs [] .full), (.vs [] .full), (.int .i64 0), (.int .i64 0), (.int .u64 0), (.int .u64 0), (.int .i64 0), (.int .i64 0), (.bool false)])), (233, (.cells [(.int .u64 1), (.vs [[(.int .u8 1)], [(.int .u8 1)], [(.int .u8 0)], [(.int .u8 0)], [(.int .u8 0)], [(.int .u8 0)], [(.int .u8 0)], [(.int .u8 0)], [(.int .u8 0)], [(.int .u8 1)], [(.int .u8 2)], [(.int .u8 0)], [(.int .u8 0)], [(.int .u8 40)], [(.int .u8 0)], [(.int .u8 0)], [(.int .u8 0)], [(.int .u8 1)]] (.own 254)), (.bool true), (.int .i64 1)])), (254, .tail), (259, (.cells [(.bool false), (.bool false)])), (261, (.cells [(.int .i64 0), (.int .i64 0)])), (263, (.cells [(.ptr 108 0), (.ptr 703 0), (.int .i64 1000), (.rs 259 0 2 1), (.rs 261 0 2 1), (.int .i64 2), (.int .i64 0), (.bool false), (.bool false)])), (696, (.cells [(.int .u8 0), (.vs [] .full), (.vs [] .full), (.vs [] .full), (.vs [] .full), (.int .i64 0), (.int .i64 0), (.int .u64 0), (.int .u64 0), (.int .i64 0), (.int .i64 0), (.bool false), (.int .u8 0), (.vs [] .full), (.vs [] .full), (.vs [] .full), (.vs [] .full), (.int .i64 0), (.int .i64 0), (.int .u64 0), (.int .u64 0), (.int .i64 0), (.int .i64 0), (.bool false)])), (697, (.map [((.int .u64 1), (.int .i64 0))])), (698, (.cells [(.int .u8 2), (.rs 937 0 1 4), (.map (some 697))])), (699, (.cells (rp 512 [(.int .u8 0), (.int .u8 0), (.int .u8 0), (.int .u8 0), (.int .u8 0), (.int .u8 0), (.int .u8 0), (.int .u8 0), (.int .u8 0), (.int .u8 0), (.int .u8 0), (.int .u8 0), (.int .u8 0), (.int .u8 0), (.int .u8 0), (.int .u8 0), (.bool false)] []))), (700, (.cells [(.rs 699 0 512 17)])), (701, (.map [])), (702, (.cells [(.ptr 700 0), (.map (some 701))])), (703, (.cells [(.rs 696 0 2 12), (.ptr 698 0), (.ptr 702 0)])), (937, (.cells [(.int .u64 1), (.vs [[(.int .u8 2)], [(.int .u8 1)], [(.int .u8 0)], [(.int .u8 0)], [(.int .u8 0)], [(.int .u8 0)], [(.int .u8 0)], [(.int .u8 0)], [(.int .u8 0)], [(.int .u8 1)], [(.int .u8 0)], [(.int .u8 0)], [(.int .u8 0)], [(.int .u8 0)], [(.int .u8 40)], [(.int .u8 0)], [(.int .u8 0)], [(.int .u8 0)], [(.int .u8 1)]] (.own 958)), (.bool true), (.int .i64 1)])), (958, .tail), (1221, (.cells [(.int .u8 0), (.vs [] .full), (.vs [] .full), (.vs [] .full), (.vs [] .full), (.int .i64 0), (.int .i64 0), (.int .u64 0), (.int .u64 0), (.int .i64 0), (.int .i64 0), (.bool false), (.int .u8 0), (.vs [] .full), (.vs [] .full), (.vs [] .full), (.vs [] .full), (.int .i64 0), (.int .i64 0), (.int .u64 0), (.int .u64 0), (.int .i64 0), (.int .i64 0), (.bool false)]))]
def Ma5n : Nat := 1222
def Ma6r : AV := (.tup [(.agg [(.int .i64 0), (.int .i64 0), (.int .u64 0), (.vs [[(.int .u8 2)], [(.int .u8 0)]] (.own 1361))]), (.bool true)])
def Ma6e : List (Nat × Blk) := [(102, (.map [((.int .u64 1), (.int .i64 0))])), (103, (.cells [(.int .u8 1), (.rs 233 0 1 4), (.map (some 102))])), (104, (.cells (rp 512 [(.int .u8 0), (.int .u8 0), (.int .u8 0), (.int .u8 0), (.int .u8 0), (.int .u8 0), (.int .u8 0), (.int .u8 0), (.int .u8 0), (.int .u8 0), (.int .u8 0), (.int .u8 0), (.int .u8 0), (.int .u8 0), (.int .u8 0), (.int .u8 0), (.bool false)] []))), (105, (.cells [(.rs 104 0 512 17)])), (106, (.map [])), (107, (.cells [(.ptr 105 0), (.map (some 106))])), (108, (.cells [(.rs 144 0 2 12), (.ptr 103 0), (.ptr 107 0)])), (144, (.cells [(.int .u8 2), (.vs [] .full), (.vs [] .full), (.vs [] .full), (.vs [] .full), (.int .i64 0), (.int .i64 0), (.int .u64 0), (.int .u64 0), (.int .i64 0), (.int .i64 0), (.bool false), (.int .u8 2), (.vs [] .full), (.vs [] .full), (.vs [] .full), (.vs [] .full), (.int .i64 0), (.int .i64 0), (.int .u64 0), (.int .u64 0), (.int .i64 0), (.int .i64 0), (.bool false)])), (233, (.cells [(.int .u64 1), (.vs [[(.int .u8 1)], [(.int .u8 1)], [(.int .u8 0)], [(.int .u8 0)], [(.int .u8 0)], [(.int .u8 0)], [(.int .u8 0)], [(.int .u8 0)], [(.int .u8 0)], [(.int .u8 1)], [(.int .u8 2)], [(.int .u8 0)], [(.int .u8 0)], [(.int .u8 40)], [(.int .u8 0)], [(.int .u8 0)], [(.int .u8 0)], [(.int .u8 1)]] (.own 254)), (.bool true), (.int .i64 1)])), (254, .tail), (259, (.cells [(.bool false), (.bool false)])), (261, (.cells [(.int .i64 12), (.int .i64 0)])), (263, (.cells [(.ptr 108 0), (.ptr 703 0), (.int .i64 1000), (.rs 259 0 2 1), (.rs 261 0 2 1), (.int .i64 2), (.int .i64 0), (.bool false), (.bool false)])), (696, (.cells [(.int .u8 0), (.vs [] .full), (.vs [] .full), (.vs [] .full), (.vs [] .full), (.int .i64 0), (.int .i64 0), (.int .u64 0), (.int .u64 0), (.int .i64 0), (.int .i64 0), (.bool false), (.int .u8 0), (.vs [] .full), (.vs [] .full), (.vs [] .full), (.vs [] .full), (.int .i64 0), (.int .i64 0), (.int .u64 0), (.int .u64 0), (.int .i64 0), (.int .i64 0), (.bool false)])), (697, (.map [((.int .u64 1), (.int .i64 0))])), (698, (.cells [(.int .u8 2), (.rs 937 0 1 4), (.map (some 697))])), (699, (.cells (rp 512 [(.int .u8 0), (.int .u8 0), (.int .u8 0), (.int .u8 0), (.int .u8 0), (.int .u8 0), (.int .u8 0), (.int .u8 0), (.int .u8 0), (.int .u8 0), (.int .u8 0), (.int .u8 0), (.int .u8 0), (.int .u8 0), (.int .u8 0), (.int .u8 0), (.bool false)] []))), (700, (.cells [(.rs 699 0 512 17)])), (701, (.map [])), (702, (.cells [(.ptr 700 0), (.map (some 701))])), (703, (.cells [(.rs 696 0 2 12), (.ptr 698 0), (.ptr 702 0)])), (937, (.cells [(.int .u64 1), (.vs [[(.int .u8 2)], [(.int .u8 1)], [(.int .u8 0)], [(.int .u8 0)], [(.int .u8 0)], [(.int .u8 0)], [(.int .u8 0)], [(.int .u8 0)], [(.int .u8 0)], [(.int .u8 1)], [(.int .u8 0)], [(.int .u8 0)], [(.int .u8 0)], [(.int .u8 0)], [(.int .u8 40)], [(.int .u8 0)], [(.int .u8 0)], [(.int .u8 0)], [(.int .u8 1)]] (.own 958)), (.bool true), (.int .i64 1)])), (958, .tail), (1221, (.cells [(.int .u8 0), (.vs [] .full), (.vs [] .full), (.vs [] .full), (.vs [] .full), (.int .i64 0), (.int .i64 0), (.int .u64 0), (.int .u64 0), (.int .i64 0), (.int .i64 0), (.bool false), (.int .u8 0), (.vs [] .full), (.vs [] .full), (.vs [] .full), (.vs [] .full), (.int .i64 0), (.int .i64 0), (.int .u64 0), (.int .u64 0), (.int .i64 0), (.int .i64 0), (.bool false)])), (1361, .tail)]
def Ma6n : Nat := 1362
def Ma7r : AV := (.tup [(.agg [(.int .i64 1), (.int .i64 0), (.int .u64 1), (.vs [[(.int .u8 2)], [(.int .u8 0)]] (.own 1501))]), (.bool true)])
def Ma7e : List (Nat × Blk) := [(102, (.map [((.int .u64 1), (.int .i64 0))])), (103, (.cells [(.int .u8 1), (.rs 233 0 1 4), (.map (some 102))])), (104, (.cells (rp 512 [(.int .u8 0), (.int .u8 0), (.int .u8 0), (.int .u8 0), (.int .u8 0), (.int .u8 0), (.int .u8 0), (.int .u8 0), (.int .u8 0), (.int .u8 0), (.int .u8 0), (.int .u8 0), (.int .u8 0), (.int .u8 0), (.int .u8 0), (.int .u8 0), (.bool false)] []))), (105, (.cells [(.rs 104 0 512 17)])), (106, (.map [])), (107, (.cells [(.ptr 105 0), (.map (some 106))])), (108, (.cells [(.rs 144 0 2 12), (.ptr 103 0), (.ptr 107 0)])), (144, (.cells [(.int .u8 2), (.vs [] .full), (.vs [] .full), (.vs [] .full), (.vs [] .full), (.int .i64 0), (.int .i64 0), (.int .u64 0), (.int .u64 0), (.int .i64 0), (.int .i64 0), (.bool false), (.int .u8 2), (.vs [] .full), (.vs [] .full), (.vs [] .full), (.vs [] .full), (.int .i64 0), (.int .i64 0), (.int .u64 0), (.int .u64 0), (.int .i64 0), (.int .i64 0), (.bool false)])), (233, (.cells [(.int .u64 1), (.vs [[(.int .u8 1)], [(.int .u8 1)], [(.int .u8 0)], [(.int .u8 0)], [(.int .u8 0)], [(.int .u8 0)], [(.int .u8 0)], [(.int .u8 0)], [(.int .u8 0)], [(.int .u8 1)], [(.int .u8 2)], [(.int .u8 0)], [(.int .u8 0)], [(.int .u8 40)], [(.int .u8 0)], [(.int .u8 0)], [(.int .u8 0)], [(.int .u8 1)]] (.own 254)), (.bool true), (.int .i64 1)])), (254, .tail), (259, (.cells [(.bool false), (.bool false)])), (261, (.cells [(.int .i64 12), (.int .i64 12)])), (263, (.cells [(.ptr 108 0), (.ptr 703 0), (.int .i64 1000), (.rs 259 0 2 1), (.rs 261 0 2 1), (.int .i64 2), (.int .i64 0), (.bool false), (.bool false)])), (696, (.cells [(.int .u8 0), (.vs [] .full), (.vs [] .full), (.vs [] .full), (.vs [] .full), (.int .i64 0), (.int .i64 0), (.int .u64 0), (.int .u64 0), (.int .i64 0), (.int .i64 0), (.bool false), (.int .u8 0), (.vs [] .full), (.vs [] .full), (.vs [] .full), (.vs [] .full), (.int .i64 0), (.int .i64 0), (.int .u64 0), (.int .u64 0), (.int .i64 0), (.int .i64 0), (.bool false)])), (697, (.map [((.int .u64 1), (.int .i64 0))])), (698, (.cells [(.int .u8 2), (.rs 937 0 1 4), (.map (some 697))])), (699, (.cells (rp 512 [(.int .u8 0), (.int .u8 0), (.int .u8 0), (.int .u8 0), (.int .u8 0), (.int .u8 0), (.int .u8 0), (.int .u8 0), (.int .u8 0), (.int .u8 0), (.int .u8 0), (.int .u8 0), (.int .u8 0), (.int .u8 0), (.int .u8 0), (.int .u8 0), (.bool false)] []))), (700, (.cells [(.rs 699 0 512 17)])), (701, (.map [])), (702, (.cells [(.ptr 700 0), (.map (some 701))])), (703, (.cells [(.rs 696 0 2 12), (.ptr 698 0), (.ptr 702 0)])), (937, (.cells [(.int .u64 1), (.vs [[(.int .u8 2)], [(.int .u8 1)], [(.int .u8 0)], [(.int .u8 0)], [(.int .u8 0)], [(.int .u8 0)], [(.int .u8 0)], [(.int .u8 0)], [(.int .u8 0)], [(.int .u8 1)], [(.int .u8 0)], [(.int .u8 0)], [(.int .u8 0)], [(.int .u8 0)], [(.int .u8 40)], [(.int .u8 0)], [(.int .u8 0)], [(.int .u8 0)], [(.int .u8 1)]] (.own 958)), (.bool true), (.int .i64 1)])), (958, .tail), (1221, (.cells [(.int .u8 0), (.vs [] .full), (.vs [] .full), (.vs [] .full), (.vs [] .full), (.int .i64 0), (.int .i64 0), (.int .u64 0), (.int .u64 0), (.int .i64 0), (.int .i64 0), (.bool false), (.int .u8 0), (.vs [] .full), (.vs [] .full), (.vs [] .full), (.vs [] .full), (.int .i64 0), (.int .i64 0), (.int .u64 0), (.int .u64 0), (.int .i64 0), (.int .i64 0), (.bool false)])), (1501, .tail)]
def Ma7n : Nat := 1502
def Mb1r : AV := (.tup [(.agg [(.int .i64 0), (.int .i64 0), (.int .u64 0), (.vs [] .full)]), (.bool false)])
def Mb1e : List (Nat × Blk) := [(102, (.map [((.int .u64 1), (.int .i64 0))])), (103, (.cells [(.int .u8 1), (.rs 233 0 1 4), (.map (some 102))])), (104, (.cells (rp 512 [(.int .u8 0), (.int .u8 0), (.int .u8 0), (.int .u8 0), (.int .u8 0), (.int .u8 0), (.int .u8 0), (.int .u8 0), (.int .u8 0), (.int .u8 0), (.int .u8 0), (.int .u8 0), (.int .u8 0), (.int .u8 0), (.int .u8 0), (.int .u8 0), (.bool false)] []))), (105, (.cells [(.rs 104 0 512 17)])), (106, (.map [])), (107, (.cells [(.ptr 105 0), (.map (some 106))])), (108, (.cells [(.rs 144 0 2 12), (.ptr 103 0), (.ptr 107 0)])), (144, (.cells [(.int .u8 2), (.vs [] .full), (.vs [] .full), (.vs [] .full), (.vs [] .full), (.int .i64 0), (.int .i64 0), (.int .u64 0), (.int .u64 0), (.int .i64 0), (.int .i64 0), (.bool false), (.int .u8 2), (.vs [] .full), (.vs [] .full), (.vs [] .full), (.vs [] .full), (.int .i64 0), (.int .i64 0), (.int .u64 0), (.int .u64 0), (.int .i64 0), (.int .i64 0), (.bool false)])), (233, (.cells [(.int .u64 1), (.vs [[(.int .u8 1)], [(.int .u8 1)], [(.int .u8 0)], [(.int .u8 0)], [(.int .u8 0)], [(.int .u8 0)], [(.int .u8 0)], [(.int .u8 0)], [(.int .u8 0)], [(.int .u8 1)], [(.int .u8 2)], [(.int .u8 0)], [(.int .u8 0)], [(.int .u8 40)], [(.int .u8 0)], [(.int .u8 0)], [(.int .u8 0)], [(.int .u8 1)]] (.own 254)), (.bool true), (.int .i64 1)])), (254, .tail), (259, (.cells [(.bool false), (.bool false)])), (261, (.cells [(.int .i64 0), (.int .i64 0)])), (263, (.cells [(.ptr 108 0), .nil, (.int .i64 1000), (.rs 259 0 2 1), (.rs 261 0 2 1), (.int .i64 0), (.int .i64 0), (.bool false), (.bool false)]))]
def Mb1n : Nat := 298
def Mb2r : AV := (.tup [(.agg [(.int .i64 0), (.int .i64 0), (.int .u64 0), (.vs [] .full)]), (.bool false)])
def Mb2e : List (Nat × Blk) := [(102, (.map [((.int .u64 1), (.int .i64 0))])), (103, (.cells [(.int .u8 1), (.rs 233 0 1 4), (.map (some 102))])), (104, (.cells (rp 512 [(.int .u8 0), (.int .u8 0), (.int .u8 0), (.int .u8 0), (.int .u8 0), (.int .u8 0), (.int .u8 0), (.int .u8 0), (.int .u8 0), (.int .u8 0), (.int .u8 0), (.int .u8 0), (.int .u8 0), (.int .u8 0), (.int .u8 0), (.int .u8 0), (.bool false)] []))), (105, (.cells [(.rs 104 0 512 17)])), (106, (.map [])), (107, (.cells [(.ptr 105 0), (.map (some 106))])), (108, (.cells [(.rs 144 0 2 12), (.ptr 103 0), (.ptr 107 0)])), (144, (.cells [(.int .u8 2), (.vs [] .full), (.vs [] .full), (.vs [] .full), (.vs [] .full), (.int .i64 0), (.int .i64 0), (.int .u64 0), (.int .u64 0), (.int .i64 0), (.int .i64 0), (.bool false), (.int .u8 2), (.vs [] .full), (.vs [] .full), (.vs [] .full), (.vs [] .full), (.int .i64 0), (.int .i64 0), (.int .u64 0), (.int .u64 0), (.int .i64 0), (.int .i64 0), (.bool false)])), (233, (.cells [(.int .u64 1), (.vs [[(.int .u8 1)], [(.int .u8 1)], [(.int .u8 0)], [(.int .u8 0)], [(.int .u8 0)], [(.int .u8 0)], [(.int .u8 0)], [(.int .u8 0)], [(.int .u8 0)], [(.int .u8 1)], [(.int .u8 2)], [(.int .u8 0)], [(.int .u8 0)], [(.int .u8 40)], [(.int .u8 0)], [(.int .u8 0)], [(.int .u8 0)], [(.int .u8 1)]] (.own 254)), (.bool true), (.int .i64 1)])), (254, .tail), (259, (.cells [(.bool false), (.bool false)])), (261, (.cells [(.int .i64 0), (.int .i64 0)])), (263, (.cells [(.ptr 108 0), .nil, (.int .i64 1000), (.rs 259 0 2 1), (.rs 261 0 2 1), (.int .i64 0), (.int .i64 0), (.bool false), (.bool true)]))]
def Mb2n : Nat := 310
def Mb3r : AV := (.tup [(.agg [(.int .i64 0), (.int .i64 0), (.int .u64 0), (.vs [] .full)]), (.bool false)])
def Mb3e : List (Nat × Blk) := [(102, (.map [((.int .u64 1), (.int .i64 0))])), (103, (.cells [(.int .u8 1), (.rs 233 0 1 4), (.map (some 102))])), (104, (.cells (rp 512 [(.int .u8 0), (.int .u8 0), (.int .u8 0), (.int .u8 0), (.int .u8 0), (.int .u8 0), (.int .u8 0), (.int .u8 0), (.int .u8 0), (.int .u8 0), (.int .u8 0), (.int .u8 0), (.int .u8 0), (.int .u8 0), (.int .u8 0), (.int .u8 0), (.bool false)] []))), (105, (.cells [(.rs 104 0 512 17)])), (106, (.map [])), (107, (.cells [(.ptr 105 0), (.map (some 106))])), (108, (.cells [(.rs 144 0 2 12), (.ptr 103 0), (.ptr 107 0)])), (144, (.cells [(.int .u8 2), (.vs [] .full), (.vs [] .full), (.vs [] .full), (.vs [] .full), (.int .i64 0), (.int .i64 0), (.int .u64 0), (.int .u64 0), (.int .i64 0), (.int .i64 0), (.bool false), (.int .u8 2), (.vs [] .full), (.vs [] .full), (.vs [] .full), (.vs [] .full), (.int .i64 0), (.int .i64 0), (.int .u64 0), (.int .u64 0), (.int .i64 0), (.int .i64 0), (.bool false)])), (233, (.cells [(.int .u64 1), (.vs [[(.int .u8 1)], [(.int .u8 1)], [(.int .u8 0)], [(.int .u8 0)], [(.int .u8 0)], [(.int .u8 0)], [(.int .u8 0)], [(.int .u8 0)], [(.int .u8 0)], [(.int .u8 1)], [(.int .u8 2)], [(.int .u8 0)], [(.int .u8 0)], [(.int .u8 40)], [(.int .u8 0)], [(.int .u8 0)], [(.int .u8 0)], [(.int .u8 1)]] (.own 254)), (.bool true), (.int .i64 1)])), (254, .tail), (259, (.cells [(.bool false), (.bool false)])), (261, (.cells [(.int .i64 0), (.int .i64 0)])), (263, (.cells [(.ptr 108 0), .nil, (.int .i64 1000), (.rs 259 0 2 1), (.rs 261 0 2 1), (.int .i64 3), (.int .i64 15), (.bool false), (.bool false)]))]
def Mb3n : Nat := 688
def Mb5r : AV := (.rs 719 0 2 12)
def Mb5e : List (Nat × Blk) := [(102, (.map [((.int .u64 1), (.int .i64 0))])), (103, (.cells [(.int .u8 1), (.rs 233 0 1 4), (.map (some 102))])), (104, (.cells (rp 512 [(.int .u8 0), (.int .u8 0), (.int .u8 0), (.int .u8 0), (.int .u8 0), (.int .u8 0), (.int .u8 0), (.int .u8 0), (.int .u8 0), (.int .u8 0), (.int .u8 0), (.int .u8 0), (.int .u8 0), (.int .u8 0), (.int .u8 0), (.int .u8 0), (.bool false)] []))), (105, (.cells [(.rs 104 0 512 17)])), (106, (.map [])), (107, (.cells [(.ptr 105 0), (.map (some 106))])), (108, (.cells [(.rs 144 0 2 12), (.ptr 103 0), (.ptr 107 0)])), (144, (.cells [(.int .u8 2), (.vs [] .full), (.vs [] .full), (.vs [] .full), (.vs [] .full), (.int .i64 0), (.int .i64 0), (.int .u64 0), (.int .u64 0), (.int .i64 0), (.int .i64 0), (.bool false), (.int .u8 2), (.vs [] .full), (.vs [] .full), (.vs [] .full), (.vs [] .full), (.int .i64 0), (.int .i64 0), (.int .u64 0), (.int .u64 0), (.int .i64 0), (.int .i64 0), (.bool false)])), (233, (.cells [(.int .u64 1), (.vs [[(.int .u8 1)], [(.int .u8 1)], [(.int .u8 0)], [(.int .u8 0)], [(.int .u8 0)], [(.int .u8 0)], [(.int .u8 0)], [(.int .u8 0)], [(.int .u8 0)], [(.int .u8 1)], [(.int .u8 2)], [(.int .u8 0)], [(.int .u8 0)], [(.int .u8 40)], [(.int .u8 0)], [(.int .u8 0)], [(.int .u8 0)], [(.int .u8 1)]] (.own 254)), (.bool true), (.int .i64 1)])), (254, .tail), (259, (.cells [(.bool false), (.bool false)])), (261, (.cells [(.int .i64 0), (.int .i64 0)])), (263, (.cells [(.ptr 108 0), .nil, (.int .i64 1000), (.rs 259 0 2 1), (.rs 261 0 2 1), (.int .i64 3), (.int .i64 15), (.bool false), (.bool false)])), (719, (.cells [(.int .u8 2), (.vs [] .full), (.vs [] .full), (.vs [] .full), (.vs [] .full), (.int .i64 0), (.int .i64 0), (.int .u64 0), (.int .u64 0), (.int .i64 0), (.int .i64 0), (.bool false), (.int .u8 2), (.vs [] .full), (.vs [] .full), (.vs [] .full), (.vs [] .full), (.int .i64 0), (.int .i64 0), (.int .u64 0), (.int .u64 0), (.int .i64 0), (.int .i64 0), (.bool false)]))]
def Mb5n : Nat := 720
def Mb6r : AV := (.tup [(.agg [(.int .i64 0), (.int .i64 0), (.int .u64 0), (.vs [[(.int .u8 2)], [(.int .u8 0)]] (.own 802))]), (.bool true)])
def Mb6e : List (Nat × Blk) := [(102, (.map [((.int .u64 1), (.int .i64 0))])), (103, (.cells [(.int .u8 1), (.rs 233 0 1 4), (.map (some 102))])), (104, (.cells (rp 512 [(.int .u8 0), (.int .u8 0), (.int .u8 0), (.int .u8 0), (.int .u8 0), (.int .u8 0), (.int .u8 0), (.int .u8 0), (.int .u8 0), (.int .u8 0), (.int .u8 0), (.int .u8 0), (.int .u8 0), (.int .u8 0), (.int .u8 0), (.int .u8 0), (.bool false)] []))), (105, (.cells [(.rs 104 0 512 17)])), (106, (.map [])), (107, (.cells [(.ptr 105 0), (.map (some 106))])), (108, (.cells [(.rs 144 0 2 12), (.ptr 103 0), (.ptr 107 0)])), (144, (.cells [(.int .u8 2), (.vs [] .full), (.vs [] .full), (.vs [] .full), (.vs [] .full), (.int .i64 0), (.int .i64 0), (.int .u64 0), (.int .u64 0), (.int .i64 0), (.int .i64 0), (.bool false), (.int .u8 2), (.vs [] .full), (.vs [] .full), (.vs [] .full), (.vs [] .full), (.int .i64 0), (.int .i64 0), (.int .u64 0), (.int .u64 0), (.int .i64 0), (.int .i64 0), (.bool false)])), (233, (.cells [(.int .u64 1), (.vs [[(.int .u8 1)], [(.int .u8 1)], [(.int .u8 0)], [(.int .u8 0)], [(.int .u8 0)], [(.int .u8 0)], [(.int .u8 0)], [(.int .u8 0)], [(.int .u8 0)], [(.int .u8 1)], [(.int .u8 2)], [(.int .u8 0)], [(.int .u8 0)], [(.int .u8 40)], [(.int .u8 0)], [(.int .u8 0)], [(.int .u8 0)], [(.int .u8 1)]] (.own 254)), (.bool true), (.int .i64 1)])), (254, .tail), (259, (.cells [(.bool false), (.bool false)])), (261, (.cells [(.int .i64 12), (.int .i64 0)])), (263, (.cells [(.ptr 108 0), .nil, (.int .i64 1000), (.rs 259 0 2 1), (.rs 261 0 2 1), (.int .i64 3), (.int .i64 15), (.bool false), (.bool false)])), (719, (.cells [(.int .u8 2), (.vs [] .full), (.vs [] .full), (.vs [] .full), (.vs [] .full), (.int .i64 0), (.int .i64 0), (.int .u64 0), (.int .u64 0), (.int .i64 0), (.int .i64 0), (.bool false), (.int .u8 2), (.vs [] .full), (.vs [] .full), (.vs [] .full), (.vs [] .full), (.int .i64 0), (.int .i64 0), (.int .u64 0), (.int .u64 0), (.int .i64 0), (.int .i64 0), (.bool false)])), (802, .tail)]
def Mb6n : Nat := 803
def Mb7r : AV := (.tup [(.agg [(.int .i64 1), (.int .i64 0), (.int .u64 1), (.vs [[(.int .u8 2)], [(.int .u8 0)]] (.own 885))]), (.bool true)])
def Mb7e : List (Nat × Blk) := [(102, (.map [((.int .u64 1), (.int .i64 0))])), (103, (.cells [(.int .u8 1), (.rs 233 0 1 4), (.map (some 102))])), (104, (.cells (rp 512 [(.int .u8 0), (.int .u8 0), (.int .u8 0), (.int .u8 0), (.int .u8 0), (.int .u8 0), (.int .u8 0), (.int .u8 0), (.int .u8 0), (.int .u8 0), (.int .u8 0), (.int .u8 0), (.int .u8 0), (.int .u8 0), (.int .u8 0), (.int .u8 0), (.bool false)] []))), (105, (.cells [(.rs 104 0 512 17)])), (106, (.map [])), (107, (.cells [(.ptr 105 0), (.map (some 106))])), (108, (.cells [(.rs 144 0 2 12), (.ptr 103 0), (.ptr 107 0)])), (144, (.cells [(.int .u8 2), (.vs [] .full), (.vs [] .full), (.vs [] .full), (.vs [] .full), (.int .i64 0), (.int .i64 0), (.int .u64 0), (.int .u64 0), (.int .i64 0), (.int .i64 0), (.bool false), (.int .u8 2), (.vs [] .full), (.vs [] .full), (.vs [] .full), (.vs [] .full), (.int .i64 0), (.int .i64 0), (.int .u64 0), (.int .u64 0), (.int .i64 0), (.int .i64 0), (.bool false)])), (233, (.cells [(.int .u64 1), (.vs [[(.int .u8 1)], [(.int .u8 1)], [(.int .u8 0)], [(.int .u8 0)], [(.int .u8 0)], [(.int .u8 0)], [(.int .u8 0)], [(.int .u8 0)], [(.int .u8 0)], [(.int .u8 1)], [(.int .u8 2)], [(.int .u8 0)], [(.int .u8 0)], [(.int .u8 40)], [(.int .u8 0)], [(.int .u8 0)], [(.int .u8 0)], [(.int .u8 1)]] (.own 254)), (.bool true), (.int .i64 1)])), (254, .tail), (259, (.cells [(.bool false), (.bool false)])), (261, (.cells [(.int .i64 12), (.int .i64 12)])), (263, (.cells [(.ptr 108 0), .nil, (.int .i64 1000), (.rs 259 0 2 1), (.rs 261 0 2 1), (.int .i64 3), (.int .i64 15), (.bool false), (.bool false)])), (719, (.cells [(.int .u8 2), (.vs [] .full), (.vs [] .full), (.vs [] .full), (.vs [] .full), (.int .i64 0), (.int .i64 0), (.int .u64 0), (.int .u64 0), (.int .i64 0), (.int .i64 0), (.bool false), (.int .u8 2), (.vs [] .full), (.vs [] .full), (.vs [] .full), (.vs [] .full), (.int .i64 0), (.int .i64 0), (.int .u64 0), (.int .u64 0), (.int .i64 0), (.int .i64 0), (.bool false)])), (885, .tail)]
def Mb7n : Nat := 886
def Mc2r : AV := (.tup [(.agg [(.int .i64 0), (.int .i64 0), (.int .u64 0), (.vs [] .full)]), (.bool false)])
def Mc2e : List (Nat × Blk) := [(102, (.map [((.int .u64 1), (.int .i64 0))])), (103, (.cells [(.int .u8 1), (.rs 233 0 1 4), (.map (some 102))])), (104, (.cells (rp 512 [(.int .u8 0), (.int .u8 0), (.int .u8 0), (.int .u8 0), (.int .u8 0), (.int .u8 0), (.int .u8 0), (.int .u8 0), (.int .u8 0), (.int .u8 0), (.int .u8 0), (.int .u8 0), (.int .u8 0), (.int .u8 0), (.int .u8 0), (.int .u8 0), (.bool false)] []))), (105, (.cells [(.rs 104 0 512 17)])), (106, (.map [])), (107, (.cells [(.ptr 105 0), (.map (some 106))])), (108, (.cells [(.rs 144 0 2 12), (.ptr 103 0), (.ptr 107 0)])), (144, (.cells [(.int .u8 2), (.vs [] .full), (.vs [] .full), (.vs [] .full), (.vs [] .full), (.int .i64 0), (.int .i64 0), (.int .u64 0), (.int .u64 0), (.int .i64 0), (.int .i64 0), (.bool false), (.int .u8 2), (.vs [] .full), (.vs [] .full), (.vs [] .full), (.vs [] .full), (.int .i64 0), (.int .i64 0), (.int .u64 0), (.int .u64 0), (.int .i64 0), (.int .i64 0), (.bool false)])), (233, (.cells [(.int .u64 1), (.vs [[(.int .u8 1)], [(.int .u8 1)], [(.int .u8 0)], [(.int .u8 0)], [(.int .u8 0)], [(.int .u8 0)], [(.int .u8 0)], [(.int .u8 0)], [(.int .u8 0)], [(.int .u8 1)], [(.int .u8 2)], [(.int .u8 0)], [(.int .u8 0)], [(.int .u8 40)], [(.int .u8 0)], [(.int .u8 0)], [(.int .u8 0)], [(.int .u8 1)]] (.own 254)), (.bool true), (.int .i64 1)])), (254, .tail), (259, (.cells [(.bool false), (.bool false)])), (261, (.cells [(.int .i64 0), (.int .i64 0)])), (263, (.cells [(.ptr 108 0), .nil, (.int .i64 1000), (.rs 259 0 2 1), (.rs 261 0 2 1), (.int .i64 0), (.int .i64 0), (.bool false), (.bool true)]))]
def Mc2n : Nat := 278
def Mc3r : AV := (.tup [(.agg [(.int .i64 0), (.int .i64 0), (.int .u64 0), (.vs [] .full)]), (.bool false)])
def Mc3e : List (Nat × Blk) := [(102, (.map [((.int .u64 1), (.int .i64 0))])), (103, (.cells [(.int .u8 1), (.rs 233 0 1 4), (.map (some 102))])), (104, (.cells (rp 512 [(.int .u8 0), (.int .u8 0), (.int .u8 0), (.int .u8 0), (.int .u8 0), (.int .u8 0), (.int .u8 0), (.int .u8 0), (.int .u8 0), (.int .u8 0), (.int .u8 0), (.int .u8 0), (.int .u8 0), (.int .u8 0), (.int .u8 0), (.int .u8 0), (.bool false)] []))), (105, (.cells [(.rs 104 0 512 17)])), (106, (.map [])), (107, (.cells [(.ptr 105 0), (.map (some 106))])), (108, (.cells [(.rs 144 0 2 12), (.ptr 103 0), (.ptr 107 0)])), (144, (.cells [(.int .u8 2), (.vs [] .full), (.vs [] .full), (.vs [] .full), (.vs [] .full), (.int .i64 0), (.int .i64 0), (.int .u64 0), (.int .u64 0), (.int .i64 0), (.int .i64 0), (.bool false), (.int .u8 2), (.vs [] .full), (.vs [] .full), (.vs [] .full), (.vs [] .full), (.int .i64 0), (.int .i64 0), (.int .u64 0), (.int .u64 0), (.int .i64 0), (.int .i64 0), (.bool false)])), (233, (.cells [(.int .u64 1), (.vs [[(.int .u8 1)], [(.int .u8 1)], [(.int .u8 0)], [(.int .u8 0)], [(.int .u8 0)], [(.int .u8 0)], [(.int .u8 0)], [(.int .u8 0)], [(.int .u8 0)], [(.int .u8 1)], [(.int .u8 2)], [(.int .u8 0)], [(.int .u8 0)], [(.int .u8 40)], [(.int .u8 0)], [(.int .u8 0)], [(.int .u8 0)], [(.int .u8 1)]] (.own 254)), (.bool true), (.int .i64 1)])), (254, .tail), (259, (.cells [(.bool false), (.bool false)])), (261, (.cells [(.int .i64 0), (.int .i64 0)])), (263, (.cells [(.ptr 108 0), .nil, (.int .i64 1000), (.rs 259 0 2 1), (.rs 261 0 2 1), (.int .i64 3), (.int .i64 15), (.bool false), (.bool false)]))]
def Mc3n : Nat := 656
def Mc4r : AV := (.tup [(.agg [(.int .i64 0), (.int .i64 0), (.int .u64 0), (.vs [] .full)]), (.bool false)])
def Mc4e : List (Nat × Blk) := [(102, (.map [((.int .u64 1), (.int .i64 0))])), (103, (.cells [(.int .u8 1), (.rs 233 0 1 4), (.map (some 102))])), (104, (.cells (rp 512 [(.int .u8 0), (.int .u8 0), (.int .u8 0), (.int .u8 0), (.int .u8 0), (.int .u8 0), (.int .u8 0), (.int .u8 0), (.int .u8 0), (.int .u8 0), (.int .u8 0), (.int .u8 0), (.int .u8 0), (.int .u8 0), (.int .u8 0), (.int .u8 0), (.bool false)] []))), (105, (.cells [(.rs 104 0 512 17)])), (106, (.map [])), (107, (.cells [(.ptr 105 0), (.map (some 106))])), (108, (.cells [(.rs 144 0 2 12), (.ptr 103 0), (.ptr 107 0)])), (144, (.cells [(.int .u8 2), (.vs [] .full), (.vs [] .full), (.vs [] .full), (.vs [] .full), (.int .i64 0), (.int .i64 0), (.int .u64 0), (.int .u64 0), (.int .i64 0), (.int .i64 0), (.bool false), (.int .u8 2), (.vs [] .full), (.vs [] .full), (.vs [] .full), (.vs [] .full), (.int .i64 0), (.int .i64 0), (.int .u64 0), (.int .u64 0), (.int .i64 0), (.int .i64 0), (.bool false)])), (233, (.cells [(.int .u64 1), (.vs [[(.int .u8 1)], [(.int .u8 1)], [(.int .u8 0)], [(.int .u8 0)], [(.int .u8 0)], [(.int .u8 0)], [(.int .u8 0)], [(.int .u8 0)], [(.int .u8 0)], [(.int .u8 1)], [(.int .u8 2)], [(.int .u8 0)], [(.int .u8 0)], [(.int .u8 40)], [(.int .u8 0)], [(.int .u8 0)], [(.int .u8 0)], [(.int .u8 1)]] (.own 254)), (.bool true), (.int .i64 1)])), (254, .tail), (259, (.cells [(.bool false), (.bool false)])), (261, (.cells [(.int .i64 0), (.int .i64 0)])), (263, (.cells [(.ptr 108 0), .nil, (.int .i64 1000), (.rs 259 0 2 1), (.rs 261 0 2 1), (.int .i64 3), (.int .i64 15), (.bool false), (.bool false)]))]
def Mc4n : Nat := 688
def Mc5r : AV := (.rs 719 0 2 12)
def Mc5e : List (Nat × Blk) := [(102, (.map [((.int .u64 1), (.int .i64 0))])), (103, (.cells [(.int .u8 1), (.rs 233 0 1 4), (.map (some 102))])), (104, (.cells (rp 512 [(.int .u8 0), (.int .u8 0), (.int .u8 0), (.int .u8 0), (.int .u8 0), (.int .u8 0), (.int .u8 0), (.int .u8 0), (.int .u8 0), (.int .u8 0), (.int .u8 0), (.int .u8 0), (.int .u8 0), (.int .u8 0), (.int .u8 0), (.int .u8 0), (.bool false)] []))), (105, (.cells [(.rs 104 0 512 17)])), (106, (.map [])), (107, (.cells [(.ptr 105 0), (.map (some 106))])), (108, (.cells [(.rs 144 0 2 12), (.ptr 103 0), (.ptr 107 0)])), (144, (.cells [(.int .u8 2), (.vs [] .full), (.vs [] .full), (.vs [] .full), (.vs [] .full), (.int .i64 0), (.int .i64 0), (.int .u64 0), (.int .u64 0), (.int .i64 0), (.int .i64 0), (.bool false), (.int .u8 2), (.vs [] .full), (.vs [] .full), (.vs [] .full), (.vs [] .full), (.int .i64 0), (.int .i64 0), (.int .u64 0), (.int .u64 0), (.int .i64 0), (.int .i64 0), (.bool false)])), (233, (.cells [(.int .u64 1), (.vs [[(.int .u8 1)], [(.int .u8 1)], [(.int .u8 0)], [(.int .u8 0)], [(.int .u8 0)], [(.int .u8 0)], [(.int .u8 0)], [(.int .u8 0)], [(.int .u8 0)], [(.int .u8 1)], [(.int .u8 2)], [(.int .u8 0)], [(.int .u8 0)], [(.int .u8 40)], [(.int .u8 0)], [(.int .u8 0)], [(.int .u8 0)], [(.int .u8 1)]] (.own 254)), (.bool true), (.int .i64 1)])), (254, .tail), (259, (.cells [(.bool false), (.bool false)])), (261, (.cells [(.int .i64 0), (.int .i64 0)])), (263, (.cells [(.ptr 108 0), .nil, (.int .i64 1000), (.rs 259 0 2 1), (.rs 261 0 2 1), (.int .i64 3), (.int .i64 15), (.bool false), (.bool false)])), (719, (.cells [(.int .u8 2), (.vs [] .full), (.vs [] .full), (.vs [] .full), (.vs [] .full), (.int .i64 0), (.int .i64 0), (.int .u64 0), (.int .u64 0), (.int .i64 0), (.int .i64 0), (.bool false), (.int .u8 2), (.vs [] .full), (.vs [] .full), (.vs [] .full), (.vs [] .full), (.int .i64 0), (.int .i64 0), (.int .u64 0), (.int .u64 0), (.int .i64 0), (.int .i64 0), (.bool false)]))]
def Mc5n : Nat := 720
def Mc6r : AV := (.tup [(.agg [(.int .i64 0), (.int .i64 0), (.int .u64 0), (.vs [[(.int .u8 2)], [(.int .u8 0)]] (.own 802))]), (.bool true)])
def Mc6e : List (Nat × Blk) := [(102, (.map [((.int .u64 1), (.int .i64 0))])), (103, (.cells [(.int .u8 1), (.rs 233 0 1 4), (.map (some 102))])), (104, (.cells (rp 512 [(.int .u8 0), (.int .u8 0), (.int .u8 0), (.int .u8 0), (.int .u8 0), (.int .u8 0), (.int .u8 0), (.int .u8 0), (.int .u8 0), (.int .u8 0), (.int .u8 0), (.int .u8 0), (.int .u8 0), (.int .u8 0), (.int .u8 0), (.int .u8 0), (.bool false)] []))), (105, (.cells [(.rs 104 0 512 17)])), (106, (.map [])), (107, (.cells [(.ptr 105 0), (.map (some 106))])), (108, (.cells [(.rs 144 0 2 12), (.ptr 103 0), (.ptr 107 0)])), (144, (.cells [(.int .u8 2), (.vs [] .full), (.vs [] .full), (.vs [] .full), (.vs [] .full), (.int .i64 0), (.int .i64 0), (.int .u64 0), (.int .u64 0), (.int .i64 0), (.int .i64 0), (.bool false), (.int .u8 2), (.vs [] .full), (.vs [] .full), (.vs [] .full), (.vs [] .full), (.int .i64 0), (.int .i64 0), (.int .u64 0), (.int .u64 0), (.int .i64 0), (.int .i64 0), (.bool false)])), (233, (.cells [(.int .u64 1), (.vs [[(.int .u8 1)], [(.int .u8 1)], [(.int .u8 0)], [(.int .u8 0)], [(.int .u8 0)], [(.int .u8 0)], [(.int .u8 0)], [(.int .u8 0)], [(.int .u8 0)], [(.int .u8 1)], [(.int .u8 2)], [(.int .u8 0)], [(.int .u8 0)], [(.int .u8 40)], [(.int .u8 0)], [(.int .u8 0)], [(.int .u8 0)], [(.int .u8 1)]] (.own 254)), (.bool true), (.int .i64 1)])), (254, .tail), (259, (.cells [(.bool false), (.bool false)])), (261, (.cells [(.int .i64 12), (.int .i64 0)])), (263, (.cells [(.ptr 108 0), .nil, (.int .i64 1000), (.rs 259 0 2 1), (.rs 261 0 2 1), (.int .i64 3), (.int .i64 15), (.bool false), (.bool false)])), (719, (.cells [(.int .u8 2), (.vs [] .full), (.vs [] .full), (.vs [] .full), (.vs [] .full), (.int .i64 0), (.int .i64 0), (.int .u64 0), (.int .u64 0), (.int .i64 0), (.int .i64 0), (.bool false), (.int .u8 2), (.vs [] .full), (.vs [] .full), (.vs [] .full), (.vs [] .full), (.int .i64 0), (.int .i64 0), (.int .u64 0), (.int .u64 0), (.int .i64 0), (.int .i64 0), (.bool false)])), (802, .tail)]
def Mc6n : Nat := 803
def Mc7r : AV := (.tup [(.agg [(.int .i64 1), (.int .i64 0), (.int .u64 1), (.vs [[(.int .u8 2)], [(.int .u8 0)]] (.own 885))]), (.bool true)])
def Mc7e : List (Nat × Blk) := [(102, (.map [((.int .u64 1), (.int .i64 0))])), (103, (.cells [(.int .u8 1), (.rs 233 0 1 4), (.map (some 102))])), (104, (.cells (rp 512 [(.int .u8 0), (.int .u8 0), (.int .u8 0), (.int .u8 0), (.int .u8 0), (.int .u8 0), (.int .u8 0), (.int .u8 0), (.int .u8 0), (.int .u8 0), (.int .u8 0), (.int .u8 0), (.int .u8 0), (.int .u8 0), (.int .u8 0), (.int .u8 0), (.bool false)] []))), (105, (.cells [(.rs 104 0 512 17)])), (106, (.map [])), (107, (.cells [(.ptr 105 0), (.map (some 106))])), (108, (.cells [(.rs 144 0 2 12), (.ptr 103 0), (.ptr 107 0)])), (144, (.cells [(.int .u8 2), (.vs [] .full), (.vs [] .full), (.vs [] .full), (.vs [] .full), (.int .i64 0), (.int .i64 0), (.int .u64 0), (.int .u64 0), (.int .i64 0), (.int .i64 0), (.bool false), (.int .u8 2), (.vs [] .full), (.vs [] .full), (.vs [] .full), (.vs [] .full), (.int .i64 0), (.int .i64 0), (.int .u64 0), (.int .u64 0), (.int .i64 0), (.int .i64 0), (.bool false)])), (233, (.cells [(.int .u64 1), (.vs [[(.int .u8 1)], [(.int .u8 1)], [(.int .u8 0)], [(.int .u8 0)], [(.int .u8 0)], [(.int .u8 0)], [(.int .u8 0)], [(.int .u8 0)], [(.int .u8 0)], [(.int .u8 1)], [(.int .u8 2)], [(.int .u8 0)], [(.int .u8 0)], [(.int .u8 40)], [(.int .u8 0)], [(.int .u8 0)], [(.int .u8 0)], [(.int .u8 1)]] (.own 254)), (.bool true), (.int .i64 1)])), (254, .tail), (259, (.cells [(.bool false), (.bool false)])), (261, (.cells [(.int .i64 12), (.int .i64 12)])), (263, (.cells [(.ptr 108 0), .nil, (.int .i64 1000), (.rs 259 0 2 1), (.rs 261 0 2 1), (.int .i64 3), (.int .i64 15), (.bool false), (.bool false)])), (719, (.cells [(.int .u8 2), (.vs [] .full), (.vs [] .full), (.vs [] .full), (.vs [] .full), (.int .i64 0), (.int .i64 0), (.int .u64 0), (.int .u64 0), (.int .i64 0), (.int .i64 0), (.bool false), (.int .u8 2), (.vs [] .full), (.vs [] .full), (.vs [] .full), (.vs [] .full), (.int .i64 0), (.int .i64 0), (.int .u64 0), (.int .u64 0), (.int .i64 0), (.int .i64 0), (.bool false)])), (885, .tail)]
def Mc7n : Nat := 886
def Md3r : AV := (.tup [(.agg [(.int .i64 0), (.int .i64 0), (.int .u64 0), (.vs [] .full)]), (.bool false)])
def Md3e : List (Nat × Blk) := [(102, (.map [((.int .u64 1), (.int .i64 0))])), (103, (.cells [(.int .u8 1), (.rs 233 0 1 4), (.map (some 102))])), (104, (.cells (rp 512 [(.int .u8 0), (.int .u8 0), (.int .u8 0), (.int .u8 0), (.int .u8 0), (.int .u8 0), (.int .u8 0), (.int .u8 0), (.int .u8 0), (.int .u8 0), (.int .u8 0), (.int .u8 0), (.int .u8 0), (.int .u8 0), (.int .u8 0), (.int .u8 0), (.bool false)] []))), (105, (.cells [(.rs 104 0 512 17)])), (106, (.map [])), (107, (.cells [(.ptr 105 0), (.map (some 106))])), (108, (.cells [(.rs 144 0 2 12), (.ptr 103 0), (.ptr 107 0)])), (144, (.cells [(.int .u8 2), (.vs [] .full), (.vs [] .full), (.vs [] .full), (.vs [] .full), (.int .i64 0), (.int .i64 0), (.int .u64 0), (.int .u64 0), (.int .i64 0), (.int .i64 0), (.bool false), (.int .u8 2), (.vs [] .full), (.vs [] .full), (.vs [] .full), (.vs [] .full), (.int .i64 0), (.int .i64 0), (.int .u64 0), (.int .u64 0), (.int .i64 0), (.int .i64 0), (.bool false)])), (233, (.cells [(.int .u64 1), (.vs [[(.int .u8 1)], [(.int .u8 1)], [(.int .u8 0)], [(.int .u8 0)], [(.int .u8 0)], [(.int .u8 0)], [(.int .u8 0)], [(.int .u8 0)], [(.int .u8 0)], [(.int .u8 1)], [(.int .u8 2)], [(.int .u8 0)], [(.int .u8 0)], [(.int .u8 40)], [(.int .u8 0)], [(.int .u8 0)], [(.int .u8 0)], [(.int .u8 1)]] (.own 254)), (.bool true), (.int .i64 1)])), (254, .tail), (259, (.cells [(.bool false), (.bool false)])), (261, (.cells [(.int .i64 0), (.int .i64 0)])), (263, (.cells [(.ptr 108 0), (.ptr 671 0), (.int .i64 1000), (.rs 259 0 2 1), (.rs 261 0 2 1), (.int .i64 2), (.int .i64 0), (.bool false), (.bool false)])), (664, (.cells [(.int .u8 0), (.vs [] .full), (.vs [] .full), (.vs [] .full), (.vs [] .full), (.int .i64 0), (.int .i64 0), (.int .u64 0), (.int .u64 0), (.int .i64 0), (.int .i64 0), (.bool false), (.int .u8 0), (.vs [] .full), (.vs [] .full), (.vs [] .full), (.vs [] .full), (.int .i64 0), (.int .i64 0), (.int .u64 0), (.int .u64 0), (.int .i64 0), (.int .i64 0), (.bool false)])), (665, (.map [((.int .u64 1), (.int .i64 0))])), (666, (.cells [(.int .u8 2), (.rs 905 0 1 4), (.map (some 665))])), (667, (.cells (rp 512 [(.int .u8 0), (.int .u8 0), (.int .u8 0), (.int .u8 0), (.int .u8 0), (.int .u8 0), (.int .u8 0), (.int .u8 0), (.int .u8 0), (.int .u8 0), (.int .u8 0), (.int .u8 0), (.int .u8 0), (.int .u8 0), (.int .u8 0), (.int .u8 0), (.bool false)] []))), (668, (.cells [(.rs 667 0 512 17)])), (669, (.map [])), (670, (.cells [(.ptr 668 0), (.map (some 669))])), (671, (.cells [(.rs 664 0 2 12), (.ptr 666 0), (.ptr 670 0)])), (905, (.cells [(.int .u64 1), (.vs [[(.int .u8 2)], [(.int .u8 1)], [(.int .u8 0)], [(.int .u8 0)], [(.int .u8 0)], [(.int .u8 0)], [(.int .u8 0)], [(.int .u8 0)], [(.int .u8 0)], [(.int .u8 1)], [(.int .u8 0)], [(.int .u8 0)], [(.int .u8 0)], [(.int .u8 0)], [(.int .u8 40)], [(.int .u8 0)], [(.int .u8 0)], [(.int .u8 0)], [(.int .u8 1)]] (.own 926)), (.bool true), (.int .i64 1)])), (926, .tail)]
def Md3n : Nat := 1128
def Md4r : AV := (.tup [(.agg [(.int .i64 0), (.int .i64 0), (.int .u64 0), (.vs [] .full)]), (.bool false)])
def Md4e : List (Nat × Blk) := [(102, (.map [((.int .u64 1), (.int .i64 0))])), (103, (.cells [(.int .u8 1), (.rs 233 0 1 4), (.map (some 102))])), (104, (.cells (rp 512 [(.int .u8 0), (.int .u8 0), (.int .u8 0), (.int .u8 0), (.int .u8 0), (.int .u8 0), (.int .u8 0), (.int .u8 0), (.int .u8 0), (.int .u8 0), (.int .u8 0), (.int .u8 0), (.int .u8 0), (.int .u8 0), (.int .u8 0), (.int .u8 0), (.bool false)] []))), (105, (.cells [(.rs 104 0 512 17)])), (106, (.map [])), (107, (.cells [(.ptr 105 0), (.map (some 106))])), (108, (.cells [(.rs 144 0 2 12), (.ptr 103 0), (.ptr 107 0)])), (144, (.cells [(.int .u8 2), (.vs [] .full), (.vs [] .full), (.vs [] .full), (.vs [] .full), (.int .i64 0), (.int .i64 0), (.int .u64 0), (.int .u64 0), (.int .i64 0), (.int .i64 0), (.bool false), (.int .u8 2), (.vs [] .full), (.vs [] .full), (.vs [] .full), (.vs [] .full), (.int .i64 0), (.int .i64 0), (.int .u64 0), (.int .u64 0), (.int .i64 0), (.int .i64 0), (.bool false)])), (233, (.cells [(.int .u64 1), (.vs [[(.int .u8 1)], [(.int .u8 1)], [(.int .u8 0)], [(.int .u8 0)], [(.int .u8 0)], [(.int .u8 0)], [(.int .u8 0)], [(.int .u8 0)], [(.int .u8 0)], [(.int .u8 1)], [(.int .u8 2)], [(.int .u8 0)], [(.int .u8 0)], [(.int .u8 40)], [(.int .u8 0)], [(.int .u8 0)], [(.int .u8 0)], [(.int .u8 1)]] (.own 254)), (.bool true), (.int .i64 1)])), (254, .tail), (259, (.cells [(.bool true), (.bool false)])), (261, (.cells [(.int .i64 0), (.int .i64 0)])), (263, (.cells [(.ptr 108 0), (.ptr 671 0), (.int .i64 1000), (.rs 259 0 2 1), (.rs 261 0 2 1), (.int .i64 2), (.int .i64 0), (.bool false), (.bool false)])), (664, (.cells [(.int .u8 0), (.vs [] .full), (.vs [] .full), (.vs [] .full), (.vs [] .full), (.int .i64 0), (.int .i64 0), (.int .u64 0), (.int .u64 0), (.int .i64 0), (.int .i64 0), (.bool false), (.int .u8 0), (.vs [] .full), (.vs [] .full), (.vs [] .full), (.vs [] .full), (.int .i64 0), (.int .i64 0), (.int .u64 0), (.int .u64 0), (.int .i64 0), (.int .i64 0), (.bool false)])), (665, (.map [((.int .u64 1), (.int .i64 0))])), (666, (.cells [(.int .u8 2), (.rs 905 0 1 4), (.map (some 665))])), (667, (.cells (rp 512 [(.int .u8 0), (.int .u8 0), (.int .u8 0), (.int .u8 0), (.int .u8 0), (.int .u8 0), (.int .u8 0), (.int .u8 0), (.int .u8 0), (.int .u8 0), (.int .u8 0), (.int .u8 0), (.int .u8 0), (.int .u8 0), (.int .u8 0), (.int .u8 0), (.bool false)] []))), (668, (.cells [(.rs 667 0 512 17)])), (669, (.map [])), (670, (.cells [(.ptr 668 0), (.map (some 669))])), (671, (.cells [(.rs 664 0 2 12), (.ptr 666 0), (.ptr 670 0)])), (905, (.cells [(.int .u64 1), (.vs [[(.int .u8 2)], [(.int .u8 1)], [(.int .u8 0)], [(.int .u8 0)], [(.int .u8 0)], [(.int .u8 0)], [(.int .u8 0)], [(.int .u8 0)], [(.int .u8 0)], [(.int .u8 1)], [(.int .u8 0)], [(.int .u8 0)], [(.int .u8 0)], [(.int .u8 0)], [(.int .u8 40)], [(.int .u8 0)], [(.int .u8 0)], [(.int .u8 0)], [(.int .u8 1)]] (.own 926)), (.bool true), (.int .i64 1)])), (926, .tail)]
def Md4n : Nat := 1168
def Md5r : AV := (.rs 1229 0 2 12)
def Md5e : List (Nat × Blk) := [(102, (.map [((.int .u64 1), (.int .i64 0))])), (103, (.cells [(.int .u8 1), (.rs 233 0 1 4), (.map (some 102))])), (104, (.cells (rp 512 [(.int .u8 0), (.int .u8 0), (.int .u8 0), (.int .u8 0), (.int .u8 0), (.int .u8 0), (.int .u8 0), (.int .u8 0), (.int .u8 0), (.int .u8 0), (.int .u8 0), (.int .u8 0), (.int .u8 0), (.int .u8 0), (.int .u8 0), (.int .u8 0), (.bool false)] []))), (105, (.cells [(.rs 104 0 512 17)])), (106, (.map [])), (107, (.cells [(.ptr 105 0), (.map (some 106))])), (108, (.cells [(.rs 144 0 2 12), (.ptr 103 0), (.ptr 107 0)])), (144, (.cells [(.int .u8 2), (.vs [] .full), (.vs [] .full), (.vs [] .full), (.vs [] .full), (.int .i64 0), (.int .i64 0), (.int .u64 0), (.int .u64 0), (.int .i64 0), (.int .i64 0), (.bool false), (.int .u8 2), (.vs [] .full), (.vs [] .full), (.vs [] .full), (.vs [] .full), (.int .i64 0), (.int .i64 0), (.int .u64 0), (.int .u64 0), (.int .i64 0), (.int .i64 0), (.bool false)])), (233, (.cells [(.int .u64 1), (.vs [[(.int .u8 1)], [(.int .u8 1)], [(.int .u8 0)], [(.int .u8 0)], [(.int .u8 0)], [(.int .u8 0)], [(.int .u8 0)], [(.int .u8 0)], [(.int .u8 0)], [(.int .u8 1)], [(.int .u8 2)], [(.int .u8 0)], [(.int .u8 0)], [(.int .u8 40)], [(.int .u8 0)], [(.int .u8 0)], [(.int .u8 0)], [(.int .u8 1)]] (.own 254)), (.bool true), (.int .i64 1)])), (254, .tail), (259, (.cells [(.bool true), (.bool false)])), (261, (.cells [(.int .i64 0), (.int .i64 0)])), (263, (.cells [(.ptr 108 0), (.ptr 671 0), (.int .i64 1000), (.rs 259 0 2 1), (.rs 261 0 2 1), (.int .i64 2), (.int .i64 0), (.bool false), (.bool false)])), (664, (.cells [(.int .u8 0), (.vs [] .full), (.vs [] .full), (.vs [] .full), (.vs [] .full), (.int .i64 0), (.int .i64 0), (.int .u64 0), (.int .u64 0), (.int .i64 0), (.int .i64 0), (.bool false), (.int .u8 0), (.vs [] .full), (.vs [] .full), (.vs [] .full), (.vs [] .full), (.int .i64 0), (.int .i64 0), (.int .u64 0), (.int .u64 0), (.int .i64 0), (.int .i64 0), (.bool false)])), (665, (.map [((.int .u64 1), (.int .i64 0))])), (666, (.cells [(.int .u8 2), (.rs 905 0 1 4), (.map (some 665))])), (667, (.cells (rp 512 [(.int .u8 0), (.int .u8 0), (.int .u8 0), (.int .u8 0), (.int .u8 0), (.int .u8 0), (.int .u8 0), (.int .u8 0), (.int .u8 0), (.int .u8 0), (.int .u8 0), (.int .u8 0), (.int .u8 0), (.int .u8 0), (.int .u8 0), (.int .u8 0), (.bool false)] []))), (668, (.cells [(.rs 667 0 512 17)])), (669, (.map [])), (670, (.cells [(.ptr 668 0), (.map (some 669))])), (671, (.cells [(.rs 664 0 2 12), (.ptr 666 0), (.ptr 670 0)])), (905, (.cells [(.int .u64 1), (.vs [[(.int .u8 2)], [(.int .u8 1)], [(.int .u8 0)], [(.int .u8 0)], [(.int .u8 0)], [(.int .u8 0)], [(.int .u8 0)], [(.int .u8 0)], [(.int .u8 0)], [(.int .u8 1)], [(.int .u8 0)], [(.int .u8 0)], [(.int .u8 0)], [(.int .u8 0)], [(.int .u8 40)], [(.int .u8 0)], [(.int .u8 0)], [(.int .u8 0)], [(.int .u8 1)]] (.own 926)), (.bool true), (.int .i64 1)])), (926, .tail), (1229, (.cells [(.int .u8 0), (.vs [] .full), (.vs [] .full), (.vs [] .full), (.vs [] .full), (.int .i64 0), (.int .i64 0), (.int .u64 0), (.int .u64 0), (.int .i64 0), (.int .i64 0), (.bool true), (.int .u8 0), (.vs [] .full), (.vs [] .full), (.vs [] .full), (.vs [] .full), (.int .i64 0), (.int .i64 0), (.int .u64 0), (.int .u64 0), (.int .i64 0), (.int .i64 0), (.bool false)]))]
def Md5n : Nat := 1230
def Md6r : AV := (.tup [(.agg [(.int .i64 0), (.int .i64 0), (.int .u64 0), (.vs [[(.int .u8 0)], [(.int .u8 0)], [(.int .u8 0)]] (.own 1314))]), (.bool true)])
def Md6e : List (Nat × Blk) := [(102, (.map [((.int .u64 1), (.int .i64 0))])), (103, (.cells [(.int .u8 1), (.rs 233 0 1 4), (.map (some 102))])), (104, (.cells (rp 512 [(.int .u8 0), (.int .u8 0), (.int .u8 0), (.int .u8 0), (.int .u8 0), (.int .u8 0), (.int .u8 0), (.int .u8 0), (.int .u8 0), (.int .u8 0), (.int .u8 0), (.int .u8 0), (.int .u8 0), (.int .u8 0), (.int .u8 0), (.int .u8 0), (.bool false)] []))), (105, (.cells [(.rs 104 0 512 17)])), (106, (.map [])), (107, (.cells [(.ptr 105 0), (.map (some 106))])), (108, (.cells [(.rs 144 0 2 12), (.ptr 103 0), (.ptr 107 0)])), (144, (.cells [(.int .u8 2), (.vs [] .full), (.vs [] .full), (.vs [] .full), (.vs [] .full), (.int .i64 0), (.int .i64 0), (.int .u64 0), (.int .u64 0), (.int .i64 0), (.int .i64 0), (.bool false), (.int .u8 2), (.vs [] .full), (.vs [] .full), (.vs [] .full), (.vs [] .full), (.int .i64 0), (.int .i64 0), (.int .u64 0), (.int .u64 0), (.int .i64 0), (.int .i64 0), (.bool false)])), (233, (.cells [(.int .u64 1), (.vs [[(.int .u8 1)], [(.int .u8 1)], [(.int .u8 0)], [(.int .u8 0)], [(.int .u8 0)], [(.int .u8 0)], [(.int .u8 0)], [(.int .u8 0)], [(.int .u8 0)], [(.int .u8 1)], [(.int .u8 2)], [(.int .u8 0)], [(.int .u8 0)], [(.int .u8 40)], [(.int .u8 0)], [(.int .u8 0)], [(.int .u8 0)], [(.int .u8 1)]] (.own 254)), (.bool true), (.int .i64 1)])), (254, .tail), (259, (.cells [(.bool true), (.bool false)])), (261, (.cells [(.int .i64 12), (.int .i64 0)])), (263, (.cells [(.ptr 108 0), (.ptr 671 0), (.int .i64 1000), (.rs 259 0 2 1), (.rs 261 0 2 1), (.int .i64 2), (.int .i64 0), (.bool false), (.bool false)])), (664, (.cells [(.int .u8 0), (.vs [] .full), (.vs [] .full), (.vs [] .full), (.vs [] .full), (.int .i64 0), (.int .i64 0), (.int .u64 0), (.int .u64 0), (.int .i64 0), (.int .i64 0), (.bool false), (.int .u8 0), (.vs [] .full), (.vs [] .full), (.vs [] .full), (.vs [] .full), (.int .i64 0), (.int .i64 0), (.int .u64 0), (.int .u64 0), (.int .i64 0), (.int .i64 0), (.bool false)])), (665, (.map [((.int .u64 1), (.int .i64 0))])), (666, (.cells [(.int .u8 2), (.rs 905 0 1 4), (.map (some 665))])), (667, (.cells (rp 512 [(.int .u8 0), (.int .u8 0), (.int .u8 0), (.int .u8 0), (.int .u8 0), (.int .u8 0), (.int .u8 0), (.int .u8 0), (.int .u8 0), (.int .u8 0), (.int .u8 0), (.int .u8 0), (.int .u8 0), (.int .u8 0), (.int .u8 0), (.int .u8 0), (.bool false)] []))), (668, (.cells [(.rs 667 0 512 17)])), (669, (.map [])), (670, (.cells [(.ptr 668 0), (.map (some 669))])), (671, (.cells [(.rs 664 0 2 12), (.ptr 666 0), (.ptr 670 0)])), (905, (.cells [(.int .u64 1), (.vs [[(.int .u8 2)], [(.int .u8 1)], [(.int .u8 0)], [(.int .u8 0)], [(.int .u8 0)], [(.int .u8 0)], [(.int .u8 0)], [(.int .u8 0)], [(.int .u8 0)], [(.int .u8 1)], [(.int .u8 0)], [(.int .u8 0)], [(.int .u8 0)], [(.int .u8 0)], [(.int .u8 40)], [(.int .u8 0)], [(.int .u8 0)], [(.int .u8 0)], [(.int .u8 1)]] (.own 926)), (.bool true), (.int .i64 1)])), (926, .tail), (1229, (.cells [(.int .u8 0), (.vs [] .full), (.vs [] .full), (.vs [] .full), (.vs [] .full), (.int .i64 0), (.int .i64 0), (.int .u64 0), (.int .u64 0), (.int .i64 0), (.int .i64 0), (.bool true), (.int .u8 0), (.vs [] .full), (.vs [] .full), (.vs [] .full), (.vs [] .full), (.int .i64 0), (.int .i64 0), (.int .u64 0), (.int .u64 0), (.int .i64 0), (.int .i64 0), (.bool false)])), (1314, .tail)]
def Md6n : Nat := 1315
def Md7r : AV := (.tup [(.agg [(.int .i64 1), (.int .i64 0), (.int .u64 1), (.vs [[(.int .u8 2)], [(.int .u8 0)]] (.own 1454))]), (.bool true)])
def Md7e : List (Nat × Blk) := [(102, (.map [((.int .u64 1), (.int .i64 0))])), (103, (.cells [(.int .u8 1), (.rs 233 0 1 4), (.map (some 102))])), (104, (.cells (rp 512 [(.int .u8 0), (.int .u8 0), (.int .u8 0), (.int .u8 0), (.int .u8 0), (.int .u8 0), (.int .u8 0), (.int .u8 0), (.int .u8 0), (.int .u8 0), (.int .u8 0), (.int .u8 0), (.int .u8 0), (.int .u8 0), (.int .u8 0), (.int .u8 0), (.bool false)] []))), (105, (.cells [(.rs 104 0 512 17)])), (106, (.map [])), (107, (.cells [(.ptr 105 0), (.map (some 106))])), (108, (.cells [(.rs 144 0 2 12), (.ptr 103 0), (.ptr 107 0)])), (144, (.cells [(.int .u8 2), (.vs [] .full), (.vs [] .full), (.vs [] .full), (.vs [] .full), (.int .i64 0), (.int .i64 0), (.int .u64 0), (.int .u64 0), (.int .i64 0), (.int .i64 0), (.bool false), (.int .u8 2), (.vs [] .full), (.vs [] .full), (.vs [] .full), (.vs [] .full), (.int .i64 0), (.int .i64 0), (.int .u64 0), (.int .u64 0), (.int .i64 0), (.int .i64 0), (.bool false)])), (233, (.cells [(.int .u64 1), (.vs [[(.int .u8 1)], [(.int .u8 1)], [(.int .u8 0)], [(.int .u8 0)], [(.int .u8 0)], [(.int .u8 0)], [(.int .u8 0)], [(.int .u8 0)], [(.int .u8 0)], [(.int .u8 1)], [(.int .u8 2)], [(.int .u8 0)], [(.int .u8 0)], [(.int .u8 40)], [(.int .u8 0)], [(.int .u8 0)], [(.int .u8 0)], [(.int .u8 1)]] (.own 254)), (.bool true), (.int .i64 1)])), (254, .tail), (259, (.cells [(.bool true), (.bool false)])), (261, (.cells [(.int .i64 12), (.int .i64 12)])), (263, (.cells [(.ptr 108 0), (.ptr 671 0), (.int .i64 1000), (.rs 259 0 2 1), (.rs 261 0 2 1), (.int .i64 2), (.int .i64 0), (.bool false), (.bool false)])), (664, (.cells [(.int .u8 0), (.vs [] .full), (.vs [] .full), (.vs [] .full), (.vs [] .full), (.int .i64 0), (.int .i64 0), (.int .u64 0), (.int .u64 0), (.int .i64 0), (.int .i64 0), (.bool false), (.int .u8 0), (.vs [] .full), (.vs [] .full), (.vs [] .full), (.vs [] .full), (.int .i64 0), (.int .i64 0), (.int .u64 0), (.int .u64 0), (.int .i64 0), (.int .i64 0), (.bool false)])), (665, (.map [((.int .u64 1), (.int .i64 0))])), (666, (.cells [(.int .u8 2), (.rs 905 0 1 4), (.map (some 665))])), (667, (.cells (rp 512 [(.int .u8 0), (.int .u8 0), (.int .u8 0), (.int .u8 0), (.int .u8 0), (.int .u8 0), (.int .u8 0), (.int .u8 0), (.int .u8 0), (.int .u8 0), (.int .u8 0), (.int .u8 0), (.int .u8 0), (.int .u8 0), (.int .u8 0), (.int .u8 0), (.bool false)] []))), (668, (.cells [(.rs 667 0 512 17)])), (669, (.map [])), (670, (.cells [(.ptr 668 0), (.map (some 669))])), (671, (.cells [(.rs 664 0 2 12), (.ptr 666 0), (.ptr 670 0)])), (905, (.cells [(.int .u64 1), (.vs [[(.int .u8 2)], [(.int .u8 1)], [(.int .u8 0)], [(.int .u8 0)], [(.int .u8 0)], [(.int .u8 0)], [(.int .u8 0)], [(.int .u8 0)], [(.int .u8 0)], [(.int .u8 1)], [(.int .u8 0)], [(.int .u8 0)], [(.int .u8 0)], [(.int .u8 0)], [(.int .u8 40)], [(.int .u8 0)], [(.int .u8 0)], [(.int .u8 0)], [(.int .u8 1)]] (.own 926)), (.bool true), (.int .i64 1)])), (926, .tail), (1229, (.cells [(.int .u8 0), (.vs [] .full), (.vs [] .full), (.vs [] .full), (.vs [] .full), (.int .i64 0), (.int .i64 0), (.int .u64 0), (.int .u64 0), (.int .i64 0), (.int .i64 0), (.bool true), (.int .u8 0), (.vs [] .full), (.vs [] .full), (.vs [] .full), (.vs [] .full), (.int .i64 0), (.int .i64 0), (.int .u64 0), (.int .u64 0), (.int .i64 0), (.int .i64 0), (.bool false)])), (1454, .tail)]
def Md7n : Nat := 1455
def Me3r : AV := (.tup [(.agg [(.int .i64 0), (.int .i64 0), (.int .u64 0), (.vs [] .full)]), (.bool false)])
def Me3e : List (Nat × Blk) := [(102, (.map [((.int .u64 1), (.int .i64 0))])), (103, (.cells [(.int .u8 1), (.rs 233 0 1 4), (.map (some 102))])), (104, (.cells (rp 512 [(.int .u8 0), (.int .u8 0), (.int .u8 0), (.int .u8 0), (.int .u8 0), (.int .u8 0), (.int .u8 0), (.int .u8 0), (.int .u8 0), (.int .u8 0), (.int .u8 0), (.int .u8 0), (.int .u8 0), (.int .u8 0), (.int .u8 0), (.int .u8 0), (.bool false)] []))), (105, (.cells [(.rs 104 0 512 17)])), (106, (.map [])), (107, (.cells [(.ptr 105 0), (.map (some 106))])), (108, (.cells [(.rs 144 0 2 12), (.ptr 103 0), (.ptr 107 0)])), (144, (.cells [(.int .u8 2), (.vs [] .full), (.vs [] .full), (.vs [] .full), (.vs [] .full), (.int .i64 0), (.int .i64 0), (.int .u64 0), (.int .u64 0), (.int .i64 0), (.int .i64 0), (.bool false), (.int .u8 2), (.vs [] .full), (.vs [] .full), (.vs [] .full), (.vs [] .full), (.int .i64 0), (.int .i64 0), (.int .u64 0), (.int .u64 0), (.int .i64 0), (.int .i64 0), (.bool false)])), (233, (.cells [(.int .u64 1), (.vs [[(.int .u8 1)], [(.int .u8 1)], [(.int .u8 0)], [(.int .u8 0)], [(.int .u8 0)], [(.int .u8 0)], [(.int .u8 0)], [(.int .u8 0)], [(.int .u8 0)], [(.int .u8 1)], [(.int .u8 2)], [(.int .u8 0)], [(.int .u8 0)], [(.int .u8 40)], [(.int .u8 0)], [(.int .u8 0)], [(.int .u8 0)], [(.int .u8 1)]] (.own 254)), (.bool true), (.int .i64 1)])), (254, .tail), (259, (.cells [(.bool false), (.bool false)])), (261, (.cells [(.int .i64 0), (.int .i64 0)])), (263, (.cells [(.ptr 108 0), (.ptr 671 0), (.int .i64 1000), (.rs 259 0 2 1), (.rs 261 0 2 1), (.int .i64 2), (.int .i64 0), (.bool false), (.bool false)])), (664, (.cells [(.int .u8 0), (.vs [] .full), (.vs [] .full), (.vs [] .full), (.vs [] .full), (.int .i64 0), (.int .i64 0), (.int .u64 0), (.int .u64 0), (.int .i64 0), (.int .i64 0), (.bool false), (.int .u8 0), (.vs [] .full), (.vs [] .full), (.vs [] .full), (.vs [] .full), (.int .i64 0), (.int .i64 0), (.int .u64 0), (.int .u64 0), (.int .i64 0), (.int .i64 0), (.bool false)])), (665, (.map [((.int .u64 1), (.int .i64 0))])), (666, (.cells [(.int .u8 2), (.rs 905 0 1 4), (.map (some 665))])), (667, (.cells (rp 512 [(.int .u8 0), (.int .u8 0), (.int .u8 0), (.int .u8 0), (.int .u8 0), (.int .u8 0), (.int .u8 0), (.int .u8 0), (.int .u8 0), (.int .u8 0), (.int .u8 0), (.int .u8 0), (.int .u8 0), (.int .u8 0), (.int .u8 0), (.int .u8 0), (.bool false)] []))), (668, (.cells [(.rs 667 0 512 17)])), (669, (.map [])), (670, (.cells [(.ptr 668 0), (.map (some 669))])), (671, (.cells [(.rs 664 0 2 12), (.ptr 666 0), (.ptr 670 0)])), (905, (.cells [(.int .u64 1), (.vs [[(.int .u8 2)], [(.int .u8 1)], [(.int .u8 0)], [(.int .u8 0)], [(.int .u8 0)], [(.int .u8 0)], [(.int .u8 0)], [(.int .u8 0)], [(.int .u8 0)], [(.int .u8 1)], [(.int .u8 0)], [(.int .u8 0)], [(.int .u8 0)], [(.int .u8 0)], [(.int .u8 40)], [(.int .u8 0)], [(.int .u8 0)], [(.int .u8 0)], [(.int .u8 1)]] (.own 926)), (.bool true), (.int .i64 1)])), (926, .tail)]
def Me3n : Nat := 1128
def Me4r : AV := (.tup [(.agg [(.int .i64 0), (.int .i64 0), (.int .u64 0), (.vs [] .full)]), (.bool false)])
def Me4e : List (Nat × Blk) := [(102, (.map [((.int .u64 1), (.int .i64 0))])), (103, (.cells [(.int .u8 1), (.rs 233 0 1 4), (.map (some 102))])), (104, (.cells (rp 512 [(.int .u8 0), (.int .u8 0), (.int .u8 0), (.int .u8 0), (.int .u8 0), (.int .u8 0), (.int .u8 0), (.int .u8 0), (.int .u8 0), (.int .u8 0), (.int .u8 0), (.int .u8 0), (.int .u8 0), (.int .u8 0), (.int .u8 0), (.int .u8 0), (.bool false)] []))), (105, (.cells [(.rs 104 0 512 17)])), (106, (.map [])), (107, (.cells [(.ptr 105 0), (.map (some 106))])), (108, (.cells [(.rs 144 0 2 12), (.ptr 103 0), (.ptr 107 0)])), (144, (.cells [(.int .u8 2), (.vs [] .full), (.vs [] .full), (.vs [] .full), (.vs [] .full), (.int .i64 0), (.int .i64 0), (.int .u64 0), (.int .u64 0), (.int .i64 0), (.int .i64 0), (.bool false), (.int .u8 2), (.vs [] .full), (.vs [] .full), (.vs [] .full), (.vs [] .full), (.int .i64 0), (.int .i64 0), (.int .u64 0), (.int .u64 0), (.int .i64 0), (.int .i64 0), (.bool false)])), (233, (.cells [(.int .u64 1), (.vs [[(.int .u8 1)], [(.int .u8 1)], [(.int .u8 0)], [(.int .u8 0)], [(.int .u8 0)], [(.int .u8 0)], [(.int .u8 0)], [(.int .u8 0)], [(.int .u8 0)], [(.int .u8 1)], [(.int .u8 2)], [(.int .u8 0)], [(.int .u8 0)], [(.int .u8 40)], [(.int .u8 0)], [(.int .u8 0)], [(.int .u8 0)], [(.int .u8 1)]] (.own 254)), (.bool true), (.int .i64 1)])), (254, .tail), (259, (.cells [(.bool false), (.bool true)])), (261, (.cells [(.int .i64 0), (.int .i64 0)])), (263, (.cells [(.ptr 108 0), (.ptr 671 0), (.int .i64 1000), (.rs 259 0 2 1), (.rs 261 0 2 1), (.int .i64 2), (.int .i64 0), (.bool false), (.bool false)])), (664, (.cells [(.int .u8 0), (.vs [] .full), (.vs [] .full), (.vs [] .full), (.vs [] .full), (.int .i64 0), (.int .i64 0), (.int .u64 0), (.int .u64 0), (.int .i64 0), (.int .i64 0), (.bool false), (.int .u8 0), (.vs [] .full), (.vs [] .full), (.vs [] .full), (.vs [] .full), (.int .i64 0), (.int .i64 0), (.int .u64 0), (.int .u64 0), (.int .i64 0), (.int .i64 0), (.bool false)])), (665, (.map [((.int .u64 1), (.int .i64 0))])), (666, (.cells [(.int .u8 2), (.rs 905 0 1 4), (.map (some 665))])), (667, (.cells (rp 512 [(.int .u8 0), (.int .u8 0), (.int .u8 0), (.int .u8 0), (.int .u8 0), (.int .u8 0), (.int .u8 0), (.int .u8 0), (.int .u8 0), (.int .u8 0), (.int .u8 0), (.int .u8 0), (.int .u8 0), (.int .u8 0), (.int .u8 0), (.int .u8 0), (.bool false)] []))), (668, (.cells [(.rs 667 0 512 17)])), (669, (.map [])), (670, (.cells [(.ptr 668 0), (.map (some 669))])), (671, (.cells [(.rs 664 0 2 12), (.ptr 666 0), (.ptr 670 0)])), (905, (.cells [(.int .u64 1), (.vs [[(.int .u8 2)], [(.int .u8 1)], [(.int .u8 0)], [(.int .u8 0)], [(.int .u8 0)], [(.int .u8 0)], [(.int .u8 0)], [(.int .u8 0)], [(.int .u8 0)], [(.int .u8 1)], [(.int .u8 0)], [(.int .u8 0)], [(.int .u8 0)], [(.int .u8 0)], [(.int .u8 40)], [(.int .u8 0)], [(.int .u8 0)], [(.int .u8 0)], [(.int .u8 1)]] (.own 926)), (.bool true), (.int .i64 1)])), (926, .tail)]
def Me4n : Nat := 1168
def Me5r : AV := (.rs 1229 0 2 12)
def Me5e : List (Nat × Blk) := [(102, (.map [((.int .u64 1), (.int .i64 0))])), (103, (.cells [(.int .u8 1), (.rs 233 0 1 4), (.map (some 102))])), (104, (.cells (rp 512 [(.int .u8 0), (.int .u8 0), (.int .u8 0), (.int .u8 0), (.int .u8 0), (.int .u8 0), (.int .u8 0), (.int .u8 0), (.int .u8 0), (.int .u8 0), (.int .u8 0), (.int .u8 0), (.int .u8 0), (.int .u8 0), (.int .u8 0), (.int .u8 0), (.bool false)] []))), (105, (.cells [(.rs 104 0 512 17)])), (106, (.map [])), (107, (.cells [(.ptr 105 0), (.map (some 106))])), (108, (.cells [(.rs 144 0 2 12), (.ptr 103 0), (.ptr 107 0)])), (144, (.cells [(.int .u8 2), (.vs [] .full), (.vs [] .full), (.vs [] .full), (.vs [] .full), (.int .i64 0), (.int .i64 0), (.int .u64 0), (.int .u64 0), (.int .i64 0), (.int .i64 0), (.bool false), (.int .u8 2), (.vs [] .full), (.vs [] .full), (.vs [] .full), (.vs [] .full), (.int .i64 0), (.int .i64 0), (.int .u64 0), (.int .u64 0), (.int .i64 0), (.int .i64 0), (.bool false)])), (233, (.cells [(.int .u64 1), (.vs [[(.int .u8 1)], [(.int .u8 1)], [(.int .u8 0)], [(.int .u8 0)], [(.int .u8 0)], [(.int .u8 0)], [(.int .u8 0)], [(.int .u8 0)], [(.int .u8 0)], [(.int .u8 1)], [(.int .u8 2)], [(.int .u8 0)], [(.int .u8 0)], [(.int .u8 40)], [(.int .u8 0)], [(.int .u8 0)], [(.int .u8 0)], [(.int .u8 1)]] (.own 254)), (.bool true), (.int .i64 1)])), (254, .tail), (259, (.cells [(.bool false), (.bool true)])), (261, (.cells [(.int .i64 0), (.int .i64 0)])), (263, (.cells [(.ptr 108 0), (.ptr 671 0), (.int .i64 1000), (.rs 259 0 2 1), (.rs 261 0 2 1), (.int .i64 2), (.int .i64 0), (.bool false), (.bool false)])), (664, (.cells [(.int .u8 0), (.vs [] .full), (.vs [] .full), (.vs [] .full), (.vs [] .full), (.int .i64 0), (.int .i64 0), (.int .u64 0), (.int .u64 0), (.int .i64 0), (.int .i64 0), (.bool false), (.int .u8 0), (.vs [] .full), (.vs [] .full), (.vs [] .full), (.vs [] .full), (.int .i64 0), (.int .i64 0), (.int .u64 0), (.int .u64 0), (.int .i64 0), (.int .i64 0), (.bool false)])), (665, (.map [((.int .u64 1), (.int .i64 0))])), (666, (.cells [(.int .u8 2), (.rs 905 0 1 4), (.map (some 665))])), (667, (.cells (rp 512 [(.int .u8 0), (.int .u8 0), (.int .u8 0), (.int .u8 0), (.int .u8 0), (.int .u8 0), (.int .u8 0), (.int .u8 0), (.int .u8 0), (.int .u8 0), (.int .u8 0), (.int .u8 0), (.int .u8 0), (.int .u8 0), (.int .u8 0), (.int .u8 0), (.bool false)] []))), (668, (.cells [(.rs 667 0 512 17)])), (669, (.map [])), (670, (.cells [(.ptr 668 0), (.map (some 669))])), (671, (.cells [(.rs 664 0 2 12), (.ptr 666 0), (.ptr 670 0)])), (905, (.cells [(.int .u64 1), (.vs [[(.int .u8 2)], [(.int .u8 1)], [(.int .u8 0)], [(.int .u8 0)], [(.int .u8 0)], [(.int .u8 0)], [(.int .u8 0)], [(.int .u8 0)], [(.int .u8 0)], [(.int .u8 1)], [(.int .u8 0)], [(.int .u8 0)], [(.int .u8 0)], [(.int .u8 0)], [(.int .u8 40)], [(.int .u8 0)], [(.int .u8 0)], [(.int .u8 0)], [(.int .u8 1)]] (.own 926)), (.bool true), (.int .i64 1)])), (926, .tail), (1229, (.cells [(.int .u8 0), (.vs [] .full), (.vs [] .full), (.vs [] .full), (.vs [] .full), (.int .i64 0), (.int .i64 0), (.int .u64 0), (.int .u64 0), (.int .i64 0), (.int .i64 0), (.bool false), (.int .u8 0), (.vs [] .full), (.vs [] .full), (.vs [] .full), (.vs [] .full), (.int .i64 0), (.int .i64 0), (.int .u64 0), (.int .u64 0), (.int .i64 0), (.int .i64 0), (.bool true)]))]
def Me5n : Nat := 1230
def Me6r : AV := (.tup [(.agg [(.int .i64 0), (.int .i64 0), (.int .u64 0), (.vs [[(.int .u8 2)], [(.int .u8 0)]] (.own 1369))]), (.bool true)])
def Me6e : List (Nat × Blk) := [(102, (.map [((.int .u64 1), (.int .i64 0))])), (103, (.cells [(.int .u8 1), (.rs 233 0 1 4), (.map (some 102))])), (104, (.cells (rp 512 [(.int .u8 0), (.int .u8 0), (.int .u8 0), (.int .u8 0), (.int .u8 0), (.int .u8 0), (.int .u8 0), (.int .u8 0), (.int .u8 0), (.int .u8 0), (.int .u8 0), (.int .u8 0), (.int .u8 0), (.int .u8 0), (.int .u8 0), (.int .u8 0), (.bool false)] []))), (105, (.cells [(.rs 104 0 512 17)])), (106, (.map [])), (107, (.cells [(.ptr 105 0), (.map (some 106))])), (108, (.cells [(.rs 144 0 2 12), (.ptr 103 0), (.ptr 107 0)])), (144, (.cells [(.int .u8 2), (.vs [] .full), (.vs [] .full), (.vs [] .full), (.vs [] .full), (.int .i64 0), (.int .i64 0), (.int .u64 0), (.int .u64 0), (.int .i64 0), (.int .i64 0), (.bool false), (.int .u8 2), (.vs [] .full), (.vs [] .full), (.vs [] .full), (.vs [] .full), (.int .i64 0), (.int .i64 0), (.int .u64 0), (.int .u64 0), (.int .i64 0), (.int .i64 0), (.bool false)])), (233, (.cells [(.int .u64 1), (.vs [[(.int .u8 1)], [(.int .u8 1)], [(.int .u8 0)], [(.int .u8 0)], [(.int .u8 0)], [(.int .u8 0)], [(.int .u8 0)], [(.int .u8 0)], [(.int .u8 0)], [(.int .u8 1)], [(.int .u8 2)], [(.int .u8 0)], [(.int .u8 0)], [(.int .u8 40)], [(.int .u8 0)], [(.int .u8 0)], [(.int .u8 0)], [(.int .u8 1)]] (.own 254)), (.bool true), (.int .i64 1)])), (254, .tail), (259, (.cells [(.bool false), (.bool true)])), (261, (.cells [(.int .i64 12), (.int .i64 0)])), (263, (.cells [(.ptr 108 0), (.ptr 671 0), (.int .i64 1000), (.rs 259 0 2 1), (.rs 261 0 2 1), (.int .i64 2), (.int .i64 0), (.bool false), (.bool false)])), (664, (.cells [(.int .u8 0), (.vs [] .full), (.vs [] .full), (.vs [] .full), (.vs [] .full), (.int .i64 0), (.int .i64 0), (.int .u64 0), (.int .u64 0), (.int .i64 0), (.int .i64 0), (.bool false), (.int .u8 0), (.vs [] .full), (.vs [] .full), (.vs [] .full), (.vs [] .full), (.int .i64 0), (.int .i64 0), (.int .u64 0), (.int .u64 0), (.int .i64 0), (.int .i64 0), (.bool false)])), (665, (.map [((.int .u64 1), (.int .i64 0))])), (666, (.cells [(.int .u8 2), (.rs 905 0 1 4), (.map (some 665))])), (667, (.cells (rp 512 [(.int .u8 0), (.int .u8 0), (.int .u8 0), (.int .u8 0), (.int .u8 0), (.int .u8 0), (.int .u8 0), (.int .u8 0), (.int .u8 0), (.int .u8 0), (.int .u8 0), (.int .u8 0), (.int .u8 0), (.int .u8 0), (.int .u8 0), (.int .u8 0), (.bool false)] []))), (668, (.cells [(.rs 667 0 512 17)])), (669, (.map [])), (670, (.cells [(.ptr 668 0), (.map (some 669))])), (671, (.cells [(.rs 664 0 2 12), (.ptr 666 0), (.ptr 670 0)])), (905, (.cells [(.int .u64 1), (.vs [[(.int .u8 2)], [(.int .u8 1)], [(.int .u8 0)], [(.int .u8 0)], [(.int .u8 0)], [(.int .u8 0)], [(.int .u8 0)], [(.int .u8 0)], [(.int .u8 0)], [(.int .u8 1)], [(.int .u8 0)], [(.int .u8 0)], [(.int .u8 0)], [(.int .u8 0)], [(.int .u8 40)], [(.int .u8 0)], [(.int .u8 0)], [(.int .u8 0)], [(.int .u8 1)]] (.own 926)), (.bool true), (.int .i64 1)])), (926, .tail), (1229, (.cells [(.int .u8 0), (.vs [] .full), (.vs [] .full), (.vs [] .full), (.vs [] .full), (.int .i64 0), (.int .i64 0), (.int .u64 0), (.int .u64 0), (.int .i64 0), (.int .i64 0), (.bool false), (.int .u8 0), (.vs [] .full), (.vs [] .full), (.vs [] .full), (.vs [] .full), (.int .i64 0), (.int .i64 0), (.int .u64 0), (.int .u64 0), (.int .i64 0), (.int .i64 0), (.bool true)])), (1369, .tail)]
def Me6n : Nat := 1370
def Me7r : AV := (.tup [(.agg [(.int .i64 1), (.int .i64 0), (.int .u64 1), (.vs [[(.int .u8 0)], [(.int .u8 0)], [(.int .u8 0)]] (.own 1454))]), (.bool true)])
def Me7e : List (Nat × Blk) := [(102, (.map [((.int .u64 1), (.int .i64 0))])), (103, (.cells [(.int .u8 1), (.rs 233 0 1 4), (.map (some 102))])), (104, (.cells (rp 512 [(.int .u8 0), (.int .u8 0), (.int .u8 0), (.int .u8 0), (.int .u8 0), (.int .u8 0), (.int .u8 0), (.int .u8 0), (.int .u8 0), (.int .u8 0), (.int .u8 0), (.int .u8 0), (.int .u8 0), (.int .u8 0), (.int .u8 0), (.int .u8 0), (.bool false)] []))), (105, (.cells [(.rs 104 0 512 17)])), (106, (.map [])), (107, (.cells [(.ptr 105 0), (.map (some 106))])), (108, (.cells [(.rs 144 0 2 12), (.ptr 103 0), (.ptr 107 0)])), (144, (.cells [(.int .u8 2), (.vs [] .full), (.vs [] .full), (.vs [] .full), (.vs [] .full), (.int .i64 0), (.int .i64 0), (.int .u64 0), (.int .u64 0), (.int .i64 0), (.int .i64 0), (.bool false), (.int .u8 2), (.vs [] .full), (.vs [] .full), (.vs [] .full), (.vs [] .full), (.int .i64 0), (.int .i64 0), (.int .u64 0), (.int .u64 0), (.int .i64 0), (.int .i64 0), (.bool false)])), (233, (.cells [(.int .u64 1), (.vs [[(.int .u8 1)], [(.int .u8 1)], [(.int .u8 0)], [(.int .u8 0)], [(.int .u8 0)], [(.int .u8 0)], [(.int .u8 0)], [(.int .u8 0)], [(.int .u8 0)], [(.int .u8 1)], [(.int .u8 2)], [(.int .u8 0)], [(.int .u8 0)], [(.int .u8 40)], [(.int .u8 0)], [(.int .u8 0)], [(.int .u8 0)], [(.int .u8 1)]] (.own 254)), (.bool true), (.int .i64 1)])), (254, .tail), (259, (.cells [(.bool false), (.bool true)])), (261, (.cells [(.int .i64 12), (.int .i64 12)])), (263, (.cells [(.ptr 108 0), (.ptr 671 0), (.int .i64 1000), (.rs 259 0 2 1), (.rs 261 0 2 1), (.int .i64 2), (.int .i64 0), (.bool false), (.bool false)])), (664, (.cells [(.int .u8 0), (.vs [] .full), (.vs [] .full), (.vs [] .full), (.vs [] .full), (.int .i64 0), (.int .i64 0), (.int .u64 0), (.int .u64 0), (.int .i64 0), (.int .i64 0), (.bool false), (.int .u8 0), (.vs [] .full), (.vs [] .full), (.vs [] .full), (.vs [] .full), (.int .i64 0), (.int .i64 0), (.int .u64 0), (.int .u64 0), (.int .i64 0), (.int .i64 0), (.bool false)])), (665, (.map [((.int .u64 1), (.int .i64 0))])), (666, (.cells [(.int .u8 2), (.rs 905 0 1 4), (.map (some 665))])), (667, (.cells (rp 512 [(.int .u8 0), (.int .u8 0), (.int .u8 0), (.int .u8 0), (.int .u8 0), (.int .u8 0), (.int .u8 0), (.int .u8 0), (.int .u8 0), (.int .u8 0), (.int .u8 0), (.int .u8 0), (.int .u8 0), (.int .u8 0), (.int .u8 0), (.int .u8 0), (.bool false)] []))), (668, (.cells [(.rs 667 0 512 17)])), (669, (.map [])), (670, (.cells [(.ptr 668 0), (.map (some 669))])), (671, (.cells [(.rs 664 0 2 12), (.ptr 666 0), (.ptr 670 0)])), (905, (.cells [(.int .u64 1), (.vs [[(.int .u8 2)], [(.int .u8 1)], [(.int .u8 0)], [(.int .u8 0)], [(.int .u8 0)], [(.int .u8 0)], [(.int .u8 0)], [(.int .u8 0)], [(.int .u8 0)], [(.int .u8 1)], [(.int .u8 0)], [(.int .u8 0)], [(.int .u8 0)], [(.int .u8 0)], [(.int .u8 40)], [(.int .u8 0)], [(.int .u8 0)], [(.int .u8 0)], [(.int .u8 1)]] (.own 926)), (.bool true), (.int .i64 1)])), (926, .tail), (1229, (.cells [(.int .u8 0), (.vs [] .full), (.vs [] .full), (.vs [] .full), (.vs [] .full), (.int .i64 0), (.int .i64 0), (.int .u64 0), (.int .u64 0), (.int .i64 0), (.int .i64 0), (.bool false), (.int .u8 0), (.vs [] .full), (.vs [] .full), (.vs [] .full), (.vs [] .full), (.int .i64 0), (.int .i64 0), (.int .u64 0), (.int .u64 0), (.int .i64 0), (.int .i64 0), (.bool true)])), (1454, .tail)]
def Me7n : Nat := 1455
def Mf3r : AV := (.tup [(.agg [(.int .i64 0), (.int .i64 0), (.int .u64 0), (.vs [] .full)]), (.bool false)])
def Mf3e : List (Nat × Blk) := [(102, (.map [((.int .u64 1), (.int .i64 0))])), (103, (.cells [(.int .u8 1), (.rs 233 0 1 4), (.map (some 102))])), (104, (.cells (rp 512 [(.int .u8 0), (.int .u8 0), (.int .u8 0), (.int .u8 0), (.int .u8 0), (.int .u8 0), (.int .u8 0), (.int .u8 0), (.int .u8 0), (.int .u8 0), (.int .u8 0), (.int .u8 0), (.int .u8 0), (.int .u8 0), (.int .u8 0), (.int .u8 0), (.bool false)] []))), (105, (.cells [(.rs 104 0 512 17)])), (106, (.map [])), (107, (.cells [(.ptr 105 0), (.map (some 106))])), (108, (.cells [(.rs 144 0 2 12), (.ptr 103 0), (.ptr 107 0)])), (144, (.cells [(.int .u8 2), (.vs [] .full), (.vs [] .full), (.vs [] .full), (.vs [] .full), (.int .i64 0), (.int .i64 0), (.int .u64 0), (.int .u64 0), (.int .i64 0), (.int .i64 0), (.bool false), (.int .u8 2), (.vs [] .full), (.vs [] .full), (.vs [] .full), (.vs [] .full), (.int .i64 0), (.int .i64 0), (.int .u64 0), (.int .u64 0), (.int .i64 0), (.int .i64 0), (.bool false)])), (233, (.cells [(.int .u64 1), (.vs [[(.int .u8 1)], [(.int .u8 1)], [(.int .u8 0)], [(.int .u8 0)], [(.int .u8 0)], [(.int .u8 0)], [(.int .u8 0)], [(.int .u8 0)], [(.int .u8 0)], [(.int .u8 1)], [(.int .u8 2)], [(.int .u8 0)], [(.int .u8 0)], [(.int .u8 40)], [(.int .u8 0)], [(.int .u8 0)], [(.int .u8 0)], [(.int .u8 1)]] (.own 254)), (.bool true), (.int .i64 1)])), (254, .tail), (259, (.cells [(.bool false), (.bool false)])), (261, (.cells [(.int .i64 0), (.int .i64 0)])), (263, (.cells [(.ptr 108 0), (.ptr 671 0), (.int .i64 1000), (.rs 259 0 2 1), (.rs 261 0 2 1), (.int .i64 2), (.int .i64 0), (.bool false), (.bool false)])), (664, (.cells [(.int .u8 0), (.vs [] .full), (.vs [] .full), (.vs [] .full), (.vs [] .full), (.int .i64 0), (.int .i64 0), (.int .u64 0), (.int .u64 0), (.int .i64 0), (.int .i64 0), (.bool false), (.int .u8 0), (.vs [] .full), (.vs [] .full), (.vs [] .full), (.vs [] .full), (.int .i64 0), (.int .i64 0), (.int .u64 0), (.int .u64 0), (.int .i64 0), (.int .i64 0), (.bool false)])), (665, (.map [((.int .u64 1), (.int .i64 0))])), (666, (.cells [(.int .u8 2), (.rs 905 0 1 4), (.map (some 665))])), (667, (.cells (rp 512 [(.int .u8 0), (.int .u8 0), (.int .u8 0), (.int .u8 0), (.int .u8 0), (.int .u8 0), (.int .u8 0), (.int .u8 0), (.int .u8 0), (.int .u8 0), (.int .u8 0), (.int .u8 0), (.int .u8 0), (.int .u8 0), (.int .u8 0), (.int .u8 0), (.bool false)] []))), (668, (.cells [(.rs 667 0 512 17)])), (669, (.map [])), (670, (.cells [(.ptr 668 0), (.map (some 669))])), (671, (.cells [(.rs 664 0 2 12), (.ptr 666 0), (.ptr 670 0)])), (905, (.cells [(.int .u64 1), (.vs [[(.int .u8 2)], [(.int .u8 1)], [(.int .u8 0)], [(.int .u8 0)], [(.int .u8 0)], [(.int .u8 0)], [(.int .u8 0)], [(.int .u8 0)], [(.int .u8 0)], [(.int .u8 1)], [(.int .u8 0)], [(.int .u8 0)], [(.int .u8 0)], [(.int .u8 0)], [(.int .u8 40)], [(.int .u8 0)], [(.int .u8 0)], [(.int .u8 0)], [(.int .u8 1)]] (.own 926)), (.bool true), (.int .i64 1)])), (926, .tail)]
def Mf3n : Nat := 1128
def Mf5r : AV := (.rs 1189 0 2 12)
def Mf5e : List (Nat × Blk) := [(102, (.map [((.int .u64 1), (.int .i64 0))])), (103, (.cells [(.int .u8 1), (.rs 233 0 1 4), (.map (some 102))])), (104, (.cells (rp 512 [(.int .u8 0), (.int .u8 0), (.int .u8 0), (.int .u8 0), (.int .u8 0), (.int .u8 0), (.int .u8 0), (.int .u8 0), (.int .u8 0), (.int .u8 0), (.int .u8 0), (.int .u8 0), (.int .u8 0), (.int .u8 0), (.int .u8 0), (.int .u8 0), (.bool false)] []))), (105, (.cells [(.rs 104 0 512 17)])), (106, (.map [])), (107, (.cells [(.ptr 105 0), (.map (some 106))])), (108, (.cells [(.rs 144 0 2 12), (.ptr 103 0), (.ptr 107 0)])), (144, (.cells [(.int .u8 2), (.vs [] .full), (.vs [] .full), (.vs [] .full), (.vs [] .full), (.int .i64 0), (.int .i64 0), (.int .u64 0), (.int .u64 0), (.int .i64 0), (.int .i64 0), (.bool false), (.int .u8 2), (.vs [] .full), (.vs [] .full), (.vs [] .full), (.vs [] .full), (.int .i64 0), (.int .i64 0), (.int .u64 0), (.int .u64 0), (.int .i64 0), (.int .i64 0), (.bool false)])), (233, (.cells [(.int .u64 1), (.vs [[(.int .u8 1)], [(.int .u8 1)], [(.int .u8 0)], [(.int .u8 0)], [(.int .u8 0)], [(.int .u8 0)], [(.int .u8 0)], [(.int .u8 0)], [(.int .u8 0)], [(.int .u8 1)], [(.int .u8 2)], [(.int .u8 0)], [(.int .u8 0)], [(.int .u8 40)], [(.int .u8 0)], [(.int .u8 0)], [(.int .u8 0)], [(.int .u8 1)]] (.own 254)), (.bool true), (.int .i64 1)])), (254, .tail), (259, (.cells [(.bool false), (.bool false)])), (261, (.cells [(.int .i64 0), (.int .i64 0)])), (263, (.cells [(.ptr 108 0), (.ptr 671 0), (.int .i64 1000), (.rs 259 0 2 1), (.rs 261 0 2 1), (.int .i64 2), (.int .i64 0), (.bool false), (.bool false)])), (664, (.cells [(.int .u8 0), (.vs [] .full), (.vs [] .full), (.vs [] .full), (.vs [] .full), (.int .i64 0), (.int .i64 0), (.int .u64 0), (.int .u64 0), (.int .i64 0), (.int .i64 0), (.bool false), (.int .u8 0), (.vs [] .full), (.vs [] .full), (.vs [] .full), (.vs [] .full), (.int .i64 0), (.int .i64 0), (.int .u64 0), (.int .u64 0), (.int .i64 0), (.int .i64 0), (.bool false)])), (665, (.map [((.int .u64 1), (.int .i64 0))])), (666, (.cells [(.int .u8 2), (.rs 905 0 1 4), (.map (some 665))])), (667, (.cells (rp 512 [(.int .u8 0), (.int .u8 0), (.int .u8 0), (.int .u8 0), (.int .u8 0), (.int .u8 0), (.int .u8 0), (.int .u8 0), (.int .u8 0), (.int .u8 0), (.int .u8 0), (.int .u8 0), (.int .u8 0), (.int .u8 0), (.int .u8 0), (.int .u8 0), (.bool false)] []))), (668, (.cells [(.rs 667 0 512 17)])), (669, (.map [])), (670, (.cells [(.ptr 668 0), (.map (some 669))])), (671, (.cells [(.rs 664 0 2 12), (.ptr 666 0), (.ptr 670 0)])), (905, (.cells [(.int .u64 1), (.vs [[(.int .u8 2)], [(.int .u8 1)], [(.int .u8 0)], [(.int .u8 0)], [(.int .u8 0)], [(.int .u8 0)], [(.int .u8 0)], [(.int .u8 0)], [(.int .u8 0)], [(.int .u8 1)], [(.int .u8 0)], [(.int .u8 0)], [(.int .u8 0)], [(.int .u8 0)], [(.int .u8 40)], [(.int .u8 0)], [(.int .u8 0)], [(.int .u8 0)], [(.int .u8 1)]] (.own 926)), (.bool true), (.int .i64 1)])), (926, .tail), (1189, (.cells [(.int .u8 0), (.vs [] .full), (.vs [] .full), (.vs [] .full), (.vs [] .full), (.int .i64 0), (.int .i64 0), (.int .u64 0), (.int .u64 0), (.int .i64 0), (.int .i64 0), (.bool false), (.int .u8 0), (.vs [] .full), (.vs [] .full), (.vs [] .full), (.vs [] .full), (.int .i64 0), (.int .i64 0), (.int .u64 0), (.int .u64 0), (.int .i64 0), (.int .i64 0), (.bool false)]))]
def Mf5n : Nat := 1190
def Mf6r : AV := (.tup [(.agg [(.int .i64 0), (.int .i64 0), (.int .u64 0), (.vs [[(.int .u8 2)], [(.int .u8 0)]] (.own 1329))]), (.bool true)])
def Mf6e : List (Nat × Blk) := [(102, (.map [((.int .u64 1), (.int .i64 0))])), (103, (.cells [(.int .u8 1), (.rs 233 0 1 4), (.map (some 102))])), (104, (.cells (rp 512 [(.int .u8 0), (.int .u8 0), (.int .u8 0), (.int .u8 0), (.int .u8 0), (.int .u8 0), (.int .u8 0), (.int .u8 0), (.int .u8 0), (.int .u8 0), (.int .u8 0), (.int .u8 0), (.int .u8 0), (.int .u8 0), (.int .u8 0), (.int .u8 0), (.bool false)] []))), (105, (.cells [(.rs 104 0 512 17)])), (106, (.map [])), (107, (.cells [(.ptr 105 0), (.map (some 106))])), (108, (.cells [(.rs 144 0 2 12), (.ptr 103 0), (.ptr 107 0)])), (144, (.cells [(.int .u8 2), (.vs [] .full), (.vs [] .full), (.vs [] .full), (.vs [] .full), (.int .i64 0), (.int .i64 0), (.int .u64 0), (.int .u64 0), (.int .i64 0), (.int .i64 0), (.bool false), (.int .u8 2), (.vs [] .full), (.vs [] .full), (.vs [] .full), (.vs [] .full), (.int .i64 0), (.int .i64 0), (.int .u64 0), (.int .u64 0), (.int .i64 0), (.int .i64 0), (.bool false)])), (233, (.cells [(.int .u64 1), (.vs [[(.int .u8 1)], [(.int .u8 1)], [(.int .u8 0)], [(.int .u8 0)], [(.int .u8 0)], [(.int .u8 0)], [(.int .u8 0)], [(.int .u8 0)], [(.int .u8 0)], [(.int .u8 1)], [(.int .u8 2)], [(.int .u8 0)], [(.int .u8 0)], [(.int .u8 40)], [(.int .u8 0)], [(.int .u8 0)], [(.int .u8 0)], [(.int .u8 1)]] (.own 254)), (.bool true), (.int .i64 1)])), (254, .tail), (259, (.cells [(.bool false), (.bool false)])), (261, (.cells [(.int .i64 12), (.int .i64 0)])), (263, (.cells [(.ptr 108 0), (.ptr 671 0), (.int .i64 1000), (.rs 259 0 2 1), (.rs 261 0 2 1), (.int .i64 2), (.int .i64 0), (.bool false), (.bool false)])), (664, (.cells [(.int .u8 0), (.vs [] .full), (.vs [] .full), (.vs [] .full), (.vs [] .full), (.int .i64 0), (.int .i64 0), (.int .u64 0), (.int .u64 0), (.int .i64 0), (.int .i64 0), (.bool false), (.int .u8 0), (.vs [] .full), (.vs [] .full), (.vs [] .full), (.vs [] .full), (.int .i64 0), (.int .i64 0), (.int .u64 0), (.int .u64 0), (.int .i64 0), (.int .i64 0), (.bool false)])), (665, (.map [((.int .u64 1), (.int .i64 0))])), (666, (.cells [(.int .u8 2), (.rs 905 0 1 4), (.map (some 665))])), (667, (.cells (rp 512 [(.int .u8 0), (.int .u8 0), (.int .u8 0), (.int .u8 0), (.int .u8 0), (.int .u8 0), (.int .u8 0), (.int .u8 0), (.int .u8 0), (.int .u8 0), (.int .u8 0), (.int .u8 0), (.int .u8 0), (.int .u8 0), (.int .u8 0), (.int .u8 0), (.bool false)] []))), (668, (.cells [(.rs 667 0 512 17)])), (669, (.map [])), (670, (.cells [(.ptr 668 0), (.map (some 669))])), (671, (.cells [(.rs 664 0 2 12), (.ptr 666 0), (.ptr 670 0)])), (905, (.cells [(.int .u64 1), (.vs [[(.int .u8 2)], [(.int .u8 1)], [(.int .u8 0)], [(.int .u8 0)], [(.int .u8 0)], [(.int .u8 0)], [(.int .u8 0)], [(.int .u8 0)], [(.int .u8 0)], [(.int .u8 1)], [(.int .u8 0)], [(.int .u8 0)], [(.int .u8 0)], [(.int .u8 0)], [(.int .u8 40)], [(.int .u8 0)], [(.int .u8 0)], [(.int .u8 0)], [(.int .u8 1)]] (.own 926)), (.bool true), (.int .i64 1)])), (926, .tail), (1189, (.cells [(.int .u8 0), (.vs [] .full), (.vs [] .full), (.vs [] .full), (.vs [] .full), (.int .i64 0), (.int .i64 0), (.int .u64 0), (.int .u64 0), (.int .i64 0), (.int .i64 0), (.bool false), (.int .u8 0), (.vs [] .full), (.vs [] .full), (.vs [] .full), (.vs [] .full), (.int .i64 0), (.int .i64 0), (.int .u64 0), (.int .u64 0), (.int .i64 0), (.int .i64 0), (.bool false)])), (1329, .tail)]
def Mf6n : Nat := 1330
def Mf7r : AV := (.tup [(.agg [(.int .i64 1), (.int .i64 0), (.int .u64 1), (.vs [[(.int .u8 2)], [(.int .u8 0)]] (.own 1469))]), (.bool true)])
def Mf7e : List (Nat × Blk) := [(102, (.map [((.int .u64 1), (.int .i64 0))])), (103, (.cells [(.int .u8 1), (.rs 233 0 1 4), (.map (some 102))])), (104, (.cells (rp 512 [(.int .u8 0), (.int .u8 0), (.int .u8 0), (.int .u8 0), (.int .u8 0), (.int .u8 0), (.int .u8 0), (.int .u8 0), (.int .u8 0), (.int .u8 0), (.int .u8 0), (.int .u8 0), (.int .u8 0), (.int .u8 0), (.int .u8 0), (.int .u8 0), (.bool false)] []))), (105, (.cells [(.rs 104 0 512 17)])), (106, (.map [])), (107, (.cells [(.ptr 105 0), (.map (some 106))])), (108, (.cells [(.rs 144 0 2 12), (.ptr 103 0), (.ptr 107 0)])), (144, (.cells [(.int .u8 2), (.vs [] .full), (.vs [] .full), (.vs [] .full), (.vs [] .full), (.int .i64 0), (.int .i64 0), (.int .u64 0), (.int .u64 0), (.int .i64 0), (.int .i64 0), (.bool false), (.int .u8 2), (.vs [] .full), (.vs [] .full), (.vs [] .full), (.vs [] .full), (.int .i64 0), (.int .i64 0), (.int .u64 0), (.int .u64 0), (.int .i64 0), (.int .i64 0), (.bool false)])), (233, (.cells [(.int .u64 1), (.vs [[(.int .u8 1)], [(.int .u8 1)], [(.int .u8 0)], [(.int .u8 0)], [(.int .u8 0)], [(.int .u8 0)], [(.int .u8 0)], [(.int .u8 0)], [(.int .u8 0)], [(.int .u8 1)], [(.int .u8 2)], [(.int .u8 0)], [(.int .u8 0)], [(.int .u8 40)], [(.int .u8 0)], [(.int .u8 0)], [(.int .u8 0)], [(.int .u8 1)]] (.own 254)), (.bool true), (.int .i64 1)])), (254, .tail), (259, (.cells [(.bool false), (.bool false)])), (261, (.cells [(.int .i64 12), (.int .i64 12)])), (263, (.cells [(.ptr 108 0), (.ptr 671 0), (.int .i64 1000), (.rs 259 0 2 1), (.rs 261 0 2 1), (.int .i64 2), (.int .i64 0), (.bool false), (.bool false)])), (664, (.cells [(.int .u8 0), (.vs [] .full), (.vs [] .full), (.vs [] .full), (.vs [] .full), (.int .i64 0), (.int .i64 0), (.int .u64 0), (.int .u64 0), (.int .i64 0), (.int .i64 0), (.bool false), (.int .u8 0), (.vs [] .full), (.vs [] .full), (.vs [] .full), (.vs [] .full), (.int .i64 0), (.int .i64 0), (.int .u64 0), (.int .u64 0), (.int .i64 0), (.int .i64 0), (.bool false)])), (665, (.map [((.int .u64 1), (.int .i64 0))])), (666, (.cells [(.int .u8 2), (.rs 905 0 1 4), (.map (some 665))])), (667, (.cells (rp 512 [(.int .u8 0), (.int .u8 0), (.int .u8 0), (.int .u8 0), (.int .u8 0), (.int .u8 0), (.int .u8 0), (.int .u8 0), (.int .u8 0), (.int .u8 0), (.int .u8 0), (.int .u8 0), (.int .u8 0), (.int .u8 0), (.int .u8 0), (.int .u8 0), (.bool false)] []))), (668, (.cells [(.rs 667 0 512 17)])), (669, (.map [])), (670, (.cells [(.ptr 668 0), (.map (some 669))])), (671, (.cells [(.rs 664 0 2 12), (.ptr 666 0), (.ptr 670 0)])), (905, (.cells [(.int .u64 1), (.vs [[(.int .u8 2)], [(.int .u8 1)], [(.int .u8 0)], [(.int .u8 0)], [(.int .u8 0)], [(.int .u8 0)], [(.int .u8 0)], [(.int .u8 0)], [(.int .u8 0)], [(.int .u8 1)], [(.int .u8 0)], [(.int .u8 0)], [(.int .u8 0)], [(.int .u8 0)], [(.int .u8 40)], [(.int .u8 0)], [(.int .u8 0)], [(.int .u8 0)], [(.int .u8 1)]] (.own 926)), (.bool true), (.int .i64 1)])), (926, .tail), (1189, (.cells [(.int .u8 0), (.vs [] .full), (.vs [] .full), (.vs [] .full), (.vs [] .full), (.int .i64 0), (.int .i64 0), (.int .u64 0), (.int .u64 0), (.int .i64 0), (.int .i64 0), (.bool false), (.int .u8 0), (.vs [] .full), (.vs [] .full), (.vs [] .full), (.vs [] .full), (.int .i64 0), (.int .i64 0), (.int .u64 0), (.int .u64 0), (.int .i64 0), (.int .i64 0), (.bool false)])), (1469, .tail)]
def Mf7n : Nat := 1470
def Mal : List AV := [(.int .u8 0), (.vs [] .full), (.vs [] .full), (.vs [] .full), (.vs [] .full), (.int .i64 0), (.int .i64 0), (.int .u64 0), (.int .u64 0), (.int .i64 0), (.int .i64 0), (.bool false), (.int .u8 0), (.vs [] .full), (.vs [] .full), (.vs [] .full), (.vs [] .full), (.int .i64 0), (.int .i64 0), (.int .u64 0), (.int .u64 0), (.int .i64 0), (.int .i64 0), (.bool false)]
def Mbl : List AV := [(.int .u8 2), (.vs [] .full), (.vs [] .full), (.vs [] .full), (.vs [] .full), (.int .i64 0), (.int .i64 0), (.int .u64 0), (.int .u64 0), (.int .i64 0), (.int .i64 0), (.bool false), (.int .u8 2), (.vs [] .full), (.vs [] .full), (.vs [] .full), (.vs [] .full), (.int .i64 0), (.int .i64 0), (.int .u64 0), (.int .u64 0), (.int .i64 0), (.int .i64 0), (.bool false)]
def Mcl : List AV := [(.int .u8 2), (.vs [] .full), (.vs [] .full), (.vs [] .full), (.vs [] .full), (.int .i64 0), (.int .i64 0), (.int .u64 0), (.int .u64 0), (.int .i64 0), (.int .i64 0), (.bool false), (.int .u8 2), (.vs [] .full), (.vs [] .full), (.vs [] .full), (.vs [] .full), (.int .i64 0), (.int .i64 0), (.int .u64 0), (.int .u64 0), (.int .i64 0), (.int .i64 0), (.bool false)]
def Mdl : List AV := [(.int .u8 0), (.vs [] .full), (.vs [] .full), (.vs [] .full), (.vs [] .full), (.int .i64 0), (.int .i64 0), (.int .u64 0), (.int .u64 0), (.int .i64 0), (.int .i64 0), (.bool true), (.int .u8 0), (.vs [] .full), (.vs [] .full), (.vs [] .full), (.vs [] .full), (.int .i64 0), (.int .i64 0), (.int .u64 0), (.int .u64 0), (.int .i64 0), (.int .i64 0), (.bool false)]
def Mel : List AV := [(.int .u8 0), (.vs [] .full), (.vs [] .full), (.vs [] .full), (.vs [] .full), (.int .i64 0), (.int .i64 0), (.int .u64 0), (.int .u64 0), (.int .i64 0), (.int .i64 0), (.bool false), (.int .u8 0), (.vs [] .full), (.vs [] .full), (.vs [] .full), (.vs [] .full), (.int .i64 0), (.int .i64 0), (.int .u64 0), (.int .u64 0), (.int .i64 0), (.int .i64 0), (.bool true)]
def Mfl : List AV := [(.int .u8 0), (.vs [] .full), (.vs [] .full), (.vs [] .full), (.vs [] .full), (.int .i64 0), (.int .i64 0), (.int .u64 0), (.int .u64 0), (.int .i64 0), (.int .i64 0), (.bool false), (.int .u8 0), (.vs [] .full), (.vs [] .full), (.vs [] .full), (.vs [] .full), (.int .i64 0), (.int .i64 0), (.int .u64 0), (.int .u64 0), (.int .i64 0), (.int .i64 0), (.bool false)]
theorem JMTn : JJ Tryz.prog 22 [mtCfg] [] 100 (.tup [.ptr 263 0, .int .i64 0]) MTne 266 ∧ fine MTne 266 = true := jj_at tb1_ok (fuel := 1000) (by kernel_rfl)
theorem JMa1 : JJ Tryz.prog 23 (mtA 4 .any1) MTne 276 mtRep Ma1e 298 ∧ fine Ma1e 298 = true := jj_at tb1_ok (fuel := 1000) (by kernel_rfl)
theorem JMa3 : JJ Tryz.prog 23 (mtA 2 (.int .i64 0)) Ma1e 308 mtRep Ma3e 1160 ∧ fine Ma3e 1160 = true := jj_at tb1_ok (fuel := 1000) (by kernel_rfl)
theorem JMa5 : JJ Tryz.prog 24 [.ptr 263 0] Ma3e 1170 (.rs 1221 0 2 12) Ma5e 1222 ∧ fine Ma5e 1222 = true := jj_at tb1_ok (fuel := 1000) (by kernel_rfl)
theorem JMa6 : JJ Tryz.prog 23 [.ptr 263 0, .agg [.int .i64 1, .int .i64 0, .vs (BS [12]) .unk]] Ma5e 1232 (.tup [.agg [.int .i64 0, .int .i64 0, .int .u64 0, .vs (BS [2, 0]) (.own 1361)], .bool true]) Ma6e 1362 ∧ fine Ma6e 1362 = true := jj_at tb1_ok (fuel := 1000) (by kernel_rfl)
theorem JMa7 : JJ Tryz.prog 23 [.ptr 263 0, .agg [.int .i64 1, .int .i64 1, .vs (BS [12]) .unk]] Ma6e 1372 (.tup [.agg [.int .i64 1, .int .i64 0, .int .u64 1, .vs (BS [2, 0]) (.own 1501)], .bool true]) Ma7e 1502 ∧ fine Ma7e 1502 = true := jj_at tb1_ok (fuel := 1000) (by kernel_rfl)
theorem mta {t : Int} : WP Tryz.prog c8.code (lawK c8.results) (args0 [.int .i64 t, .bool false, .bool true]) AHeap.empty :=
  mt_a tb_ok begun30 JMTn.1 JMTn.2 JMa1.1 JMa1.2 JMa3.1 JMa3.2 JMa5.1 JMa5.2 (lc := Mal) (by kernel_rfl) (by kernel_rfl) (by kernel_rfl) (b0 := false) (b1 := false) rfl rfl (by simp) (by simp) (d0 := [2, 0]) (d1 := [2, 0]) rfl rfl JMa6.1 JMa6.2 JMa7.1 JMa7.2 (by decide)
theorem JMb1 : JJ Tryz.prog 23 (mtA 4 .any1) MTne 276 mtRep Mb1e 298 ∧ fine Mb1e 298 = true := jj_at tb1_ok (fuel := 1000) (by kernel_rfl)
theorem JMb2 : JJ Tryz.prog 23 (mtA 3 (.int .i64 0)) Mb1e 308 mtRep Mb2e 310 ∧ fine Mb2e 310 = true := jj_at tb1_ok (fuel := 1000) (by kernel_rfl)
theorem JMb3 : JJ Tryz.prog 23 (mtA 2 (.int .i64 0)) Mb2e 320 mtRep Mb3e 688 ∧ fine Mb3e 688 = true := jj_at tb1_ok (fuel := 1000) (by kernel_rfl)
theorem JMb5 : JJ Tryz.prog 24 [.ptr 263 0] Mb3e 698 (.rs 719 0 2 12) Mb5e 720 ∧ fine Mb5e 720 = true := jj_at tb1_ok (fuel := 1000) (by kernel_rfl)
theorem JMb6 : JJ Tryz.prog 23 [.ptr 263 0, .agg [.int .i64 1, .int .i64 0, .vs (BS [12]) .unk]] Mb5e 730 (.tup [.agg [.int .i64 0, .int .i64 0, .int .u64 0, .vs (BS [2, 0]) (.own 802)], .bool true]) Mb6e 803 ∧ fine Mb6e 803 = true := jj_at tb1_ok (fuel := 1000) (by kernel_rfl)
theorem JMb7 : JJ Tryz.prog 23 [.ptr 263 0, .agg [.int .i64 1, .int .i64 1, .vs (BS [12]) .unk]] Mb6e 813 (.tup [.agg [.int .i64 1, .int .i64 0, .int .u64 1, .vs (BS [2, 0]) (.own 885)], .bool true]) Mb7e 886 ∧ fine Mb7e 886 = true := jj_at tb1_ok (fuel := 1000) (by kernel_rfl)
theorem mtb {t : Int} : WP Tryz.prog c8.code (lawK c8.results) (args0 [.int .i64 t, .bool true, .bool true]) AHeap.empty :=
  mt_b tb_ok begun30 JMTn.1 JMTn.2 JMb1.1 JMb1.2 JMb2.1 JMb2.2 JMb3.1 JMb3.2 JMb5.1 JMb5.2 (lc := Mbl) (by kernel_rfl) (by kernel_rfl) (by kernel_rfl) (b0 := false) (b1 := false) rfl rfl (by simp) (by simp) (d0 := [2, 0]) (d1 := [2, 0]) rfl rfl JMb6.1 JMb6.2 JMb7.1 JMb7.2 (by decide)
theorem JMc2 : JJ Tryz.prog 23 (mtA 3 (.int .i64 0)) MTne 276 mtRep Mc2e 278 ∧ fine Mc2e 278 = true := jj_at tb1_ok (fuel := 1000) (by kernel_rfl)
theorem JMc3 : JJ Tryz.prog 23 (mtA 2 (.int .i64 0)) Mc2e 288 mtRep Mc3e 656 ∧ fine Mc3e 656 = true := jj_at tb1_ok (fuel := 1000) (by kernel_rfl)
theorem JMc4 : JJ Tryz.prog 23 (mtA 4 .any1) Mc3e 666 mtRep Mc4e 688 ∧ fine Mc4e 688 = true := jj_at tb1_ok (fuel := 1000) (by kernel_rfl)
theorem JMc5 : JJ Tryz.prog 24 [.ptr 263 0] Mc4e 698 (.rs 719 0 2 12) Mc5e 720 ∧ fine Mc5e 720 = true := jj_at tb1_ok (fuel := 1000) (by kernel_rfl)
theorem JMc6 : JJ Tryz.prog 23 [.ptr 263 0, .agg [.int .i64 1, .int .i64 0, .vs (BS [12]) .unk]] Mc5e 730 (.tup [.agg [.int .i64 0, .int .i64 0, .int .u64 0, .vs (BS [2, 0]) (.own 802)], .bool true]) Mc6e 803 ∧ fine Mc6e 803 = true := jj_at tb1_ok (fuel := 1000) (by kernel_rfl)
theorem JMc7 : JJ Tryz.prog 23 [.ptr 263 0, .agg [.int .i64 1, .int .i64 1, .vs (BS [12]) .unk]] Mc6e 813 (.tup [.agg [.int .i64 1, .int .i64 0, .int .u64 1, .vs (BS [2, 0]) (.own 885)], .bool true]) Mc7e 886 ∧ fine Mc7e 886 = true := jj_at tb1_ok (fuel := 1000) (by kernel_rfl)
theorem mtc {t : Int} : WP Tryz.prog c8.code (lawK c8.results) (args0 [.int .i64 t, .bool true, .bool false]) AHeap.empty :=
  mt_c tb_ok begun30 JMTn.1 JMTn.2 JMc2.1 JMc2.2 JMc3.1 JMc3.2 JMc4.1 JMc4.2 JMc5.1 JMc5.2 (lc := Mcl) (by kernel_rfl) (by kernel_rfl) (by kernel_rfl) (b0 := false) (b1 := false) rfl rfl (by simp) (by simp) (d0 := [2, 0]) (d1 := [2, 0]) rfl rfl JMc6.1 JMc6.2 JMc7.1 JMc7.2 (by decide)
theorem JMd3 : JJ Tryz.prog 23 (mtA 2 (.int .i64 0)) MTne 276 mtRep Md3e 1128 ∧ fine Md3e 1128 = true := jj_at tb1_ok (fuel := 1000) (by kernel_rfl)
theorem JMd4 : JJ Tryz.prog 23 (mtA 4 (.int .i64 0)) Md3e 1138 mtRep Md4e 1168 ∧ fine Md4e 1168 = true := jj_at tb1_ok (fuel := 1000) (by kernel_rfl)
theorem JMd5 : JJ Tryz.prog 24 [.ptr 263 0] Md4e 1178 (.rs 1229 0 2 12) Md5e 1230 ∧ fine Md5e 1230 = true := jj_at tb1_ok (fuel := 1000) (by kernel_rfl)
theorem JMd6 : JJ Tryz.prog 23 [.ptr 263 0, .agg [.int .i64 1, .int .i64 0, .vs (BS [12]) .unk]] Md5e 1240 (.tup [.agg [.int .i64 0, .int .i64 0, .int .u64 0, .vs (BS [0, 0, 0]) (.own 1314)], .bool true]) Md6e 1315 ∧ fine Md6e 1315 = true := jj_at tb1_ok (fuel := 1000) (by kernel_rfl)
theorem JMd7 : JJ Tryz.prog 23 [.ptr 263 0, .agg [.int .i64 1, .int .i64 1, .vs (BS [12]) .unk]] Md6e 1325 (.tup [.agg [.int .i64 1, .int .i64 0, .int .u64 1, .vs (BS [2, 0]) (.own 1454)], .bool true]) Md7e 1455 ∧ fine Md7e 1455 = true := jj_at tb1_ok (fuel := 1000) (by kernel_rfl)
theorem mtd {t : Int} : WP Tryz.prog c8.code (lawK c8.results) (args0 [.int .i64 0, .bool false, .bool false]) AHeap.empty :=
  mt_d tb_ok begun30 (t := 0) JMTn.1 JMTn.2 JMd3.1 JMd3.2 JMd4.1 JMd4.2 JMd5.1 JMd5.2 (lc := Mdl) (by kernel_rfl) (by kernel_rfl) (by kernel_rfl) (b0 := true) (b1 := false) rfl rfl rfl rfl (d0 := [0, 0, 0]) (d1 := [2, 0]) rfl rfl JMd6.1 JMd6.2 JMd7.1 JMd7.2 (by decide)
theorem JMe3 : JJ Tryz.prog 23 (mtA 2 (.int .i64 0)) MTne 276 mtRep Me3e 1128 ∧ fine Me3e 1128 = true := jj_at tb1_ok (fuel := 1000) (by kernel_rfl)
theorem JMe4 : JJ Tryz.prog 23 (mtA 4 (.int .i64 1)) Me3e 1138 mtRep Me4e 1168 ∧ fine Me4e 1168 = true := jj_at tb1_ok (fuel := 1000) (by kernel_rfl)
theorem JMe5 : JJ Tryz.prog 24 [.ptr 263 0] Me4e 1178 (.rs 1229 0 2 12) Me5e 1230 ∧ fine Me5e 1230 = true := jj_at tb1_ok (fuel := 1000) (by kernel_rfl)
theorem JMe6 : JJ Tryz.prog 23 [.ptr 263 0, .agg [.int .i64 1, .int .i64 0, .vs (BS [12]) .unk]] Me5e 1240 (.tup [.agg [.int .i64 0, .int .i64 0, .int .u64 0, .vs (BS [2, 0]) (.own 1369)], .bool true]) Me6e 1370 ∧ fine Me6e 1370 = true := jj_at tb1_ok (fuel := 1000) (by kernel_rfl)
theorem JMe7 : JJ Tryz.prog 23 [.ptr 263 0, .agg [.int .i64 1, .int .i64 1, .vs (BS [12]) .unk]] Me6e 1380 (.tup [.agg [.int .i64 1, .int .i64 0, .int .u64 1, .vs (BS [0, 0, 0]) (.own 1454)], .bool true]) Me7e 1455 ∧ fine Me7e 1455 = true := jj_at tb1_ok (fuel := 1000) (by kernel_rfl)
theorem mte {t : Int} : WP Tryz.prog c8.code (lawK c8.results) (args0 [.int .i64 1, .bool false, .bool false]) AHeap.empty :=
  mt_e tb_ok begun30 (t := 0) JMTn.1 JMTn.2 JMe3.1 JMe3.2 JMe4.1 JMe4.2 JMe5.1 JMe5.2 (lc := Mel) (by kernel_rfl) (by kernel_rfl) (by kernel_rfl) (b0 := false) (b1 := true) rfl rfl rfl rfl (d0 := [2, 0]) (d1 := [0, 0, 0]) rfl rfl JMe6.1 JMe6.2 JMe7.1 JMe7.2 (by decide)
theorem JMf3 : JJ Tryz.prog 23 (mtA 2 (.int .i64 0)) MTne 276 mtRep Mf3e 1128 ∧ fine Mf3e 1128 = true := jj_at tb1_ok (fuel := 1000) (by kernel_rfl)
theorem JMf5 : JJ Tryz.prog 24 [.ptr 263 0] Mf3e 1138 (.rs 1189 0 2 12) Mf5e 1190 ∧ fine Mf5e 1190 = true := jj_at tb1_ok (fuel := 1000) (by kernel_rfl)
theorem JMf6 : JJ Tryz.prog 23 [.ptr 263 0, .agg [.int .i64 1, .int .i64 0, .vs (BS [12]) .unk]] Mf5e 1200 (.tup [.agg [.int .i64 0, .int .i64 0, .int .u64 0, .vs (BS [2, 0]) (.own 1329)], .bool true]) Mf6e 1330 ∧ fine Mf6e 1330 = true := jj_at tb1_ok (fuel := 1000) (by kernel_rfl)
theorem JMf7 : JJ Tryz.prog 23 [.ptr 263 0, .agg [.int .i64 1, .int .i64 1, .vs (BS [12]) .unk]] Mf6e 1340 (.tup [.agg [.int .i64 1, .int .i64 0, .int .u64 1, .vs (BS [2, 0]) (.own 1469)], .bool true]) Mf7e 1470 ∧ fine Mf7e 1470 = true := jj_at tb1_ok (fuel := 1000) (by kernel_rfl)
theorem mtf {t : Int} (ho : t < 0 ∨ 2 ≤ t) : WP Tryz.prog c8.code (lawK c8.results) (args0 [.int .i64 t, .bool false, .bool false]) AHeap.empty :=
  mt_f tb_ok begun30 ho rfl JMTn.1 JMTn.2 JMf3.1 JMf3.2 JMf5.1 JMf5.2 (lc := Mfl) (by kernel_rfl) (by kernel_rfl) (by kernel_rfl) (b0 := false) (b1 := false) rfl rfl (by simp; omega) (by simp; omega) (d0 := [2, 0]) (d1 := [2, 0]) rfl rfl JMf6.1 JMf6.2 JMf7.1 JMf7.2 (by decide)
theorem mt_all {t : Int} {fault ahead : Bool} : WP Tryz.prog c8.code (lawK c8.results) (args0 [.int .i64 t, .bool fault, .bool ahead]) AHeap.empty := by
  cases ahead <;> cases fault
  · by_cases h0 : t = 0
    · subst h0; exact mtd (t := 0)
    · by_cases h1 : t = 1
      · subst h1; exact mte (t := 0)
      · exact mtf (by omega)
  · exact mtc
  · exact mta
  · exact mtb
end Go.Proofs.YtjkllffbjeajhaaGreat.Am
