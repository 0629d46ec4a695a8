/- Scripts as bytes: contracts of the functions, and what they say. Conditions: none. -/
import Derived.Test.YtjkllffbjeajhaaGreatCodeB
set_option maxRecDepth 100000
set_option linter.unusedSimpArgs false
set_option linter.unusedVariables false
set_option linter.unnecessarySimpa false
/- Scripts as bytes. -/
namespace Go.Proofs.YtjkllffbjeajhaaGreat.Am
open Go

structure Stp where
  kind : Int
  thr : Int
  b : List UInt8

def StR (row : List AV) (s : Stp) : Prop := ∃ t, row = [.int .i64 s.kind, .int .i64 s.thr, .vs (BS s.b) t]
def stRow (s : Stp) : List AV := [.int .i64 s.kind, .int .i64 s.thr, .vs (BS s.b) .unk]
def StRs : List (List AV) → List Stp → Prop
  | [], [] => True
  | r :: rs, s :: ss => StR r s ∧ StRs rs ss
  | _, _ => False

theorem StRs.app : ∀ {xs : List (List AV)} {l : List Stp} {r : List AV} {s : Stp}, StRs xs l → StR r s → StRs (xs ++ [r]) (l ++ [s])
  | [], [], r, s, _, h => ⟨h, trivial⟩
  | x :: xs, y :: l, r, s, ⟨h1, h2⟩, h => ⟨h1, StRs.app h2 h⟩
theorem StRs.strip : ∀ {xs : List (List AV)} {l : List Stp}, StRs xs l → AV.stripLL xs = l.map stRow
  | [], [], _ => rfl
  | x :: xs, y :: l, ⟨⟨t, h1⟩, h2⟩ => by
    simp only [AV.stripLL, List.map_cons, StRs.strip h2, h1, stRow, AV.stripL, AV.strip, BS_strip]
theorem StRs.len : ∀ {xs : List (List AV)} {l : List Stp}, StRs xs l → xs.length = l.length
  | [], [], _ => rfl
  | x :: xs, y :: l, ⟨_, h2⟩ => by simp [StRs.len h2]
theorem StRs.head {xs : List (List AV)} {l : List Stp} (h : StRs xs l) : headOk 3 xs = true := by
  cases xs with
  | nil => rfl
  | cons x xs => cases l with
    | nil => exact h.elim
    | cons y l => obtain ⟨⟨t, rfl⟩, _⟩ := h; rfl

theorem stRow_allR {p : Nat → Bool} : ∀ {l : List Stp}, AV.allLL p (l.map stRow) = true
  | [] => rfl
  | s :: l => by simp only [List.map_cons, AV.allLL, stRow, AV.allL, AV.allR, BS_allR, Bool.and_true, Bool.true_and, stRow_allR (l := l)]

def dec (b : List UInt8) : List Stp := match b with
  | [] => []
  | x :: r =>
    if x.toNat % 8 = 5 then ⟨2, 0, []⟩ :: dec r
    else if x.toNat % 8 = 6 then ⟨3, 0, []⟩ :: dec r
    else if x.toNat % 8 = 7 then ⟨4, ((x.toNat / 8 % 4 : Nat) : Int), []⟩ :: dec r
    else match r with
      | [] => []
      | y :: r2 => if r2.length < y.toNat then [] else ⟨1, ((x.toNat / 8 % 4 : Nat) : Int), r2.take y.toNat⟩ :: dec (r2.drop y.toNat)
termination_by b.length

theorem dec_nil : dec [] = [] := by rw [dec]
theorem dec_cons {x : UInt8} {r : List UInt8} : dec (x :: r) = if x.toNat % 8 = 5 then ⟨2, 0, []⟩ :: dec r
    else if x.toNat % 8 = 6 then ⟨3, 0, []⟩ :: dec r
    else if x.toNat % 8 = 7 then ⟨4, ((x.toNat / 8 % 4 : Nat) : Int), []⟩ :: dec r
    else match r with
      | [] => []
      | y :: r2 => if r2.length < y.toNat then [] else ⟨1, ((x.toNat / 8 % 4 : Nat) : Int), r2.take y.toNat⟩ :: dec (r2.drop y.toNat) := by rw [dec.eq_def]

variable {P : Program}

/-- What holds at the head of Decode's loop. -/
def DJ (h : AHeap) (b : List UInt8) (n : Nat) (ρ : Env) (h' : AHeap) : Prop := Old h h' ∧ ∃ b' t' xs dn, b'.length = n ∧ n ≤ b.length ∧ ρ 0 = .vs (BS b') t' ∧ App h h' (ρ 3) xs ∧ StRs xs dn ∧ dn.length + n ≤ b.length ∧ dec b = dn ++ dec b'

theorem dec_tail {h H : AHeap} {b : List UInt8} {n : Nat} {ρ : Env} {K : AExit → Env → AHeap → Prop} (hl : b.length < 2 ^ 30) (ho : Old h H) {y : UInt8} {rest : List UInt8} {t1 tb : Tail} {xs : List (List AV)} {dn : List Stp} {s : Stp} {B : Nat}
    (r0 : ρ 0 = .vs (BS (y :: rest)) t1) (r4 : ρ 4 = .ptr B 0) (ha : App h H (ρ 3) xs) (hx : StRs xs dn) (hB : B < H.next) (hc : H.get B = some (.cells [.int .i64 s.kind, .int .i64 s.thr, .vs (BS s.b) tb]))
    (hn : rest.length < n) (hnb : n ≤ b.length) (hd : dn.length + n ≤ b.length) (he : dec b = dn ++ s :: dec rest) :
    WP P ((RCode.regD c15_16 [[], [], [], [], [], [], [], []]).seq (.goto 0)) (jumpK 0 (fun ρ' h' => ∃ m, m < n ∧ DJ h b m ρ' h') K) ρ H := by
  have hlx := hx.len
  obtain ⟨v', h2, a1, a2, a3, a4, a5⟩ := (ha.to (h' := H.clean 8) (by simp [AHeap.clean]) (fun k _ h2 h3 => by simp [AHeap.clean, h2, h3])).appD ho.clean (bytes := 40) (sz := 3) (base := H.next) (n := 8) (i := 3) ho.next (fun j hj => .inl (by simp only [AHeap.clean]; rw [if_neg (by omega)]))
    [[.int .i64 s.kind, .int .i64 s.thr, .vs (BS s.b) tb]] hx.head (by simp only [List.length_singleton]; omega) (by simp only [List.length_singleton]; omega)
  have hcc : (H.clean 8).get B = some (.cells [.int .i64 s.kind, .int .i64 s.thr, .vs (BS s.b) tb]) := by simp [AHeap.clean, hB, hc]
  have hrp : ∀ z w : List AV, (List.replicate 1 z).set 0 w = [w] := fun _ _ => rfl
  have hlc := cellsOf_of hcc
  rw [WP_seq]
  refine WP_regD0n 8 rfl rfl ?_
  have k1 : Int.toNat 1 ≤ (BS (y :: rest)).length ∧ headOk 1 (BS (y :: rest)) = true := ⟨by rw [BS_len]; simp, BS_head⟩
  have k2 : List.take ((BS (y :: rest)).length - Int.toNat 1) (List.drop (Int.toNat 1) (BS (y :: rest))) = BS rest := by
    rw [List.take_of_length_le (by simp)]; rfl
  simp (decide := true) only [st, c15_16, r0, r4, hlc, hrp, a1, a5, k1, k2]
  refine ⟨rest.length, hn, a3, rest, sliceTail t1 (BS (y :: rest)).length (Int.toNat 1) (BS (y :: rest)).length, _, dn ++ [s], rfl, by omega, by simp (decide := true) only [st], by simp (decide := true) only [st]; exact a2, hx.app ⟨_, rfl⟩, by simp only [List.length_append, List.length_singleton]; omega, by simp [he]⟩

theorem Decode_calls (ok : TblOK P tb) {b : List UInt8} {t : Tail} {h : AHeap} (hl : b.length < 2 ^ 30) : ACalls P 15 [.vs (BS b) t] h (.vs ((dec b).map stRow) .unk) h := by
  refine ok.keepsS (rf := c15) rfl (Nat.le_of_ble_eq_true rfl) ?_ ?_
  · simp only [AV.allR, stRow_allR, Bool.and_self]
  simp (decide := true) only [st, c15, c15_0, c15_1]
  refine wp_gotoS 0 rfl rfl (DJ h b) (fun l' ρ h hk => hk) ?_ ?_
  · simp (decide := true) only [st, seqs, List.foldr]
    exact ⟨b.length, Old.refl h, b, t, [], [], rfl, Nat.le_refl _, by simp (decide := true) only [st], by simp (decide := true) only [st]; exact App.nil h h, trivial, by simp, by simp⟩
  rintro n ρ h' ⟨ho, b', t', xs, dn, hn, hnb, r0, ha, hx, hd, he⟩
  cases b' with
  | nil =>
    simp (decide := true) only [st, c15, c15_0, c15_1, c15_2, c15_3, r0, BS_len, List.length_nil, keepS_ret, jumpK]
    obtain ⟨tt, hv, _⟩ := ha
    rw [hv]
    exact ⟨by simp [AV.strip, hx.strip, he, dec], ho.get⟩
  | cons x r =>
    have hx256 : x.toNat < 256 := x.toNat_lt
    have w1 : IntKind.wrap .i64 (x.toNat : Int) = x.toNat := wrapN (by omega)
    have q1 : (x.toNat : Int).tdiv 8 = ((x.toNat / 8 : Nat) : Int) := by rw [Int.tdiv_eq_ediv_of_nonneg (by omega)]; omega
    have w2 : IntKind.wrap .i64 ((x.toNat / 8 : Nat) : Int) = ((x.toNat / 8 : Nat) : Int) := wrapN (by omega)
    have q2 : ((x.toNat / 8 : Nat) : Int).tmod 4 = ((x.toNat / 8 % 4 : Nat) : Int) := by rw [Int.tmod_eq_emod_of_nonneg (by omega)]; omega
    have q3 : (x.toNat : Int).tmod 8 = ((x.toNat % 8 : Nat) : Int) := by rw [Int.tmod_eq_emod_of_nonneg (by omega)]; omega
    have g0 : (BS (x :: r))[0]? = some [.int .u8 x.toNat] := rfl
    have hlen0 : ¬ ((BS (x :: r)).length : Int) = 0 := by rw [BS_len]; simp; omega
    simp (decide := true) only [st, c15, c15_0, c15_1, c15_2, c15_3, c15_4, c15_5, r0, g0, hlen0, w1, q1, w2, q2, q3, Int.toNat_zero, List.length_cons, List.length_nil]
    have hrn : r.length < n := by simp only [List.length_cons] at hn; omega
    have hB : ∀ z w, ((h'.at h'.next z).set h'.next w).get h'.next = w := fun z w => by simp [AHeap.set]
    have hBn : ∀ z w, h'.next < ((h'.at h'.next z).set h'.next w).next := fun z w => by simp [AHeap.set, AHeap.at]
    have hO : ∀ z w, Old h ((h'.at h'.next z).set h'.next w) := fun z w => (ho.at ho.next).set ho.next
    have hA : ∀ z w, App h ((h'.at h'.next z).set h'.next w) (ρ 3) xs := fun z w => ha.to (by simp [AHeap.set, AHeap.at]) (fun k _ h2 h3 => by
      have : ¬ k = h'.next := by omega
      simp [AHeap.set, AHeap.at, this, h3])
    have hset : ∀ z w w', ((h'.at h'.next z).set h'.next w).set h'.next w' = (h'.at h'.next z).set h'.next w' := fun z w w' => by
      simp only [AHeap.set, AHeap.at]; congr 1; funext i; by_cases hi : i = h'.next <;> simp [hi]
    by_cases h5 : x.toNat % 8 = 5
    · simp (decide := true) only [st, c15, c15_0, c15_1, c15_2, c15_3, c15_4, c15_5, c15_6, c15_7, c15_8, c15_9, c15_10, c15_11, c15_12, c15_13, c15_14, c15_15, h5]
      rw [hset]
      exact WP_seq.1 (dec_tail (y := x) (t1 := t') hl (hO _ _) (s := ⟨2, 0, []⟩) (by simp (decide := true) only [st, r0]) (by simp (decide := true) only [st]) (by simp (decide := true) only [st]; exact hA _ _) hx (hBn _ _) (hB _ _) hrn hnb hd (by rw [he, dec_cons]; simp [h5]))
    have h5' : ¬ ((x.toNat % 8 : Nat) : Int) = 5 := by omega
    by_cases h6 : x.toNat % 8 = 6
    · simp (decide := true) only [st, c15, c15_0, c15_1, c15_2, c15_3, c15_4, c15_5, c15_6, c15_7, c15_8, c15_9, c15_10, c15_11, c15_12, c15_13, c15_14, c15_15, h6]
      rw [hset]
      exact WP_seq.1 (dec_tail (y := x) (t1 := t') hl (hO _ _) (s := ⟨3, 0, []⟩) (by simp (decide := true) only [st, r0]) (by simp (decide := true) only [st]) (by simp (decide := true) only [st]; exact hA _ _) hx (hBn _ _) (hB _ _) hrn hnb hd (by rw [he, dec_cons]; simp [h6]))
    have h6' : ¬ ((x.toNat % 8 : Nat) : Int) = 6 := by omega
    by_cases h7 : x.toNat % 8 = 7
    · simp (decide := true) only [st, c15, c15_0, c15_1, c15_2, c15_3, c15_4, c15_5, c15_6, c15_7, c15_8, c15_9, c15_10, c15_11, c15_12, c15_13, c15_14, c15_15, h7]
      rw [hset]
      exact WP_seq.1 (dec_tail (y := x) (t1 := t') hl (hO _ _) (s := ⟨4, ((x.toNat / 8 % 4 : Nat) : Int), []⟩) (by simp (decide := true) only [st, r0]) (by simp (decide := true) only [st]) (by simp (decide := true) only [st]; exact hA _ _) hx (hBn _ _) (hB _ _) hrn hnb hd (by rw [he, dec_cons]; simp [h7]))
    have h7' : ¬ ((x.toNat % 8 : Nat) : Int) = 7 := by omega
    simp (decide := true) only [st, c15, c15_0, c15_1, c15_2, c15_3, c15_4, c15_5, c15_6, c15_7, c15_8, c15_9, c15_10, c15_11, h5', h6', h7']
    have hout : (ρ 3).strip = .vs (dn.map stRow) .unk := by
      obtain ⟨tt, hv, _⟩ := ha
      rw [hv]; simp [AV.strip, hx.strip]
    cases r with
    | nil =>
      have hl1 : ((BS [x]).length : Int) = 1 := by rw [BS_len]; rfl
      simp (decide := true) only [st, c15_12, c15_13, hl1, keepS_ret, r0]
      refine ⟨by rw [hout, he, dec_cons]; simp [h5, h6, h7], fun b hb => ?_⟩
      have hne : ¬ b = h'.next := by have := ho.next; omega
      rw [if_neg hne, if_neg hne, ho.get b hb]
    | cons y r2 =>
      have hl1 : ((BS (x :: y :: r2)).length : Int) = ((r2.length + 2 : Nat) : Int) := by rw [BS_len]; rfl
      have hl2 : ¬ ((r2.length + 2 : Nat) : Int) < 2 := by omega
      have hl3 : IntKind.wrap .i64 (((r2.length + 2 : Nat) : Int) - 2) = (r2.length : Int) := by rw [wrapS] <;> simp only [List.length_cons] at hn <;> omega
      have hy256 : y.toNat < 256 := y.toNat_lt
      have w3 : IntKind.wrap .i64 (y.toNat : Int) = y.toNat := wrapN (by omega)
      have g1 : (BS (x :: y :: r2))[Int.toNat 1]? = some [.int .u8 y.toNat] := rfl
      by_cases hy : r2.length < y.toNat
      · have hy' : (r2.length : Int) < (y.toNat : Int) := by omega
        simp (decide := true) only [st, c15_12, c15_13, hl1, hl2, hl3, w3, g1, hy', keepS_ret, r0, List.length_cons, List.length_nil]
        refine ⟨by rw [hout, he, dec_cons]; simp [h5, h6, h7, hy], fun b hb => ?_⟩
        have hne : ¬ b = h'.next := by have := ho.next; omega
        rw [if_neg hne, if_neg hne, ho.get b hb]
      · have hy' : ¬ (r2.length : Int) < (y.toNat : Int) := by omega
        simp (decide := true) only [st, c15_12, hl1, hl2, hl3, w3, g1, hy', keepS_ret, r0, List.length_cons, List.length_nil]
        have w4 : IntKind.wrap .i64 (2 + (y.toNat : Int)) = ((2 + y.toNat : Nat) : Int) := by rw [wrapS] <;> omega
        have w5 : IntKind.wrap .i64 (1 + (y.toNat : Int)) = ((1 + y.toNat : Nat) : Int) := by rw [wrapS] <;> omega
        have k1 : Int.toNat 2 ≤ 2 + y.toNat ∧ 2 + y.toNat ≤ (BS (x :: y :: r2)).length ∧ headOk 1 (BS (x :: y :: r2)) = true := ⟨by show 2 ≤ _; omega, by rw [BS_len]; simp only [List.length_cons]; omega, BS_head⟩
        have k2 : List.take (2 + y.toNat - Int.toNat 2) (List.drop (Int.toNat 2) (BS (x :: y :: r2))) = BS (r2.take y.toNat) := by
          rw [show 2 + y.toNat - Int.toNat 2 = y.toNat by show 2 + y.toNat - 2 = _; omega, ← BS_take]; rfl
        simp (decide := true) only [st, c15_14, w3, w4, g1, r0, Int.toNat_natCast, k1, k2]
        refine execC_by (cloneB ok (z := [.int .u8 0]) (f := 39) rfl (by simp only [List.length_cons] at hn; simp only [List.length_take]; omega)) ?_
        obtain ⟨z, rest, hzr, hrl, hrd⟩ : ∃ z rest, (y :: r2).drop y.toNat = z :: rest ∧ rest.length < n ∧ rest = r2.drop y.toNat := by
          cases hq : (y :: r2).drop y.toNat with
          | nil => have := congrArg List.length hq; simp only [List.length_drop, List.length_cons, List.length_nil] at this; omega
          | cons z rest =>
            have h1 : rest = r2.drop y.toNat := by
              have : ((y :: r2).drop y.toNat).drop 1 = rest := by rw [hq]; rfl
              rw [List.drop_drop, Nat.add_comm] at this
              rw [← this, Nat.add_comm]; rfl
            refine ⟨z, rest, rfl, ?_, h1⟩
            have := congrArg List.length hq
            simp only [List.length_drop, List.length_cons] at this hn
            omega
        have k3 : 1 + y.toNat ≤ (BS (x :: y :: r2)).length ∧ headOk 1 (BS (x :: y :: r2)) = true := ⟨by rw [BS_len]; simp only [List.length_cons]; omega, BS_head⟩
        have k4 : List.take ((BS (x :: y :: r2)).length - (1 + y.toNat)) (List.drop (1 + y.toNat) (BS (x :: y :: r2))) = BS (z :: rest) := by
          rw [List.take_of_length_le (by simp), BS_drop, Nat.add_comm 1, List.drop_succ_cons, hzr]
        simp (decide := true) only [st, c15_15, w3, w5, g1, r0, Int.toNat_natCast, k3, k4]
        simp only [hset]
        exact WP_seq.1 (dec_tail (y := z) (rest := rest) (t1 := sliceTail t' (BS (x :: y :: r2)).length (1 + y.toNat) (BS (x :: y :: r2)).length) hl (hO _ _) (s := ⟨1, ((x.toNat / 8 % 4 : Nat) : Int), r2.take y.toNat⟩) (by simp (decide := true) only [st]) (by simp (decide := true) only [st]) (by simp (decide := true) only [st]; exact hA _ _) hx (hBn _ _) (hB _ _) hrl hnb hd (by rw [he, dec_cons]; simp [h5, h6, h7, hy, hrd]))

end Go.Proofs.YtjkllffbjeajhaaGreat.Am

namespace Go.Proofs.YtjkllffbjeajhaaGreat.Am
open Go
variable {P : Program}

theorem Equal_calls (ok : TblOK P tb) {l m : List UInt8} {t t' : Tail} {h : AHeap} : ACalls P 67 [.vs (BS l) t, .vs (BS m) t'] h (.bool (l == m)) h := by
  refine ok.calls (rf := c67) rfl (Nat.le_of_ble_eq_true rfl) ?_
  simp (decide := true) only [st, c67, c67_0, c67_1, BS_head, BS_bytes, Option.bind_some, Option.map_some, abin_str]

def SameB (a b : Stp) : Bool := a.kind == b.kind && a.thr == b.thr && a.b == b.b

theorem same_calls (ok : TblOK P tb) {x y : List AV} {a b : Stp} (hx : StR x a) (hy : StR y b) {h : AHeap} : ACalls P 41 [.agg x, .agg y] h (.bool (SameB a b)) h := by
  refine ok.keeps (rf := c41) rfl (Nat.le_of_ble_eq_true rfl) rfl ?_
  obtain ⟨t, rfl⟩ := hx
  obtain ⟨t', rfl⟩ := hy
  unfold SameB
  have e1 : ¬ h.next = h.next + 1 := by omega
  by_cases hk : a.kind = b.kind
  · by_cases ht : a.thr = b.thr
    · simp (decide := true) only [st, c41, c41_0, c41_1, hk, ht, e1]
      refine execC_by (Equal_calls ok) ?_
      simp (decide := true) only [st, beq_self_eq_true, Bool.and_self, Bool.true_and]
      intro x hx
      rw [if_neg (by omega), if_neg (by omega)]
    · simp (decide := true) only [st, c41, c41_0, c41_1, hk, ht, e1]
      refine ⟨by simp [ht], fun x hx => ?_⟩
      rw [if_neg (by omega), if_neg (by omega)]
  · simp (decide := true) only [st, c41, c41_0, c41_1, hk, e1]
    refine ⟨by simp [hk], fun x hx => ?_⟩
    rw [if_neg (by omega), if_neg (by omega)]

/-- A step's bytes. -/
def putS (s : Stp) : List UInt8 :=
  let x := u8w (IntKind.wrap .i64 (8 * s.thr))
  if s.kind = 2 then [5] else if s.kind = 3 then [6] else if s.kind = 4 then [u8w (x.toNat + 7)] else x :: u8w s.b.length :: s.b

theorem put_calls (ok : TblOK P tb) {x : List AV} {a : Stp} (hx : StR x a) {h : AHeap} (hl : a.b.length < 2 ^ 30) : ACalls P 40 [.agg x] h (.vs (BS (putS a)) .unk) h := by
  refine ok.keepsS (rf := c40) rfl (Nat.le_of_ble_eq_true rfl) (by simp only [AV.allR, BS_allR]; rfl) ?_
  obtain ⟨t, rfl⟩ := hx
  unfold putS
  have hold : ∀ z, ∀ x, x < h.next → (h.at h.next z).get x = h.get x := fun z x hx => by simp [AHeap.at]; omega
  by_cases h2 : a.kind = 2
  · simp (decide := true) only [st, c40, c40_0, c40_1, c40_2, c40_3, c40_4, c40_5, c40_6, c40_7, c40_8, c40_9, h2, wrap_u8, keepS_ret]
    exact ⟨rfl, fun x hx => by rw [if_neg (by omega)]⟩
  by_cases h3 : a.kind = 3
  · simp (decide := true) only [st, c40, c40_0, c40_1, c40_2, c40_3, c40_4, c40_5, c40_6, c40_7, c40_8, c40_9, h3, wrap_u8, keepS_ret]
    exact ⟨rfl, fun x hx => by rw [if_neg (by omega)]⟩
  by_cases h4 : a.kind = 4
  · simp (decide := true) only [st, c40, c40_0, c40_1, c40_2, c40_3, c40_4, c40_5, c40_6, c40_7, c40_8, c40_9, h4, wrap_u8, keepS_ret]
    exact ⟨rfl, fun x hx => by rw [if_neg (by omega)]⟩
  have hrp : ∀ z w : List AV, (List.replicate 2 z).set 0 w = [w, z] := fun _ _ => rfl
  have hrp2 : ∀ z w v : List AV, [w, z].set 1 v = [w, v] := fun _ _ _ => rfl
  let H := h.at h.next (.cells [.int .i64 a.kind, .int .i64 a.thr, .vs (BS a.b) t])
  have hn : (h.at h.next (.cells [.int .i64 a.kind, .int .i64 a.thr, .vs (BS a.b) t])).next = h.next + 1 := by simp [AHeap.at]
  obtain ⟨v', h', e1, ⟨t2, rfl, _⟩, e3, -⟩ := App.app (⟨.full, rfl, .inl rfl⟩ : App h H (.vs (BS [u8w (IntKind.wrap .i64 (8 * a.thr)), u8w a.b.length]) .full) (BS [u8w (IntKind.wrap .i64 (8 * a.thr)), u8w a.b.length])) ((Old.refl h).at (Nat.le_refl _)) (bytes := 1) (sz := 1) (id := h.next + 1) (by omega) (BS a.b) BS_head
    (by simp only [BS_len, List.length_cons, List.length_nil]; omega) (by simp only [BS_len, List.length_cons, List.length_nil]; omega)
  have e1' : appF 1 1 (h.next + 1) (h.at h.next (.cells [.int .i64 a.kind, .int .i64 a.thr, .vs (BS a.b) t])) (.vs [[.int .u8 ((u8w (IntKind.wrap .i64 (8 * a.thr))).toNat : Int)], [.int .u8 ((u8w a.b.length).toNat : Int)]] .full) (some (BS a.b)) = some (_, h') := e1
  simp (decide := true) only [st, c40, c40_0, c40_1, c40_2, c40_3, c40_4, c40_5, c40_6, c40_7, c40_8, c40_9, h2, h3, h4, wrap_u8, keepS_ret, hrp, hrp2, List.length_cons, List.length_nil, e1', BS_len, BS_head]
  exact ⟨by simp only [AV.strip, BS_app, BS_strip]; rfl, e3.get⟩

theorem StRs.get : ∀ {xs : List (List AV)} {l : List Stp} {i : Nat}, StRs xs l → (hi : i < l.length) → ∃ t, xs[i]? = some [.int .i64 l[i].kind, .int .i64 l[i].thr, .vs (BS l[i].b) t]
  | [], [], i, _, hi => absurd hi (by simp)
  | [], _ :: _, _, h, _ => h.elim
  | _ :: _, [], _, h, _ => h.elim
  | x :: xs, y :: l, 0, ⟨⟨t, h1⟩, _⟩, _ => ⟨t, by simp [h1]⟩
  | x :: xs, y :: l, i + 1, ⟨_, h2⟩, hi => by
    obtain ⟨t, h⟩ := StRs.get (i := i) h2 (by simpa using hi)
    exact ⟨t, by simpa using h⟩

def SameL : List Stp → List Stp → Bool
  | [], [] => true
  | a :: l, b :: m => SameB a b && SameL l m
  | _, _ => false

theorem SameL_len : ∀ {l m : List Stp}, l.length ≠ m.length → SameL l m = false
  | [], [], h => (h rfl).elim
  | a :: l, b :: m, h => by simp only [SameL, SameL_len (l := l) (m := m) (by simpa using h), Bool.and_false]
  | [], b :: m, _ => rfl
  | a :: l, [], _ => rfl
theorem SameL_drop : ∀ {l m : List Stp} (i : Nat) (hl : l.length = m.length), (∀ j (h1 : j < l.length) (h2 : j < m.length), j < i → SameB l[j] m[j] = true) → SameL l m = SameL (l.drop i) (m.drop i)
  | l, m, 0, _, _ => rfl
  | [], [], i + 1, _, _ => rfl
  | a :: l, b :: m, i + 1, hl, h => by
    have h0 := h 0 (by simp) (by simp) (by omega)
    simp only [List.getElem_cons_zero] at h0
    simp only [SameL, h0, Bool.true_and, List.drop_succ_cons]
    exact SameL_drop i (by simpa using hl) (fun j h1 h2 hj => by have := h (j + 1) (by simpa using h1) (by simpa using h2) (by omega); simpa using this)

theorem SameL_no {l m : List Stp} {i : Nat} (hl : l.length = m.length) (h1 : i < l.length) (h2 : i < m.length) (hall : ∀ j (h1 : j < l.length) (h2 : j < m.length), j < i → SameB l[j] m[j] = true) (hi : SameB l[i] m[i] = false) : SameL l m = false := by
  rw [SameL_drop i hl hall, List.drop_eq_getElem_cons h1, List.drop_eq_getElem_cons h2]
  simp only [SameL, hi, Bool.false_and]
theorem SameL_yes {l m : List Stp} (hl : l.length = m.length) (hall : ∀ j (h1 : j < l.length) (h2 : j < m.length), j < l.length → SameB l[j] m[j] = true) : SameL l m = true := by
  rw [SameL_drop l.length hl hall, List.drop_of_length_le (Nat.le_refl _), List.drop_of_length_le (by omega)]
  rfl

theorem SameSteps_calls (ok : TblOK P tb) {xs ys : List (List AV)} {l m : List Stp} (hx : StRs xs l) (hy : StRs ys m) {t t' : Tail} {h : AHeap} (hl : l.length < 2 ^ 30) : ACalls P 18 [.vs xs t, .vs ys t'] h (.bool (SameL l m)) h := by
  refine ok.keeps (rf := c18) rfl (Nat.le_of_ble_eq_true rfl) rfl ?_
  have hxl := hx.len
  have hyl := hy.len
  by_cases hlen : l.length = m.length
  · have e0 : (xs.length : Int) = (ys.length : Int) := by omega
    simp (decide := true) only [st, c18, c18_0, c18_1, c18_2, c18_3, e0]
    let I : Nat → Env → AHeap → Prop := fun n ρ h' => Old h h' ∧ ∃ i : Nat, l.length = i + n ∧ ρ 0 = .vs xs t ∧ ρ 1 = .vs ys t' ∧ ρ 5 = .int .i64 i ∧ ∀ j (h1 : j < l.length) (h2 : j < m.length), j < i → SameB l[j] m[j] = true
    refine wp_loop_n I ?_ l.length ⟨Old.refl h, 0, by omega, by simp (decide := true) only [st], by simp (decide := true) only [st], by simp (decide := true) only [st], fun j h1 h2 h => by omega⟩
    rintro n ρ h' ⟨ho, i, hin, r0, r1, r5, hall⟩
    by_cases hi : i < l.length
    · obtain ⟨t1, g1⟩ := hx.get hi
      obtain ⟨t2, g2⟩ := hy.get (show i < m.length by omega)
      have hi' : (i : Int) < (xs.length : Int) := by omega
      have hi0 : (0 : Int) ≤ (i : Int) := by omega
      have hw := wrapN1 (show i < 2 ^ 61 by omega)
      simp (decide := true) only [st, c18_4, r0, r5, hi']
      refine WP_regD0n 39 rfl rfl ?_
      by_cases hk : l[i].kind = m[i].kind
      · by_cases ht : l[i].thr = m[i].thr
        · by_cases hb : l[i].b = m[i].b
          · have hbb : (l[i].b == m[i].b) = true := by simp [hb]
            simp (decide := true) only [st, c18_5, c18_7, r0, r1, r5, g1, g2, hk, ht, hi0, Int.toNat_natCast, List.length_cons, List.length_nil, BS_head, BS_bytes, Option.bind_some, Option.map_some, abin_strn, hbb, hw, Bool.not_true]
            refine ⟨n - 1, by omega, ho.clean, i + 1, by omega, by simp (decide := true) only [st, r0], by simp (decide := true) only [st, r1], by simp (decide := true) only [st], fun j h1 h2 hj => ?_⟩
            by_cases hji : j = i
            · subst hji; simp [SameB, hk, ht, hb]
            · exact hall j h1 h2 (by omega)
          · have hbb : (l[i].b == m[i].b) = false := by simp [hb]
            simp (decide := true) only [st, c18_5, c18_6, r0, r1, r5, g1, g2, hk, ht, hi0, Int.toNat_natCast, List.length_cons, List.length_nil, BS_head, BS_bytes, Option.bind_some, Option.map_some, abin_strn, hbb, hw, Bool.not_false]
            exact ⟨by rw [SameL_no hlen hi (by omega) hall (by simp [SameB, hb])], (ho.clean (n := 39)).get⟩
        · simp (decide := true) only [st, c18_5, c18_6, r0, r1, r5, g1, g2, hk, ht, hi0, Int.toNat_natCast, List.length_cons, List.length_nil]
          exact ⟨by rw [SameL_no hlen hi (by omega) hall (by simp [SameB, ht])], (ho.clean (n := 39)).get⟩
      · simp (decide := true) only [st, c18_5, c18_6, r0, r1, r5, g1, g2, hk, hi0, Int.toNat_natCast, List.length_cons, List.length_nil]
        exact ⟨by rw [SameL_no hlen hi (by omega) hall (by simp [SameB, hk])], (ho.clean (n := 39)).get⟩
    · have hi' : ¬ (i : Int) < (xs.length : Int) := by omega
      have hie : i = l.length := by omega
      subst hie
      simp (decide := true) only [st, c18_4, c18_8, r0, r5, hi']
      exact ⟨by rw [SameL_yes hlen hall], ho.get⟩
  · have e0 : ¬ (xs.length : Int) = (ys.length : Int) := by omega
    simp (decide := true) only [st, c18, c18_0, c18_1, c18_2, e0, SameL_len hlen]

end Go.Proofs.YtjkllffbjeajhaaGreat.Am

namespace Go.Proofs.YtjkllffbjeajhaaGreat.Am
open Go
variable {P : Program}

/-- A step's bytes, where some say it. -/
def encS (s : Stp) : List UInt8 := if s.b.length > 255 then [] else match dec (putS s) with
  | [a] => if SameB a s = true then putS s else []
  | _ => []
def enc (l : List Stp) : List UInt8 := (l.map encS).flatten

theorem putS_len (s : Stp) : (putS s).length ≤ s.b.length + 2 := by
  unfold putS
  simp only []
  split
  · simp
  · split
    · simp
    · split <;> simp
theorem encS_len (s : Stp) : (encS s).length ≤ 257 := by
  unfold encS
  split
  · simp
  · have := putS_len s
    split
    · split
      · omega
      · simp
    · simp
theorem enc_len : ∀ (l : List Stp), (enc l).length ≤ 257 * l.length
  | [] => by simp [enc]
  | s :: l => by
    have h1 := encS_len s
    have h2 := enc_len l
    simp only [enc, List.map_cons, List.flatten_cons, List.length_append, List.length_cons] at h2 ⊢
    omega

theorem Encode_calls (ok : TblOK P tb) {xs : List (List AV)} {l : List Stp} (hx : StRs xs l) {t : Tail} {h : AHeap} (hl : l.length < 2 ^ 20) (hb : ∀ s ∈ l, s.b.length < 2 ^ 30) : ACalls P 20 [.vs xs t] h (.vs (BS (enc l)) .unk) h := by
  refine ok.keepsS (rf := c20) rfl (Nat.le_of_ble_eq_true rfl) (by simp only [AV.allR, BS_allR]; rfl) ?_
  have hxl := hx.len
  simp (decide := true) only [st, c20, c20_0, c20_1, c20_2]
  let I : Nat → Env → AHeap → Prop := fun n ρ h' => Old h h' ∧ ∃ i : Nat, l.length = i + n ∧ ρ 8 = .vs xs t ∧ ρ 9 = .int .i64 l.length ∧ ρ 10 = .int .i64 i ∧ App h h' (ρ 3) (BS (enc (l.take i)))
  refine wp_loop_n I ?_ l.length ⟨Old.refl h, 0, by omega, by simp (decide := true) only [st], by simp (decide := true) only [st, hxl], by simp (decide := true) only [st], by simp (decide := true) only [st]; exact App.nil h h⟩
  rintro n ρ h' ⟨ho, i, hin, r8, r9, r10, ha⟩
  by_cases hi : i < l.length
  · obtain ⟨t1, g1⟩ := hx.get hi
    have hi' : (i : Int) < (l.length : Int) := by omega
    have hi0 : (0 : Int) ≤ (i : Int) := by omega
    have hw := wrapN1 (show i < 2 ^ 61 by omega)
    have htk : enc (l.take (i + 1)) = enc (l.take i) ++ encS l[i] := by
      rw [← List.take_append_getElem hi]; simp only [enc, List.map_append, List.map_cons, List.map_nil, List.flatten_append, List.flatten_cons, List.flatten_nil, List.append_nil]
    have hB : ∀ z w, ((h'.at h'.next z).set h'.next w).get h'.next = w := fun z w => by simp [AHeap.set]
    have hBn : ∀ z w, h'.next < ((h'.at h'.next z).set h'.next w).next := fun z w => by simp [AHeap.set, AHeap.at]
    have hO : ∀ z w, Old h ((h'.at h'.next z).set h'.next w) := fun z w => (ho.at ho.next).set ho.next
    have hA : ∀ z w, App h ((h'.at h'.next z).set h'.next w) (ρ 3) (BS (enc (l.take i))) := fun z w => ha.to (by simp [AHeap.set, AHeap.at]) (fun k _ h2 h3 => by
      have : ¬ k = h'.next := by omega
      simp [AHeap.set, AHeap.at, this, h3])
    by_cases hlong : l[i].b.length > 255
    · have hlong' : (255 : Int) < (l[i].b.length : Int) := by omega
      simp (decide := true) only [st, c20, c20_0, c20_1, c20_2, c20_3, c20_4, c20_5, c20_10, r8, r9, r10, hi', hi0, g1, hw, Int.toNat_natCast, List.length_cons, List.length_nil, BS_len, hlong']
      refine ⟨n - 1, by omega, (ho.at ho.next).set ho.next, i + 1, by omega, by simp (decide := true) only [st, r8], by simp (decide := true) only [st, r9], by simp (decide := true) only [st], ?_⟩
      have he : encS l[i] = [] := by simp [encS, hlong]
      simp (decide := true) only [st]
      rw [htk, he, List.append_nil]
      exact hA _ _
    · have hlong' : ¬ (255 : Int) < (l[i].b.length : Int) := by omega
      simp (decide := true) only [st, c20, c20_0, c20_1, c20_2, c20_3, c20_4, c20_5, r8, r9, r10, hi', hi0, g1, hw, Int.toNat_natCast, List.length_cons, List.length_nil, BS_len, hlong']
      simp (decide := true) only [st, c20_6]
      refine execC_by (put_calls ok (a := l[i]) ⟨_, rfl⟩ (hb _ (List.getElem_mem hi))) ?_
      simp (decide := true) only [st, c20_7]
      refine execC_by (Decode_calls ok (by have := putS_len l[i]; omega)) ?_
      simp (decide := true) only [st]
      have hHc := hB (Blk.cells [.int .i64 0, .int .i64 0, .vs [] .full]) (some (.cells [.int .i64 l[i].kind, .int .i64 l[i].thr, .vs (BS l[i].b) t1]))
      have hHn := hBn (Blk.cells [.int .i64 0, .int .i64 0, .vs [] .full]) (some (.cells [.int .i64 l[i].kind, .int .i64 l[i].thr, .vs (BS l[i].b) t1]))
      have hHo := hO (Blk.cells [.int .i64 0, .int .i64 0, .vs [] .full]) (some (.cells [.int .i64 l[i].kind, .int .i64 l[i].thr, .vs (BS l[i].b) t1]))
      have hHa := hA (Blk.cells [.int .i64 0, .int .i64 0, .vs [] .full]) (some (.cells [.int .i64 l[i].kind, .int .i64 l[i].thr, .vs (BS l[i].b) t1]))
      generalize hH : ((h'.at h'.next (Blk.cells [.int .i64 0, .int .i64 0, .vs [] .full])).set h'.next (some (.cells [.int .i64 l[i].kind, .int .i64 l[i].thr, .vs (BS l[i].b) t1]))) = H at hHc hHn hHo hHa ⊢
      have hcl : cellsOf (H.clean 10) h'.next = some [.int .i64 l[i].kind, .int .i64 l[i].thr, .vs (BS l[i].b) t1] := cellsOf_of (by simp [AHeap.clean, hHn, hHc])
      have hHa2 : App h (H.clean 10) (ρ 3) (BS (enc (l.take i))) := hHa.to (by simp [AHeap.clean]) (fun k _ h2 h3 => by simp [AHeap.clean, h2, h3])
      have hdl : ((dec (putS l[i])).map stRow).length = (dec (putS l[i])).length := by simp
      refine WP_regD0n 10 rfl rfl ?_
      cases hq : dec (putS l[i]) with
      | nil =>
        have he : encS l[i] = [] := by simp [encS, hlong, hq]
        simp (decide := true) only [st, c20_8, c20_10, List.map_nil, List.length_nil, r10, hw]
        refine ⟨n - 1, by omega, hHo.clean, i + 1, by omega, by simp (decide := true) only [st, r8], by simp (decide := true) only [st, r9], by simp (decide := true) only [st], ?_⟩
        simp (decide := true) only [st]
        rw [htk, he, List.append_nil]
        exact hHa2
      | cons a r => cases r with
        | nil =>
          simp (decide := true) only [st, c20_8, List.map_cons, List.map_nil, List.length_nil, List.length_cons, stRow, Int.toNat_zero, hcl]
          refine eDC_by (same_calls ok (a := a) (b := l[i]) ⟨_, rfl⟩ ⟨_, rfl⟩) (freeD_clean.2 trivial) ?_
          by_cases hs : SameB a l[i] = true
          · have he : encS l[i] = putS l[i] := by simp [encS, hlong, hq, hs]
            have hpl := putS_len l[i]
            have hel := enc_len (l.take i)
            have htl : (l.take i).length ≤ l.length := by simp; omega
            have hbl := hb _ (List.getElem_mem hi)
            obtain ⟨v', h2, e1, e2, e3, -⟩ := App.app hHa2 hHo.clean (bytes := 1) (sz := 1) (id := H.next + 10) (by have := hHo.next; omega) (BS (putS l[i])) BS_head (by simp only [BS_len]; omega) (by simp only [BS_len]; omega)
            simp (decide := true) only [st, c20_9, c20_10, hs, r10, hw, BS_head, e1]
            refine ⟨n - 1, by omega, e3, i + 1, by omega, by simp (decide := true) only [st, r8], by simp (decide := true) only [st, r9], by simp (decide := true) only [st], ?_⟩
            simp (decide := true) only [st]
            rw [htk, he, ← BS_app]
            exact e2
          · have he : encS l[i] = [] := by simp [encS, hlong, hq, hs]
            have hs' : SameB a l[i] = false := by simpa using hs
            simp (decide := true) only [st, c20_10, hs', r10, hw]
            refine ⟨n - 1, by omega, hHo.clean, i + 1, by omega, by simp (decide := true) only [st, r8], by simp (decide := true) only [st, r9], by simp (decide := true) only [st], ?_⟩
            simp (decide := true) only [st]
            rw [htk, he, List.append_nil]
            exact hHa2
        | cons a2 r =>
          have he : encS l[i] = [] := by simp [encS, hlong, hq]
          have hne : ¬ (((List.map stRow r).length + 1 + 1 : Nat) : Int) = 1 := by omega
          simp (decide := true) only [st, c20_8, c20_10, List.map_cons, List.length_cons, hne, r10, hw]
          refine ⟨n - 1, by omega, hHo.clean, i + 1, by omega, by simp (decide := true) only [st, r8], by simp (decide := true) only [st, r9], by simp (decide := true) only [st], ?_⟩
          simp (decide := true) only [st]
          rw [htk, he, List.append_nil]
          exact hHa2
  · have hi' : ¬ (i : Int) < (l.length : Int) := by omega
    have hie : i = l.length := by omega
    subst hie
    simp (decide := true) only [st, c20_3, c20_11, r9, r10, hi', keepS_ret]
    obtain ⟨tt, hv, _⟩ := ha
    simp (decide := true) only [st, keepS_ret, hv]
    exact ⟨by simp only [AV.strip, BS_strip, List.take_length], ho.get⟩

end Go.Proofs.YtjkllffbjeajhaaGreat.Am

namespace Go.Proofs.YtjkllffbjeajhaaGreat.Am
open Go

/-- A step that some bytes say. -/
def GoodS (s : Stp) : Prop := (s.kind = 2 ∧ s.thr = 0 ∧ s.b = []) ∨ (s.kind = 3 ∧ s.thr = 0 ∧ s.b = []) ∨ (s.kind = 4 ∧ (∃ t : Nat, t < 4 ∧ s.thr = t) ∧ s.b = []) ∨ (s.kind = 1 ∧ (∃ t : Nat, t < 4 ∧ s.thr = t) ∧ s.b.length < 256)

theorem SameB_refl (s : Stp) : SameB s s = true := by simp [SameB]
theorem SameL_refl : ∀ l : List Stp, SameL l l = true
  | [] => rfl
  | s :: l => by simp [SameL, SameB_refl, SameL_refl l]
theorem SameB_iff {a b : Stp} : SameB a b = true ↔ a = b := by
  obtain ⟨k, t, l⟩ := a
  obtain ⟨k', t', l'⟩ := b
  simp [SameB, and_assoc]
theorem SameL_iff : ∀ {l m : List Stp}, SameL l m = true ↔ l = m
  | [], [] => by simp [SameL]
  | [], _ :: _ => by simp [SameL]
  | _ :: _, [] => by simp [SameL]
  | a :: l, b :: m => by simp [SameL, SameB_iff, SameL_iff]

theorem u8w_small {n : Nat} (h : n < 256) : (u8w (n : Int)).toNat = n := by
  unfold u8w
  rw [UInt8.toNat_ofNat']
  omega
theorem thr_byte {t : Nat} (ht : t < 4) : IntKind.wrap .i64 (8 * (t : Int)) = ((8 * t : Nat) : Int) := by rw [wrapS] <;> omega

theorem dec_put {s : Stp} (h : GoodS s) (rest : List UInt8) : dec (putS s ++ rest) = s :: dec rest := by
  obtain ⟨k, t, b⟩ := s
  rcases h with ⟨h1, h2, h3⟩ | ⟨h1, h2, h3⟩ | ⟨h1, ⟨n, hn, h2⟩, h3⟩ | ⟨h1, ⟨n, hn, h2⟩, h3⟩
  all_goals simp only at h1 h2 h3
  · subst h1; subst h2; subst h3
    rw [show putS ⟨2, 0, []⟩ = [5] from rfl, List.singleton_append, dec_cons]
    rfl
  · subst h1; subst h2; subst h3
    rw [show putS ⟨3, 0, []⟩ = [6] from rfl, List.singleton_append, dec_cons]
    rfl
  · subst h1; subst h2; subst h3
    have hx : (u8w (((u8w (IntKind.wrap .i64 (8 * (n : Int)))).toNat : Int) + 7)).toNat = 8 * n + 7 := by
      rw [thr_byte hn, u8w_small (by omega)]
      exact u8w_small (n := 8 * n + 7) (by omega)
    have hp : putS ⟨4, n, []⟩ = [u8w (((u8w (IntKind.wrap .i64 (8 * (n : Int)))).toNat : Int) + 7)] := rfl
    rw [hp, List.singleton_append, dec_cons, hx, if_neg (by omega), if_neg (by omega), if_pos (by omega)]
    have : (8 * n + 7) / 8 % 4 = n := by omega
    rw [this]
  · subst h1; subst h2
    have hx : (u8w (IntKind.wrap .i64 (8 * (n : Int)))).toNat = 8 * n := by rw [thr_byte hn, u8w_small (by omega)]
    have hy : (u8w ((b.length : Nat) : Int)).toNat = b.length := u8w_small h3
    have hp : putS ⟨1, n, b⟩ = u8w (IntKind.wrap .i64 (8 * (n : Int))) :: u8w ((b.length : Nat) : Int) :: b := rfl
    rw [hp, List.cons_append, dec_cons, hx, if_neg (by omega), if_neg (by omega), if_neg (by omega)]
    simp only [List.cons_append]
    rw [hy, if_neg (by simp)]
    have : 8 * n / 8 % 4 = n := by omega
    rw [this, List.take_left' rfl, List.drop_left' rfl]

theorem dec_put1 {s : Stp} (h : GoodS s) : dec (putS s) = [s] := by
  have := dec_put h []
  rwa [List.append_nil, dec_nil] at this

theorem good_len {s : Stp} (h : GoodS s) : s.b.length ≤ 255 := by
  rcases h with ⟨_, _, h3⟩ | ⟨_, _, h3⟩ | ⟨_, _, h3⟩ | ⟨_, _, h3⟩ <;> first | (rw [h3]; simp) | omega

theorem enc_good {s : Stp} (h : GoodS s) : encS s = putS s := by
  have := good_len h
  simp [encS, dec_put1 h, SameB_refl, show ¬ 255 < s.b.length by omega]

theorem dec_good : ∀ (n : Nat) (b : List UInt8), b.length ≤ n → (∀ s ∈ dec b, GoodS s) ∧ (enc (dec b)).length ≤ b.length
  | _, [], _ => by rw [dec_nil]; exact ⟨by simp, by simp [enc]⟩
  | 0, _ :: _, h => by simp at h
  | n + 1, x :: r, h => by
    simp only [List.length_cons] at h
    have hstep : ∀ {s : Stp} {rest : List UInt8}, GoodS s → rest.length ≤ n → (putS s).length + rest.length ≤ r.length + 1 → (∀ y ∈ s :: dec rest, GoodS y) ∧ (enc (s :: dec rest)).length ≤ r.length + 1 := fun {s rest} hs hr hl => by
      obtain ⟨h1, h2⟩ := dec_good n rest hr
      refine ⟨fun y hy => ?_, ?_⟩
      · rcases List.mem_cons.1 hy with rfl | hy
        · exact hs
        · exact h1 y hy
      · simp only [enc, List.map_cons, List.flatten_cons, List.length_append, enc_good hs] at h2 ⊢
        omega
    have ht4 : x.toNat / 8 % 4 < 4 := by omega
    rw [dec_cons, List.length_cons]
    split
    · exact hstep (.inl ⟨rfl, rfl, rfl⟩) (by omega) (by rw [show putS ⟨2, 0, []⟩ = [5] from rfl]; simp; omega)
    split
    · exact hstep (.inr (.inl ⟨rfl, rfl, rfl⟩)) (by omega) (by rw [show putS ⟨3, 0, []⟩ = [6] from rfl]; simp; omega)
    split
    · refine hstep (.inr (.inr (.inl ⟨rfl, ⟨_, ht4, rfl⟩, rfl⟩))) (by omega) ?_
      have : (putS ⟨4, ((x.toNat / 8 % 4 : Nat) : Int), []⟩).length = 1 := rfl
      omega
    split
    · exact ⟨by simp, by simp [enc]⟩
    · rename_i y r2
      simp only [List.length_cons] at h ⊢
      have hy := y.toNat_lt
      split
      · exact ⟨by simp, by simp [enc]⟩
      · rename_i hle
        have hlt : (r2.take y.toNat).length = y.toNat := by simp; omega
        refine hstep (.inr (.inr (.inr ⟨rfl, ⟨_, ht4, rfl⟩, by simp only [hlt]; omega⟩))) (by simp; omega) ?_
        have : (putS ⟨1, ((x.toNat / 8 % 4 : Nat) : Int), r2.take y.toNat⟩).length = y.toNat + 2 := by
          show (_ :: _ :: r2.take y.toNat).length = _
          simp only [List.length_cons, hlt]
        simp only [this, List.length_drop, List.length_cons]
        omega

theorem dec_enc : ∀ {l : List Stp}, (∀ s ∈ l, GoodS s) → dec (enc l) = l
  | [], _ => dec_nil
  | s :: l, h => by
    have hs := h s (by simp)
    simp only [enc, List.map_cons, List.flatten_cons, enc_good hs]
    rw [dec_put hs]
    have := dec_enc (l := l) (fun y hy => h y (List.mem_cons_of_mem _ hy))
    simp only [enc] at this
    rw [this]

theorem script_back (b : List UInt8) : SameL (dec (enc (dec b))) (dec b) = true ∧ (enc (dec b)).length ≤ b.length := by
  obtain ⟨h1, h2⟩ := dec_good _ b (Nat.le_refl _)
  rw [dec_enc h1]
  exact ⟨SameL_refl _, h2⟩

/-- ScriptLeft's question. -/
def mayS (s : Stp) : Bool :=
  if s.kind = 1 then decide (0 ≤ s.thr) && decide (s.thr < 4) && decide (s.b.length < 256)
  else if s.kind = 2 ∨ s.kind = 3 then decide (s.thr = 0) && decide (s.b.length = 0)
  else if s.kind = 4 then decide (0 ≤ s.thr) && decide (s.thr < 4) && decide (s.b.length = 0)
  else false

theorem mayS_good {s : Stp} : mayS s = true ↔ GoodS s := by
  obtain ⟨k, t, b⟩ := s
  unfold mayS GoodS
  simp only
  have hn : (0 ≤ t ∧ t < 4) ↔ ∃ n : Nat, n < 4 ∧ t = n := ⟨fun h => ⟨t.toNat, by omega, by omega⟩, fun ⟨n, h1, h2⟩ => by omega⟩
  by_cases h1 : k = 1
  · subst h1; simp [and_assoc, ← hn]
  by_cases h2 : k = 2
  · subst h2; simp
  by_cases h3 : k = 3
  · subst h3; simp
  by_cases h4 : k = 4
  · subst h4; simp [and_assoc, ← hn]
  · simp [h1, h2, h3, h4]

theorem encS_nil {s : Stp} (h : ¬ GoodS s) : encS s = [] := by
  unfold encS
  split
  · rfl
  · split
    · rename_i a hq
      split
      · rename_i hs
        rw [SameB_iff] at hs
        subst hs
        exact (h ((dec_good _ (putS a) (Nat.le_refl _)).1 a (by rw [hq]; simp))).elim
      · rfl
    · rfl

theorem putS_ne (s : Stp) : putS s ≠ [] := by
  unfold putS
  simp only []
  split
  · simp
  · split
    · simp
    · split <;> simp

theorem script_left (s : Stp) : (decide (0 < (enc [s]).length) == mayS s) = true ∧ (mayS s = true → SameL (dec (enc [s])) [s] = true) := by
  have he : enc [s] = encS s := by simp [enc]
  by_cases hg : GoodS s
  · have hm := mayS_good.2 hg
    refine ⟨?_, fun _ => ?_⟩
    · rw [he, hm, enc_good hg]
      have := List.length_pos_iff.2 (putS_ne s)
      simp [this]
    · rw [he, enc_good hg, dec_put1 hg]; exact SameL_refl _
  · have hm : mayS s = false := by
      cases h : mayS s
      · rfl
      · exact (hg (mayS_good.1 h)).elim
    rw [he, hm, encS_nil hg]
    exact ⟨rfl, fun h => by cases h⟩

end Go.Proofs.YtjkllffbjeajhaaGreat.Am

namespace Go.Proofs.YtjkllffbjeajhaaGreat.Am
open Go
variable {P : Program}

theorem StRs_map : ∀ l : List Stp, StRs (l.map stRow) l
  | [] => trivial
  | s :: l => ⟨⟨_, rfl⟩, StRs_map l⟩

theorem dec_len : ∀ (n : Nat) (b : List UInt8), b.length ≤ n → (dec b).length ≤ b.length
  | _, [], _ => by rw [dec_nil]; simp
  | 0, _ :: _, h => by simp at h
  | n + 1, x :: r, h => by
    simp only [List.length_cons] at h
    rw [dec_cons, List.length_cons]
    have h0 := dec_len n r (by omega)
    split
    · simp only [List.length_cons]; omega
    split
    · simp only [List.length_cons]; omega
    split
    · simp only [List.length_cons]; omega
    split
    · simp
    · rename_i y r2
      split
      · simp
      · have h1 := dec_len n (r2.drop y.toNat) (by simp only [List.length_cons, List.length_drop] at h ⊢; omega)
        simp only [List.length_cons, List.length_drop] at h1 ⊢
        omega

theorem scriptBack_wp (ok : TblOK P tb) (begun : ∀ h, ACalls P 13 [] h (.bool true) h) {b : List UInt8} {t : Tail} : WP P c5.code (lawK c5.results) (args0 [.vs (BS b) t]) AHeap.empty := by
  have hbl : (400 : Int) < (b.length : Int) ∨ b.length ≤ 400 := by omega
  simp (decide := true) only [st, c5, c5_0, c5_1, c5_2]
  refine execC_by (begun _) ?_
  rcases hbl with h1 | h1
  · simp (decide := true) only [st, c5, c5_0, c5_1, c5_2, c5_3, c5_4, c5_5, c5_6, c5_7, BS_len, h1, lawK_ret]
  have h1' : ¬ (400 : Int) < (b.length : Int) := by omega
  simp (decide := true) only [st, c5, c5_0, c5_1, c5_2, c5_3, c5_4, BS_len, h1']
  simp (decide := true) only [st, c5_5]
  refine execC_by (Decode_calls ok (by omega)) ?_
  obtain ⟨hg, he⟩ := dec_good _ b (Nat.le_refl _)
  have hdl := dec_len _ b (Nat.le_refl _)
  obtain ⟨hs, -⟩ := script_back b
  have hle : ((enc (dec b)).length : Int) ≤ (b.length : Int) := by omega
  simp (decide := true) only [st, c5_6]
  refine execC_by (Encode_calls ok (StRs_map _) (by omega) (fun s hs => by have := good_len (hg s hs); omega)) ?_
  simp (decide := true) only [st, c5_7]
  refine execC_by (Decode_calls ok (by omega)) ?_
  simp (decide := true) only [st]
  refine execC_by (SameSteps_calls ok (StRs_map _) (StRs_map _) (by rw [dec_enc hg]; omega)) ?_
  simp (decide := true) only [st, hs, BS_len, hle, lawK_ret]

theorem left_tail (ok : TblOK P tb) {s : Stp} {t : Tail} {ρ : Env} {H : AHeap} (hb : s.b.length ≤ 400) (r1 : ρ 1 = .ptr 0 0) (r4 : ρ 4 = .bool (mayS s)) (hc : cellsOf H 0 = some [.int .i64 s.kind, .int .i64 s.thr, .vs (BS s.b) t]) (hn : 0 < H.next) :
    exec P c7_15 ρ H (thenK (WP P ((RCode.regD c7_16 [[], [], [], [], [], [], [], [], [], [], [], [10], [], [], [], [], []]).seq .ret) (lawK [.tmp 2])) (lawK [.tmp 2]) .normal) := by
  have hrp : ∀ z w : List AV, (List.replicate 1 z).set 0 w = [w] := fun _ _ => rfl
  obtain ⟨h1, h2⟩ := script_left s
  simp (decide := true) only [st, c7_15, r1, hc, hrp]
  refine execC_by (Encode_calls ok (xs := [[.int .i64 s.kind, .int .i64 s.thr, .vs (BS s.b) t]]) (l := [s]) ⟨⟨t, rfl⟩, trivial⟩ (by simp) (fun x hx => by simp at hx; subst hx; omega)) ?_
  simp (decide := true) only [st]
  refine WP_regD2 ?_
  have hc' : ∀ n, cellsOf (H.clean n) 0 = some [.int .i64 s.kind, .int .i64 s.thr, .vs (BS s.b) t] := fun n => by
    unfold cellsOf at hc ⊢; simp only [AHeap.clean, hn, if_true]; exact hc
  have hel := enc_len [s]
  have hlen : ((BS (enc [s])).length : Int) = ((enc [s]).length : Int) := by rw [BS_len]
  have hcmp : abin true .eql (.bool (decide ((0 : Int) < ((enc [s]).length : Int)))) (.bool (mayS s)) = some (.bool true) := by
    have : (decide ((0 : Int) < ((enc [s]).length : Int)) == mayS s) = true := by
      rw [← h1]; congr 1; simp
    simp only [abin, if_true, this]
  cases hm : mayS s with
  | false =>
    rw [hm] at hcmp r4
    simp (decide := true) only [st, c7_16, r1, r4, hlen, hcmp, lawK_ret, hn]
  | true =>
    rw [hm] at hcmp r4
    have hs := h2 hm
    simp (decide := true) only [st, c7_16, r1, r4, hlen, hcmp, hc', hrp, lawK_ret, hn]
    refine e2C_by (Decode_calls ok (by simp only [List.length_singleton] at hel; omega)) (freeD_clean.2 trivial) ?_
    simp (decide := true) only [st, r1, hc', hrp, hn]
    refine e2C_by (SameSteps_calls ok (xs := (dec (enc [s])).map stRow) (ys := [[.int .i64 s.kind, .int .i64 s.thr, .vs (BS s.b) t]]) (m := [s]) (StRs_map _) ⟨⟨t, rfl⟩, trivial⟩ ?_) (freeD_clean.2 trivial) ?_
    · have := dec_len _ (enc [s]) (Nat.le_refl _)
      simp only [List.length_singleton] at hel; omega
    simp (decide := true) only [st, hs, lawK_ret]

theorem scriptLeft_wp (ok : TblOK P tb) (begun : ∀ h, ACalls P 13 [] h (.bool true) h) {row : List AV} {s : Stp} (hr : StR row s) : WP P c7.code (lawK c7.results) (args0 [.agg row]) AHeap.empty := by
  obtain ⟨t, rfl⟩ := hr
  have hbl : (400 : Int) < (s.b.length : Int) ∨ s.b.length ≤ 400 := by omega
  simp (decide := true) only [st, c7, c7_0, c7_1, c7_2]
  refine execC_by (begun _) ?_
  rcases hbl with h1 | h1
  · simp (decide := true) only [st, c7, c7_0, c7_1, c7_2, c7_3, c7_4, BS_len, h1, lawK_ret]
  have h1' : ¬ (400 : Int) < (s.b.length : Int) := by omega
  have hn0 : AHeap.empty.next = 0 := rfl
  simp (decide := true) only [st, c7, c7_0, c7_1, c7_2, c7_3, c7_4, c7_5, c7_6, c7_7, BS_len, h1', hn0]
  have hc : cellsOf (AHeap.empty.at 0 (Blk.cells [.int .i64 s.kind, .int .i64 s.thr, .vs (BS s.b) t])) 0 = some [.int .i64 s.kind, .int .i64 s.thr, .vs (BS s.b) t] := cellsOf_of (by simp [AHeap.at])
  have hn : 0 < (AHeap.empty.at 0 (Blk.cells [.int .i64 s.kind, .int .i64 s.thr, .vs (BS s.b) t])).next := by simp [AHeap.at, hn0]
  generalize hH : AHeap.empty.at 0 (Blk.cells [.int .i64 s.kind, .int .i64 s.thr, .vs (BS s.b) t]) = H at hc hn ⊢
  by_cases k1 : s.kind = 1
  · by_cases q0 : 0 ≤ s.thr
    · by_cases q4 : s.thr < 4
      · simp (decide := true) only [st, c7, c7_0, c7_1, c7_2, c7_3, c7_4, c7_5, c7_6, c7_7, c7_8, c7_9, c7_10, c7_11, c7_12, c7_13, c7_14, k1, q0, q4, BS_len, hc]
        exact left_tail ok h1 (by simp (decide := true) only [st]) (by simp (decide := true) only [st]; simp [mayS, k1, q0, q4]; omega) hc hn
      · simp (decide := true) only [st, c7, c7_0, c7_1, c7_2, c7_3, c7_4, c7_5, c7_6, c7_7, c7_8, c7_9, c7_10, c7_11, c7_12, c7_13, c7_14, k1, q0, q4, BS_len, hc]
        exact left_tail ok h1 (by simp (decide := true) only [st]) (by simp (decide := true) only [st]; simp [mayS, k1, q0, q4]) hc hn
    · simp (decide := true) only [st, c7, c7_0, c7_1, c7_2, c7_3, c7_4, c7_5, c7_6, c7_7, c7_8, c7_9, c7_10, c7_11, c7_12, c7_13, c7_14, k1, q0, BS_len, hc]
      exact left_tail ok h1 (by simp (decide := true) only [st]) (by simp (decide := true) only [st]; simp [mayS, k1, q0]) hc hn
  by_cases k2 : s.kind = 2
  · by_cases q0 : s.thr = 0
    · simp (decide := true) only [st, c7, c7_0, c7_1, c7_2, c7_3, c7_4, c7_5, c7_6, c7_7, c7_8, c7_9, c7_10, c7_11, c7_12, c7_13, c7_14, k2, q0, BS_len, hc]
      exact left_tail ok h1 (by simp (decide := true) only [st]) (by simp (decide := true) only [st]; simp [mayS, k2, q0]) hc hn
    · simp (decide := true) only [st, c7, c7_0, c7_1, c7_2, c7_3, c7_4, c7_5, c7_6, c7_7, c7_8, c7_9, c7_10, c7_11, c7_12, c7_13, c7_14, k2, q0, BS_len, hc]
      exact left_tail ok h1 (by simp (decide := true) only [st]) (by simp (decide := true) only [st]; simp [mayS, k2, q0]) hc hn
  by_cases k3 : s.kind = 3
  · by_cases q0 : s.thr = 0
    · simp (decide := true) only [st, c7, c7_0, c7_1, c7_2, c7_3, c7_4, c7_5, c7_6, c7_7, c7_8, c7_9, c7_10, c7_11, c7_12, c7_13, c7_14, k3, q0, BS_len, hc]
      exact left_tail ok h1 (by simp (decide := true) only [st]) (by simp (decide := true) only [st]; simp [mayS, k3, q0]) hc hn
    · simp (decide := true) only [st, c7, c7_0, c7_1, c7_2, c7_3, c7_4, c7_5, c7_6, c7_7, c7_8, c7_9, c7_10, c7_11, c7_12, c7_13, c7_14, k3, q0, BS_len, hc]
      exact left_tail ok h1 (by simp (decide := true) only [st]) (by simp (decide := true) only [st]; simp [mayS, k3, q0]) hc hn
  by_cases k4 : s.kind = 4
  · by_cases q0 : 0 ≤ s.thr
    · by_cases q4 : s.thr < 4
      · simp (decide := true) only [st, c7, c7_0, c7_1, c7_2, c7_3, c7_4, c7_5, c7_6, c7_7, c7_8, c7_9, c7_10, c7_11, c7_12, c7_13, c7_14, k4, q0, q4, BS_len, hc]
        exact left_tail ok h1 (by simp (decide := true) only [st]) (by simp (decide := true) only [st]; simp [mayS, k4, q0, q4]) hc hn
      · simp (decide := true) only [st, c7, c7_0, c7_1, c7_2, c7_3, c7_4, c7_5, c7_6, c7_7, c7_8, c7_9, c7_10, c7_11, c7_12, c7_13, c7_14, k4, q0, q4, BS_len, hc]
        exact left_tail ok h1 (by simp (decide := true) only [st]) (by simp (decide := true) only [st]; simp [mayS, k4, q0, q4]) hc hn
    · simp (decide := true) only [st, c7, c7_0, c7_1, c7_2, c7_3, c7_4, c7_5, c7_6, c7_7, c7_8, c7_9, c7_10, c7_11, c7_12, c7_13, c7_14, k4, q0, BS_len, hc]
      exact left_tail ok h1 (by simp (decide := true) only [st]) (by simp (decide := true) only [st]; simp [mayS, k4, q0]) hc hn
  simp (decide := true) only [st, c7, c7_0, c7_1, c7_2, c7_3, c7_4, c7_5, c7_6, c7_7, c7_8, c7_9, c7_10, c7_11, c7_12, c7_13, c7_14, k1, k2, k3, k4, BS_len, hc]
  exact left_tail ok h1 (by simp (decide := true) only [st]) (by simp (decide := true) only [st]; simp [mayS, k1, k2, k3, k4]) hc hn

end Go.Proofs.YtjkllffbjeajhaaGreat.Am

namespace Go.Proofs.YtjkllffbjeajhaaGreat.Am
open Go Go.Proofs.YtjkllffbjeajhaaGreat
theorem begun30 : ∀ h, ACalls Tryz.prog 13 [] h (.bool true) h := begun_of tb1_ok (f := 13) (n := 1000) (by kernel_rfl)
end Go.Proofs.YtjkllffbjeajhaaGreat.Am
