/- Laws of layer 13, at the abstract machine. Conditions: none. -/
import Derived.Test.YtchomcffeiheeaaPh
set_option maxRecDepth 100000
set_option linter.unusedSimpArgs false
set_option linter.unusedVariables false
set_option linter.unnecessarySimpa false
namespace Go.Proofs.Ytchomcffeiheeaa.Am
open Go
variable {P : Program}

theorem begun13_run : callOf tb (runK tb 400) 26 [] ⟨.leaf, 0⟩ beganK = some () := by decide +kernel

theorem begun13 (ok : TblOK P tb) (h : AHeap) : ACalls P 26 [] h (.bool true) h := begun_of ok begun13_run h

/-- So many programs of one size. -/
def full (s i : Nat) : Mem := (List.range i).map fun (j : Nat) => ((j : Int), List.replicate s 0)

theorem full_used (s : Nat) : ∀ i, aused (full s i) = i * aneed s
  | 0 => by simp [aused, full]
  | i + 1 => by
    have := full_used s i
    simp only [aused, full, List.range_succ, List.map_append, List.sum_append, List.map_cons, List.map_nil, List.length_replicate, List.sum_cons, List.sum_nil] at this ⊢
    rw [this, Nat.succ_mul]; rfl

theorem full_get {s i : Nat} {id : Int} (h : (i : Int) ≤ id) : aget (full s i) id = none := by
  simp only [aget, Option.map_eq_none_iff, List.find?_eq_none, full]
  intro e he
  obtain ⟨j, hj, rfl⟩ := List.mem_map.1 he
  simp at hj ⊢
  omega

theorem full_map {N s i : Nat} (hs : s ≤ 64) (hN : (i + 1) * aneed s ≤ N) : absMap N (full s i) i s = (0, full s (i + 1)) := by
  unfold absMap
  rw [Nat.succ_mul] at hN
  rw [if_neg (by omega), full_get (by omega), full_used, if_neg (by simp), Int.toNat_natCast, if_neg (by omega)]
  simp [full, List.range_succ]

theorem full_map_no {N s i : Nat} {id : Int} (hs : s ≤ 64) (hid : (i : Int) ≤ id) (hN : N - i * aneed s < aneed s) : absMap N (full s i) id s = (9, full s i) := by
  unfold absMap
  rw [if_neg (by omega), full_get hid, full_used, if_neg (by simp), Int.toNat_natCast, if_pos hN]

theorem full_map_big {N s i : Nat} {id : Int} (hs : 64 < s) : absMap N (full s i) id s = (1, full s i) := by
  unfold absMap
  rw [if_pos (by omega)]

theorem full_unmap {s i : Nat} : absUnmap (full s (i + 1)) 0 = (0, (full s (i + 1)).tail) := by
  have e : full s (i + 1) = ((0 : Int), List.replicate s 0) :: (full s (i + 1)).tail := by
    simp [full, List.range_succ_eq_map]
  unfold absUnmap
  rw [e]
  simp [aget, adel]

theorem full_tail_used {s i : Nat} : aused (full s (i + 1)).tail = i * aneed s := by
  have := full_used s (i + 1)
  have e : full s (i + 1) = ((0 : Int), List.replicate s 0) :: (full s (i + 1)).tail := by
    simp [full, List.range_succ_eq_map]
  rw [e] at this
  simp only [aused, List.map_cons, List.sum_cons, List.length_replicate, List.tail_cons, Nat.succ_mul] at this ⊢
  omega

theorem full_tail_get {s i : Nat} {id : Int} (h : (i : Int) ≤ id) : aget (full s i).tail id = none := by
  have h1 := full_get (s := s) h
  simp only [aget, Option.map_eq_none_iff, List.find?_eq_none] at h1 ⊢
  exact fun e he => h1 e (List.mem_of_mem_tail he)

theorem aused_app {A : Mem} {e : Int × List Int} : aused (A ++ [e]) = aused A + aneed e.2.length := by simp [aused]

theorem pagesFull_wp (ok : TblOK P tb) {f s : Nat} : WP P c13.code (lawK c13.results) (args0 [.int .u8 f, .int .u8 s]) AHeap.empty := by
  simp (decide := true) only [st, c13, c13_0, c13_1, c13_2, c13_3, c13_4, c13_5, c13_6, c13_7, c13_8, c13_9, c13_10, c13_11, c13_12, c13_13, c13_14, c13_15, c13_16, c13_17, c13_18]
  refine execC_by (begun13 ok _) ?_
  have hx : f % 30 < 30 := Nat.mod_lt _ (by omega)
  have hy : s % 65 < 65 := Nat.mod_lt _ (by omega)
  generalize hxe : f % 30 = x at hx
  generalize hye : s % 65 = y at hy
  have e1 : (f : Int).tmod 30 = (x : Nat) := by rw [← hxe]; exact tmodN (k := 30)
  have e2 : (s : Int).tmod 65 = (y : Nat) := by rw [← hye]; exact tmodN (k := 65)
  have w1 : IntKind.wrap .i64 ((y : Int) + 16) = ((y + 16 : Nat) : Int) := by rw [wrapS] <;> omega
  have w2 : IntKind.wrap .i64 (((y + 16 : Nat) : Int) - 1) = ((y + 15 : Nat) : Int) := by rw [wrapS] <;> omega
  have w3 : ((y + 15 : Nat) : Int).tdiv 16 = ((aneed y : Nat) : Int) := by rw [Int.tdiv_eq_ediv_of_nonneg (by omega)]; rfl
  have hnd : aneed y ≤ 4 := by unfold aneed; omega
  have w4 := wrapN (n := aneed y) (by omega)
  obtain ⟨bs, bm, bl, bp, h0, hnew, S0, -⟩ := A_new ok AHeap.empty x
  have hN : frNew x = x := by unfold frNew; omega
  rw [hN] at S0
  simp (decide := true) only [st, e1, e2, wrapN (show x < 2 ^ 62 by omega), wrapN (show y < 2 ^ 62 by omega), w1, w2, w3, w4]
  refine execC_by hnew ?_
  simp (decide := true) only [st]
  refine WPc_by (fun hz => ?_) (fun hz => ?_)
  · have hy0 : y = 0 := by unfold aneed at hz; omega
    have hm := A_map ok S0 1 y
    subst hy0
    have : absMap x [] 1 (0 : Nat) = (0, [(1, [])]) := by unfold absMap; simp [aget, aused, aneed]
    rw [this] at hm
    obtain ⟨h1, hm, S1, -⟩ := hm
    simp (decide := true) only [st]
    refine execC_by hm ?_
    simp (decide := true) only [st]
    have hf := A_free ok S1
    simp [aused, aneed] at hf
    refine execC_by hf ?_
    simp (decide := true) only [st, lawK_ret]
  · have hnp : 0 < aneed y := by omega
    have hq : (x : Int).tdiv ((aneed y : Nat) : Int) = ((x / aneed y : Nat) : Int) := by rw [Int.tdiv_eq_ediv_of_nonneg (by omega)]; rfl
    have hqle : x / aneed y * aneed y ≤ x := Nat.div_mul_le_self _ _
    have hqlt : x < (x / aneed y + 1) * aneed y := by rw [Nat.mul_comm]; exact Nat.lt_mul_div_succ _ hnp
    have hq30 : x / aneed y ≤ x := Nat.div_le_self _ _
    generalize hqe : x / aneed y = q at hq hqle hqlt hq30
    generalize hae : aneed y = a at *
    simp (decide := true) only [st, hq, hz, wrapN (show q < 2 ^ 62 by omega)]
    let I : Nat → Env → AHeap → Prop := fun n ρ h' => ∃ i : Nat, i + n = q ∧ ρ 5 = .int .i64 x ∧ ρ 6 = .int .i64 y ∧ ρ 7 = .int .i64 a ∧ ρ 8 = .ptr bs 0 ∧ ρ 9 = .int .i64 q ∧ ρ 10 = .int .i64 i ∧ SpA h' bs bm bl bp x (full y i)
    refine wp_loop_n I ?_ q ⟨0, by omega, by simp (decide := true) only [st], by simp (decide := true) only [st], by simp (decide := true) only [st], by simp (decide := true) only [st], by simp (decide := true) only [st], by simp (decide := true) only [st], S0⟩
    rintro n ρ h1 ⟨i, hin, r5, r6, r7, r8, r9, r10, S⟩
    by_cases hi : (i : Int) < q
    · have hi' : i < q := by omega
      have hle : (i + 1) * a ≤ q * a := Nat.mul_le_mul_right _ hi'
      obtain ⟨h2, hm, S2, -⟩ := A_map ok S i y
      rw [full_map (by omega) (by rw [hae]; omega)] at hm S2
      simp (decide := true) only [st, r6, r8, r9, r10, hi, wrapU (show i < 2 ^ 64 by omega)]
      refine execC_by hm ?_
      simp (decide := true) only [st, r10, wrapN1 (show i < 2 ^ 61 by omega)]
      exact ⟨n - 1, by omega, i + 1, by omega, by simp (decide := true) only [st, r5], by simp (decide := true) only [st, r6], by simp (decide := true) only [st, r7], by simp (decide := true) only [st, r8], by simp (decide := true) only [st, r9], by simp (decide := true) only [st], S2⟩
    · have hiq : i = q := by omega
      subst hiq
      rw [Nat.succ_mul] at hqlt
      have hia : (i : Int) * (a : Int) = ((i * a : Nat) : Int) := by simp
      have w5 : IntKind.wrap .i64 ((i : Int) * (a : Int)) = ((i * a : Nat) : Int) := by rw [hia]; exact wrapN (by omega)
      have w6 : IntKind.wrap .i64 ((x : Int) - ((i * a : Nat) : Int)) = ((x - i * a : Nat) : Int) := by rw [wrapS] <;> omega
      obtain ⟨h2, hm, S2, -⟩ := A_map ok S 100 y
      rw [full_map_no (by omega) (by omega) (by rw [hae]; omega)] at hm S2
      have hf := A_free ok S2
      rw [full_used, hae] at hf
      simp (decide := true) only [st, r6, r8, r9, r10, hi]
      refine execC_by hm ?_
      simp (decide := true) only [st, r8]
      refine execC_by hf ?_
      simp (decide := true) only [st, r5, r9, r7, w5, w6]
      refine WPc_by (fun hz => ?_) (fun hz => ?_)
      · simp (decide := true) only [st, lawK_ret]
      · obtain ⟨j, rfl⟩ : ∃ j, i = j + 1 := ⟨i - 1, by omega⟩
        obtain ⟨h3, hu, S3, -⟩ := A_unmap ok S2 0
        rw [full_unmap] at hu S3
        have ht : aused (full y (j + 1)).tail = j * a := by rw [full_tail_used, hae]
        have hnx : absMap x (full y (j + 1)).tail 100 y = (0, (full y (j + 1)).tail ++ [(100, List.replicate y 0)]) := by
          rw [Nat.succ_mul] at hqle hqlt
          unfold absMap
          rw [if_neg (by omega), full_tail_get (by omega), ht, if_neg (by simp), Int.toNat_natCast, if_neg (by rw [hae]; omega)]
        obtain ⟨h4, hm4, S4, -⟩ := A_map ok S3 100 y
        rw [hnx] at hm4 S4
        have hf4 := A_free ok S4
        rw [aused_app, ht, List.length_replicate, hae, ← Nat.succ_mul] at hf4
        simp (decide := true) only [st, r8]
        refine execC_by hu ?_
        simp (decide := true) only [st, r8, r6]
        refine execC_by hm4 ?_
        simp (decide := true) only [st, r8]
        refine execC_by hf4 ?_
        simp (decide := true) only [st, r5, r9, r7, w5, w6, lawK_ret]
end Go.Proofs.Ytchomcffeiheeaa.Am

namespace Go.Proofs.Ytchomcffeiheeaa.Am
open Go
variable {P : Program}

theorem brow_drop {l : List Int} {k : Nat} : (brow l).drop k = brow (l.drop k) := by simp [brow]
theorem brow_take {l : List Int} {k : Nat} : (brow l).take k = brow (l.take k) := by simp [brow]
theorem brow_len {l : List Int} : (brow l).length = l.length := by simp [brow]
theorem brow_head {l : List Int} : headOk 1 (brow l) = true := by cases l <;> rfl
def bstr (l : List Int) : List UInt8 := l.map fun i => UInt8.ofNat i.toNat

theorem brow_bytes : ∀ {l : List Int}, bytesRows (brow l) = some (bstr l)
  | [] => rfl
  | a :: l => by
    have := brow_bytes (l := l)
    simp only [brow, List.map_cons, bytesRows] at this ⊢
    rw [this]; rfl

theorem abin_same {tb : Bool} {s : ByteArray} : abin tb .eql (.str s) (.str s) = some (.bool true) := by simp [abin]

theorem WP_regD0n {P : Program} {ros : List RO} {un : List (List Nat)} {K : AExit → Env → AHeap → Prop} {ρ : Env} {h : AHeap} (n : Nat) (hn : ros.length = n) (hu : un.all (·.isEmpty) = true) (he : execD0 P n h.next ros 0 ρ (h.clean n) (K .normal)) : WP P (.regD ros un) K ρ h := by
  subst hn
  exact WP_regD0 hu he
theorem WP_gen {P : Program} {c : RCode} {K : AExit → Env → AHeap → Prop} {ρ : Env} {h : AHeap} (Q : Env → Prop) (hq : Q ρ) (hk : ∀ ρ, Q ρ → WP P c K ρ h) : WP P c K ρ h := hk ρ hq

/-- Two programs. -/
def two (d e : List Int) : Mem := [(1, d), (2, e)]

theorem two_in1 {d e : List Int} {off n : Int} (h0 : 0 ≤ off) (h1 : 0 ≤ n) (h : off + n ≤ d.length) : absIn (two d e) 1 off n = (some d, 0) := by
  simp [absIn, two, aget]; omega
theorem two_in2 {d e : List Int} {off n : Int} (h0 : 0 ≤ off) (h1 : 0 ≤ n) (h : off + n ≤ e.length) : absIn (two d e) 2 off n = (some e, 0) := by
  simp [absIn, two, aget]; omega
theorem two_no1 {d e : List Int} {off n : Int} (h : (d.length : Int) < off + n) : absIn (two d e) 1 off n = (none, 11) := by
  simp [absIn, two, aget]; omega
theorem two_wr1 {d e vs : List Int} {off : Nat} : absWr (two d e) 1 off vs = two (d.take off ++ vs ++ d.drop (off + vs.length)) e := by
  simp [absWr, two]
theorem two_wr2 {d e vs : List Int} {off : Nat} : absWr (two d e) 2 off vs = two d (e.take off ++ vs ++ e.drop (off + vs.length)) := by
  simp [absWr, two]

theorem pagesParts_wp (ok : TblOK P tb) {l : List Int} {t : Tail} {cut fr n : Nat} (hc : cut < 256) (hf : fr < 256) (hn : n < 256) : WP P c10.code (lawK c10.results) (args0 [.vs (brow l) t, .int .u8 cut, .int .u8 fr, .int .u8 n]) AHeap.empty := by
  simp (decide := true) only [st, c10, c10_0, c10_1, c10_2, c10_3, c10_4, c10_5, c10_6, c10_7, c10_8, c10_9, c10_10, c10_11, c10_12, c10_13, c10_14, c10_15]
  refine execC_by (begun13 ok _) ?_
  simp (decide := true) only [st, brow_len]
  by_cases hz : (l.length : Int) = 0
  · simp (decide := true) only [st, hz, brow_len, lawK_ret]
  by_cases hb : 64 < (l.length : Int)
  · simp (decide := true) only [st, hz, hb, brow_len, lawK_ret]
  obtain ⟨bs, bm, bl, bp, h0, hnew, S0, -⟩ := A_new ok AHeap.empty 20
  generalize hL : l.length = L at *
  have hNn : frNew 20 = 20 := by decide
  rw [hNn] at S0
  have hnd : aneed L ≤ 4 := by unfold aneed; omega
  obtain ⟨h1, hm1, S1, -⟩ := A_map ok S0 1 L
  have e1 : absMap 20 [] 1 L = (0, [(1, List.replicate L 0)]) := by
    unfold absMap
    rw [if_neg (by omega), if_neg (by simp [aget]), Int.toNat_natCast, if_neg (by simp [aused]; omega)]; rfl
  rw [e1] at hm1 S1
  obtain ⟨h2, hm2, S2, -⟩ := A_map ok S1 2 L
  have e2 : absMap 20 [(1, List.replicate L 0)] 2 L = (0, two (List.replicate L 0) (List.replicate L 0)) := by
    unfold absMap
    rw [if_neg (by omega), if_neg (by simp [aget]), Int.toNat_natCast, if_neg (by simp [aused]; omega)]; rfl
  rw [e2] at hm2 S2
  have hk : cut % (L + 1) < L + 1 := Nat.mod_lt _ (by omega)
  have ha : fr % (L + 1) < L + 1 := Nat.mod_lt _ (by omega)
  generalize hke : cut % (L + 1) = k at hk
  generalize hae : fr % (L + 1) = a at ha
  have m1 : (cut : Int).tmod ((L + 1 : Nat) : Int) = (k : Nat) := by rw [← hke]; exact tmodN
  have m2 : (fr : Int).tmod ((L + 1 : Nat) : Int) = (a : Nat) := by rw [← hae]; exact tmodN
  have hL1 : ¬ ((L + 1 : Nat) : Int) = 0 := by omega
  simp (decide := true) only [st, hz, hb, brow_len, hL]
  refine execC_by hnew ?_
  simp (decide := true) only [st, brow_len, hL]
  refine execC_by hm1 ?_
  simp (decide := true) only [st, brow_len, hL]
  refine execC_by hm2 ?_
  simp (decide := true) only [st, brow_len, hL, wrapN (show cut < 2 ^ 62 by omega), wrapN1 (show L < 2 ^ 61 by omega), m1, hL1]
  refine WP_gen (fun ρ => ρ 0 = .vs (brow l) t ∧ ρ 2 = .int .u8 fr ∧ ρ 3 = .int .u8 n ∧ ρ 9 = .ptr bs 0 ∧ ρ 10 = .int .i64 k) ⟨by simp (decide := true) only [st], by simp (decide := true) only [st], by simp (decide := true) only [st], by simp (decide := true) only [st], by simp (decide := true) only [st]⟩ ?_
  rintro ρ ⟨q0, q2, q3, q9, q10⟩
  refine WP_regD0n 17 rfl rfl ?_
  have SC := S2.clean 17
  have hbl : bl < h2.next := S2.lt.2.2.1
  have hcn : (h2.clean 17).next = h2.next + 17 := rfl
  have F0 : ∀ i, freeD 17 h2.next i (h2.clean 17) := fun i => freeD_clean.2 trivial
  obtain ⟨h3, c1, S3, n3, k3⟩ := A_write ok SC (id := 1) (off := 0) (vs := l) (tl := t) (two_in1 (by omega) (by omega) (by simp; omega))
  have d3 : (List.replicate L (0 : Int)).drop L = [] := List.drop_eq_nil_of_le (by simp)
  have d4 : (List.replicate L (0 : Int)).drop (k + (L - k)) = [] := List.drop_eq_nil_of_le (by simp; omega)
  rw [two_wr1, List.take_zero, List.nil_append, Nat.zero_add, hL, d3, List.append_nil] at S3
  have F1 : ∀ i, freeD 17 h2.next i h3 := fun i => freeD_of (F0 i) k3 (by omega) hbl
  have hkd : (l.drop k).length = L - k := by simp [hL]
  have hkt : (l.take k).length = k := by simp [hL]; omega
  obtain ⟨h4, c2, S4, n4, k4⟩ := A_write ok S3 (id := 2) (off := k) (vs := l.drop k) (tl := sliceTail t L k L) (two_in2 (by omega) (by omega) (by simp [hL]; omega))
  rw [two_wr2, hkd, d4, List.append_nil, List.take_replicate, Nat.min_eq_left (by omega)] at S4
  have F2 : ∀ i, freeD 17 h2.next i h4 := fun i => freeD_of (F1 i) k4 (by omega) hbl
  obtain ⟨h5, c3, S5, n5, k5⟩ := A_write ok S4 (id := 2) (off := 0) (vs := l.take k) (tl := sliceTail t L 0 k) (two_in2 (by omega) (by omega) (by simp [hL]; omega))
  rw [two_wr2, List.take_zero, List.nil_append, Nat.zero_add, hkt, List.drop_left' (by simp), List.take_append_drop] at S5
  have F3 : ∀ i, freeD 17 h2.next i h5 := fun i => freeD_of (F2 i) k5 (by omega) hbl
  have hLk : List.take (L - k) (l.drop k) = l.drop k := List.take_of_length_le (by omega)
  have hkL : k ≤ L := by omega
  simp (decide := true) only [st, q0, q9, brow_len, hL]
  refine eDC_by c1 (F1 _) ?_
  simp (decide := true) only [st, q0, q9, q10, brow_len, brow_drop, brow_take, brow_head, hL, hkL, hLk]
  refine eDC_by c2 (F2 _) ?_
  simp (decide := true) only [st, q0, q9, q10, brow_len, brow_drop, brow_take, brow_head, hL, hkL, Nat.zero_le, Nat.sub_zero]
  refine eDC_by c3 (F3 _) ?_
  simp (decide := true) only [st, q0, q2, q3, brow_len, hL, wrapN (show fr < 2 ^ 62 by omega), wrapN1 (show L < 2 ^ 61 by omega), m2, hL1, wrapN (show n < 2 ^ 62 by omega)]
  have w1 : IntKind.wrap .i64 ((L : Int) - (a : Int)) = ((L - a : Nat) : Int) := by rw [wrapS] <;> omega
  simp (decide := true) only [st, w1]
  obtain ⟨c, hcd⟩ : ∃ c, c = min n (L - a) := ⟨_, rfl⟩
  have hmin : min (n : Int) ((L - a : Nat) : Int) = (c : Int) := by omega
  have r1 := A_read ok S5 (id := 1) (off := a) (n := c) (two_in1 (by omega) (by omega) (by rw [hL]; omega))
  have r2 := A_read ok S5 (id := 2) (off := a) (n := c) (two_in2 (by omega) (by omega) (by rw [hL]; omega))
  have r3 := A_read_none ok S5 (id := 1) (off := a) (n := ((L - a + 1 : Nat) : Int)) (e := 11) (two_no1 (by rw [hL]; omega)) (by decide)
  simp (decide := true) only [st, hmin, q9]
  refine execC_by r1 ?_
  simp (decide := true) only [st, hmin, q9]
  refine execC_by r2 ?_
  simp (decide := true) only [st, q0, q9, brow_len, hL, w1, wrapN1 (show L - a < 2 ^ 61 by omega)]
  refine execC_by r3 ?_
  simp (decide := true) only [st]
  have SD := S5.clean 57
  have hbl5 : bl < h5.next := S5.lt.2.2.1
  have hcn5 : (h5.clean 57).next = h5.next + 57 := rfl
  have G0 : ∀ i, freeD 57 h5.next i (h5.clean 57) := fun i => freeD_clean.2 trivial
  have c4 := A_write_none ok SD (id := 1) (off := L) (xs := (List.replicate 1 [.int .u8 0]).set 0 [.int .u8 1]) (tl := .full) (e := 11) (two_no1 (by simp; omega)) (by decide)
  obtain ⟨h6, c5, S6, n6, k6⟩ := A_write ok SD (id := 1) (off := L) (vs := []) (tl := .full) (two_in1 (by omega) (by omega) (by simp; omega))
  have G1 : ∀ i, freeD 57 h5.next i h6 := fun i => freeD_of (G0 i) k6 (by omega) hbl5
  have w5 : IntKind.wrap .i64 ((a : Int) + (c : Int)) = ((a + c : Nat) : Int) := by rw [wrapS] <;> omega
  refine WP_gen (fun ρ => ρ 0 = .vs (brow l) t ∧ ρ 9 = .ptr bs 0 ∧ ρ 11 = .int .i64 0 ∧ ρ 12 = .int .i64 0 ∧ ρ 13 = .int .i64 0 ∧ ρ 14 = .int .i64 a ∧ ρ 15 = .int .i64 c ∧ ρ 16 = .vs (brow ((l.drop a).take c)) .unk ∧ ρ 17 = .int .i64 0 ∧ ρ 18 = .vs (brow ((l.drop a).take c)) .unk ∧ ρ 19 = .int .i64 0 ∧ ρ 21 = .int .i64 11)
    ⟨by simp (decide := true) only [st, q0], by simp (decide := true) only [st, q9], by simp (decide := true) only [st], by simp (decide := true) only [st], by simp (decide := true) only [st], by simp (decide := true) only [st], by simp (decide := true) only [st], by simp (decide := true) only [st], by simp (decide := true) only [st], by simp (decide := true) only [st], by simp (decide := true) only [st], by simp (decide := true) only [st]⟩ ?_
  clear q0 q2 q3 q9 q10
  rintro ρ ⟨q0, q9, q11, q12, q13, q14, q15, q16, q17, q18, q19, q21⟩
  refine WP_regD0n 57 rfl rfl ?_
  simp (decide := true) only [st, q0, q9, q11, q12, q13, q14, q15, q16, q17, q18, q19, q21, brow_len, brow_drop, brow_take, brow_head, brow_bytes, hL, w5, Nat.le_add_right, show a + c ≤ L by omega, Nat.add_sub_cancel_left, abin_same]
  refine eDC_by c4 (G0 _) ?_
  simp (decide := true) only [st, q0, q9, brow_len, hL]
  refine eDC_by c5 (G1 _) ?_
  simp (decide := true) only [st, lawK_ret]
end Go.Proofs.Ytchomcffeiheeaa.Am

namespace Go.Proofs.Ytchomcffeiheeaa.Am
open Go
variable {P : Program}

/-- Programs by number. -/
def mems (f : Nat → List Int) (n : Nat) : Mem := (List.range n).map fun (j : Nat) => ((j : Int), f j)

theorem mems_succ {f : Nat → List Int} {n : Nat} : mems f n ++ [((n : Int), f n)] = mems f (n + 1) := by simp [mems, List.range_succ]

theorem mems_none {f : Nat → List Int} {n : Nat} {id : Int} (h : (n : Int) ≤ id) : aget (mems f n) id = none := by
  simp only [aget, Option.map_eq_none_iff, List.find?_eq_none, mems]
  intro e he
  obtain ⟨j, hj, rfl⟩ := List.mem_map.1 he
  simp at hj ⊢
  omega

theorem aget_app {A : Mem} {id : Int} {e : Int × List Int} : aget (A ++ [e]) id = match aget A id with
  | some d => some d
  | none => if id == e.1 then some e.2 else none := by
  simp only [aget, List.find?_append, List.find?_cons, List.find?_nil]
  cases A.find? fun e => id == e.1 with
  | some d => rfl
  | none => by_cases h : id == e.1 <;> simp [h]

theorem mems_get {f : Nat → List Int} {k : Nat} : ∀ {n : Nat}, k < n → aget (mems f n) k = some (f k)
  | 0, h => by omega
  | n + 1, h => by
    rw [← mems_succ, aget_app]
    by_cases hk : k < n
    · rw [mems_get hk]
    · have : k = n := by omega
      subst this
      rw [mems_none (by omega)]; simp

theorem mems_wr {f : Nat → List Int} {n k off : Nat} {vs : List Int} : absWr (mems f n) k off vs = mems (fun j => if j = k then (f j).take off ++ vs ++ (f j).drop (off + vs.length) else f j) n := by
  simp only [absWr, mems, List.map_map]
  refine List.map_congr_left (fun j hj => ?_)
  simp only [Function.comp]
  by_cases h : j = k
  · subst h; simp
  · simp only [h, if_false]
    rw [if_neg (by simp; omega)]

theorem mems_used {f : Nat → List Int} {c : Nat} (hf : ∀ j, aneed (f j).length ≤ c) : ∀ n, aused (mems f n) ≤ n * c
  | 0 => by simp [aused, mems]
  | n + 1 => by
    have := mems_used hf n
    have h2 := hf n
    rw [← mems_succ, aused_app, Nat.succ_mul]
    simp only
    omega

theorem adel_used {id : Int} : ∀ {A : Mem}, aused (adel A id) ≤ aused A
  | [] => Nat.le_refl _
  | e :: A => by
    have := adel_used (id := id) (A := A)
    simp only [adel, aused, List.eraseP_cons] at this ⊢
    cases id == e.1 <;> simp <;> omega

theorem adel_none {A : Mem} {id id' : Int} (h : aget A id' = none) : aget (adel A id) id' = none := by
  simp only [aget, Option.map_eq_none_iff, List.find?_eq_none] at h ⊢
  exact fun e he => h e (List.mem_of_mem_eraseP he)

theorem brow_get {l : List Int} {j : Nat} (h : j < l.length) : (brow l)[j]? = some [.int .u8 l[j]] := by simp [brow, h]

/-- The size that is asked for. -/
def szf (ns : List Int) (j : Nat) : Nat := (ns[j]?.getD 0).toNat % 65
def zf (ns : List Int) (j : Nat) : List Int := List.replicate (szf ns j) 0
/-- What lies there after the writing. -/
def gf (ns bb : List Int) (k c : Nat) (j : Nat) : List Int := if j = k then bb.take c ++ (zf ns j).drop c else zf ns j

theorem szf_lt {ns : List Int} {j : Nat} : szf ns j < 65 := Nat.mod_lt _ (by omega)
theorem szf_need {ns : List Int} {j : Nat} : aneed (zf ns j).length ≤ 4 := by
  have := szf_lt (ns := ns) (j := j)
  simp only [zf, List.length_replicate, aneed]; omega
theorem szf_tmod {ns : List Int} {j : Nat} (hj : j < ns.length) (h0 : 0 ≤ ns[j]) : ns[j].tmod 65 = ((szf ns j : Nat) : Int) := by
  rw [Int.tmod_eq_emod_of_nonneg h0]
  simp [szf, hj]; omega

theorem pagesApart_wp (ok : TblOK P tb) {ns bb : List Int} {t t2 : Tail} {w : Nat} (hns : ∀ n ∈ ns, 0 ≤ n ∧ n < 256) (hw : w < 256) : WP P c12.code (lawK c12.results) (args0 [.vs (brow ns) t, .int .u8 w, .vs (brow bb) t2]) AHeap.empty := by
  simp (decide := true) only [st, c12, c12_0, c12_1, c12_2, c12_3, c12_4, c12_5, c12_6, c12_7, c12_8, c12_9, c12_10, c12_11, c12_12, c12_13, c12_14, c12_15, c12_16, c12_17, c12_18, c12_19, c12_20, c12_21, c12_22, c12_23, c12_24, c12_25, c12_26, c12_27, c12_28, c12_29, c12_30, c12_31, c12_32, c12_33, c12_34]
  refine execC_by (begun13 ok _) ?_
  simp (decide := true) only [st, brow_len]
  by_cases hz : (ns.length : Int) = 0
  · simp (decide := true) only [st, hz, brow_len, lawK_ret]
  by_cases hb : 8 < (ns.length : Int)
  · simp (decide := true) only [st, hz, hb, brow_len, lawK_ret]
  by_cases hb2 : 64 < (bb.length : Int)
  · simp (decide := true) only [st, hz, hb, hb2, brow_len, lawK_ret]
  obtain ⟨bs, bm, bl, bp, h0, hnew, S0, -⟩ := A_new ok AHeap.empty 64
  have hNn : frNew 64 = 64 := by decide
  rw [hNn] at S0
  simp (decide := true) only [st, hz, hb, hb2, brow_len]
  refine execC_by hnew ?_
  simp (decide := true) only [st, brow_len]
  let I : Nat → Env → AHeap → Prop := fun n ρ h' => ∃ i : Nat, i + n = ns.length ∧ ρ 0 = .vs (brow ns) t ∧ ρ 1 = .int .u8 w ∧ ρ 2 = .vs (brow bb) t2 ∧ ρ 7 = .ptr bs 0 ∧ ρ 8 = .int .i64 i ∧ SpA h' bs bm bl bp 64 (mems (zf ns) i)
  refine wp_loop_n I ?_ ns.length ⟨0, by omega, by simp (decide := true) only [st], by simp (decide := true) only [st], by simp (decide := true) only [st], by simp (decide := true) only [st], by simp (decide := true) only [st], S0⟩
  rintro n ρ h1 ⟨i, hin, r0, r1, r2, r7, r8, S⟩
  by_cases hi : (i : Int) < ns.length
  · have hi' : i < ns.length := by omega
    have h0i := (hns _ (List.getElem_mem hi')).1
    obtain ⟨h2, hm, S2, -⟩ := A_map ok S i (szf ns i)
    have hlt := szf_lt (ns := ns) (j := i)
    have hu := mems_used (f := zf ns) (c := 4) (fun j => szf_need) i
    have hnd : aneed (szf ns i) ≤ 4 := by have := szf_need (ns := ns) (j := i); rwa [zf, List.length_replicate] at this
    have e : absMap 64 (mems (zf ns) i) i (szf ns i) = (0, mems (zf ns) (i + 1)) := by
      unfold absMap
      rw [if_neg (by omega), mems_none (by omega), if_neg (by simp), Int.toNat_natCast, if_neg (by omega), ← mems_succ]; rfl
    rw [e] at hm S2
    simp (decide := true) only [st, r0, r7, r8, brow_len, hi, wrapU (show i < 2 ^ 64 by omega), brow_get hi', szf_tmod hi' h0i, wrapN (show szf ns i < 2 ^ 62 by omega)]
    refine execC_by hm ?_
    simp (decide := true) only [st, r8, wrapN1 (show i < 2 ^ 61 by omega)]
    exact ⟨n - 1, by omega, i + 1, by omega, by simp (decide := true) only [st, r0], by simp (decide := true) only [st, r1], by simp (decide := true) only [st, r2], by simp (decide := true) only [st, r7], by simp (decide := true) only [st], S2⟩
  · have hiq : i = ns.length := by omega
    subst hiq
    have hk : w % ns.length < ns.length := Nat.mod_lt _ (by omega)
    generalize hke : w % ns.length = k at hk
    have m1 : (w : Int).tmod (ns.length : Int) = (k : Nat) := by rw [← hke]; exact tmodN
    have hk0 := (hns _ (List.getElem_mem hk)).1
    have hslt := szf_lt (ns := ns) (j := k)
    obtain ⟨c, hcd⟩ : ∃ c, c = min bb.length (szf ns k) := ⟨_, rfl⟩
    have hmin : min (bb.length : Int) (szf ns k : Int) = (c : Int) := by omega
    have htl : (bb.take c).length = c := by simp; omega
    have hzl : ∀ j, (zf ns j).length = szf ns j := fun j => by simp [zf]
    have hin2 : absIn (mems (zf ns) ns.length) k (0 : Nat) (bb.take c).length = (some (zf ns k), 0) := by
      unfold absIn
      rw [mems_get hk]
      simp only [hzl]
      rw [if_neg (by rw [htl]; omega)]
    obtain ⟨h2, hwr, S2, -⟩ := A_write ok S (tl := sliceTail t2 bb.length 0 c) hin2
    rw [mems_wr] at S2
    have hgf : (fun j => if j = k then (zf ns j).take 0 ++ bb.take c ++ (zf ns j).drop (0 + (bb.take c).length) else zf ns j) = gf ns bb k c := by
      funext j
      simp only [gf, htl, List.take_zero, List.nil_append, Nat.zero_add]
    rw [hgf] at S2
    simp (decide := true) only [st, r0, r1, r2, r7, r8, brow_len, hi, wrapN (show w < 2 ^ 62 by omega), m1, hz]
    simp (decide := true) only [st, r0, r2, r7, brow_get hk, szf_tmod hk hk0, wrapN (show szf ns k < 2 ^ 62 by omega), hmin]
    simp (decide := true) only [st, r0, r2, r7, brow_len, brow_drop, brow_take, brow_head, List.drop_zero, Nat.zero_le, Nat.sub_zero, show c ≤ bb.length by omega, wrapU (show k < 2 ^ 64 by omega)]
    refine execC_by hwr ?_
    simp (decide := true) only [st]
    have hgl : ∀ j, (gf ns bb k c j).length = szf ns j := fun j => by
      unfold gf
      by_cases hj : j = k
      · subst hj; simp [hzl]; omega
      · simp [hj, hzl]
    let I2 : Nat → Env → AHeap → Prop := fun n ρ h' => ∃ i : Nat, i + n = ns.length ∧ ρ 0 = .vs (brow ns) t ∧ ρ 2 = .vs (brow bb) t2 ∧ ρ 7 = .ptr bs 0 ∧ ρ 9 = .int .i64 k ∧ ρ 10 = .int .i64 c ∧ ρ 11 = .int .i64 i ∧ SpA h' bs bm bl bp 64 (mems (gf ns bb k c) ns.length)
    refine wp_loop_n I2 ?_ ns.length ⟨0, by omega, by simp (decide := true) only [st, r0], by simp (decide := true) only [st, r2], by simp (decide := true) only [st, r7], by simp (decide := true) only [st], by simp (decide := true) only [st], by simp (decide := true) only [st], S2⟩
    clear r0 r1 r2 r7 r8 S S2 hwr
    rintro n ρ h3 ⟨i, hin, r0, r2, r7, r9, r10, r11, S⟩
    by_cases hi : (i : Int) < ns.length
    · have hi' : i < ns.length := by omega
      have h0i := (hns _ (List.getElem_mem hi')).1
      have hsl := szf_lt (ns := ns) (j := i)
      have hin3 : absIn (mems (gf ns bb k c) ns.length) i (0 : Nat) (szf ns i : Nat) = (some (gf ns bb k c i), 0) := by
        unfold absIn
        rw [mems_get hi']
        simp only [hgl]
        rw [if_neg (by omega)]
      have hrd := A_read ok S hin3
      rw [List.drop_zero, List.take_of_length_le (by rw [hgl]; exact Nat.le_refl _)] at hrd
      simp (decide := true) only [st, r0, r7, r11, brow_len, hi, wrapU (show i < 2 ^ 64 by omega), brow_get hi', szf_tmod hi' h0i, wrapN (show szf ns i < 2 ^ 62 by omega)]
      refine execC_by hrd ?_
      simp (decide := true) only [st, r0, r11, brow_len, hgl, brow_get hi', szf_tmod hi' h0i, wrapN (show szf ns i < 2 ^ 62 by omega)]
      let I3 : Nat → Env → AHeap → Prop := fun m ρ h' => ∃ j : Nat, j + m = szf ns i ∧ ρ 0 = .vs (brow ns) t ∧ ρ 2 = .vs (brow bb) t2 ∧ ρ 7 = .ptr bs 0 ∧ ρ 9 = .int .i64 k ∧ ρ 10 = .int .i64 c ∧ ρ 11 = .int .i64 i ∧ ρ 12 = .vs (brow (gf ns bb k c i)) .unk ∧ ρ 14 = .int .i64 j ∧ SpA h' bs bm bl bp 64 (mems (gf ns bb k c) ns.length)
      refine wp_loop_n I3 ?_ (szf ns i) ⟨0, by omega, by simp (decide := true) only [st, r0], by simp (decide := true) only [st, r2], by simp (decide := true) only [st, r7], by simp (decide := true) only [st, r9], by simp (decide := true) only [st, r10], by simp (decide := true) only [st, r11], by simp (decide := true) only [st], by simp (decide := true) only [st], S⟩
      clear r0 r2 r7 r9 r10 r11 S hrd
      rintro m ρ h4 ⟨j, hjm, r0, r2, r7, r9, r10, r11, r12, r14, S⟩
      by_cases hj : (j : Int) < szf ns i
      · have hj' : j < (gf ns bb k c i).length := by rw [hgl]; omega
        simp (decide := true) only [st, r12, r14, brow_len, hgl, hj]
        refine WP_regD0n 43 rfl rfl ?_
        have fin : ∀ {ρ' : Env}, ρ' 0 = ρ 0 → ρ' 2 = ρ 2 → ρ' 7 = ρ 7 → ρ' 9 = ρ 9 → ρ' 10 = ρ 10 → ρ' 11 = ρ 11 → ρ' 12 = ρ 12 → ρ' 14 = .int .i64 ((j + 1 : Nat) : Int) → ∃ m', m' < m ∧ I3 m' ρ' (h4.clean 43) := fun {ρ'} e0 e2 e7 e9 e10 e11 e12 e14 =>
          ⟨m - 1, by omega, j + 1, by omega, e0.trans r0, e2.trans r2, e7.trans r7, e9.trans r9, e10.trans r10, e11.trans r11, e12.trans r12, e14, S.clean 43⟩
        have hw1 := wrapN1 (show j < 2 ^ 61 by omega)
        by_cases hik : i = k
        · subst hik
          by_cases hjc : j < c
          · have hjb : j < bb.length := by omega
            have hv : (gf ns bb i c i)[j] = bb[j] := by
              simp only [gf, if_true]
              rw [List.getElem_append_left (by omega)]
              simp
            have hg := brow_get hj'
            rw [hv] at hg
            simp (decide := true) only [st, r2, r9, r10, r11, r12, r14, show (j : Int) < c by omega, show ¬ (c : Int) ≤ j by omega, hg, brow_get hjb, hw1]
            exact fin (by simp (decide := true) only [st]) (by simp (decide := true) only [st]) (by simp (decide := true) only [st]) (by simp (decide := true) only [st]) (by simp (decide := true) only [st]) (by simp (decide := true) only [st]) (by simp (decide := true) only [st]) (by simp (decide := true) only [st])
          · have hv : (gf ns bb i c i)[j] = 0 := by
              simp only [gf, if_true]
              rw [List.getElem_append_right (by omega)]
              simp [zf]
            have hg := brow_get hj'
            rw [hv] at hg
            simp (decide := true) only [st, r2, r9, r10, r11, r12, r14, show ¬ (j : Int) < c by omega, show (c : Int) ≤ j by omega, hg, hw1]
            exact fin (by simp (decide := true) only [st]) (by simp (decide := true) only [st]) (by simp (decide := true) only [st]) (by simp (decide := true) only [st]) (by simp (decide := true) only [st]) (by simp (decide := true) only [st]) (by simp (decide := true) only [st]) (by simp (decide := true) only [st])
        · have hv : (gf ns bb k c i)[j] = 0 := by simp [gf, hik, zf]
          have hg := brow_get hj'
          rw [hv] at hg
          simp (decide := true) only [st, r2, r9, r10, r11, r12, r14, show ¬ (i : Int) = k by omega, hg, hw1]
          exact fin (by simp (decide := true) only [st]) (by simp (decide := true) only [st]) (by simp (decide := true) only [st]) (by simp (decide := true) only [st]) (by simp (decide := true) only [st]) (by simp (decide := true) only [st]) (by simp (decide := true) only [st]) (by simp (decide := true) only [st])
      · simp (decide := true) only [st, r11, r12, r14, brow_len, hgl, hj, wrapN1 (show i < 2 ^ 61 by omega)]
        exact ⟨n - 1, by omega, i + 1, by omega, by simp (decide := true) only [st, r0], by simp (decide := true) only [st, r2], by simp (decide := true) only [st, r7], by simp (decide := true) only [st, r9], by simp (decide := true) only [st, r10], by simp (decide := true) only [st], S⟩
    · have hun : absUnmap (mems (gf ns bb k c) ns.length) k = (0, adel (mems (gf ns bb k c) ns.length) k) := by
        unfold absUnmap
        rw [mems_get hk]
      obtain ⟨h4, hu, S4, -⟩ := A_unmap ok S k
      rw [hun] at hu S4
      have hus := mems_used (f := gf ns bb k c) (c := 4) (fun j => by rw [hgl]; have := szf_need (ns := ns) (j := j); rwa [hzl] at this) ns.length
      have hdu := adel_used (id := k) (A := mems (gf ns bb k c) ns.length)
      have hdn := adel_none (id := k) (mems_none (f := gf ns bb k c) (show (ns.length : Int) ≤ 99 by omega))
      generalize adel (mems (gf ns bb k c) ns.length) k = D at *
      have hmp : absMap 64 D 99 64 = (0, D ++ [(99, List.replicate 64 0)]) := by
        unfold absMap
        rw [if_neg (by omega), hdn, if_neg (by simp), if_neg (by simp [aneed]; omega)]; rfl
      obtain ⟨h5, hm5, S5, -⟩ := A_map ok S4 99 64
      rw [hmp] at hm5 S5
      have hin5 : absIn (D ++ [(99, List.replicate 64 0)]) 99 (0 : Nat) (64 : Nat) = (some (List.replicate 64 0), 0) := by
        unfold absIn
        rw [aget_app, hdn]
        simp
      have hrd := A_read ok S5 hin5
      rw [List.drop_zero, List.take_of_length_le (by simp)] at hrd
      simp (decide := true) only [st, r7, r9, r11, r0, brow_len, hi, wrapU (show k < 2 ^ 64 by omega)]
      refine execC_by hu ?_
      simp (decide := true) only [st, r7]
      refine execC_by hm5 ?_
      simp (decide := true) only [st, r7]
      refine execC_by hrd ?_
      simp (decide := true) only [st]
      let I4 : Nat → Env → AHeap → Prop := fun n ρ h' => ∃ j : Nat, j + n = 64 ∧ ρ 15 = .vs (brow (List.replicate 64 0)) .unk ∧ ρ 16 = .int .i64 0 ∧ ρ 17 = .int .i64 j
      refine wp_loop_n I4 ?_ 64 ⟨0, by omega, by simp (decide := true) only [st], by simp (decide := true) only [st], by simp (decide := true) only [st]⟩
      clear r0 r2 r7 r9 r10 r11
      rintro n ρ h6 ⟨j, hjn, r15, r16, r17⟩
      by_cases hj : (j : Int) < 64
      · have hj' : j < (List.replicate 64 (0 : Int)).length := by simp; omega
        have hg := brow_get hj'
        rw [List.getElem_replicate] at hg
        simp (decide := true) only [st, r15, r17, brow_len, List.length_replicate, show j < 64 by omega, hg, wrapN1 (show j < 2 ^ 61 by omega)]
        exact ⟨n - 1, by omega, j + 1, by omega, by simp (decide := true) only [st, r15], by simp (decide := true) only [st, r16], by simp (decide := true) only [st]⟩
      · have : j = 64 := by omega
        simp (decide := true) only [st, r15, r16, r17, brow_len, List.length_replicate, show ¬ j < 64 by omega, lawK_ret]
end Go.Proofs.Ytchomcffeiheeaa.Am
