/- The laws of layer 12, at the abstract machine. Conditions: none. -/
import Derived.Test.YtchomcffeiheeaaFr
set_option maxRecDepth 100000
set_option linter.unusedSimpArgs false
set_option linter.unusedVariables false
set_option linter.unnecessarySimpa false
namespace Go.Proofs.Ytchomcffeiheeaa.Am
open Go
variable {P : Program}

theorem begun12_run : callOf tb (runK tb 400) 19 [] ⟨.leaf, 0⟩ beganK = some () := by decide +kernel

theorem begun12 (ok : TblOK P tb) (h : AHeap) : ACalls P 19 [] h (.bool true) h := begun_of ok begun12_run h

/-- FrameApart's frames. -/
def apart (i : Nat) : List Fr := List.replicate i T0 ++ List.replicate (6 - i) F0

theorem frAt_T0 {n i : Nat} (hi : i < n) : frAt (List.replicate n T0) i = some i := by
  simp [frAt, List.getElem?_replicate, hi, T0]

theorem frLoad_set {n x i y j : Nat} {b : Int} (hx : x < n) (hi : i < n) (hy : y < 16) (hj : j < 16) :
    frLoad ((List.replicate n T0).set x ⟨(List.replicate 16 0).set y b, true⟩) i j = (if i = x ∧ j = y then b else 0, 0) := by
  have h1 : ((List.replicate n T0).set x ⟨(List.replicate 16 0).set y b, true⟩)[i]? = some (if i = x then ⟨(List.replicate 16 0).set y b, true⟩ else T0) := by
    rw [List.getElem?_set]
    by_cases h : x = i
    · subst h; simp [hi]
    · simp [h, hi, show ¬ i = x by omega]
  have h2 : frAt ((List.replicate n T0).set x ⟨(List.replicate 16 0).set y b, true⟩) i = some i := by
    simp only [frAt, Int.toNat_natCast, h1]
    rw [if_pos (by omega)]
    by_cases h : i = x <;> simp [h, T0]
  have h3 : frByte ((List.replicate n T0).set x ⟨(List.replicate 16 0).set y b, true⟩) i j = (some (i, j), 0) := by
    simp only [frByte, h2]
    rw [if_neg (by omega)]
    simp
  simp only [frLoad, h3, h1, Option.bind_some]
  by_cases h : i = x
  · simp only [h, true_and, if_true, List.getElem?_set]
    by_cases h' : y = j
    · subst h'; simp [hy]
    · have : ¬ j = y := by omega
      rw [if_neg h', if_neg this, List.getElem?_replicate, if_pos hj]; rfl
  · have : ¬ (i = x ∧ j = y) := fun e => h e.1
    rw [if_neg h, if_neg this]
    simp only [T0, List.getElem?_replicate, if_pos hj]; rfl

theorem frameApart_wp (ok : TblOK P tb) {f off : Nat} {b : Int} : WP P c6.code (lawK c6.results) (args0 [.int .u8 f, .int .u8 off, .int .u8 b]) AHeap.empty := by
  simp (decide := true) only [st, c6, c6_0, c6_1, c6_2, c6_3, c6_4, c6_5, c6_6, c6_7, c6_8, c6_9, c6_10, c6_11, c6_12, c6_13, c6_14, c6_15, c6_16, c6_17, c6_18, c6_19, c6_20, c6_21, c6_22, c6_23, c6_24]
  refine execC_by (begun12 ok _) ?_
  simp (decide := true) only [st]
  obtain ⟨bm, bl, h0, hnew, M0, -, -, hm0, hl0, -, -⟩ := new_mem ok AHeap.empty 6
  refine execC_by hnew ?_
  simp (decide := true) only [st]
  let I : Nat → Env → AHeap → Prop := fun n ρ h' => h'.next = h0.next ∧ ∃ i : Nat, i + n = 6 ∧ ρ 0 = .int .u8 f ∧ ρ 1 = .int .u8 off ∧ ρ 2 = .int .u8 b ∧ ρ 7 = .ptr bm 0 ∧ ρ 8 = .int .i64 i ∧ MemAt h' bm bl (apart i)
  refine wp_loop_n I ?_ 6 ⟨rfl, 0, by omega, rfl, rfl, rfl, rfl, rfl, M0⟩
  rintro n ρ h1 ⟨hnx, i, hin, r0, r1, r2, r7, r8, M⟩
  by_cases hi : (i : Int) < 6
  · have hi' : i < 6 := by omega
    have ht := take_calls ok M
    have htk := M.take
    simp only [apart, (take_new hi').1, (take_new hi').2] at ht htk
    simp (decide := true) only [st, r7, r8, hi]
    refine execC_by ht ?_
    simp (decide := true) only [st, r8, wrapN1 (show i < 2 ^ 61 by omega)]
    refine ⟨n - 1, by omega, hnx, i + 1, by omega, ?_, ?_, ?_, ?_, ?_, htk⟩
    · simp (decide := true) only [st, r0]
    · simp (decide := true) only [st, r1]
    · simp (decide := true) only [st, r2]
    · simp (decide := true) only [st, r7]
    · simp (decide := true) only [st]
  · have hi6 : i = 6 := by omega
    subst hi6
    have hx : f % 6 < 6 := Nat.mod_lt _ (by omega)
    have hy : off % 16 < 16 := Nat.mod_lt _ (by omega)
    generalize hxe : f % 6 = x at hx
    generalize hye : off % 16 = y at hy
    have e1 : (f : Int).tmod 6 = (x : Nat) := by rw [← hxe]; exact tmodN (k := 6)
    have e2 : (off : Int).tmod 16 = (y : Nat) := by rw [← hye]; exact tmodN (k := 16)
    have M6 : MemAt h1 bm bl (List.replicate 6 T0) := by simpa [apart] using M
    have hfb : frByte (List.replicate 6 T0) x y = (some (x, y), 0) := by
      simp only [frByte, frAt_T0 hx]
      rw [if_neg (by omega)]; simp
    have hst := store_calls ok M6 (by omega) x y b
    have Ms := M6.store x y b
    have hfs : frStore (List.replicate 6 T0) x y b = (List.replicate 6 T0).set x ⟨(List.replicate 16 0).set y b, true⟩ := by
      simp only [frStore, hfb, List.getElem?_replicate, if_pos hx]; rfl
    rw [hfs] at Ms hst
    simp only [hfb] at hst
    simp (decide := true) only [st, r0, r1, r2, r7, r8, hi, e1, e2, wrapN (show x < 2 ^ 62 by omega), wrapN (show y < 2 ^ 62 by omega)]
    refine execC_by hst ?_
    simp (decide := true) only [st, r2, r7]
    have hnS : (memH h1 bl ((List.replicate 6 T0).set x ⟨(List.replicate 16 0).set y b, true⟩)).next = h0.next := hnx
    generalize memH h1 bl ((List.replicate 6 T0).set x ⟨(List.replicate 16 0).set y b, true⟩) = hS at *
    have hld := fun (i j : Nat) (hi : i < 6) (hj : j < 16) => by
      have := load_calls ok Ms (by omega) i j
      rw [frLoad_set hx hi hy hj] at this
      exact this
    let I2 : Nat → Env → AHeap → Prop := fun n ρ h' => h' = hS ∧ ∃ i : Nat, i + n = 6 ∧ ρ 2 = .int .u8 b ∧ ρ 7 = .ptr bm 0 ∧ ρ 9 = .int .i64 x ∧ ρ 10 = .int .i64 y ∧ ρ 11 = .int .i64 i
    refine wp_loop_n I2 ?_ 6 ⟨rfl, 0, by omega, by simp (decide := true) only [st, r2], by simp (decide := true) only [st, r7], by simp (decide := true) only [st], by simp (decide := true) only [st], by simp (decide := true) only [st]⟩
    clear r0 r1 r2 r7 r8 M M6 hst
    rintro n ρ h' ⟨hh, i, hin, r2, r7, r9, r10, r11⟩
    rw [hh]
    by_cases hi : (i : Int) < 6
    · simp (decide := true) only [st, r11, hi]
      let I3 : Nat → Env → AHeap → Prop := fun n ρ h' => h' = hS ∧ ∃ j : Nat, j + n = 16 ∧ ρ 2 = .int .u8 b ∧ ρ 7 = .ptr bm 0 ∧ ρ 9 = .int .i64 x ∧ ρ 10 = .int .i64 y ∧ ρ 11 = .int .i64 i ∧ ρ 12 = .int .i64 j
      refine wp_loop_n I3 ?_ 16 ⟨rfl, 0, by omega, by simp (decide := true) only [st, r2], by simp (decide := true) only [st, r7], by simp (decide := true) only [st, r9], by simp (decide := true) only [st, r10], by simp (decide := true) only [st, r11], by simp (decide := true) only [st]⟩
      clear r2 r7 r9 r10 r11
      rintro m ρ h' ⟨hh, j, hjm, r2, r7, r9, r10, r11, r12⟩
      rw [hh]
      by_cases hj : (j : Int) < 16
      · have hl := hld i j (by omega) (by omega)
        simp (decide := true) only [st, r7, r11, r12, hj]
        refine execC_by hl ?_
        by_cases hix : i = x
        · by_cases hjy : j = y
          · simp (decide := true) only [st, r2, r9, r10, r11, r12, hix, hjy, wrapN1 (show y < 2 ^ 61 by omega)]
            exact ⟨m - 1, by omega, rfl, j + 1, by omega, by simp (decide := true) only [st, r2], by simp (decide := true) only [st, r7], by simp (decide := true) only [st, r9], by simp (decide := true) only [st, r10], by simp (decide := true) only [st, r11], by simp (decide := true) only [st, hjy]⟩
          · simp (decide := true) only [st, r2, r9, r10, r11, r12, hix, hjy, wrapN1 (show j < 2 ^ 61 by omega)]
            exact ⟨m - 1, by omega, rfl, j + 1, by omega, by simp (decide := true) only [st, r2], by simp (decide := true) only [st, r7], by simp (decide := true) only [st, r9], by simp (decide := true) only [st, r10], by simp (decide := true) only [st, r11], by simp (decide := true) only [st]⟩
        · simp (decide := true) only [st, r2, r9, r10, r11, r12, hix, wrapN1 (show j < 2 ^ 61 by omega)]
          exact ⟨m - 1, by omega, rfl, j + 1, by omega, by simp (decide := true) only [st, r2], by simp (decide := true) only [st, r7], by simp (decide := true) only [st, r9], by simp (decide := true) only [st, r10], by simp (decide := true) only [st, r11], by simp (decide := true) only [st]⟩
      · simp (decide := true) only [st, r12, hj, r11, wrapN1 (show i < 2 ^ 61 by omega)]
        exact ⟨n - 1, by omega, rfl, i + 1, by omega, by simp (decide := true) only [st, r2], by simp (decide := true) only [st, r7], by simp (decide := true) only [st, r9], by simp (decide := true) only [st, r10], by simp (decide := true) only [st]⟩
    · have hlast := load_calls ok Ms (by omega) x 16
      have hA : frAt ((List.replicate 6 T0).set x ⟨(List.replicate 16 0).set y b, true⟩) x = some x := by
        simp only [frAt, Int.toNat_natCast]
        rw [if_pos (by omega), List.getElem?_set_self (by simpa using hx)]
        rfl
      have hB : frByte ((List.replicate 6 T0).set x ⟨(List.replicate 16 0).set y b, true⟩) x 16 = (none, 11) := by simp only [frByte, hA]; rw [if_pos (by omega)]
      have hC : frByte ((List.replicate 6 T0).set x ⟨(List.replicate 16 0).set y b, true⟩) x (-1) = (none, 11) := by simp only [frByte, hA]; rw [if_pos (by omega)]
      have hst2 := store_calls ok Ms (by omega) x (-1) b
      simp only [frLoad, hB] at hlast
      simp only [hC] at hst2
      simp (decide := true) only [st, r11, hi, r7, r9]
      refine execC_by hlast ?_
      simp (decide := true) only [st, r7, r9, r2]
      refine execC_by hst2 ?_
      simp (decide := true) only [st, lawK_ret]

/-- So many frames, the first ones taken. -/
def frs (n i : Nat) : List Fr := List.replicate i T0 ++ List.replicate (n - i) F0

theorem frs_zero {n : Nat} : frs n 0 = List.replicate n F0 := by simp [frs]
theorem frs_all {n : Nat} : frs n n = List.replicate n T0 := by simp [frs]
theorem frNew_nat {k : Nat} (h : k ≤ 512) : frNew k = k := by simp [frNew]; omega

theorem used_rep {k : Nat} : frUsed (List.replicate k T0) = k := by unfold frUsed; rw [List.countP_replicate]; rfl

theorem free_rep {k x : Nat} (hx : x < k) : frFree (List.replicate k T0) x = (List.replicate k T0).set x F0 := by
  simp only [frFree, frAt_T0 hx, List.getElem?_replicate, if_pos hx]; rfl

theorem least_set {k x : Nat} (hx : x < k) : frLeast ((List.replicate k T0).set x F0) = some x := by
  unfold frLeast
  rw [List.findIdx?_eq_some_iff_getElem]
  refine ⟨by simpa using hx, by simp [F0], fun j hj => ?_⟩
  rw [List.getElem_set_ne (by omega)]
  simp [T0]

theorem take_set {k x : Nat} (hx : x < k) : frTake ((List.replicate k T0).set x F0) = List.replicate k T0 := by
  simp only [frTake, least_set hx, List.set_set]
  have : (⟨List.replicate 16 0, true⟩ : Fr) = T0 := rfl
  rw [this]
  refine List.ext_getElem (by simp) (fun i h1 h2 => ?_)
  rw [List.getElem_set]
  split <;> simp

theorem frameFull_wp (ok : TblOK P tb) {n free : Nat} (hf : free < 256) : WP P c9.code (lawK c9.results) (args0 [.int .u8 n, .int .u8 free]) AHeap.empty := by
  have hk40 : n % 40 < 40 := Nat.mod_lt _ (by omega)
  have ek : (n : Int).tmod 40 = ((n % 40 : Nat) : Int) := tmodN (k := 40)
  generalize n % 40 = k at hk40 ek
  simp (decide := true) only [st, c9, c9_0, c9_1, c9_2, c9_3, c9_4, c9_5, c9_6, c9_7, c9_8, c9_9, c9_10, c9_11, c9_12, c9_13, c9_14, c9_15, c9_16, c9_17, c9_18, c9_19, c9_20, c9_21]
  refine execC_by (begun12 ok _) ?_
  obtain ⟨bm, bl, h0, hnew, M0, -, -, hm0, hl0, -, -⟩ := new_mem ok AHeap.empty k
  rw [frNew_nat (by omega), ← frs_zero] at M0
  simp (decide := true) only [st, ek, wrapN (show k < 2 ^ 62 by omega)]
  refine execC_by hnew ?_
  simp (decide := true) only [st]
  let I : Nat → Env → AHeap → Prop := fun m ρ h' => h'.next = h0.next ∧ ∃ i : Nat, i + m = k ∧ ρ 1 = .int .u8 free ∧ ρ 5 = .int .i64 k ∧ ρ 6 = .ptr bm 0 ∧ ρ 7 = .int .i64 i ∧ MemAt h' bm bl (frs k i)
  refine wp_loop_n I ?_ k ⟨rfl, 0, by omega, by simp (decide := true) only [st], by simp (decide := true) only [st], by simp (decide := true) only [st], by simp (decide := true) only [st], M0⟩
  rintro m ρ h1 ⟨hnx, i, him, r1, r5, r6, r7, M⟩
  by_cases hi : i < k
  · have ht := take_calls ok M
    have htk := M.take
    simp only [frs, (take_new hi).1, (take_new hi).2] at ht htk
    simp (decide := true) only [st, r5, r6, r7, hi]
    refine execC_by ht ?_
    simp (decide := true) only [st, r7, wrapN1 (show i < 2 ^ 61 by omega)]
    refine ⟨m - 1, by omega, hnx, i + 1, by omega, ?_, ?_, ?_, ?_, htk⟩ <;> simp (decide := true) only [st, r1, r5, r6]
  · have hik : i = k := by omega
    subst hik
    rw [frs_all] at M
    have ht := take_calls ok M
    have htk := M.take
    simp only [take_full.1, take_full.2, M.same] at ht htk
    have hu := used_calls ok M ⟨by omega, by omega⟩
    rw [used_rep] at hu
    simp (decide := true) only [st, r5, r6, r7, hi]
    refine execC_by ht ?_
    simp (decide := true) only [st, r5, r6, r7]
    refine execC_by hu ?_
    by_cases hz : i = 0
    · simp (decide := true) only [st, r5, hz, lawK_ret]
    · have hz' : ¬ ((i : Int) = 0) := by omega
      have hx : free % i < i := Nat.mod_lt _ (by omega)
      have ex : (free : Int).tmod (i : Int) = ((free % i : Nat) : Int) := tmodN
      generalize free % i = x at hx ex
      · have hfr := free_calls ok M (by omega) x
        have Mf := M.free x
        rw [free_rep hx] at hfr Mf
        rw [frAt_T0 hx] at hfr
        simp (decide := true) only [st, r5, hz', r1, r6, wrapN (show free < 2 ^ 62 by omega), ex]
        refine execC_by hfr ?_
        have hn2 : (memH h1 bl ((List.replicate i T0).set x F0)).next = h0.next := hnx
        have ht2 := take_calls ok Mf
        have Mt := Mf.take
        rw [least_set hx] at ht2
        rw [take_set hx] at ht2 Mt
        generalize memH h1 bl ((List.replicate i T0).set x F0) = h2 at *
        simp (decide := true) only [st, r6, Option.isSome]
        refine execC_by ht2 ?_
        have hn3 : (memH h2 bl (List.replicate i T0)).next = h0.next := hn2
        generalize memH h2 bl (List.replicate i T0) = h3 at *
        have ht3 := take_calls ok Mt
        simp only [take_full.1, take_full.2, Mt.same] at ht3
        simp (decide := true) only [st, r6]
        refine execC_by ht3 ?_
        obtain ⟨bm2, bl2, h4, hnew2, M4, -, -, hm4, hl4, -, -⟩ := new_mem ok h3 (-5)
        have hu2 := used_calls ok M4 ⟨hm4, hl4⟩
        have h00 : frUsed (List.replicate (frNew (-5)) F0) = 0 := rfl
        rw [h00] at hu2
        simp (decide := true) only [st, r6]
        refine execC_by hnew2 ?_
        simp (decide := true) only [st, r6]
        refine execC_by hu2 ?_
        simp (decide := true) only [st, lawK_ret]

theorem frAt_zero {bs : List Int} {r : List Fr} : frAt (⟨bs, true⟩ :: r) 0 = some 0 := by simp [frAt]
theorem frByte_zero {bs : List Int} {r : List Fr} {j : Nat} (hj : j < 16) : frByte (⟨bs, true⟩ :: r) 0 j = (some (0, j), 0) := by
  simp only [frByte, frAt_zero]
  rw [if_neg (by omega)]
  rfl
theorem frStore_zero {bs : List Int} {r : List Fr} {j : Nat} {v : Int} (hj : j < 16) : frStore (⟨bs, true⟩ :: r) 0 j v = ⟨bs.set j v, true⟩ :: r := by
  simp only [frStore, frByte_zero hj]; rfl
theorem frLoad_zero {r : List Fr} {j : Nat} (hj : j < 16) : frLoad (T0 :: r) 0 j = (0, 0) := by
  simp only [T0, frLoad, frByte_zero hj]
  simp only [List.getElem?_cons_zero, Option.bind_some, List.getElem?_replicate, if_pos hj]
  rfl
theorem frFree_zero {bs : List Int} {r : List Fr} : frFree (⟨bs, true⟩ :: r) 0 = ⟨bs, false⟩ :: r := by
  simp only [frFree, frAt_zero]; rfl
theorem frAt_free {bs : List Int} {r : List Fr} : frAt (⟨bs, false⟩ :: r) 0 = none := by simp [frAt]
theorem frFree_free {bs : List Int} {r : List Fr} : frFree (⟨bs, false⟩ :: r) 0 = ⟨bs, false⟩ :: r := by simp [frFree, frAt_free]
theorem frLeast_free {bs : List Int} {r : List Fr} : frLeast (⟨bs, false⟩ :: r) = some 0 := by simp [frLeast, List.findIdx?_cons]
theorem frTake_free {bs : List Int} {r : List Fr} : frTake (⟨bs, false⟩ :: r) = T0 :: r := by simp only [frTake, frLeast_free]; rfl
theorem frLeast_F0 {r : List Fr} : frLeast (F0 :: r) = some 0 := frLeast_free
theorem frTake_F0 {r : List Fr} : frTake (F0 :: r) = T0 :: r := frTake_free
theorem used_one {k : Nat} : frUsed (T0 :: List.replicate k F0) = 1 := by
  unfold frUsed
  rw [List.countP_cons, List.countP_replicate]
  rfl

theorem frameClean_wp (ok : TblOK P tb) {bs : List Int} {n : Nat} :
    WP P c8.code (lawK c8.results) (args0 [.vs (bs.map fun b => [.int .u8 b]) .unk, .int .u8 n]) AHeap.empty := by
  have hk5 : n % 5 < 5 := Nat.mod_lt _ (by omega)
  have ek : (n : Int).tmod 5 = ((n % 5 : Nat) : Int) := tmodN (k := 5)
  generalize n % 5 = k at hk5 ek
  have ek2 : IntKind.wrap .i64 (1 + (k : Int)) = ((k + 1 : Nat) : Int) := by rw [wrapS] <;> omega
  simp (decide := true) only [st, c8, c8_0, c8_1, c8_2, c8_3, c8_4, c8_5, c8_6, c8_7, c8_9, c8_10, c8_11, c8_12, c8_13, c8_14, c8_15, c8_16, c8_17, c8_18, c8_19, c8_20, c8_21]
  refine execC_by (begun12 ok _) ?_
  obtain ⟨bm, bl, h0, hnew, M0, -, -, hm0, hl0, -, -⟩ := new_mem ok AHeap.empty ((k + 1 : Nat) : Int)
  rw [frNew_nat (by omega), List.replicate_succ] at M0
  simp (decide := true) only [st, ek, wrapN (show k < 2 ^ 62 by omega), ek2]
  refine execC_by hnew ?_
  have ht := take_calls ok M0
  have Mt := M0.take
  rw [frLeast_F0, frTake_F0] at ht
  rw [frTake_F0] at Mt
  simp (decide := true) only [st]
  refine execC_by ht ?_
  have hn1 : (memH h0 bl (T0 :: List.replicate k F0)).next = h0.next := rfl
  generalize memH h0 bl (T0 :: List.replicate k F0) = h1 at *
  simp (decide := true) only [st]
  let I : Nat → Env → AHeap → Prop := fun m ρ h' => h'.next = h1.next ∧ ∃ i : Nat, i + m = 16 ∧ i ≤ bs.length ∧ ρ 0 = .vs (bs.map fun b => [.int .u8 b]) .unk ∧ ρ 5 = .ptr bm 0 ∧ ρ 6 = .int .i64 0 ∧ ρ 8 = .int .i64 i ∧ ∃ cs, MemAt h' bm bl (⟨cs, true⟩ :: List.replicate k F0)
  refine wp_loop_n I ?_ 16 ⟨rfl, 0, by omega, by omega, by simp (decide := true) only [st], by simp (decide := true) only [st], by simp (decide := true) only [st], by simp (decide := true) only [st], _, Mt⟩
  rintro m ρ h2 ⟨hnx, i, him, hil, r0, r5, r6, r8, cs, M⟩
  simp (decide := true) only [st, r0]
  refine exec_cut (Q := fun ρ' => ρ' 0 = ρ 0 ∧ ρ' 5 = ρ 5 ∧ ρ' 6 = ρ 6 ∧ ρ' 8 = ρ 8 ∧ ρ' 35 = .bool (decide (i < bs.length ∧ i < 16))) ?_ ?_
  · have e16 : ((i : Int) < 16) = (i < 16) := by rw [eq_iff_iff]; omega
    by_cases h1 : i < bs.length
    · by_cases h2 : i < 16 <;> simp (decide := true) only [st, c8_8, r0, r8, List.length_map, h1, h2, e16]
    · simp (decide := true) only [st, c8_8, r0, r8, List.length_map, h1]
  intro ρ' ⟨q0, q5, q6, q8, q35⟩
  rw [r0] at q0; rw [r5] at q5; rw [r6] at q6; rw [r8] at q8
  clear r0 r5 r6 r8
  by_cases hi : i < bs.length ∧ i < 16
  · have hs := store_calls ok M (by omega) 0 i (bs[i]'hi.1)
    have Ms := M.store 0 i (bs[i]'hi.1)
    rw [frStore_zero hi.2] at hs Ms
    rw [frByte_zero hi.2] at hs
    have hg : (bs.map fun b => [AV.int .u8 b])[i]? = some [.int .u8 (bs[i]'hi.1)] := by simp [List.getElem?_eq_getElem hi.1]
    simp (decide := true) only [st, q0, q5, q6, q8, q35, hi, hg]
    refine execC_by hs ?_
    simp (decide := true) only [st, q8, wrapN1 (show i < 2 ^ 61 by omega)]
    refine ⟨m - 1, by omega, hnx, i + 1, by omega, by omega, ?_, ?_, ?_, ?_, _, Ms⟩ <;> simp (decide := true) only [st, q0, q5, q6]
  · have hfr := free_calls ok M (by omega) 0
    have Mf := M.free 0
    rw [frFree_zero] at hfr Mf
    rw [frAt_zero] at hfr
    simp (decide := true) only [st, q0, q5, q6, q8, q35, hi]
    refine execC_by hfr ?_
    have hn2 : (memH h2 bl (⟨cs, false⟩ :: List.replicate k F0)).next = h2.next := rfl
    generalize memH h2 bl (⟨cs, false⟩ :: List.replicate k F0) = h3 at *
    have hfr2 := free_calls ok Mf (by omega) 0
    rw [frFree_free, Mf.same, frAt_free] at hfr2
    simp (decide := true) only [st, q5, q6, Option.isSome]
    refine execC_by hfr2 ?_
    have ht3 := take_calls ok Mf
    have M3 := Mf.take
    rw [frLeast_free, frTake_free] at ht3
    rw [frTake_free] at M3
    simp (decide := true) only [st, q5, q6, Option.isSome]
    refine execC_by ht3 ?_
    have hn3 : (memH h3 bl (T0 :: List.replicate k F0)).next = h3.next := rfl
    generalize memH h3 bl (T0 :: List.replicate k F0) = h4 at *
    simp (decide := true) only [st, q5, q6]
    let I2 : Nat → Env → AHeap → Prop := fun n ρ h' => h' = h4 ∧ ∃ i : Nat, i + n = 16 ∧ ρ 5 = .ptr bm 0 ∧ ρ 6 = .int .i64 0 ∧ ρ 9 = .int .i64 0 ∧ ρ 10 = .int .i64 0 ∧ ρ 11 = .int .i64 i
    refine wp_loop_n I2 ?_ 16 ⟨rfl, 0, by omega, by simp (decide := true) only [st, q5], by simp (decide := true) only [st, q6], by simp (decide := true) only [st], by simp (decide := true) only [st], by simp (decide := true) only [st]⟩
    clear q0 q5 q6 q8 q35
    rintro n ρ h5 ⟨hh, i, hin, r5, r6, r9, r10, r11⟩
    rw [hh]
    by_cases hi : (i : Int) < 16
    · have hl := load_calls ok M3 (by omega) 0 i
      rw [frLoad_zero (by omega)] at hl
      simp (decide := true) only [st, r5, r9, r11, hi]
      refine execC_by hl ?_
      simp (decide := true) only [st, r11, wrapN1 (show i < 2 ^ 61 by omega)]
      refine ⟨n - 1, by omega, rfl, i + 1, by omega, ?_, ?_, ?_, ?_, ?_⟩ <;> simp (decide := true) only [st, r5, r6, r9, r10]
    · have hu := used_calls ok M3 ⟨by omega, by omega⟩
      rw [used_one] at hu
      simp (decide := true) only [st, r5, r6, r9, r10, r11, hi]
      refine execC_by hu ?_
      simp (decide := true) only [st, lawK_ret]

end Go.Proofs.Ytchomcffeiheeaa.Am
