/- Whether threads are quiet: the layer's functions, a law. Conditions: none. -/
import Derived.Test.YtchomcffeiheeaaCode2
set_option maxRecDepth 100000
set_option linter.unusedSimpArgs false
set_option linter.unusedVariables false
set_option linter.unnecessarySimpa false
/- Whether threads are quiet. -/
namespace Go.Proofs.Ytchomcffeiheeaa.Am
open Go

structure Th where
  does : Int
  dn : Int
  n : Int

/-- A row of a slice of threads, as far as it is looked at. -/
structure ThRow (row : List AV) (t : Th) : Prop where
  len : row.length = 12
  does : row[6]? = some (.int .i64 t.does)
  dn : row[9]? = some (.int .i64 t.dn)
  n : row[10]? = some (.int .i64 t.n)
  one : row.all AV.one = true

def ThRows (xs : List (List AV)) (ts : List Th) : Prop := xs.length = ts.length ∧ ∀ (i : Nat) (t : Th), ts[i]? = some t → ∃ row, xs[i]? = some row ∧ ThRow row t

variable {P : Program}

theorem ThRows.row {xs : List (List AV)} {ts : List Th} (hx : ThRows xs ts) {i : Nat} (hi : i < ts.length) : ∃ row, xs[i]? = some row ∧ ThRow row ts[i] := hx.2 i _ (List.getElem?_eq_getElem hi)

def leftOf (t : Th) : Int := if t.does ≠ 2 ∨ t.n ≤ t.dn then 0 else if (t.n - t.dn) % 4 > 0 then (t.n - t.dn) / 4 + 1 else (t.n - t.dn) / 4

theorem left_calls (ok : TblOK P tb) {row : List AV} {t : Th} (R : ThRow row t) (h0 : 0 ≤ t.dn) (h1 : t.n ≤ 1000) (h : AHeap) : ACalls P 36 [.agg row] h (.int .i64 (leftOf t)) h := by
  refine ok.keeps (rf := c36) rfl (Nat.le_of_ble_eq_true rfl) rfl ?_
  obtain ⟨hl, hd, hdn, hn, hone⟩ := R
  have hk : ∀ b, b < h.next → (h.at h.next (.cells row)).get b = h.get b := fun b hb => by simp [AHeap.at]; omega
  unfold leftOf
  by_cases hd2 : t.does = 2
  · by_cases hle : t.n ≤ t.dn
    · simp (decide := true) only [st, c36, c36_0, c36_1, c36_2, c36_3, c36_4, c36_5, c36_6, hone, hd, hdn, hn, hd2, hle, if_pos]
      exact hk
    · have hw : IntKind.wrap .i64 (t.n - t.dn) = t.n - t.dn := wrapS (by omega) (by omega)
      have hm : (t.n - t.dn).tmod 4 = (t.n - t.dn) % 4 := Int.tmod_eq_emod_of_nonneg (by omega)
      have hq : (t.n - t.dn).tdiv 4 = (t.n - t.dn) / 4 := Int.tdiv_eq_ediv_of_nonneg (by omega)
      have hw2 : IntKind.wrap .i64 ((t.n - t.dn) / 4) = (t.n - t.dn) / 4 := wrapS (by omega) (by omega)
      have hw3 : IntKind.wrap .i64 ((t.n - t.dn) / 4 + 1) = (t.n - t.dn) / 4 + 1 := wrapS (by omega) (by omega)
      by_cases hp : 0 < (t.n - t.dn) % 4
      · simp (decide := true) only [st, c36, c36_0, c36_1, c36_2, c36_3, c36_4, c36_5, c36_6, hone, hd, hdn, hn, hd2, hle, hw, hm, hq, hw2, hw3, hp, ne_eq, or_self, gt_iff_lt]
        exact hk
      · simp (decide := true) only [st, c36, c36_0, c36_1, c36_2, c36_3, c36_4, c36_5, c36_6, hone, hd, hdn, hn, hd2, hle, hw, hm, hq, hw2, hw3, hp, ne_eq, or_self, gt_iff_lt]
        exact hk
  · simp (decide := true) only [st, c36, c36_0, c36_1, c36_2, c36_3, c36_4, c36_5, c36_6, hone, hd, hdn, hn, hd2, ne_eq, true_or]
    exact hk

def quietB (ts : List Th) : Bool := ts.all fun t => t.does != 2

theorem quiet_calls (ok : TblOK P tb) {xs : List (List AV)} {ts : List Th} (hx : ThRows xs ts) (hlen : ts.length < 2 ^ 40) (t : Tail) (h : AHeap) : ACalls P 15 [.vs xs t] h (.bool (quietB ts)) h := by
  refine ok.calls (rf := c15) rfl (Nat.le_of_ble_eq_true rfl) ?_
  have hxl := hx.1
  let J : Nat → Env → AHeap → Prop := fun n ρ h' => h' = h ∧ ∃ i : Nat, ts.length = i + n ∧ ρ 0 = .vs xs t ∧ ρ 3 = .int .i64 i ∧ ∀ j (hj : j < ts.length), j < i → ts[j].does ≠ 2
  simp (decide := true) only [st, c15, c15_0]
  refine wp_goto1 0 rfl J (fun l' ρ h hk => hk) ?_ ?_
  · simp (decide := true) only [st, c15_1, onlyN_normal]
    exact ⟨ts.length, rfl, 0, by omega, by simp (decide := true) only [st], by simp (decide := true) only [st], fun j hj h => by omega⟩
  rintro n ρ h' ⟨hh, i, hin, r0, r3, hall⟩
  rw [hh]
  by_cases hi : i < ts.length
  · obtain ⟨row, hrow, R⟩ := hx.row hi
    have hne : ¬ i = xs.length := by omega
    by_cases hd : ts[i].does = 2
    · have : quietB ts = false := by
        unfold quietB; rw [List.all_eq_false]; exact ⟨_, List.getElem_mem hi, by simp [hd]⟩
      have hd' := R.does
      rw [hd] at hd'
      simp (decide := true) only [st, c15, c15_0, c15_1, c15_2, c15_3, c15_4, c15_5, c15_6, r0, r3, hne, hrow, R.len, hd', this]
    · simp (decide := true) only [st, c15, c15_0, c15_1, c15_2, c15_3, c15_4, c15_5, c15_6, r0, r3, hne, hrow, R.len, R.does, hd, wrapN1 (show i < 2 ^ 61 by omega)]
      refine ⟨n - 1, by omega, rfl, i + 1, by omega, ?_, ?_, fun j hj hji => ?_⟩
      · simp (decide := true) only [st, r0]
      · simp (decide := true) only [st]
      · by_cases hjj : j = i
        · subst hjj; exact hd
        · exact hall j hj (by omega)
  · have : quietB ts = true := by
      unfold quietB; rw [List.all_eq_true]
      intro x hx
      obtain ⟨j, hj, rfl⟩ := List.mem_iff_getElem.1 hx
      simpa using hall j hj (by omega)
    have he : i = xs.length := by omega
    simp (decide := true) only [st, c15, c15_0, c15_1, c15_2, c15_3, c15_4, c15_5, c15_6, r0, r3, he, this]

theorem leftOf_le {t : Th} (h0 : 0 ≤ t.dn) (h1 : t.n ≤ 1000) : 0 ≤ leftOf t ∧ leftOf t ≤ 251 := by
  unfold leftOf
  split
  · omega
  · split <;> omega

def sumOf (ts : List Th) : Int := (ts.map leftOf).sum

def Fine (ts : List Th) : Prop := ∀ j (hj : j < ts.length), 0 ≤ ts[j].dn ∧ ts[j].n ≤ 1000

theorem sum_take {ts : List Th} {i : Nat} (hi : i < ts.length) : sumOf (ts.take (i + 1)) = sumOf (ts.take i) + leftOf ts[i] := by
  rw [← List.take_append_getElem hi]
  simp only [sumOf, List.map_append, List.sum_append, List.map_cons, List.map_nil, List.sum_cons, List.sum_nil, Int.add_zero]

theorem sum_le {ts : List Th} (hf : Fine ts) : ∀ i, i ≤ ts.length → 0 ≤ sumOf (ts.take i) ∧ sumOf (ts.take i) ≤ 251 * i
  | 0, _ => by simp [sumOf]
  | i + 1, h => by
    have h1 := sum_le hf i (by omega)
    have h2 := leftOf_le (hf i (by omega)).1 (hf i (by omega)).2
    rw [sum_take (by omega)]
    omega

theorem Left_calls (ok : TblOK P tb) {xs : List (List AV)} {ts : List Th} (hx : ThRows xs ts) (hlen : ts.length < 2 ^ 40) (hf : Fine ts) (t : Tail) (h : AHeap) : ACalls P 17 [.vs xs t] h (.int .i64 (sumOf ts)) h := by
  refine ok.keeps (rf := c17) rfl (Nat.le_of_ble_eq_true rfl) rfl ?_
  have hxl := hx.1
  simp (decide := true) only [st, c17, c17_0, c17_1, c17_2, c17_3, c17_4, c17_5, c17_6, c17_7, hxl]
  let I : Nat → Env → AHeap → Prop := fun n ρ h' => (∀ b, b < h.next → h'.get b = h.get b) ∧ h.next ≤ h'.next ∧ ∃ i : Nat, ts.length = i + n ∧ ρ 6 = .vs xs t ∧ ρ 7 = .int .i64 ts.length ∧ ρ 8 = .int .i64 i ∧ ρ 3 = .int .i64 (sumOf (ts.take i))
  refine wp_loop_n I ?_ ts.length ⟨fun _ _ => rfl, Nat.le_refl _, 0, by omega, by simp (decide := true) only [st], by simp (decide := true) only [st], by simp (decide := true) only [st], by simp (decide := true) only [st, sumOf, List.map_nil, List.sum_nil]⟩
  rintro n ρ h' ⟨hold, hnx, i, hin, r6, r7, r8, r3⟩
  by_cases hi : i < ts.length
  · obtain ⟨row, hrow, R⟩ := hx.row hi
    have hle12 : 0 + 12 ≤ row.length := by have := R.len; omega
    have htk : row.take 12 = row := List.take_of_length_le (by have := R.len; omega)
    have hd : row.drop 12 = [] := List.drop_eq_nil_of_le (by have := R.len; omega)
    have hfi := hf i hi
    have hs := sum_le hf i (by omega)
    have hl := leftOf_le hfi.1 hfi.2
    have hw : IntKind.wrap .i64 (sumOf (ts.take i) + leftOf ts[i]) = sumOf (ts.take (i + 1)) := by rw [wrapS (by omega) (by omega), sum_take hi]
    simp (decide := true) only [st, c17, c17_0, c17_1, c17_2, c17_3, c17_4, c17_5, c17_6, c17_7, r6, r7, r8, r3, hi, hrow, R.len, R.one, hd, htk]
    refine execC_by (left_calls ok R hfi.1 hfi.2 _) ?_
    simp (decide := true) only [st, r3, r8, hw, wrapN1 (show i < 2 ^ 61 by omega)]
    refine ⟨n - 1, by omega, fun b hb => ?_, ?_, i + 1, by omega, ?_, ?_, ?_, ?_⟩
    · have : b ≠ h'.next := by omega
      simp (decide := true) only [st, this, hold b hb]
    · simp (decide := true) only [st]
      omega
    · simp (decide := true) only [st, r6]
    · simp (decide := true) only [st, r7]
    · simp (decide := true) only [st]
    · simp (decide := true) only [st]
  · have hie : i = ts.length := by omega
    rw [hie, List.take_length] at r3
    simp (decide := true) only [st, c17, c17_0, c17_1, c17_2, c17_3, c17_4, c17_5, c17_6, c17_7, r6, r7, r8, r3, hi]
    exact hold

theorem begun25_run : callOf tb (runK tb 400) 14 [] ⟨.leaf, 0⟩ beganK = some () := by decide +kernel
theorem begun25 (ok : TblOK P tb) (h : AHeap) : ACalls P 14 [] h (.bool true) h := begun_of ok begun25_run h

theorem aslice_one {ρ : Env} {sz : Nat} {xs : List (List AV)} {t : Tail} {a b : Opd} {k k' : IntKind} {i : Nat} {row : List AV} (ha : a.ev ρ = .int k i) (hb : b.ev ρ = .int k' ((i + 1 : Nat) : Int)) (hr : xs[i]? = some row) (hh : headOk sz xs = true) :
    aslice ρ sz (.vs xs t) (some a) (some b) none = some (.vs [row] (sliceTail t xs.length i (i + 1))) := by
  have hi := (List.getElem?_eq_some_iff.1 hr).1
  have h0 : (0 : Int) ≤ (i : Int) := by omega
  have h1 : (0 : Int) ≤ ((i + 1 : Nat) : Int) := by omega
  have h3 : i ≤ i + 1 ∧ i + 1 ≤ xs.length ∧ headOk sz xs = true := ⟨by omega, by omega, hh⟩
  have h4 : (xs.drop i).take (i + 1 - i) = [row] := by
    have : i + 1 - i = 1 := by omega
    rw [this, List.take_one, List.head?_drop, hr]; rfl
  simp only [aslice, boundA, ha, hb, h0, h1, if_true, Int.toNat_natCast, Option.bind_eq_bind, Option.bind_some, h3, and_self, h4]

theorem ThRows.head {xs : List (List AV)} {ts : List Th} (hx : ThRows xs ts) : headOk 12 xs = true := by
  cases xs with
  | nil => rfl
  | cons r rs =>
    have hl := hx.1
    obtain ⟨row, h1, h2⟩ := hx.row (i := 0) (by simp at hl; omega)
    simp at h1; subst h1
    simp [headOk, h2.len]

theorem ThRows.one {xs : List (List AV)} {ts : List Th} (hx : ThRows xs ts) {i : Nat} {row : List AV} (hi : i < ts.length) (hr : xs[i]? = some row) : ThRows [row] [ts[i]] := by
  obtain ⟨row', h1, h2⟩ := hx.row hi
  rw [hr] at h1; cases h1
  refine ⟨rfl, fun j u hj => ?_⟩
  cases j with
  | zero => simp at hj; subst hj; exact ⟨row, rfl, h2⟩
  | succ j => simp at hj

theorem quietSums_wp (ok : TblOK P tb) {xs : List (List AV)} {ts : List Th} (hx : ThRows xs ts) (t : Tail) :
    WP P c5.code (lawK c5.results) (args0 [.vs xs t]) AHeap.empty := by
  have hxl := hx.1
  simp (decide := true) only [st, c5, c5_0, c5_1, c5_2, c5_3, c5_4, c5_5, c5_6, c5_7, c5_8, c5_10, c5_11, c5_13, c5_14, c5_15, c5_16, c5_17]
  refine execC_by (begun25 ok _) ?_
  simp (decide := true) only [st, hxl]
  refine WPc_by (fun ht => ?_) (fun ht => ?_)
  · simp (decide := true) only [st, lawK_ret]
  · have h10 : ts.length ≤ 10 := by omega
    have hl40 : ts.length < 2 ^ 40 := by omega
    simp (decide := true) only [st]
    let I : Nat → Env → AHeap → Prop := fun n ρ h' => h' = AHeap.empty ∧ ∃ i : Nat, ts.length = i + n ∧ ρ 0 = .vs xs t ∧ ρ 5 = .int .i64 i ∧ ρ 3 = .int .i64 (sumOf (ts.take i)) ∧ ρ 4 = .bool (quietB (ts.take i)) ∧ ∀ j (hj : j < ts.length), j < i → 0 ≤ ts[j].dn ∧ ts[j].n ≤ 1000
    refine wp_loop_n I ?_ ts.length ⟨rfl, 0, by omega, by simp (decide := true) only [st], by simp (decide := true) only [st], by simp (decide := true) only [st, sumOf, List.map_nil, List.sum_nil], by simp (decide := true) only [st, quietB, List.all_nil], fun j hj h => by omega⟩
    rintro n ρ h' ⟨hh, i, hin, r0, r5, r3, r4, hall⟩
    rw [hh]
    by_cases hi : i < ts.length
    · obtain ⟨row, hrow, R⟩ := hx.row hi
      have hOne := hx.one hi hrow
      simp (decide := true) only [st, r0, r5, hxl, hi]
      refine exec_cut (Q := fun ρ' => ρ' 0 = .vs xs t ∧ ρ' 5 = .int .i64 i ∧ ρ' 3 = .int .i64 (sumOf (ts.take i)) ∧ ρ' 4 = .bool (quietB (ts.take i)) ∧ ρ' 39 = .bool (decide (ts[i].dn < 0 ∨ 1000 < ts[i].n ∨ ts[i].n < 0))) ?_ ?_
      · by_cases h1 : ts[i].dn < 0
        · simp (decide := true) only [st, c5_9, r0, r5, r3, r4, hrow, R.len, R.dn, h1, true_or]
        · by_cases h2 : 1000 < ts[i].n
          · simp (decide := true) only [st, c5_9, r0, r5, r3, r4, hrow, R.len, R.dn, R.n, h1, h2, true_or, or_true]
          · by_cases h3 : ts[i].n < 0
            · simp (decide := true) only [st, c5_9, r0, r5, r3, r4, hrow, R.len, R.dn, R.n, h1, h2, h3, or_true]
            · simp (decide := true) only [st, c5_9, r0, r5, r3, r4, hrow, R.len, R.dn, R.n, h1, h2, h3, or_self]
      · rintro ρ' ⟨q0, q5, q3, q4, q39⟩
        simp (decide := true) only [st, q39]
        refine WPc_by (fun hc => ?_) (fun hc => ?_)
        · simp (decide := true) only [st, lawK_ret]
        have hd0 : ¬ ts[i].dn < 0 := fun h => hc (.inl h)
        have hn1 : ¬ 1000 < ts[i].n := fun h => hc (.inr (.inl h))
        have hf1 : Fine [ts[i]] := fun j hj => by
          have : j = 0 := by simp at hj; omega
          subst this
          exact ⟨by simpa using hd0, by simpa using hn1⟩
        have hs1 : sumOf [ts[i]] = leftOf ts[i] := by simp [sumOf]
        have hle := leftOf_le (t := ts[i]) (by omega) (by omega)
        have hsl := fun (ρ : Env) (t1 : Tail) (a b : Opd) (e1 : a.ev ρ = .int .i64 i) (e2 : b.ev ρ = .int .i64 ((i + 1 : Nat) : Int)) => aslice_one (ρ := ρ) (sz := 12) (t := t1) e1 e2 hrow hx.head
        have hL := Left_calls ok hOne (by simp) hf1 (sliceTail t xs.length i (i + 1)) AHeap.empty
        have hQ := quiet_calls ok hOne (by simp) (sliceTail t xs.length i (i + 1)) AHeap.empty
        rw [hs1] at hL
        have hall' : ∀ j (hj : j < ts.length), j < i + 1 → 0 ≤ ts[j].dn ∧ ts[j].n ≤ 1000 := fun j hj hji => by
          by_cases hjj : j = i
          · subst hjj; exact ⟨by omega, by omega⟩
          · exact hall j hj (by omega)
        have hss := sum_le (ts := ts.take (i + 1)) (fun j hj => by
          have hj2 : j < ts.length := by simp at hj; omega
          have := hall' j hj2 (by simp at hj; omega)
          simpa using this) i (by simp; omega)
        rw [List.take_take, Nat.min_eq_left (by omega)] at hss
        have hw : IntKind.wrap .i64 (sumOf (ts.take i) + leftOf ts[i]) = sumOf (ts.take (i + 1)) := by rw [wrapS (by omega) (by omega), sum_take hi]
        have hqq : (quietB (ts.take i) && quietB [ts[i]]) = quietB (ts.take (i + 1)) := by
          rw [← List.take_append_getElem hi]; simp only [quietB, List.all_append]
        simp (decide := true) only [st, q0, q5, wrapN1 (show i < 2 ^ 61 by omega)]
        rw [hsl _ _ _ _ (by simp (decide := true) only [st]) (by simp (decide := true) only [st])]
        simp (decide := true) only [st]
        refine execC_by hL ?_
        simp (decide := true) only [st]
        refine exec_cut (Q := fun ρ' => ρ' 0 = .vs xs t ∧ ρ' 5 = .int .i64 i ∧ ρ' 3 = .int .i64 (sumOf (ts.take i)) ∧ ρ' 4 = .bool (quietB (ts.take i)) ∧ ρ' 6 = .int .i64 (leftOf ts[i]) ∧ ρ' 59 = .bool false) ?_ ?_
        · have hz : ts[i].does ≠ 2 → leftOf ts[i] = 0 := fun h => by simp [leftOf, h]
          have hnn : ¬ leftOf ts[i] < 0 := by omega
          by_cases h2 : ts[i].does = 2
          · simp (decide := true) only [st, c5_12, q0, q5, q3, q4, hnn, hrow, R.len, R.does, h2]
          · have hz' := hz h2
            simp (decide := true) only [st, c5_12, q0, q5, q3, q4, hz', hrow, R.len, R.does, h2]
        rintro ρ2 ⟨p0, p5, p3, p4, p6, p59⟩
        cases hb : quietB (ts.take i) with
        | false =>
          rw [hb] at p4 hqq
          simp (decide := true) only [st, p0, p5, p3, p4, p6, p59, hw, wrapN1 (show i < 2 ^ 61 by omega)]
          refine ⟨n - 1, by omega, rfl, i + 1, by omega, ?_, ?_, ?_, ?_, hall'⟩
          · simp (decide := true) only [st, p0]
          · simp (decide := true) only [st]
          · simp (decide := true) only [st]
          · simp (decide := true) only [st, ← hqq, Bool.false_and]
        | true =>
          rw [hb] at p4 hqq
          simp (decide := true) only [st, p0, p5, p3, p4, p6, p59, hw, wrapN1 (show i < 2 ^ 61 by omega)]
          rw [hsl _ _ _ _ (by simp (decide := true) only [st]) (by simp (decide := true) only [st])]
          simp (decide := true) only [st]
          refine execC_by hQ ?_
          simp (decide := true) only [st, p5, wrapN1 (show i < 2 ^ 61 by omega)]
          refine ⟨n - 1, by omega, rfl, i + 1, by omega, ?_, ?_, ?_, ?_, hall'⟩
          · simp (decide := true) only [st, p0]
          · simp (decide := true) only [st]
          · simp (decide := true) only [st]
          · simp (decide := true) only [st, ← hqq]
    · have hie : i = ts.length := by omega
      rw [hie, List.take_length] at r3 r4
      have hf : Fine ts := fun j hj => hall j hj (by omega)
      simp (decide := true) only [st, r0, r5, hxl, hi]
      refine execC_by (Left_calls ok hx hl40 hf _ _) ?_
      simp (decide := true) only [st, r0, r3]
      refine execC_by (quiet_calls ok hx hl40 _ _) ?_
      simp (decide := true) only [st, r4, lawK_ret, beq_self_eq_true]

end Go.Proofs.Ytchomcffeiheeaa.Am
