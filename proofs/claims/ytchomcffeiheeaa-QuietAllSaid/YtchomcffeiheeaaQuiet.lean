/- The laws of layer 25, quiet: QuietAll comes to true for every input, and turns nothing. Conditions: none. -/
import Derived.Test.YtchomcffeiheeaaCode
import Derived.Test.YtchomcffeiheeaaRows
set_option maxRecDepth 100000
set_option linter.unusedSimpArgs false
set_option linter.unusedVariables false
namespace Go.Proofs.Ytchomcffeiheeaa
open Go.ChangeShapes Go.WideShapes Go.ChangeAt Go.RowKit
open Go.Proofs.Ytchomcffeiheeaa.Am Go.Proofs.Ytchomcffeiheeaa.Code

structure Th where
  does : Int
  dn : Int
  n : Int

/-- A row of a slice of threads, as far as it is looked at. -/
def ThRow (row : List AV) (t : Th) : Prop := row.length = 12 ∧ row[6]? = some (.int .i64 t.does) ∧ row[9]? = some (.int .i64 t.dn) ∧ row[10]? = some (.int .i64 t.n) ∧ ∀ v ∈ row, v.one = true

def ThRows (xs : List (List AV)) (ts : List Th) : Prop := xs.length = ts.length ∧ ∀ (i : Nat) (t : Th), ts[i]? = some t → ∃ row, xs[i]? = some row ∧ ThRow row t

variable {P : Program}

theorem ThRows.row {xs : List (List AV)} {ts : List Th} (hx : ThRows xs ts) {i : Nat} (hi : i < ts.length) : ∃ row, xs[i]? = some row ∧ ThRow row ts[i] := hx.2 i _ (List.getElem?_eq_getElem hi)

theorem wrap_small {n : Int} (h0 : -(2 ^ 62) ≤ n) (h1 : n < 2 ^ 62) : IntKind.wrap .i64 n = n := by
  rw [IntKind.wrap_i64]; omega

theorem all_done {α : Type} {p : α → Bool} {l : List α} (h : ∀ j (hj : j < l.length), p l[j] = true) : l.all p = true := by
  rw [List.all_eq_true]
  intro x hx
  obtain ⟨j, hj, rfl⟩ := List.mem_iff_getElem.1 hx
  exact h j hj

theorem all_not {α : Type} {p : α → Bool} {l : List α} {i : Nat} (hi : i < l.length) (h : p l[i] = false) : l.all p = false := by
  rw [List.all_eq_false]
  exact ⟨l[i], List.getElem_mem hi, by simp [h]⟩

theorem quiet_wp {xs : List (List AV)} {ts : List Th} (hx : ThRows xs ts) (hlen : ts.length < 2 ^ 40) (t : Tail) (h : AHeap) :
    WP P c15.code (doneK c15.results (.bool (ts.all fun t => t.does != 2)) h) (args0 [.vs xs t]) h := by
  simp only [c15]
  refine wp_seq' (wp_reg ?_)
  simp only [c15_0, exec_p, exec_nil, apure, Opd.ev, Option.some.injEq, exists_eq_left', thenK]
  have hxl := hx.1
  let J : Nat → Env → AHeap → Prop := fun n ρ h' => h' = h ∧ ∃ i : Nat, ts.length = i + n ∧ ρ 0 = .vs xs t ∧ ρ 3 = .int .i64 i ∧ ∀ j (hj : j < ts.length), j < i → ts[j].does ≠ 2
  have pass : ∀ n ρ h', J n ρ h' → WP P (.seq (.seq (.reg c15_2) (.cond (.tmp 7) (.seq (.reg c15_3) .ret) .skip)) (.seq (.seq (.reg c15_4) (.cond (.tmp 13) (.seq (.reg c15_5) .ret) .skip)) (.seq (.reg c15_6) (.goto 0))))
      (jumpK 0 (fun ρ' h' => ∃ m, m < n ∧ J m ρ' h') (doneK [RRes.tmp 2] (.bool (ts.all fun t => t.does != 2)) h)) ρ h' := by
    rintro n ρ h' ⟨rfl, i, hin, h0, h3, hall⟩
    refine wp_seq' (wp_seq' (wp_reg ?_))
    simp only [c15_2, exec_p, exec_nil, apure, Opd.ev, Option.some.injEq, exists_eq_left', thenK, put_some, h0, h3, lenA, Option.map_some, abin, aint, hxl, Nat.reduceEqDiff, if_false, if_true]
    refine wp_cond_if (t := ((i : Int) == (ts.length : Int))) rfl (fun ht => ?_) (fun ht => ?_)
    · refine wp_seq' (wp_reg ?_)
      simp only [c15_3, exec_p, exec_nil, apure, Opd.ev, Option.some.injEq, exists_eq_left', thenK]
      refine wp_ret' ⟨?_, rfl⟩
      have hi : i = ts.length := by have : (i : Int) = ts.length := by simpa using ht
                                    omega
      have : (ts.all fun t => t.does != 2) = true := all_done (fun j hj => by simpa using hall j hj (by omega))
      simp only [resL, resOne, put_some, if_true, Option.map_some, tupOf, this]
    · have hi : i < ts.length := by have : ¬ (i : Int) = ts.length := by simpa using ht
                                    omega
      refine wp_skip' (wp_seq' (wp_seq' (wp_reg ?_)))
      obtain ⟨row, hrow, hrl, hd, _, _, _⟩ := hx.row hi
      have hi0 : (0 : Int) ≤ (i : Int) := by omega
      simp only [c15_4, exec_p, exec_nil, apure, Opd.ev, Option.some.injEq, exists_eq_left', thenK, put_some, h0, h3, iaddrSA, Int.toNat_natCast, hrow, hrl, hi0, faddrA, aload, cut, hd, abin, aint, Nat.reduceEqDiff, if_false, if_true, Nat.zero_add, Bool.false_eq_true]
      refine wp_cond_if (t := ts[i].does == 2) rfl (fun ht => ?_) (fun ht => ?_)
      · refine wp_seq' (wp_reg ?_)
        simp only [c15_5, exec_p, exec_nil, apure, Opd.ev, Option.some.injEq, exists_eq_left', thenK]
        refine wp_ret' ⟨?_, rfl⟩
        have : (ts.all fun t => t.does != 2) = false := all_not hi (by simpa using ht)
        simp only [resL, resOne, put_some, if_true, Option.map_some, tupOf, this]
      · refine wp_skip' (wp_seq' (wp_reg ?_))
        have hw : IntKind.wrap .i64 ((i : Int) + 1) = ((i + 1 : Nat) : Int) := by rw [wrap_small] <;> omega
        simp only [c15_6, exec_p, exec_nil, apure, Opd.ev, Option.some.injEq, exists_eq_left', thenK, put_some, h3, abin, aint, Nat.reduceEqDiff, if_false, if_true]
        refine wp_goto' ?_
        simp only [jumpK, if_true]
        refine ⟨n - 1, by omega, rfl, i + 1, by omega, ?_, ?_, fun j hj hji => ?_⟩
        · simp only [put_some, Nat.reduceEqDiff, if_false, h0]
        · simp only [put_some, if_true]
          exact congrArg (AV.int .i64) hw
        · by_cases hjj : j = i
          · subst hjj; simpa using ht
          · exact hall j hj (by omega)
  refine wp_scope_one 0 rfl J (fun l' ρ h hk => hk) ?_ (fun n ρ h' hJ => wp_seq' (wp_skip' (pass n ρ h' hJ)))
  refine wp_seq' (wp_reg ?_)
  simp only [c15_1, exec_p, exec_nil, apure, Opd.ev, Option.some.injEq, exists_eq_left', thenK]
  refine wp_seq' (wp_label' ?_)
  refine (pass ts.length _ _ ⟨rfl, 0, by omega, rfl, rfl, fun j hj h => by omega⟩).mono (fun e ρ h hk => ?_)
  cases e with
  | goto l' =>
    simp only [jumpK] at hk ⊢
    split at hk
    · rename_i hl; rw [if_pos hl]; obtain ⟨m, _, hm⟩ := hk; exact ⟨m, hm⟩
    · rename_i hl; rw [if_neg hl]; exact hk
  | normal => exact hk
  | exit id => exact hk
  | ret => exact hk

def leftOf (t : Th) : Int := if t.does ≠ 2 ∨ t.n ≤ t.dn then 0 else if (t.n - t.dn) % 4 > 0 then (t.n - t.dn) / 4 + 1 else (t.n - t.dn) / 4

theorem left_wp {row : List AV} {t : Th} (hx : ThRow row t) (h0 : 0 ≤ t.dn) (h1 : t.n ≤ 1000) (h : AHeap) :
    WP P c36.code (keepK c36.results (.int .i64 (leftOf t)) h) (args0 [.agg row]) h := by
  obtain ⟨hrl, hd, hdn, hn, hone⟩ := hx
  have hall : row.all AV.one = true := by rw [List.all_eq_true]; exact hone
  simp only [c36]
  refine wp_seq' (wp_reg ?_)
  have ha0 : args0 [.agg row] 0 = .agg row := rfl
  simp only [c36_0, exec_p, exec_a, exec_nil, apure, aalloc, Opd.ev, Option.some.injEq, exists_eq_left', thenK, ha0, AV.cells, hall, if_true, Prod.mk.injEq]
  refine ⟨_, _, ⟨rfl, rfl⟩, ?_⟩
  generalize hh : h.at h.next (.cells row) = h2
  have hg : h2.get h.next = some (.cells row) := by subst hh; simp [AHeap.at]
  have hold : ∀ b, b < h.next → h2.get b = h.get b := fun b hb => by subst hh; simp [AHeap.at, Nat.ne_of_lt hb]
  refine wp_seq' (wp_seq' (wp_reg ?_))
  have fin : ∀ (ρ : Env) (v : Int), v = leftOf t → keepK [RRes.tmp 2] (AV.int IntKind.i64 (leftOf t)) h .ret (put ρ (some 2) (.int .i64 v)) h2 := fun ρ v hv => by
    refine ⟨?_, hold⟩
    simp only [resL, resOne, put_some, if_true, Option.map_some, tupOf, hv]
  by_cases hd2 : t.does = 2
  · by_cases hle : t.n ≤ t.dn
    · simp only [c36_1, exec_p, exec_g, gK_bool, gK_tup, exec_nil, apure, Opd.ev, Option.some.injEq, exists_eq_left', thenK, put_some, faddrA, aload, cellsOf, hg, cut, Option.bind_some, hd, hn, hdn, hd2, hle, abin, aint, pickA, bne_self_eq_false, decide_true, Nat.reduceEqDiff, if_false, if_true, Nat.zero_add, Bool.false_eq_true]
      refine wp_cond_if (t := true) rfl (fun _ => ?_) (fun h => by cases h)
      refine wp_seq' (wp_reg ?_)
      simp only [c36_2, exec_p, exec_nil, apure, Opd.ev, Option.some.injEq, exists_eq_left', thenK]
      exact wp_ret' (fin _ _ (by simp [leftOf, hle]))
    · simp only [c36_1, exec_p, exec_g, gK_bool, gK_tup, exec_nil, apure, Opd.ev, Option.some.injEq, exists_eq_left', thenK, put_some, faddrA, aload, cellsOf, hg, cut, Option.bind_some, hd, hn, hdn, hd2, hle, abin, aint, pickA, bne_self_eq_false, decide_true, decide_false, Nat.reduceEqDiff, if_false, if_true, Nat.zero_add, Bool.false_eq_true]
      refine wp_cond_if (t := false) rfl (fun h => by cases h) (fun _ => ?_)
      refine wp_skip' (wp_seq' (wp_reg ?_))
      have hw : IntKind.wrap .i64 (t.n - t.dn) = t.n - t.dn := wrap_small (by omega) (by omega)
      simp only [c36_3, exec_p, exec_nil, apure, Opd.ev, Option.some.injEq, exists_eq_left', thenK, put_some, faddrA, aload, cellsOf, hg, cut, Option.bind_some, hn, hdn, abin, aint, hw, Nat.reduceEqDiff, if_false, if_true, Nat.zero_add, Bool.false_eq_true]
      refine wp_seq' (wp_seq' (wp_reg ?_))
      have hm : (t.n - t.dn).tmod 4 = (t.n - t.dn) % 4 := Int.tmod_eq_emod_of_nonneg (by omega)
      have hq : (t.n - t.dn).tdiv 4 = (t.n - t.dn) / 4 := Int.tdiv_eq_ediv_of_nonneg (by omega)
      have h4 : ¬ ((4 : Int) = 0) := by decide
      simp only [c36_4, exec_p, exec_nil, apure, Opd.ev, Option.some.injEq, exists_eq_left', thenK, put_some, abin, aint, hm, h4, Nat.reduceEqDiff, if_false, if_true]
      refine wp_cond_if rfl (fun ht => ?_) (fun ht => ?_)
      · have ht' : (t.n - t.dn) % 4 > 0 := by simpa using ht
        refine wp_seq' (wp_reg ?_)
        have hw2 : IntKind.wrap .i64 ((t.n - t.dn) / 4) = (t.n - t.dn) / 4 := wrap_small (by omega) (by omega)
        have hw3 : IntKind.wrap .i64 ((t.n - t.dn) / 4 + 1) = (t.n - t.dn) / 4 + 1 := wrap_small (by omega) (by omega)
        simp only [c36_5, exec_p, exec_nil, apure, Opd.ev, Option.some.injEq, exists_eq_left', thenK, put_some, abin, aint, hq, h4, hw2, hw3, Nat.reduceEqDiff, if_false, if_true]
        exact wp_ret' (fin _ _ (by simp [leftOf, hd2, hle, ht']))
      · have ht' : ¬ (t.n - t.dn) % 4 > 0 := by simpa using ht
        have hw2 : IntKind.wrap .i64 ((t.n - t.dn) / 4) = (t.n - t.dn) / 4 := wrap_small (by omega) (by omega)
        refine wp_skip' (wp_seq' (wp_reg ?_))
        simp only [c36_6, exec_p, exec_nil, apure, Opd.ev, Option.some.injEq, exists_eq_left', thenK, put_some, abin, aint, hq, h4, hw2, Nat.reduceEqDiff, if_false, if_true]
        exact wp_ret' (fin _ _ (by simp [leftOf, hd2, hle, ht']))
  · have hd2' : (t.does != 2) = true := by simpa using hd2
    simp only [c36_1, exec_p, exec_g, gK_bool, gK_tup, exec_nil, apure, Opd.ev, Option.some.injEq, exists_eq_left', thenK, put_some, faddrA, aload, cellsOf, hg, cut, Option.bind_some, hd, hn, hdn, hd2', abin, aint, pickA, bne_self_eq_false, decide_true, Nat.reduceEqDiff, if_false, if_true, Nat.zero_add, Bool.false_eq_true, Bool.true_eq_false]
    refine wp_cond_if (t := true) rfl (fun _ => ?_) (fun h => by cases h)
    refine wp_seq' (wp_reg ?_)
    simp only [c36_2, exec_p, exec_nil, apure, Opd.ev, Option.some.injEq, exists_eq_left', thenK]
    exact wp_ret' (fin _ _ (by simp [leftOf, hd2]))

theorem leftOf_le {t : Th} (h0 : 0 ≤ t.dn) (h1 : t.n ≤ 1000) : 0 ≤ leftOf t ∧ leftOf t ≤ 251 := by
  unfold leftOf
  split
  · omega
  · split <;> omega

def sumTo (ts : List Th) : Nat → Int
  | 0 => 0
  | i + 1 => sumTo ts i + (match ts[i]? with | some t => leftOf t | none => 0)

theorem sumTo_succ {ts : List Th} {i : Nat} (hi : i < ts.length) : sumTo ts (i + 1) = sumTo ts i + leftOf ts[i] := by
  rw [sumTo, List.getElem?_eq_getElem hi]

def Fine (ts : List Th) : Prop := ∀ j (hj : j < ts.length), 0 ≤ ts[j].dn ∧ ts[j].n ≤ 1000

theorem sumTo_le {ts : List Th} (hf : Fine ts) : ∀ i, i ≤ ts.length → 0 ≤ sumTo ts i ∧ sumTo ts i ≤ 251 * i
  | 0, _ => by simp [sumTo]
  | i + 1, h => by
    have h1 := sumTo_le hf i (by omega)
    have h2 := leftOf_le (hf i (by omega)).1 (hf i (by omega)).2
    rw [sumTo_succ (by omega)]
    omega

theorem Left_wp {xs : List (List AV)} {ts : List Th} (hx : ThRows xs ts) (hlen : ts.length < 2 ^ 40) (hf : Fine ts) (t : Tail) (h : AHeap)
    (hleft : ∀ (h : AHeap) (row : List AV) (t : Th), ThRow row t → 0 ≤ t.dn → t.n ≤ 1000 → ACalls P 36 [.agg row] h (.int .i64 (leftOf t)) h) :
    WP P c17.code (keepK c17.results (.int .i64 (sumTo ts ts.length)) h) (args0 [.vs xs t]) h := by
  have hxl := hx.1
  simp only [c17]
  refine wp_seq' (wp_reg ?_)
  simp only [exec_p, exec_a, exec_e, exec_g, gK_bool, gK_tup, exec_nil, apure, aalloc, aeff, Opd.ev, Option.some.injEq, Prod.mk.injEq, exists_eq_left', exists_and_left, and_assoc, thenK, put_some, put_none, faddrA, aload, cellsOf, cut, Option.bind_some, Option.map_some, lenA, iaddrSA, abin, aint, aun, pickA, AV.cells, Int.toNat_natCast, bne_self_eq_false, beq_self_eq_true, decide_true, decide_false, Nat.reduceEqDiff, if_false, if_true, Nat.zero_add, Nat.add_zero, Nat.le_refl, AHeap.at_get, AHeap.set_get, AHeap.at_next, AHeap.set_next, Bool.false_eq_true, Bool.true_eq_false, Bool.not_true, Bool.not_false, List.map_cons, List.map_nil, c17_0]
  refine wp_seq' (wp_reg ?_)
  simp only [exec_p, exec_a, exec_e, exec_g, gK_bool, gK_tup, exec_nil, apure, aalloc, aeff, Opd.ev, Option.some.injEq, Prod.mk.injEq, exists_eq_left', exists_and_left, and_assoc, thenK, put_some, put_none, faddrA, aload, cellsOf, cut, Option.bind_some, Option.map_some, lenA, iaddrSA, abin, aint, aun, pickA, AV.cells, Int.toNat_natCast, bne_self_eq_false, beq_self_eq_true, decide_true, decide_false, Nat.reduceEqDiff, if_false, if_true, Nat.zero_add, Nat.add_zero, Nat.le_refl, AHeap.at_get, AHeap.set_get, AHeap.at_next, AHeap.set_next, Bool.false_eq_true, Bool.true_eq_false, Bool.not_true, Bool.not_false, List.map_cons, List.map_nil, c17_1]
  have ha0 : args0 [.vs xs t] 0 = .vs xs t := rfl
  refine wp_seq' (wp_seq' (wp_reg ?_))
  simp only [exec_p, exec_a, exec_e, exec_g, gK_bool, gK_tup, exec_nil, apure, aalloc, aeff, Opd.ev, Option.some.injEq, Prod.mk.injEq, exists_eq_left', exists_and_left, and_assoc, thenK, put_some, put_none, faddrA, aload, cellsOf, cut, Option.bind_some, Option.map_some, lenA, iaddrSA, abin, aint, aun, pickA, AV.cells, Int.toNat_natCast, bne_self_eq_false, beq_self_eq_true, decide_true, decide_false, Nat.reduceEqDiff, if_false, if_true, Nat.zero_add, Nat.add_zero, Nat.le_refl, AHeap.at_get, AHeap.set_get, AHeap.at_next, AHeap.set_next, Bool.false_eq_true, Bool.true_eq_false, Bool.not_true, Bool.not_false, List.map_cons, List.map_nil, c17_2, ha0, hxl]
  let I : Nat → Env → AHeap → Prop := fun n ρ h' => (∀ b, b < h.next → h'.get b = h.get b) ∧ h.next ≤ h'.next ∧ ∃ i : Nat, ts.length = i + n ∧ ρ 6 = .vs xs t ∧ ρ 7 = .int .i64 ts.length ∧ ρ 8 = .int .i64 i ∧ ρ 3 = .int .i64 (sumTo ts i)
  refine wp_block' (wp_loop_n I ?_ ts.length ⟨fun _ _ => rfl, Nat.le_refl _, 0, by omega, rfl, rfl, rfl, rfl⟩)
  rintro n ρ h' ⟨hold, hnx, i, hin, h6, h7, h8, h3⟩
  refine wp_seq' (wp_reg ?_)
  simp only [exec_p, exec_a, exec_e, exec_g, gK_bool, gK_tup, exec_nil, apure, aalloc, aeff, Opd.ev, Option.some.injEq, Prod.mk.injEq, exists_eq_left', exists_and_left, and_assoc, thenK, put_some, put_none, faddrA, aload, cellsOf, cut, Option.bind_some, Option.map_some, lenA, iaddrSA, abin, aint, aun, pickA, AV.cells, Int.toNat_natCast, bne_self_eq_false, beq_self_eq_true, decide_true, decide_false, Nat.reduceEqDiff, if_false, if_true, Nat.zero_add, Nat.add_zero, Nat.le_refl, AHeap.at_get, AHeap.set_get, AHeap.at_next, AHeap.set_next, Bool.false_eq_true, Bool.true_eq_false, Bool.not_true, Bool.not_false, List.map_cons, List.map_nil, c17_3, h7, h8]
  refine wp_seq' (wp_cond_if (t := decide ((i : Int) < (ts.length : Int))) rfl (fun ht => ?_) (fun ht => ?_))
  · have hi : i < ts.length := by have : (i : Int) < ts.length := by simpa using ht
                                  omega
    obtain ⟨row, hrow, hrl, hd, hdn, hn, hone⟩ := hx.row hi
    have hi0 : (0 : Int) ≤ (i : Int) := by omega
    have hdr : (row.drop 0).take 12 = row := by rw [List.drop_zero, List.take_of_length_le (by omega)]
    have hle12 : 0 + 12 ≤ row.length := by omega
    have hall : row.all AV.one = true := by rw [List.all_eq_true]; exact hone
    refine wp_skip' (wp_seq' (wp_block' (wp_seq' (wp_reg ?_))))
    simp only [exec_p, exec_a, exec_e, exec_g, gK_bool, gK_tup, exec_nil, apure, aalloc, aeff, Opd.ev, Option.some.injEq, Prod.mk.injEq, exists_eq_left', exists_and_left, and_assoc, thenK, put_some, put_none, faddrA, aload, cellsOf, cut, Option.bind_some, Option.map_some, lenA, iaddrSA, abin, aint, aun, pickA, AV.cells, Int.toNat_natCast, bne_self_eq_false, beq_self_eq_true, decide_true, decide_false, Nat.reduceEqDiff, if_false, if_true, Nat.zero_add, Nat.add_zero, Nat.le_refl, AHeap.at_get, AHeap.set_get, AHeap.at_next, AHeap.set_next, Bool.false_eq_true, Bool.true_eq_false, Bool.not_true, Bool.not_false, List.map_cons, List.map_nil, c17_4, h6, h8, hrow, hi0, hrl, hle12, hdr]
    refine ⟨_, _, store_all (z := [_, _, _, _, _, _, _, _, _, _, _, _]) (by rw [AHeap.at_get, if_pos rfl]) rfl hrl hall, ?_⟩
    generalize hh : AHeap.set _ _ _ = h2
    have hg2 : h2.get h'.next = some (.cells row) := by rw [← hh, AHeap.set_get, if_pos rfl]
    have hold2 : ∀ b, b < h'.next → h2.get b = h'.get b := fun b hb => by rw [← hh, AHeap.set_get, if_neg (by omega), AHeap.at_get, if_neg (by omega)]
    have hnx2 : h'.next ≤ h2.next := by rw [← hh, AHeap.set_next, AHeap.at_next]; omega
    refine wp_reg ?_
    simp only [exec_p, exec_a, exec_e, exec_g, gK_bool, gK_tup, exec_nil, apure, aalloc, aeff, Opd.ev, Option.some.injEq, Prod.mk.injEq, exists_eq_left', exists_and_left, and_assoc, thenK, put_some, put_none, faddrA, aload, cellsOf, cut, Option.bind_some, Option.map_some, lenA, iaddrSA, abin, aint, aun, pickA, AV.cells, Int.toNat_natCast, bne_self_eq_false, beq_self_eq_true, decide_true, decide_false, Nat.reduceEqDiff, if_false, if_true, Nat.zero_add, Nat.add_zero, Nat.le_refl, AHeap.at_get, AHeap.set_get, AHeap.at_next, AHeap.set_next, Bool.false_eq_true, Bool.true_eq_false, Bool.not_true, Bool.not_false, List.map_cons, List.map_nil, c17_5, h3, hg2, hrl, hle12, hdr]
    have hfi := hf i hi
    refine exec_call (v := .int .i64 (leftOf ts[i])) (h' := h2) ?_ ?_
    · exact hleft h2 row ts[i] ⟨hrl, hd, hdn, hn, hone⟩ hfi.1 hfi.2
    have hs := sumTo_le hf i (by omega)
    have hl := leftOf_le hfi.1 hfi.2
    have hw : IntKind.wrap .i64 (sumTo ts i + leftOf ts[i]) = sumTo ts (i + 1) := by rw [wrap_small (by omega) (by omega), sumTo_succ hi]
    have hw2 : IntKind.wrap .i64 ((i : Int) + 1) = ((i + 1 : Nat) : Int) := by rw [wrap_small] <;> omega
    simp only [exec_p, exec_a, exec_e, exec_g, gK_bool, gK_tup, exec_nil, apure, aalloc, aeff, Opd.ev, Option.some.injEq, Prod.mk.injEq, exists_eq_left', exists_and_left, and_assoc, thenK, put_some, put_none, faddrA, aload, cellsOf, cut, Option.bind_some, Option.map_some, lenA, iaddrSA, abin, aint, aun, pickA, AV.cells, Int.toNat_natCast, bne_self_eq_false, beq_self_eq_true, decide_true, decide_false, Nat.reduceEqDiff, if_false, if_true, Nat.zero_add, Nat.add_zero, Nat.le_refl, AHeap.at_get, AHeap.set_get, AHeap.at_next, AHeap.set_next, Bool.false_eq_true, Bool.true_eq_false, Bool.not_true, Bool.not_false, List.map_cons, List.map_nil, h3, hw]
    refine wp_reg ?_
    simp only [exec_p, exec_a, exec_e, exec_g, gK_bool, gK_tup, exec_nil, apure, aalloc, aeff, Opd.ev, Option.some.injEq, Prod.mk.injEq, exists_eq_left', exists_and_left, and_assoc, thenK, put_some, put_none, faddrA, aload, cellsOf, cut, Option.bind_some, Option.map_some, lenA, iaddrSA, abin, aint, aun, pickA, AV.cells, Int.toNat_natCast, bne_self_eq_false, beq_self_eq_true, decide_true, decide_false, Nat.reduceEqDiff, if_false, if_true, Nat.zero_add, Nat.add_zero, Nat.le_refl, AHeap.at_get, AHeap.set_get, AHeap.at_next, AHeap.set_next, Bool.false_eq_true, Bool.true_eq_false, Bool.not_true, Bool.not_false, List.map_cons, List.map_nil, c17_6, h8, hw2]
    refine ⟨n - 1, by omega, fun b hb => by rw [hold2 b (by omega)]; exact hold b hb, by omega, i + 1, by omega, ?_, ?_, ?_, ?_⟩
    · simp only [exec_p, exec_a, exec_e, exec_g, gK_bool, gK_tup, exec_nil, apure, aalloc, aeff, Opd.ev, Option.some.injEq, Prod.mk.injEq, exists_eq_left', exists_and_left, and_assoc, thenK, put_some, put_none, faddrA, aload, cellsOf, cut, Option.bind_some, Option.map_some, lenA, iaddrSA, abin, aint, aun, pickA, AV.cells, Int.toNat_natCast, bne_self_eq_false, beq_self_eq_true, decide_true, decide_false, Nat.reduceEqDiff, if_false, if_true, Nat.zero_add, Nat.add_zero, Nat.le_refl, AHeap.at_get, AHeap.set_get, AHeap.at_next, AHeap.set_next, Bool.false_eq_true, Bool.true_eq_false, Bool.not_true, Bool.not_false, List.map_cons, List.map_nil, h6]
    · simp only [exec_p, exec_a, exec_e, exec_g, gK_bool, gK_tup, exec_nil, apure, aalloc, aeff, Opd.ev, Option.some.injEq, Prod.mk.injEq, exists_eq_left', exists_and_left, and_assoc, thenK, put_some, put_none, faddrA, aload, cellsOf, cut, Option.bind_some, Option.map_some, lenA, iaddrSA, abin, aint, aun, pickA, AV.cells, Int.toNat_natCast, bne_self_eq_false, beq_self_eq_true, decide_true, decide_false, Nat.reduceEqDiff, if_false, if_true, Nat.zero_add, Nat.add_zero, Nat.le_refl, AHeap.at_get, AHeap.set_get, AHeap.at_next, AHeap.set_next, Bool.false_eq_true, Bool.true_eq_false, Bool.not_true, Bool.not_false, List.map_cons, List.map_nil, h7]
    · simp only [exec_p, exec_a, exec_e, exec_g, gK_bool, gK_tup, exec_nil, apure, aalloc, aeff, Opd.ev, Option.some.injEq, Prod.mk.injEq, exists_eq_left', exists_and_left, and_assoc, thenK, put_some, put_none, faddrA, aload, cellsOf, cut, Option.bind_some, Option.map_some, lenA, iaddrSA, abin, aint, aun, pickA, AV.cells, Int.toNat_natCast, bne_self_eq_false, beq_self_eq_true, decide_true, decide_false, Nat.reduceEqDiff, if_false, if_true, Nat.zero_add, Nat.add_zero, Nat.le_refl, AHeap.at_get, AHeap.set_get, AHeap.at_next, AHeap.set_next, Bool.false_eq_true, Bool.true_eq_false, Bool.not_true, Bool.not_false, List.map_cons, List.map_nil]
    · simp only [exec_p, exec_a, exec_e, exec_g, gK_bool, gK_tup, exec_nil, apure, aalloc, aeff, Opd.ev, Option.some.injEq, Prod.mk.injEq, exists_eq_left', exists_and_left, and_assoc, thenK, put_some, put_none, faddrA, aload, cellsOf, cut, Option.bind_some, Option.map_some, lenA, iaddrSA, abin, aint, aun, pickA, AV.cells, Int.toNat_natCast, bne_self_eq_false, beq_self_eq_true, decide_true, decide_false, Nat.reduceEqDiff, if_false, if_true, Nat.zero_add, Nat.add_zero, Nat.le_refl, AHeap.at_get, AHeap.set_get, AHeap.at_next, AHeap.set_next, Bool.false_eq_true, Bool.true_eq_false, Bool.not_true, Bool.not_false, List.map_cons, List.map_nil]
  · have hi : i = ts.length := by have : ¬ (i : Int) < ts.length := by simpa using ht
                                  omega
    refine wp_exit' ?_
    refine wp_seq' (wp_reg ?_)
    simp only [exec_p, exec_a, exec_e, exec_g, gK_bool, gK_tup, exec_nil, apure, aalloc, aeff, Opd.ev, Option.some.injEq, Prod.mk.injEq, exists_eq_left', exists_and_left, and_assoc, thenK, put_some, put_none, faddrA, aload, cellsOf, cut, Option.bind_some, Option.map_some, lenA, iaddrSA, abin, aint, aun, pickA, AV.cells, Int.toNat_natCast, bne_self_eq_false, beq_self_eq_true, decide_true, decide_false, Nat.reduceEqDiff, if_false, if_true, Nat.zero_add, Nat.add_zero, Nat.le_refl, AHeap.at_get, AHeap.set_get, AHeap.at_next, AHeap.set_next, Bool.false_eq_true, Bool.true_eq_false, Bool.not_true, Bool.not_false, List.map_cons, List.map_nil, c17_7, h3]
    refine wp_ret' ⟨?_, hold⟩
    simp only [resL, resOne, put_some, if_true, Option.map_some, tupOf, hi]

theorem refQuiet_wp {xs : List (List AV)} {ts : List Th} (hx : ThRows xs ts) (hlen : ts.length < 2 ^ 40) (t : Tail) (h : AHeap) :
    WP P c16.code (keepK c16.results (.bool (ts.all fun t => t.does != 2)) h) (args0 [.vs xs t]) h := by
  have hxl := hx.1
  simp only [c16]
  refine wp_seq' (wp_reg ?_)
  simp only [exec_p, exec_a, exec_e, exec_g, gK_bool, gK_tup, exec_nil, apure, aalloc, aeff, Opd.ev, Option.some.injEq, Prod.mk.injEq, exists_eq_left', exists_and_left, and_assoc, thenK, put_some, put_none, faddrA, aload, cellsOf, cut, Option.bind_some, Option.map_some, lenA, iaddrSA, abin, aint, aun, pickA, AV.cells, Int.toNat_natCast, bne_self_eq_false, beq_self_eq_true, decide_true, decide_false, Nat.reduceEqDiff, if_false, if_true, Nat.zero_add, Nat.add_zero, Nat.le_refl, AHeap.at_get, AHeap.set_get, AHeap.at_next, AHeap.set_next, Bool.false_eq_true, Bool.true_eq_false, Bool.not_true, Bool.not_false, List.map_cons, List.map_nil, c16_0]
  refine wp_seq' (wp_seq' (wp_reg ?_))
  simp only [exec_p, exec_a, exec_e, exec_g, gK_bool, gK_tup, exec_nil, apure, aalloc, aeff, Opd.ev, Option.some.injEq, Prod.mk.injEq, exists_eq_left', exists_and_left, and_assoc, thenK, put_some, put_none, faddrA, aload, cellsOf, cut, Option.bind_some, Option.map_some, lenA, iaddrSA, abin, aint, aun, pickA, AV.cells, Int.toNat_natCast, bne_self_eq_false, beq_self_eq_true, decide_true, decide_false, Nat.reduceEqDiff, if_false, if_true, Nat.zero_add, Nat.add_zero, Nat.le_refl, AHeap.at_get, AHeap.set_get, AHeap.at_next, AHeap.set_next, Bool.false_eq_true, Bool.true_eq_false, Bool.not_true, Bool.not_false, List.map_cons, List.map_nil, c16_1]
  let I : Nat → Env → AHeap → Prop := fun n ρ h' => h' = h ∧ ∃ i : Nat, ts.length = i + n ∧ ρ 0 = .vs xs t ∧ ρ 3 = .int .i64 i ∧ ∀ j (hj : j < ts.length), j < i → ts[j].does ≠ 2
  refine wp_block' (wp_loop_n I ?_ ts.length ⟨rfl, 0, by omega, rfl, rfl, fun j hj h => by omega⟩)
  rintro n ρ h' ⟨rfl, i, hin, h0, h3, hall⟩
  refine wp_seq' (wp_seq' (wp_reg ?_))
  simp only [exec_p, exec_a, exec_e, exec_g, gK_bool, gK_tup, exec_nil, apure, aalloc, aeff, Opd.ev, Option.some.injEq, Prod.mk.injEq, exists_eq_left', exists_and_left, and_assoc, thenK, put_some, put_none, faddrA, aload, cellsOf, cut, Option.bind_some, Option.map_some, lenA, iaddrSA, abin, aint, aun, pickA, AV.cells, Int.toNat_natCast, bne_self_eq_false, beq_self_eq_true, decide_true, decide_false, Nat.reduceEqDiff, if_false, if_true, Nat.zero_add, Nat.add_zero, Nat.le_refl, AHeap.at_get, AHeap.set_get, AHeap.at_next, AHeap.set_next, Bool.false_eq_true, Bool.true_eq_false, Bool.not_true, Bool.not_false, List.map_cons, List.map_nil, c16_2, h0, h3, hxl]
  refine wp_cond_if (t := decide ((i : Int) < (ts.length : Int))) rfl (fun ht => ?_) (fun ht => ?_)
  · have hi : i < ts.length := by have : (i : Int) < ts.length := by simpa using ht
                                  omega
    obtain ⟨row, hrow, hrl, hd, hdn, hn, hone⟩ := hx.row hi
    have hi0 : (0 : Int) ≤ (i : Int) := by omega
    refine wp_skip' (wp_seq' (wp_block' (wp_seq' (wp_reg ?_))))
    simp only [exec_p, exec_a, exec_e, exec_g, gK_bool, gK_tup, exec_nil, apure, aalloc, aeff, Opd.ev, Option.some.injEq, Prod.mk.injEq, exists_eq_left', exists_and_left, and_assoc, thenK, put_some, put_none, faddrA, aload, cellsOf, cut, Option.bind_some, Option.map_some, lenA, iaddrSA, abin, aint, aun, pickA, AV.cells, Int.toNat_natCast, bne_self_eq_false, beq_self_eq_true, decide_true, decide_false, Nat.reduceEqDiff, if_false, if_true, Nat.zero_add, Nat.add_zero, Nat.le_refl, AHeap.at_get, AHeap.set_get, AHeap.at_next, AHeap.set_next, Bool.false_eq_true, Bool.true_eq_false, Bool.not_true, Bool.not_false, List.map_cons, List.map_nil, c16_3, h0, h3, hrow, hi0, hrl, hd]
    refine wp_cond_if (t := ts[i].does == 2) rfl (fun ht => ?_) (fun ht => ?_)
    · refine wp_seq' (wp_reg ?_)
      simp only [exec_p, exec_a, exec_e, exec_g, gK_bool, gK_tup, exec_nil, apure, aalloc, aeff, Opd.ev, Option.some.injEq, Prod.mk.injEq, exists_eq_left', exists_and_left, and_assoc, thenK, put_some, put_none, faddrA, aload, cellsOf, cut, Option.bind_some, Option.map_some, lenA, iaddrSA, abin, aint, aun, pickA, AV.cells, Int.toNat_natCast, bne_self_eq_false, beq_self_eq_true, decide_true, decide_false, Nat.reduceEqDiff, if_false, if_true, Nat.zero_add, Nat.add_zero, Nat.le_refl, AHeap.at_get, AHeap.set_get, AHeap.at_next, AHeap.set_next, Bool.false_eq_true, Bool.true_eq_false, Bool.not_true, Bool.not_false, List.map_cons, List.map_nil, c16_4]
      refine wp_ret' ⟨?_, fun _ _ => rfl⟩
      have : (ts.all fun t => t.does != 2) = false := all_not hi (by simpa using ht)
      simp only [resL, resOne, put_some, if_true, Option.map_some, tupOf, this]
    · refine wp_skip' (wp_reg ?_)
      have hw2 : IntKind.wrap .i64 ((i : Int) + 1) = ((i + 1 : Nat) : Int) := by rw [wrap_small] <;> omega
      simp only [exec_p, exec_a, exec_e, exec_g, gK_bool, gK_tup, exec_nil, apure, aalloc, aeff, Opd.ev, Option.some.injEq, Prod.mk.injEq, exists_eq_left', exists_and_left, and_assoc, thenK, put_some, put_none, faddrA, aload, cellsOf, cut, Option.bind_some, Option.map_some, lenA, iaddrSA, abin, aint, aun, pickA, AV.cells, Int.toNat_natCast, bne_self_eq_false, beq_self_eq_true, decide_true, decide_false, Nat.reduceEqDiff, if_false, if_true, Nat.zero_add, Nat.add_zero, Nat.le_refl, AHeap.at_get, AHeap.set_get, AHeap.at_next, AHeap.set_next, Bool.false_eq_true, Bool.true_eq_false, Bool.not_true, Bool.not_false, List.map_cons, List.map_nil, c16_5, h3, hw2]
      refine ⟨n - 1, by omega, rfl, i + 1, by omega, ?_, ?_, fun j hj hji => ?_⟩
      · simp only [exec_p, exec_a, exec_e, exec_g, gK_bool, gK_tup, exec_nil, apure, aalloc, aeff, Opd.ev, Option.some.injEq, Prod.mk.injEq, exists_eq_left', exists_and_left, and_assoc, thenK, put_some, put_none, faddrA, aload, cellsOf, cut, Option.bind_some, Option.map_some, lenA, iaddrSA, abin, aint, aun, pickA, AV.cells, Int.toNat_natCast, bne_self_eq_false, beq_self_eq_true, decide_true, decide_false, Nat.reduceEqDiff, if_false, if_true, Nat.zero_add, Nat.add_zero, Nat.le_refl, AHeap.at_get, AHeap.set_get, AHeap.at_next, AHeap.set_next, Bool.false_eq_true, Bool.true_eq_false, Bool.not_true, Bool.not_false, List.map_cons, List.map_nil, h0]
      · simp only [exec_p, exec_a, exec_e, exec_g, gK_bool, gK_tup, exec_nil, apure, aalloc, aeff, Opd.ev, Option.some.injEq, Prod.mk.injEq, exists_eq_left', exists_and_left, and_assoc, thenK, put_some, put_none, faddrA, aload, cellsOf, cut, Option.bind_some, Option.map_some, lenA, iaddrSA, abin, aint, aun, pickA, AV.cells, Int.toNat_natCast, bne_self_eq_false, beq_self_eq_true, decide_true, decide_false, Nat.reduceEqDiff, if_false, if_true, Nat.zero_add, Nat.add_zero, Nat.le_refl, AHeap.at_get, AHeap.set_get, AHeap.at_next, AHeap.set_next, Bool.false_eq_true, Bool.true_eq_false, Bool.not_true, Bool.not_false, List.map_cons, List.map_nil]
      · by_cases hjj : j = i
        · subst hjj; simpa using ht
        · exact hall j hj (by omega)
  · have hi : i = ts.length := by have : ¬ (i : Int) < ts.length := by simpa using ht
                                  omega
    refine wp_exit' ?_
    refine wp_seq' (wp_reg ?_)
    simp only [exec_p, exec_a, exec_e, exec_g, gK_bool, gK_tup, exec_nil, apure, aalloc, aeff, Opd.ev, Option.some.injEq, Prod.mk.injEq, exists_eq_left', exists_and_left, and_assoc, thenK, put_some, put_none, faddrA, aload, cellsOf, cut, Option.bind_some, Option.map_some, lenA, iaddrSA, abin, aint, aun, pickA, AV.cells, Int.toNat_natCast, bne_self_eq_false, beq_self_eq_true, decide_true, decide_false, Nat.reduceEqDiff, if_false, if_true, Nat.zero_add, Nat.add_zero, Nat.le_refl, AHeap.at_get, AHeap.set_get, AHeap.at_next, AHeap.set_next, Bool.false_eq_true, Bool.true_eq_false, Bool.not_true, Bool.not_false, List.map_cons, List.map_nil, c16_6]
    refine wp_ret' ⟨?_, fun _ _ => rfl⟩
    have : (ts.all fun t => t.does != 2) = true := all_done (fun j hj => by simpa using hall j hj (by omega))
    simp only [resL, resOne, put_some, if_true, Option.map_some, tupOf, this]

/-- How many fours, from j on to n. -/
def fours (j n : Int) : Int := if j < n then (n - j + 3) / 4 else 0

theorem fours_left {t : Th} (hd : t.does = 2) : fours t.dn t.n = leftOf t := by
  unfold fours leftOf
  simp only [hd, ne_eq, not_true_eq_false, false_or]
  by_cases h : t.n ≤ t.dn
  · rw [if_neg (by omega), if_pos h]
  · rw [if_pos (by omega), if_neg h]
    split <;> omega

theorem refLeft_wp {xs : List (List AV)} {ts : List Th} (hx : ThRows xs ts) (hlen : ts.length < 2 ^ 40) (hf : Fine ts) (t : Tail) (h : AHeap) :
    WP P c18.code (keepK c18.results (.int .i64 (sumTo ts ts.length)) h) (args0 [.vs xs t]) h := by
  have hxl := hx.1
  simp only [c18]
  refine wp_seq' (wp_reg ?_)
  simp only [exec_p, exec_a, exec_e, exec_g, gK_bool, gK_tup, exec_nil, apure, aalloc, aeff, Opd.ev, Option.some.injEq, Prod.mk.injEq, exists_eq_left', exists_and_left, and_assoc, thenK, put_some, put_none, faddrA, aload, cellsOf, cut, Option.bind_some, Option.map_some, lenA, iaddrSA, abin, aint, aun, pickA, AV.cells, Int.toNat_natCast, bne_self_eq_false, beq_self_eq_true, decide_true, decide_false, Nat.reduceEqDiff, if_false, if_true, Nat.zero_add, Nat.add_zero, Nat.le_refl, AHeap.at_get, AHeap.set_get, AHeap.at_next, AHeap.set_next, Bool.false_eq_true, Bool.true_eq_false, Bool.not_true, Bool.not_false, List.map_cons, List.map_nil, c18_0]
  refine wp_seq' (wp_reg ?_)
  simp only [exec_p, exec_a, exec_e, exec_g, gK_bool, gK_tup, exec_nil, apure, aalloc, aeff, Opd.ev, Option.some.injEq, Prod.mk.injEq, exists_eq_left', exists_and_left, and_assoc, thenK, put_some, put_none, faddrA, aload, cellsOf, cut, Option.bind_some, Option.map_some, lenA, iaddrSA, abin, aint, aun, pickA, AV.cells, Int.toNat_natCast, bne_self_eq_false, beq_self_eq_true, decide_true, decide_false, Nat.reduceEqDiff, if_false, if_true, Nat.zero_add, Nat.add_zero, Nat.le_refl, AHeap.at_get, AHeap.set_get, AHeap.at_next, AHeap.set_next, Bool.false_eq_true, Bool.true_eq_false, Bool.not_true, Bool.not_false, List.map_cons, List.map_nil, c18_1]
  refine wp_seq' (wp_seq' (wp_reg ?_))
  simp only [exec_p, exec_a, exec_e, exec_g, gK_bool, gK_tup, exec_nil, apure, aalloc, aeff, Opd.ev, Option.some.injEq, Prod.mk.injEq, exists_eq_left', exists_and_left, and_assoc, thenK, put_some, put_none, faddrA, aload, cellsOf, cut, Option.bind_some, Option.map_some, lenA, iaddrSA, abin, aint, aun, pickA, AV.cells, Int.toNat_natCast, bne_self_eq_false, beq_self_eq_true, decide_true, decide_false, Nat.reduceEqDiff, if_false, if_true, Nat.zero_add, Nat.add_zero, Nat.le_refl, AHeap.at_get, AHeap.set_get, AHeap.at_next, AHeap.set_next, Bool.false_eq_true, Bool.true_eq_false, Bool.not_true, Bool.not_false, List.map_cons, List.map_nil, c18_2]
  let I : Nat → Env → AHeap → Prop := fun n ρ h' => h' = h ∧ ∃ i : Nat, ts.length = i + n ∧ ρ 0 = .vs xs t ∧ ρ 4 = .int .i64 i ∧ ρ 3 = .int .i64 (sumTo ts i)
  refine wp_block' (wp_loop_n I ?_ ts.length ⟨rfl, 0, by omega, rfl, rfl, rfl⟩)
  rintro n ρ h' ⟨rfl, i, hin, h0, h4, h3⟩
  refine wp_seq' (wp_seq' (wp_reg ?_))
  simp only [exec_p, exec_a, exec_e, exec_g, gK_bool, gK_tup, exec_nil, apure, aalloc, aeff, Opd.ev, Option.some.injEq, Prod.mk.injEq, exists_eq_left', exists_and_left, and_assoc, thenK, put_some, put_none, faddrA, aload, cellsOf, cut, Option.bind_some, Option.map_some, lenA, iaddrSA, abin, aint, aun, pickA, AV.cells, Int.toNat_natCast, bne_self_eq_false, beq_self_eq_true, decide_true, decide_false, Nat.reduceEqDiff, if_false, if_true, Nat.zero_add, Nat.add_zero, Nat.le_refl, AHeap.at_get, AHeap.set_get, AHeap.at_next, AHeap.set_next, Bool.false_eq_true, Bool.true_eq_false, Bool.not_true, Bool.not_false, List.map_cons, List.map_nil, c18_3, h0, h4, hxl]
  refine wp_cond_if (t := decide ((i : Int) < (ts.length : Int))) rfl (fun ht => ?_) (fun ht => ?_)
  · have hi : i < ts.length := by have : (i : Int) < ts.length := by simpa using ht
                                  omega
    obtain ⟨row, hrow, hrl, hd, hdn, hn, hone⟩ := hx.row hi
    have hi0 : (0 : Int) ≤ (i : Int) := by omega
    have hfi := hf i hi
    have hs := sumTo_le hf i (by omega)
    have hl := leftOf_le hfi.1 hfi.2
    have hw2 : IntKind.wrap .i64 ((i : Int) + 1) = ((i + 1 : Nat) : Int) := by rw [wrap_small] <;> omega
    have next : ∀ (ρ' : Env), ρ' 0 = .vs xs t → ρ' 4 = .int .i64 i → ρ' 3 = .int .i64 (sumTo ts (i + 1)) → WP P (.reg c18_9) (thenK (fun ρ' h'' => ∃ m, m < n ∧ I m ρ' h'') (blockK 0 (thenK (WP P ((RCode.reg c18_10).seq RCode.ret) (keepK [RRes.tmp 2] (.int .i64 (sumTo ts ts.length)) h')) (keepK [RRes.tmp 2] (.int .i64 (sumTo ts ts.length)) h')))) ρ' h' := by
      intro ρ' h0 h4 h3
      refine wp_reg ?_
      simp only [exec_p, exec_a, exec_e, exec_g, gK_bool, gK_tup, exec_nil, apure, aalloc, aeff, Opd.ev, Option.some.injEq, Prod.mk.injEq, exists_eq_left', exists_and_left, and_assoc, thenK, put_some, put_none, faddrA, aload, cellsOf, cut, Option.bind_some, Option.map_some, lenA, iaddrSA, abin, aint, aun, pickA, AV.cells, Int.toNat_natCast, bne_self_eq_false, beq_self_eq_true, decide_true, decide_false, Nat.reduceEqDiff, if_false, if_true, Nat.zero_add, Nat.add_zero, Nat.le_refl, AHeap.at_get, AHeap.set_get, AHeap.at_next, AHeap.set_next, Bool.false_eq_true, Bool.true_eq_false, Bool.not_true, Bool.not_false, List.map_cons, List.map_nil, c18_9, h4, hw2]
      refine ⟨n - 1, by omega, rfl, i + 1, by omega, ?_, ?_, ?_⟩
      · simp only [exec_p, exec_a, exec_e, exec_g, gK_bool, gK_tup, exec_nil, apure, aalloc, aeff, Opd.ev, Option.some.injEq, Prod.mk.injEq, exists_eq_left', exists_and_left, and_assoc, thenK, put_some, put_none, faddrA, aload, cellsOf, cut, Option.bind_some, Option.map_some, lenA, iaddrSA, abin, aint, aun, pickA, AV.cells, Int.toNat_natCast, bne_self_eq_false, beq_self_eq_true, decide_true, decide_false, Nat.reduceEqDiff, if_false, if_true, Nat.zero_add, Nat.add_zero, Nat.le_refl, AHeap.at_get, AHeap.set_get, AHeap.at_next, AHeap.set_next, Bool.false_eq_true, Bool.true_eq_false, Bool.not_true, Bool.not_false, List.map_cons, List.map_nil, h0]
      · simp only [exec_p, exec_a, exec_e, exec_g, gK_bool, gK_tup, exec_nil, apure, aalloc, aeff, Opd.ev, Option.some.injEq, Prod.mk.injEq, exists_eq_left', exists_and_left, and_assoc, thenK, put_some, put_none, faddrA, aload, cellsOf, cut, Option.bind_some, Option.map_some, lenA, iaddrSA, abin, aint, aun, pickA, AV.cells, Int.toNat_natCast, bne_self_eq_false, beq_self_eq_true, decide_true, decide_false, Nat.reduceEqDiff, if_false, if_true, Nat.zero_add, Nat.add_zero, Nat.le_refl, AHeap.at_get, AHeap.set_get, AHeap.at_next, AHeap.set_next, Bool.false_eq_true, Bool.true_eq_false, Bool.not_true, Bool.not_false, List.map_cons, List.map_nil]
      · simp only [exec_p, exec_a, exec_e, exec_g, gK_bool, gK_tup, exec_nil, apure, aalloc, aeff, Opd.ev, Option.some.injEq, Prod.mk.injEq, exists_eq_left', exists_and_left, and_assoc, thenK, put_some, put_none, faddrA, aload, cellsOf, cut, Option.bind_some, Option.map_some, lenA, iaddrSA, abin, aint, aun, pickA, AV.cells, Int.toNat_natCast, bne_self_eq_false, beq_self_eq_true, decide_true, decide_false, Nat.reduceEqDiff, if_false, if_true, Nat.zero_add, Nat.add_zero, Nat.le_refl, AHeap.at_get, AHeap.set_get, AHeap.at_next, AHeap.set_next, Bool.false_eq_true, Bool.true_eq_false, Bool.not_true, Bool.not_false, List.map_cons, List.map_nil, h3]
    refine wp_skip' (wp_seq' (wp_block' (wp_seq' (wp_reg ?_))))
    simp only [exec_p, exec_a, exec_e, exec_g, gK_bool, gK_tup, exec_nil, apure, aalloc, aeff, Opd.ev, Option.some.injEq, Prod.mk.injEq, exists_eq_left', exists_and_left, and_assoc, thenK, put_some, put_none, faddrA, aload, cellsOf, cut, Option.bind_some, Option.map_some, lenA, iaddrSA, abin, aint, aun, pickA, AV.cells, Int.toNat_natCast, bne_self_eq_false, beq_self_eq_true, decide_true, decide_false, Nat.reduceEqDiff, if_false, if_true, Nat.zero_add, Nat.add_zero, Nat.le_refl, AHeap.at_get, AHeap.set_get, AHeap.at_next, AHeap.set_next, Bool.false_eq_true, Bool.true_eq_false, Bool.not_true, Bool.not_false, List.map_cons, List.map_nil, c18_4, h0, h4, hrow, hi0, hrl, hd]
    refine wp_cond_if (t := ts[i].does == 2) rfl (fun ht => ?_) (fun ht => ?_)
    · have hd2 : ts[i].does = 2 := by simpa using ht
      refine wp_seq' (wp_reg ?_)
      simp only [exec_p, exec_a, exec_e, exec_g, gK_bool, gK_tup, exec_nil, apure, aalloc, aeff, Opd.ev, Option.some.injEq, Prod.mk.injEq, exists_eq_left', exists_and_left, and_assoc, thenK, put_some, put_none, faddrA, aload, cellsOf, cut, Option.bind_some, Option.map_some, lenA, iaddrSA, abin, aint, aun, pickA, AV.cells, Int.toNat_natCast, bne_self_eq_false, beq_self_eq_true, decide_true, decide_false, Nat.reduceEqDiff, if_false, if_true, Nat.zero_add, Nat.add_zero, Nat.le_refl, AHeap.at_get, AHeap.set_get, AHeap.at_next, AHeap.set_next, Bool.false_eq_true, Bool.true_eq_false, Bool.not_true, Bool.not_false, List.map_cons, List.map_nil, c18_5, h0, h4, hrow, hi0, hrl, hdn]
      refine wp_block' (wp_loop_n (fun m ρ h2 => h2 = h' ∧ ∃ (j : Int), ts[i].dn ≤ j ∧ (j = ts[i].dn ∨ j < 1004) ∧ (m : Int) = fours j ts[i].n ∧ ρ 0 = .vs xs t ∧ ρ 4 = .int .i64 i ∧ ρ 5 = .int .i64 j ∧ ρ 3 = .int .i64 (sumTo ts (i + 1) - fours j ts[i].n)) ?_ (fours ts[i].dn ts[i].n).toNat ?_)
      · rintro m ρ h2 ⟨rfl, j, hj1, hj2, hm, g0, g4, g5, g3⟩
        refine wp_seq' (wp_seq' (wp_reg ?_))
        simp only [exec_p, exec_a, exec_e, exec_g, gK_bool, gK_tup, exec_nil, apure, aalloc, aeff, Opd.ev, Option.some.injEq, Prod.mk.injEq, exists_eq_left', exists_and_left, and_assoc, thenK, put_some, put_none, faddrA, aload, cellsOf, cut, Option.bind_some, Option.map_some, lenA, iaddrSA, abin, aint, aun, pickA, AV.cells, Int.toNat_natCast, bne_self_eq_false, beq_self_eq_true, decide_true, decide_false, Nat.reduceEqDiff, if_false, if_true, Nat.zero_add, Nat.add_zero, Nat.le_refl, AHeap.at_get, AHeap.set_get, AHeap.at_next, AHeap.set_next, Bool.false_eq_true, Bool.true_eq_false, Bool.not_true, Bool.not_false, List.map_cons, List.map_nil, c18_6, g0, g4, g5, hrow, hi0, hrl, hn]
        refine wp_cond_if (t := decide (j < ts[i].n)) rfl (fun ht => ?_) (fun ht => ?_)
        · have hjn : j < ts[i].n := by simpa using ht
          refine wp_skip' (wp_seq' (wp_block' (wp_reg ?_)))
          have hfo : fours (j + 4) ts[i].n = fours j ts[i].n - 1 := by unfold fours; rw [if_pos hjn]; split <;> omega
          have hf0 : fours j ts[i].n ≥ 1 ∧ fours j ts[i].n ≤ 251 := by unfold fours; rw [if_pos hjn]; omega
          have hfl : fours j ts[i].n ≤ leftOf ts[i] := by rw [← fours_left hd2]; unfold fours; rw [if_pos hjn]; split <;> omega
          have hss := sumTo_succ hi
          have hw3 : IntKind.wrap .i64 (sumTo ts (i + 1) - fours j ts[i].n + 1) = sumTo ts (i + 1) - fours (j + 4) ts[i].n := by rw [wrap_small (by omega) (by omega), hfo]; omega
          have hw4 : IntKind.wrap .i64 (j + 4) = j + 4 := wrap_small (by omega) (by omega)
          simp only [exec_p, exec_a, exec_e, exec_g, gK_bool, gK_tup, exec_nil, apure, aalloc, aeff, Opd.ev, Option.some.injEq, Prod.mk.injEq, exists_eq_left', exists_and_left, and_assoc, thenK, put_some, put_none, faddrA, aload, cellsOf, cut, Option.bind_some, Option.map_some, lenA, iaddrSA, abin, aint, aun, pickA, AV.cells, Int.toNat_natCast, bne_self_eq_false, beq_self_eq_true, decide_true, decide_false, Nat.reduceEqDiff, if_false, if_true, Nat.zero_add, Nat.add_zero, Nat.le_refl, AHeap.at_get, AHeap.set_get, AHeap.at_next, AHeap.set_next, Bool.false_eq_true, Bool.true_eq_false, Bool.not_true, Bool.not_false, List.map_cons, List.map_nil, c18_7, g3, hw3]
          refine wp_reg ?_
          simp only [exec_p, exec_a, exec_e, exec_g, gK_bool, gK_tup, exec_nil, apure, aalloc, aeff, Opd.ev, Option.some.injEq, Prod.mk.injEq, exists_eq_left', exists_and_left, and_assoc, thenK, put_some, put_none, faddrA, aload, cellsOf, cut, Option.bind_some, Option.map_some, lenA, iaddrSA, abin, aint, aun, pickA, AV.cells, Int.toNat_natCast, bne_self_eq_false, beq_self_eq_true, decide_true, decide_false, Nat.reduceEqDiff, if_false, if_true, Nat.zero_add, Nat.add_zero, Nat.le_refl, AHeap.at_get, AHeap.set_get, AHeap.at_next, AHeap.set_next, Bool.false_eq_true, Bool.true_eq_false, Bool.not_true, Bool.not_false, List.map_cons, List.map_nil, c18_8, g5, hw4]
          refine ⟨m - 1, by omega, trivial, j + 4, by omega, by omega, by omega, ?_, ?_, ?_, ?_⟩
          · simp only [exec_p, exec_a, exec_e, exec_g, gK_bool, gK_tup, exec_nil, apure, aalloc, aeff, Opd.ev, Option.some.injEq, Prod.mk.injEq, exists_eq_left', exists_and_left, and_assoc, thenK, put_some, put_none, faddrA, aload, cellsOf, cut, Option.bind_some, Option.map_some, lenA, iaddrSA, abin, aint, aun, pickA, AV.cells, Int.toNat_natCast, bne_self_eq_false, beq_self_eq_true, decide_true, decide_false, Nat.reduceEqDiff, if_false, if_true, Nat.zero_add, Nat.add_zero, Nat.le_refl, AHeap.at_get, AHeap.set_get, AHeap.at_next, AHeap.set_next, Bool.false_eq_true, Bool.true_eq_false, Bool.not_true, Bool.not_false, List.map_cons, List.map_nil, g0]
          · simp only [exec_p, exec_a, exec_e, exec_g, gK_bool, gK_tup, exec_nil, apure, aalloc, aeff, Opd.ev, Option.some.injEq, Prod.mk.injEq, exists_eq_left', exists_and_left, and_assoc, thenK, put_some, put_none, faddrA, aload, cellsOf, cut, Option.bind_some, Option.map_some, lenA, iaddrSA, abin, aint, aun, pickA, AV.cells, Int.toNat_natCast, bne_self_eq_false, beq_self_eq_true, decide_true, decide_false, Nat.reduceEqDiff, if_false, if_true, Nat.zero_add, Nat.add_zero, Nat.le_refl, AHeap.at_get, AHeap.set_get, AHeap.at_next, AHeap.set_next, Bool.false_eq_true, Bool.true_eq_false, Bool.not_true, Bool.not_false, List.map_cons, List.map_nil, g4]
          · simp only [exec_p, exec_a, exec_e, exec_g, gK_bool, gK_tup, exec_nil, apure, aalloc, aeff, Opd.ev, Option.some.injEq, Prod.mk.injEq, exists_eq_left', exists_and_left, and_assoc, thenK, put_some, put_none, faddrA, aload, cellsOf, cut, Option.bind_some, Option.map_some, lenA, iaddrSA, abin, aint, aun, pickA, AV.cells, Int.toNat_natCast, bne_self_eq_false, beq_self_eq_true, decide_true, decide_false, Nat.reduceEqDiff, if_false, if_true, Nat.zero_add, Nat.add_zero, Nat.le_refl, AHeap.at_get, AHeap.set_get, AHeap.at_next, AHeap.set_next, Bool.false_eq_true, Bool.true_eq_false, Bool.not_true, Bool.not_false, List.map_cons, List.map_nil]
          · simp only [exec_p, exec_a, exec_e, exec_g, gK_bool, gK_tup, exec_nil, apure, aalloc, aeff, Opd.ev, Option.some.injEq, Prod.mk.injEq, exists_eq_left', exists_and_left, and_assoc, thenK, put_some, put_none, faddrA, aload, cellsOf, cut, Option.bind_some, Option.map_some, lenA, iaddrSA, abin, aint, aun, pickA, AV.cells, Int.toNat_natCast, bne_self_eq_false, beq_self_eq_true, decide_true, decide_false, Nat.reduceEqDiff, if_false, if_true, Nat.zero_add, Nat.add_zero, Nat.le_refl, AHeap.at_get, AHeap.set_get, AHeap.at_next, AHeap.set_next, Bool.false_eq_true, Bool.true_eq_false, Bool.not_true, Bool.not_false, List.map_cons, List.map_nil]
        · have hjn : ¬ j < ts[i].n := by simpa using ht
          refine wp_exit' ?_
          refine next _ ?_ ?_ ?_
          · simp only [exec_p, exec_a, exec_e, exec_g, gK_bool, gK_tup, exec_nil, apure, aalloc, aeff, Opd.ev, Option.some.injEq, Prod.mk.injEq, exists_eq_left', exists_and_left, and_assoc, thenK, put_some, put_none, faddrA, aload, cellsOf, cut, Option.bind_some, Option.map_some, lenA, iaddrSA, abin, aint, aun, pickA, AV.cells, Int.toNat_natCast, bne_self_eq_false, beq_self_eq_true, decide_true, decide_false, Nat.reduceEqDiff, if_false, if_true, Nat.zero_add, Nat.add_zero, Nat.le_refl, AHeap.at_get, AHeap.set_get, AHeap.at_next, AHeap.set_next, Bool.false_eq_true, Bool.true_eq_false, Bool.not_true, Bool.not_false, List.map_cons, List.map_nil, g0]
          · simp only [exec_p, exec_a, exec_e, exec_g, gK_bool, gK_tup, exec_nil, apure, aalloc, aeff, Opd.ev, Option.some.injEq, Prod.mk.injEq, exists_eq_left', exists_and_left, and_assoc, thenK, put_some, put_none, faddrA, aload, cellsOf, cut, Option.bind_some, Option.map_some, lenA, iaddrSA, abin, aint, aun, pickA, AV.cells, Int.toNat_natCast, bne_self_eq_false, beq_self_eq_true, decide_true, decide_false, Nat.reduceEqDiff, if_false, if_true, Nat.zero_add, Nat.add_zero, Nat.le_refl, AHeap.at_get, AHeap.set_get, AHeap.at_next, AHeap.set_next, Bool.false_eq_true, Bool.true_eq_false, Bool.not_true, Bool.not_false, List.map_cons, List.map_nil, g4]
          · have : fours j ts[i].n = 0 := by unfold fours; rw [if_neg hjn]
            simp only [exec_p, exec_a, exec_e, exec_g, gK_bool, gK_tup, exec_nil, apure, aalloc, aeff, Opd.ev, Option.some.injEq, Prod.mk.injEq, exists_eq_left', exists_and_left, and_assoc, thenK, put_some, put_none, faddrA, aload, cellsOf, cut, Option.bind_some, Option.map_some, lenA, iaddrSA, abin, aint, aun, pickA, AV.cells, Int.toNat_natCast, bne_self_eq_false, beq_self_eq_true, decide_true, decide_false, Nat.reduceEqDiff, if_false, if_true, Nat.zero_add, Nat.add_zero, Nat.le_refl, AHeap.at_get, AHeap.set_get, AHeap.at_next, AHeap.set_next, Bool.false_eq_true, Bool.true_eq_false, Bool.not_true, Bool.not_false, List.map_cons, List.map_nil, g3, this, Int.sub_zero]
      · have hf0 : 0 ≤ fours ts[i].dn ts[i].n := by rw [fours_left hd2]; exact hl.1
        refine ⟨rfl, ts[i].dn, by omega, .inl rfl, by omega, ?_, ?_, ?_, ?_⟩
        · simp only [exec_p, exec_a, exec_e, exec_g, gK_bool, gK_tup, exec_nil, apure, aalloc, aeff, Opd.ev, Option.some.injEq, Prod.mk.injEq, exists_eq_left', exists_and_left, and_assoc, thenK, put_some, put_none, faddrA, aload, cellsOf, cut, Option.bind_some, Option.map_some, lenA, iaddrSA, abin, aint, aun, pickA, AV.cells, Int.toNat_natCast, bne_self_eq_false, beq_self_eq_true, decide_true, decide_false, Nat.reduceEqDiff, if_false, if_true, Nat.zero_add, Nat.add_zero, Nat.le_refl, AHeap.at_get, AHeap.set_get, AHeap.at_next, AHeap.set_next, Bool.false_eq_true, Bool.true_eq_false, Bool.not_true, Bool.not_false, List.map_cons, List.map_nil, h0]
        · simp only [exec_p, exec_a, exec_e, exec_g, gK_bool, gK_tup, exec_nil, apure, aalloc, aeff, Opd.ev, Option.some.injEq, Prod.mk.injEq, exists_eq_left', exists_and_left, and_assoc, thenK, put_some, put_none, faddrA, aload, cellsOf, cut, Option.bind_some, Option.map_some, lenA, iaddrSA, abin, aint, aun, pickA, AV.cells, Int.toNat_natCast, bne_self_eq_false, beq_self_eq_true, decide_true, decide_false, Nat.reduceEqDiff, if_false, if_true, Nat.zero_add, Nat.add_zero, Nat.le_refl, AHeap.at_get, AHeap.set_get, AHeap.at_next, AHeap.set_next, Bool.false_eq_true, Bool.true_eq_false, Bool.not_true, Bool.not_false, List.map_cons, List.map_nil, h4]
        · simp only [exec_p, exec_a, exec_e, exec_g, gK_bool, gK_tup, exec_nil, apure, aalloc, aeff, Opd.ev, Option.some.injEq, Prod.mk.injEq, exists_eq_left', exists_and_left, and_assoc, thenK, put_some, put_none, faddrA, aload, cellsOf, cut, Option.bind_some, Option.map_some, lenA, iaddrSA, abin, aint, aun, pickA, AV.cells, Int.toNat_natCast, bne_self_eq_false, beq_self_eq_true, decide_true, decide_false, Nat.reduceEqDiff, if_false, if_true, Nat.zero_add, Nat.add_zero, Nat.le_refl, AHeap.at_get, AHeap.set_get, AHeap.at_next, AHeap.set_next, Bool.false_eq_true, Bool.true_eq_false, Bool.not_true, Bool.not_false, List.map_cons, List.map_nil]
        · rw [fours_left hd2, sumTo_succ hi]
          simp only [exec_p, exec_a, exec_e, exec_g, gK_bool, gK_tup, exec_nil, apure, aalloc, aeff, Opd.ev, Option.some.injEq, Prod.mk.injEq, exists_eq_left', exists_and_left, and_assoc, thenK, put_some, put_none, faddrA, aload, cellsOf, cut, Option.bind_some, Option.map_some, lenA, iaddrSA, abin, aint, aun, pickA, AV.cells, Int.toNat_natCast, bne_self_eq_false, beq_self_eq_true, decide_true, decide_false, Nat.reduceEqDiff, if_false, if_true, Nat.zero_add, Nat.add_zero, Nat.le_refl, AHeap.at_get, AHeap.set_get, AHeap.at_next, AHeap.set_next, Bool.false_eq_true, Bool.true_eq_false, Bool.not_true, Bool.not_false, List.map_cons, List.map_nil, h3]
          congr 1; omega
    · have hd2 : ¬ ts[i].does = 2 := by simpa using ht
      refine wp_skip' ?_
      refine next _ ?_ ?_ ?_
      · simp only [exec_p, exec_a, exec_e, exec_g, gK_bool, gK_tup, exec_nil, apure, aalloc, aeff, Opd.ev, Option.some.injEq, Prod.mk.injEq, exists_eq_left', exists_and_left, and_assoc, thenK, put_some, put_none, faddrA, aload, cellsOf, cut, Option.bind_some, Option.map_some, lenA, iaddrSA, abin, aint, aun, pickA, AV.cells, Int.toNat_natCast, bne_self_eq_false, beq_self_eq_true, decide_true, decide_false, Nat.reduceEqDiff, if_false, if_true, Nat.zero_add, Nat.add_zero, Nat.le_refl, AHeap.at_get, AHeap.set_get, AHeap.at_next, AHeap.set_next, Bool.false_eq_true, Bool.true_eq_false, Bool.not_true, Bool.not_false, List.map_cons, List.map_nil, h0]
      · simp only [exec_p, exec_a, exec_e, exec_g, gK_bool, gK_tup, exec_nil, apure, aalloc, aeff, Opd.ev, Option.some.injEq, Prod.mk.injEq, exists_eq_left', exists_and_left, and_assoc, thenK, put_some, put_none, faddrA, aload, cellsOf, cut, Option.bind_some, Option.map_some, lenA, iaddrSA, abin, aint, aun, pickA, AV.cells, Int.toNat_natCast, bne_self_eq_false, beq_self_eq_true, decide_true, decide_false, Nat.reduceEqDiff, if_false, if_true, Nat.zero_add, Nat.add_zero, Nat.le_refl, AHeap.at_get, AHeap.set_get, AHeap.at_next, AHeap.set_next, Bool.false_eq_true, Bool.true_eq_false, Bool.not_true, Bool.not_false, List.map_cons, List.map_nil, h4]
      · have : leftOf ts[i] = 0 := by unfold leftOf; rw [if_pos (.inl hd2)]
        simp only [exec_p, exec_a, exec_e, exec_g, gK_bool, gK_tup, exec_nil, apure, aalloc, aeff, Opd.ev, Option.some.injEq, Prod.mk.injEq, exists_eq_left', exists_and_left, and_assoc, thenK, put_some, put_none, faddrA, aload, cellsOf, cut, Option.bind_some, Option.map_some, lenA, iaddrSA, abin, aint, aun, pickA, AV.cells, Int.toNat_natCast, bne_self_eq_false, beq_self_eq_true, decide_true, decide_false, Nat.reduceEqDiff, if_false, if_true, Nat.zero_add, Nat.add_zero, Nat.le_refl, AHeap.at_get, AHeap.set_get, AHeap.at_next, AHeap.set_next, Bool.false_eq_true, Bool.true_eq_false, Bool.not_true, Bool.not_false, List.map_cons, List.map_nil, h3]
        rw [sumTo_succ hi, this]; congr 1; omega
  · have hi : i = ts.length := by have : ¬ (i : Int) < ts.length := by simpa using ht
                                  omega
    refine wp_exit' ?_
    refine wp_seq' (wp_reg ?_)
    simp only [exec_p, exec_a, exec_e, exec_g, gK_bool, gK_tup, exec_nil, apure, aalloc, aeff, Opd.ev, Option.some.injEq, Prod.mk.injEq, exists_eq_left', exists_and_left, and_assoc, thenK, put_some, put_none, faddrA, aload, cellsOf, cut, Option.bind_some, Option.map_some, lenA, iaddrSA, abin, aint, aun, pickA, AV.cells, Int.toNat_natCast, bne_self_eq_false, beq_self_eq_true, decide_true, decide_false, Nat.reduceEqDiff, if_false, if_true, Nat.zero_add, Nat.add_zero, Nat.le_refl, AHeap.at_get, AHeap.set_get, AHeap.at_next, AHeap.set_next, Bool.false_eq_true, Bool.true_eq_false, Bool.not_true, Bool.not_false, List.map_cons, List.map_nil, c18_10, h3]
    refine wp_ret' ⟨?_, fun _ _ => rfl⟩
    simp only [resL, resOne, put_some, if_true, Option.map_some, tupOf, hi]

/-- What the functions of layer 25 come to. -/
structure QuietCalls (P : Program) : Prop where
  begun : ∀ h, ACalls P 14 [] h (.bool true) h
  quiet : ∀ {xs : List (List AV)} {ts : List Th} (t : Tail) (h : AHeap), ThRows xs ts → ts.length < 2 ^ 40 → ACalls P 15 [.vs xs t] h (.bool (ts.all fun t => t.does != 2)) h
  refQuiet : ∀ {xs : List (List AV)} {ts : List Th} (t : Tail) (h : AHeap), ThRows xs ts → ts.length < 2 ^ 40 → ACalls P 16 [.vs xs t] h (.bool (ts.all fun t => t.does != 2)) h
  left : ∀ {xs : List (List AV)} {ts : List Th} (t : Tail) (h : AHeap), ThRows xs ts → ts.length < 2 ^ 40 → Fine ts → ACalls P 17 [.vs xs t] h (.int .i64 (sumTo ts ts.length)) h
  refLeft : ∀ {xs : List (List AV)} {ts : List Th} (t : Tail) (h : AHeap), ThRows xs ts → ts.length < 2 ^ 40 → Fine ts → ACalls P 18 [.vs xs t] h (.int .i64 (sumTo ts ts.length)) h

theorem quietAll_wp (C : QuietCalls P) {xs : List (List AV)} {ts : List Th} (hx : ThRows xs ts) (hlen : ts.length < 2 ^ 63) (t : Tail) (h : AHeap) :
    WP P c3.code (keepK c3.results (.bool true) h) (args0 [.vs xs t]) h := by
  have hxl := hx.1
  have ha0 : args0 [.vs xs t] 0 = .vs xs t := rfl
  simp only [c3]
  refine wp_seq' (wp_reg ?_)
  simp only [exec_p, exec_a, exec_e, exec_g, gK_bool, gK_tup, exec_nil, apure, aalloc, aeff, Opd.ev, Option.some.injEq, Prod.mk.injEq, exists_eq_left', exists_and_left, and_assoc, thenK, put_some, put_none, faddrA, aload, cellsOf, cut, Option.bind_some, Option.map_some, lenA, iaddrSA, abin, aint, aun, pickA, AV.cells, Int.toNat_natCast, bne_self_eq_false, beq_self_eq_true, decide_true, decide_false, Nat.reduceEqDiff, if_false, if_true, Nat.zero_add, Nat.add_zero, Nat.le_refl, AHeap.at_get, AHeap.set_get, AHeap.at_next, AHeap.set_next, Bool.false_eq_true, Bool.true_eq_false, Bool.not_true, Bool.not_false, List.map_cons, List.map_nil, c3_0]
  refine wp_seq' (wp_seq' (wp_reg ?_))
  refine exec_call (v := .bool true) (h' := h) (C.begun h) ?_
  simp only [exec_p, exec_a, exec_e, exec_g, gK_bool, gK_tup, exec_nil, apure, aalloc, aeff, Opd.ev, Option.some.injEq, Prod.mk.injEq, exists_eq_left', exists_and_left, and_assoc, thenK, put_some, put_none, faddrA, aload, cellsOf, cut, Option.bind_some, Option.map_some, lenA, iaddrSA, abin, aint, aun, pickA, AV.cells, Int.toNat_natCast, bne_self_eq_false, beq_self_eq_true, decide_true, decide_false, Nat.reduceEqDiff, if_false, if_true, Nat.zero_add, Nat.add_zero, Nat.le_refl, AHeap.at_get, AHeap.set_get, AHeap.at_next, AHeap.set_next, Bool.false_eq_true, Bool.true_eq_false, Bool.not_true, Bool.not_false, List.map_cons, List.map_nil]
  refine wp_cond_if (t := false) rfl (fun h => by cases h) (fun _ => ?_)
  refine wp_skip' (wp_seq' (wp_seq' (wp_reg ?_)))
  simp only [exec_p, exec_a, exec_e, exec_g, gK_bool, gK_tup, exec_nil, apure, aalloc, aeff, Opd.ev, Option.some.injEq, Prod.mk.injEq, exists_eq_left', exists_and_left, and_assoc, thenK, put_some, put_none, faddrA, aload, cellsOf, cut, Option.bind_some, Option.map_some, lenA, iaddrSA, abin, aint, aun, pickA, AV.cells, Int.toNat_natCast, bne_self_eq_false, beq_self_eq_true, decide_true, decide_false, Nat.reduceEqDiff, if_false, if_true, Nat.zero_add, Nat.add_zero, Nat.le_refl, AHeap.at_get, AHeap.set_get, AHeap.at_next, AHeap.set_next, Bool.false_eq_true, Bool.true_eq_false, Bool.not_true, Bool.not_false, List.map_cons, List.map_nil, c3_3, ha0, hxl]
  refine wp_cond_if (t := decide ((ts.length : Int) > 20)) rfl (fun ht => ?_) (fun ht => ?_)
  · refine wp_seq' (wp_reg ?_)
    simp only [exec_p, exec_a, exec_e, exec_g, gK_bool, gK_tup, exec_nil, apure, aalloc, aeff, Opd.ev, Option.some.injEq, Prod.mk.injEq, exists_eq_left', exists_and_left, and_assoc, thenK, put_some, put_none, faddrA, aload, cellsOf, cut, Option.bind_some, Option.map_some, lenA, iaddrSA, abin, aint, aun, pickA, AV.cells, Int.toNat_natCast, bne_self_eq_false, beq_self_eq_true, decide_true, decide_false, Nat.reduceEqDiff, if_false, if_true, Nat.zero_add, Nat.add_zero, Nat.le_refl, AHeap.at_get, AHeap.set_get, AHeap.at_next, AHeap.set_next, Bool.false_eq_true, Bool.true_eq_false, Bool.not_true, Bool.not_false, List.map_cons, List.map_nil, c3_4]
    exact wp_ret' ⟨by simp only [resL, resOne, put_some, if_true, Option.map_some, tupOf], fun _ _ => rfl⟩
  · have h20 : ts.length ≤ 20 := by have : ¬ (ts.length : Int) > 20 := by simpa using ht
                                    omega
    have hl40 : ts.length < 2 ^ 40 := by omega
    refine wp_skip' (wp_seq' (wp_seq' (wp_reg ?_)))
    simp only [exec_p, exec_a, exec_e, exec_g, gK_bool, gK_tup, exec_nil, apure, aalloc, aeff, Opd.ev, Option.some.injEq, Prod.mk.injEq, exists_eq_left', exists_and_left, and_assoc, thenK, put_some, put_none, faddrA, aload, cellsOf, cut, Option.bind_some, Option.map_some, lenA, iaddrSA, abin, aint, aun, pickA, AV.cells, Int.toNat_natCast, bne_self_eq_false, beq_self_eq_true, decide_true, decide_false, Nat.reduceEqDiff, if_false, if_true, Nat.zero_add, Nat.add_zero, Nat.le_refl, AHeap.at_get, AHeap.set_get, AHeap.at_next, AHeap.set_next, Bool.false_eq_true, Bool.true_eq_false, Bool.not_true, Bool.not_false, List.map_cons, List.map_nil, c3_5]
    let I : Nat → Env → AHeap → Prop := fun n ρ h' => h' = h ∧ ∃ i : Nat, ts.length = i + n ∧ ρ 0 = .vs xs t ∧ ρ 3 = .int .i64 i ∧ ∀ j (hj : j < ts.length), j < i → 0 ≤ ts[j].dn ∧ ts[j].n ≤ 1000
    refine wp_block' (wp_loop_n I ?_ ts.length ⟨rfl, 0, by omega, rfl, rfl, fun j hj h => by omega⟩)
    rintro n ρ h' ⟨rfl, i, hin, h0, h3, hall⟩
    refine wp_seq' (wp_seq' (wp_reg ?_))
    simp only [exec_p, exec_a, exec_e, exec_g, gK_bool, gK_tup, exec_nil, apure, aalloc, aeff, Opd.ev, Option.some.injEq, Prod.mk.injEq, exists_eq_left', exists_and_left, and_assoc, thenK, put_some, put_none, faddrA, aload, cellsOf, cut, Option.bind_some, Option.map_some, lenA, iaddrSA, abin, aint, aun, pickA, AV.cells, Int.toNat_natCast, bne_self_eq_false, beq_self_eq_true, decide_true, decide_false, Nat.reduceEqDiff, if_false, if_true, Nat.zero_add, Nat.add_zero, Nat.le_refl, AHeap.at_get, AHeap.set_get, AHeap.at_next, AHeap.set_next, Bool.false_eq_true, Bool.true_eq_false, Bool.not_true, Bool.not_false, List.map_cons, List.map_nil, c3_6, h0, h3, hxl]
    refine wp_cond_if (t := decide ((i : Int) < (ts.length : Int))) rfl (fun ht => ?_) (fun ht => ?_)
    · have hi : i < ts.length := by have : (i : Int) < ts.length := by simpa using ht
                                    omega
      obtain ⟨row, hrow, hrl, hd, hdn, hn, hone⟩ := hx.row hi
      have hi0 : (0 : Int) ≤ (i : Int) := by omega
      refine wp_skip' (wp_seq' (wp_block' (wp_seq' (wp_reg ?_))))
      by_cases hneg : ts[i].dn < 0
      · simp only [exec_p, exec_a, exec_e, exec_g, gK_bool, gK_tup, exec_nil, apure, aalloc, aeff, Opd.ev, Option.some.injEq, Prod.mk.injEq, exists_eq_left', exists_and_left, and_assoc, thenK, put_some, put_none, faddrA, aload, cellsOf, cut, Option.bind_some, Option.map_some, lenA, iaddrSA, abin, aint, aun, pickA, AV.cells, Int.toNat_natCast, bne_self_eq_false, beq_self_eq_true, decide_true, decide_false, Nat.reduceEqDiff, if_false, if_true, Nat.zero_add, Nat.add_zero, Nat.le_refl, AHeap.at_get, AHeap.set_get, AHeap.at_next, AHeap.set_next, Bool.false_eq_true, Bool.true_eq_false, Bool.not_true, Bool.not_false, List.map_cons, List.map_nil, c3_7, h0, h3, hrow, hi0, hrl, hdn, hneg]
        refine wp_cond_if (t := true) rfl (fun _ => ?_) (fun h => by cases h)
        refine wp_seq' (wp_reg ?_)
        simp only [exec_p, exec_a, exec_e, exec_g, gK_bool, gK_tup, exec_nil, apure, aalloc, aeff, Opd.ev, Option.some.injEq, Prod.mk.injEq, exists_eq_left', exists_and_left, and_assoc, thenK, put_some, put_none, faddrA, aload, cellsOf, cut, Option.bind_some, Option.map_some, lenA, iaddrSA, abin, aint, aun, pickA, AV.cells, Int.toNat_natCast, bne_self_eq_false, beq_self_eq_true, decide_true, decide_false, Nat.reduceEqDiff, if_false, if_true, Nat.zero_add, Nat.add_zero, Nat.le_refl, AHeap.at_get, AHeap.set_get, AHeap.at_next, AHeap.set_next, Bool.false_eq_true, Bool.true_eq_false, Bool.not_true, Bool.not_false, List.map_cons, List.map_nil, c3_8]
        exact wp_ret' ⟨by simp only [resL, resOne, put_some, if_true, Option.map_some, tupOf], fun _ _ => rfl⟩
      · simp only [exec_p, exec_a, exec_e, exec_g, gK_bool, gK_tup, exec_nil, apure, aalloc, aeff, Opd.ev, Option.some.injEq, Prod.mk.injEq, exists_eq_left', exists_and_left, and_assoc, thenK, put_some, put_none, faddrA, aload, cellsOf, cut, Option.bind_some, Option.map_some, lenA, iaddrSA, abin, aint, aun, pickA, AV.cells, Int.toNat_natCast, bne_self_eq_false, beq_self_eq_true, decide_true, decide_false, Nat.reduceEqDiff, if_false, if_true, Nat.zero_add, Nat.add_zero, Nat.le_refl, AHeap.at_get, AHeap.set_get, AHeap.at_next, AHeap.set_next, Bool.false_eq_true, Bool.true_eq_false, Bool.not_true, Bool.not_false, List.map_cons, List.map_nil, c3_7, h0, h3, hrow, hi0, hrl, hdn, hneg, hn]
        refine wp_cond_if (t := decide (ts[i].n > 1000)) rfl (fun ht => ?_) (fun ht => ?_)
        · refine wp_seq' (wp_reg ?_)
          simp only [exec_p, exec_a, exec_e, exec_g, gK_bool, gK_tup, exec_nil, apure, aalloc, aeff, Opd.ev, Option.some.injEq, Prod.mk.injEq, exists_eq_left', exists_and_left, and_assoc, thenK, put_some, put_none, faddrA, aload, cellsOf, cut, Option.bind_some, Option.map_some, lenA, iaddrSA, abin, aint, aun, pickA, AV.cells, Int.toNat_natCast, bne_self_eq_false, beq_self_eq_true, decide_true, decide_false, Nat.reduceEqDiff, if_false, if_true, Nat.zero_add, Nat.add_zero, Nat.le_refl, AHeap.at_get, AHeap.set_get, AHeap.at_next, AHeap.set_next, Bool.false_eq_true, Bool.true_eq_false, Bool.not_true, Bool.not_false, List.map_cons, List.map_nil, c3_8]
          exact wp_ret' ⟨by simp only [resL, resOne, put_some, if_true, Option.map_some, tupOf], fun _ _ => rfl⟩
        · have hnn : ¬ ts[i].n > 1000 := by simpa using ht
          refine wp_skip' (wp_reg ?_)
          have hw2 : IntKind.wrap .i64 ((i : Int) + 1) = ((i + 1 : Nat) : Int) := by rw [wrap_small] <;> omega
          simp only [exec_p, exec_a, exec_e, exec_g, gK_bool, gK_tup, exec_nil, apure, aalloc, aeff, Opd.ev, Option.some.injEq, Prod.mk.injEq, exists_eq_left', exists_and_left, and_assoc, thenK, put_some, put_none, faddrA, aload, cellsOf, cut, Option.bind_some, Option.map_some, lenA, iaddrSA, abin, aint, aun, pickA, AV.cells, Int.toNat_natCast, bne_self_eq_false, beq_self_eq_true, decide_true, decide_false, Nat.reduceEqDiff, if_false, if_true, Nat.zero_add, Nat.add_zero, Nat.le_refl, AHeap.at_get, AHeap.set_get, AHeap.at_next, AHeap.set_next, Bool.false_eq_true, Bool.true_eq_false, Bool.not_true, Bool.not_false, List.map_cons, List.map_nil, c3_9, h3, hw2]
          refine ⟨n - 1, by omega, rfl, i + 1, by omega, ?_, ?_, fun j hj hji => ?_⟩
          · simp only [exec_p, exec_a, exec_e, exec_g, gK_bool, gK_tup, exec_nil, apure, aalloc, aeff, Opd.ev, Option.some.injEq, Prod.mk.injEq, exists_eq_left', exists_and_left, and_assoc, thenK, put_some, put_none, faddrA, aload, cellsOf, cut, Option.bind_some, Option.map_some, lenA, iaddrSA, abin, aint, aun, pickA, AV.cells, Int.toNat_natCast, bne_self_eq_false, beq_self_eq_true, decide_true, decide_false, Nat.reduceEqDiff, if_false, if_true, Nat.zero_add, Nat.add_zero, Nat.le_refl, AHeap.at_get, AHeap.set_get, AHeap.at_next, AHeap.set_next, Bool.false_eq_true, Bool.true_eq_false, Bool.not_true, Bool.not_false, List.map_cons, List.map_nil, h0]
          · simp only [exec_p, exec_a, exec_e, exec_g, gK_bool, gK_tup, exec_nil, apure, aalloc, aeff, Opd.ev, Option.some.injEq, Prod.mk.injEq, exists_eq_left', exists_and_left, and_assoc, thenK, put_some, put_none, faddrA, aload, cellsOf, cut, Option.bind_some, Option.map_some, lenA, iaddrSA, abin, aint, aun, pickA, AV.cells, Int.toNat_natCast, bne_self_eq_false, beq_self_eq_true, decide_true, decide_false, Nat.reduceEqDiff, if_false, if_true, Nat.zero_add, Nat.add_zero, Nat.le_refl, AHeap.at_get, AHeap.set_get, AHeap.at_next, AHeap.set_next, Bool.false_eq_true, Bool.true_eq_false, Bool.not_true, Bool.not_false, List.map_cons, List.map_nil]
          · by_cases hjj : j = i
            · subst hjj; exact ⟨by omega, by omega⟩
            · exact hall j hj (by omega)
    · have hi : i = ts.length := by have : ¬ (i : Int) < ts.length := by simpa using ht
                                    omega
      have hf : Fine ts := fun j hj => hall j hj (by omega)
      refine wp_exit' ?_
      refine wp_seq' (wp_reg ?_)
      simp only [exec_p, exec_a, exec_e, exec_g, gK_bool, gK_tup, exec_nil, apure, aalloc, aeff, Opd.ev, Option.some.injEq, Prod.mk.injEq, exists_eq_left', exists_and_left, and_assoc, thenK, put_some, put_none, faddrA, aload, cellsOf, cut, Option.bind_some, Option.map_some, lenA, iaddrSA, abin, aint, aun, pickA, AV.cells, Int.toNat_natCast, bne_self_eq_false, beq_self_eq_true, decide_true, decide_false, Nat.reduceEqDiff, if_false, if_true, Nat.zero_add, Nat.add_zero, Nat.le_refl, AHeap.at_get, AHeap.set_get, AHeap.at_next, AHeap.set_next, Bool.false_eq_true, Bool.true_eq_false, Bool.not_true, Bool.not_false, List.map_cons, List.map_nil, c3_10, h0]
      refine exec_call (C.quiet t h' hx hl40) ?_
      simp only [exec_p, exec_a, exec_e, exec_g, gK_bool, gK_tup, exec_nil, apure, aalloc, aeff, Opd.ev, Option.some.injEq, Prod.mk.injEq, exists_eq_left', exists_and_left, and_assoc, thenK, put_some, put_none, faddrA, aload, cellsOf, cut, Option.bind_some, Option.map_some, lenA, iaddrSA, abin, aint, aun, pickA, AV.cells, Int.toNat_natCast, bne_self_eq_false, beq_self_eq_true, decide_true, decide_false, Nat.reduceEqDiff, if_false, if_true, Nat.zero_add, Nat.add_zero, Nat.le_refl, AHeap.at_get, AHeap.set_get, AHeap.at_next, AHeap.set_next, Bool.false_eq_true, Bool.true_eq_false, Bool.not_true, Bool.not_false, List.map_cons, List.map_nil, h0]
      refine exec_call (C.refQuiet t h' hx hl40) ?_
      simp only [exec_p, exec_a, exec_e, exec_g, gK_bool, gK_tup, exec_nil, apure, aalloc, aeff, Opd.ev, Option.some.injEq, Prod.mk.injEq, exists_eq_left', exists_and_left, and_assoc, thenK, put_some, put_none, faddrA, aload, cellsOf, cut, Option.bind_some, Option.map_some, lenA, iaddrSA, abin, aint, aun, pickA, AV.cells, Int.toNat_natCast, bne_self_eq_false, beq_self_eq_true, decide_true, decide_false, Nat.reduceEqDiff, if_false, if_true, Nat.zero_add, Nat.add_zero, Nat.le_refl, AHeap.at_get, AHeap.set_get, AHeap.at_next, AHeap.set_next, Bool.false_eq_true, Bool.true_eq_false, Bool.not_true, Bool.not_false, List.map_cons, List.map_nil, h0]
      refine exec_gcall (c := true) rfl (fun _ => C.left t h' hx hl40 hf) ?_
      simp only [exec_p, exec_a, exec_e, exec_g, gK_bool, gK_tup, exec_nil, apure, aalloc, aeff, Opd.ev, Option.some.injEq, Prod.mk.injEq, exists_eq_left', exists_and_left, and_assoc, thenK, put_some, put_none, faddrA, aload, cellsOf, cut, Option.bind_some, Option.map_some, lenA, iaddrSA, abin, aint, aun, pickA, AV.cells, Int.toNat_natCast, bne_self_eq_false, beq_self_eq_true, decide_true, decide_false, Nat.reduceEqDiff, if_false, if_true, Nat.zero_add, Nat.add_zero, Nat.le_refl, AHeap.at_get, AHeap.set_get, AHeap.at_next, AHeap.set_next, Bool.false_eq_true, Bool.true_eq_false, Bool.not_true, Bool.not_false, List.map_cons, List.map_nil, h0]
      refine exec_gcall (c := true) rfl (fun _ => C.refLeft t h' hx hl40 hf) ?_
      simp only [exec_p, exec_a, exec_e, exec_g, gK_bool, gK_tup, exec_nil, apure, aalloc, aeff, Opd.ev, Option.some.injEq, Prod.mk.injEq, exists_eq_left', exists_and_left, and_assoc, thenK, put_some, put_none, faddrA, aload, cellsOf, cut, Option.bind_some, Option.map_some, lenA, iaddrSA, abin, aint, aun, pickA, AV.cells, Int.toNat_natCast, bne_self_eq_false, beq_self_eq_true, decide_true, decide_false, Nat.reduceEqDiff, if_false, if_true, Nat.zero_add, Nat.add_zero, Nat.le_refl, AHeap.at_get, AHeap.set_get, AHeap.at_next, AHeap.set_next, Bool.false_eq_true, Bool.true_eq_false, Bool.not_true, Bool.not_false, List.map_cons, List.map_nil, h0]
      exact wp_ret' ⟨by simp only [resL, resOne, put_some, if_true, Option.map_some, tupOf], fun _ _ => rfl⟩

end Go.Proofs.Ytchomcffeiheeaa
