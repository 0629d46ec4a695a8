/- Frames of memory: what each function of the layer does. Conditions: none. -/
import Derived.Test.YtchomcffeiheeaaCode2
set_option maxRecDepth 100000
set_option linter.unusedSimpArgs false
set_option linter.unusedVariables false
set_option linter.unnecessarySimpa false
/- Frames of memory. -/
namespace Go.Proofs.Ytchomcffeiheeaa.Am
open Go

structure Fr where
  b : List Int
  taken : Bool

def Fr.enc (f : Fr) : List AV := f.b.map (.int .u8) ++ [.bool f.taken]

structure MemAt (h : AHeap) (bm bl : Nat) (fs : List Fr) : Prop where
  top : h.get bm = some (.cells [.rs bl 0 fs.length 17])
  row : h.get bl = some (.cells (fs.map Fr.enc).flatten)
  ne : bm ≠ bl
  len : ∀ f ∈ fs, f.b.length = 16
  small : fs.length < 2 ^ 40

variable {P : Program} {h : AHeap} {bm bl : Nat} {fs : List Fr}

theorem Fr.enc_len {f : Fr} (hf : f.b.length = 16) : f.enc.length = 17 := by simp [Fr.enc, hf]
theorem Fr.enc_taken {f : Fr} (hf : f.b.length = 16) : f.enc[16]? = some (.bool f.taken) := by simp [Fr.enc, hf]

theorem MemAt.rows (M : MemAt h bm bl fs) : ∀ r ∈ fs.map Fr.enc, r.length = 17 := by
  intro r hr
  obtain ⟨f, hf, rfl⟩ := List.mem_map.1 hr
  exact Fr.enc_len (M.len f hf)

theorem MemAt.taken (M : MemAt h bm bl fs) {i : Nat} {f : Fr} (hi : fs[i]? = some f) : (fs.map Fr.enc).flatten[i * 17 + 16]? = some (.bool f.taken) := by
  rw [flat_at M.rows (row := f.enc) (by simp [hi]) (by omega)]
  exact Fr.enc_taken (M.len f (List.mem_of_getElem? hi))

/-- Which frame, if it is taken. -/
def frAt (fs : List Fr) (f : Int) : Option Nat := if 0 ≤ f then (match fs[f.toNat]? with | some x => if x.taken then some f.toNat else none | none => none) else none

def frRes : Option Nat → Nat → AV
  | some i, bl => .tup [.ptr bl (i * 17), .int .i64 0]
  | none, _ => .tup [.nil, .int .i64 7]

theorem at_calls (ok : TblOK P tb) (M : MemAt h bm bl fs) (hb : bl < h.next) (f : Int) : ACalls P 38 [.ptr bm 0, .int .i64 f] h (frRes (frAt fs f) bl) h := by
  have h1 := M.top
  have h2 := M.row
  refine ok.keeps (rf := c38) rfl (Nat.le_of_ble_eq_true rfl) ?_ ?_
  · unfold frRes; split <;> simp [AV.allR, AV.allL, hb]
  have hc := cellsOf_of h1
  have hc2 := cellsOf_of h2
  by_cases h0 : f < 0
  · have : frAt fs f = none := by simp [frAt]; omega
    rw [this]
    simp (decide := true) only [st, c38, c38_0, c38_1, c38_2, c38_3, c38_4, c38_5, frRes, h0]
  · obtain ⟨n, rfl⟩ := Int.eq_ofNat_of_zero_le (show 0 ≤ f by omega)
    by_cases hn : n < fs.length
    · have hf : fs[n]? = some fs[n] := List.getElem?_eq_getElem hn
      have ht := M.taken hf
      have hle : ¬ fs.length ≤ n := by omega
      cases hk : fs[n].taken
      · have : frAt fs n = none := by simp [frAt, hf, hk]
        rw [this]
        rw [hk] at ht
        simp (decide := true) only [st, c38, c38_0, c38_1, c38_2, c38_3, c38_4, c38_5, frRes, hc, hc2, hn, hle, ht]
      · have : frAt fs n = some n := by simp [frAt, hf, hk]
        rw [this]
        rw [hk] at ht
        simp (decide := true) only [st, c38, c38_0, c38_1, c38_2, c38_3, c38_4, c38_5, frRes, hc, hc2, hn, hle, ht]
    · have : frAt fs n = none := by simp [frAt, List.getElem?_eq_none (show fs.length ≤ n by omega)]
      rw [this]
      have hle : fs.length ≤ n := by omega
      simp (decide := true) only [st, c38, c38_0, c38_1, c38_2, c38_3, c38_4, c38_5, frRes, hc, hc2, hn, hle]

/-- A byte's place. -/
def frByte (fs : List Fr) (f off : Int) : Option (Nat × Nat) × Int := match frAt fs f with
  | none => (none, 7)
  | some i => if off < 0 ∨ 16 ≤ off then (none, 11) else (some (i, off.toNat), 0)

def byteRes (bl : Nat) : Option (Nat × Nat) → AV
  | none => .nil
  | some (i, j) => .ptr bl (i * 17 + j)

theorem frAt_some {f : Int} {i : Nat} (e : frAt fs f = some i) : ∃ x, fs[i]? = some x ∧ x.taken = true ∧ f = i := by
  unfold frAt at e
  split at e
  · split at e
    · rename_i x hx
      split at e
      · rename_i h1 h2; cases e; exact ⟨x, hx, h2, by omega⟩
      · cases e
    · cases e
  · cases e

theorem byte_calls (ok : TblOK P tb) (M : MemAt h bm bl fs) (hb : bl < h.next) (f off : Int) :
    ACalls P 37 [.ptr bm 0, .int .i64 f, .int .i64 off] h (.tup [byteRes bl (frByte fs f off).1, .int .i64 (frByte fs f off).2]) h := by
  have hat := at_calls ok M hb f
  have hc := cellsOf_of M.top
  refine ok.keeps (rf := c37) rfl (Nat.le_of_ble_eq_true rfl) ?_ ?_
  · unfold byteRes; split <;> simp [AV.allR, AV.allL, hb]
  unfold frByte
  cases e : frAt fs f with
  | none =>
    rw [e] at hat
    simp (decide := true) only [st, c37, c37_0, c37_1, c37_2, c37_3, c37_4, c37_5, c37_6]
    refine execC_by hat ?_
    simp (decide := true) only [st, frRes, byteRes]
  | some i =>
    rw [e] at hat
    simp (decide := true) only [st, c37, c37_0, c37_1, c37_2, c37_3, c37_4, c37_5, c37_6]
    refine execC_by hat ?_
    by_cases h0 : off < 0
    · simp (decide := true) only [st, frRes, byteRes, h0, true_or]
    · by_cases h1 : 16 ≤ off
      · simp (decide := true) only [st, frRes, byteRes, h0, h1, or_true]
      · obtain ⟨j, rfl⟩ := Int.eq_ofNat_of_zero_le (show 0 ≤ off by omega)
        have h2 : (j : Int) < (16 : Nat) := by omega
        simp (decide := true) only [st, frRes, byteRes, h0, h1, or_self, h2, Nat.mul_one]

theorem MemAt.byte (M : MemAt h bm bl fs) {i j : Nat} {x : Fr} (hi : fs[i]? = some x) (hj : j < 16) : (fs.map Fr.enc).flatten[i * 17 + j]? = (x.b[j]?).map (.int .u8) := by
  have hx := M.len x (List.mem_of_getElem? hi)
  rw [flat_at M.rows (row := x.enc) (by simp [hi]) (by omega)]
  simp [Fr.enc, List.getElem?_append_left (show j < (x.b.map (AV.int .u8)).length by simp [hx]; omega)]

theorem frByte_some {f off : Int} {i j : Nat} {e : Int} (hb : frByte fs f off = (some (i, j), e)) : e = 0 ∧ j < 16 ∧ f = i ∧ off = j ∧ ∃ x, fs[i]? = some x ∧ x.taken = true := by
  unfold frByte at hb
  split at hb
  · cases hb
  · rename_i k hk
    obtain ⟨x, h1, h2, h3⟩ := frAt_some hk
    split at hb
    · cases hb
    · cases hb
      exact ⟨rfl, by omega, h3, by omega, x, h1, h2⟩

theorem frByte_none {f off : Int} {e : Int} (hb : frByte fs f off = (none, e)) : e ≠ 0 := by
  unfold frByte at hb
  split at hb
  · cases hb; decide
  · split at hb
    · cases hb; decide
    · cases hb

def frLoad (fs : List Fr) (f off : Int) : Int × Int := match frByte fs f off with
  | (none, e) => (0, e)
  | (some (i, j), e) => (((fs[i]?).bind fun x => x.b[j]?).getD 0, e)

theorem load_calls (ok : TblOK P tb) (M : MemAt h bm bl fs) (hb : bl < h.next) (f off : Int) :
    ACalls P 23 [.ptr bm 0, .int .i64 f, .int .i64 off] h (.tup [.int .u8 (frLoad fs f off).1, .int .i64 (frLoad fs f off).2]) h := by
  have hby := byte_calls ok M hb f off
  have hc2 := cellsOf_of M.row
  refine ok.keeps (rf := c23) rfl (Nat.le_of_ble_eq_true rfl) rfl ?_
  unfold frLoad
  rcases hq : frByte fs f off with ⟨_ | ⟨i, j⟩, e⟩
  · have he := frByte_none hq
    rw [hq] at hby
    simp (decide := true) only [st, c23, c23_0, c23_1, c23_2, c23_3, c23_4]
    refine execC_by hby ?_
    simp (decide := true) only [st, byteRes, he]
  · obtain ⟨rfl, hj, rfl, rfl, x, hx, _⟩ := frByte_some hq
    have hxl := M.len x (List.mem_of_getElem? hx)
    have hcell := M.byte hx hj
    rw [List.getElem?_eq_getElem (show j < x.b.length by omega)] at hcell
    rw [hq] at hby
    simp (decide := true) only [st, c23, c23_0, c23_1, c23_2, c23_3, c23_4]
    refine execC_by hby ?_
    simp (decide := true) only [st, byteRes, hc2, hcell, hx, List.getElem?_eq_getElem (show j < x.b.length by omega), Option.getD_some]

/-- The memory with other frames. -/
def memH (h : AHeap) (bl : Nat) (fs : List Fr) : AHeap := h.set bl (some (.cells (fs.map Fr.enc).flatten))

theorem MemAt.upd (M : MemAt h bm bl fs) {gs : List Fr} (h1 : gs.length = fs.length) (h2 : ∀ f ∈ gs, f.b.length = 16) : MemAt (memH h bl gs) bm bl gs where
  top := by simp [memH, AHeap.set, M.ne, M.top, h1]
  row := by simp [memH, AHeap.set]
  ne := M.ne
  len := h2
  small := by rw [h1]; exact M.small

theorem MemAt.same (M : MemAt h bm bl fs) : memH h bl fs = h := AHeap.set_same M.row

def frStore (fs : List Fr) (f off b : Int) : List Fr := match frByte fs f off with
  | (none, _) => fs
  | (some (i, j), _) => match fs[i]? with
    | none => fs
    | some x => fs.set i { x with b := x.b.set j b }

theorem take_set_drop {α : Type} {l : List α} {j : Nat} {v : α} (hj : j < l.length) : l.take j ++ [v] ++ l.drop (j + 1) = l.set j v := by
  rw [List.set_eq_take_append_cons_drop]; simp [hj]

theorem store_calls (ok : TblOK P tb) (M : MemAt h bm bl fs) (hb : bl < h.next) (f off b : Int) :
    ACalls P 22 [.ptr bm 0, .int .i64 f, .int .i64 off, .int .u8 b] h (.int .i64 (frByte fs f off).2) (memH h bl (frStore fs f off b)) := by
  have hby := byte_calls ok M hb f off
  have hc2 := cellsOf_of M.row
  refine ok.calls (rf := c22) rfl (Nat.le_of_ble_eq_true rfl) ?_
  unfold frStore
  rcases hq : frByte fs f off with ⟨_ | ⟨i, j⟩, e⟩
  · have he := frByte_none hq
    rw [hq] at hby
    simp (decide := true) only [st, c22, c22_0, c22_1, c22_2, c22_3, c22_4]
    refine execC_by hby ?_
    simp (decide := true) only [st, byteRes, he, M.same]
  · obtain ⟨rfl, hj, rfl, rfl, x, hx, _⟩ := frByte_some hq
    have hxl := M.len x (List.mem_of_getElem? hx)
    rw [hq] at hby
    have hput := flat_put (v := [AV.int .u8 b]) M.rows (i := i) (j := j) (row := x.enc) (by simp [hx]) (by simp; omega)
    have hlen := flat_len M.rows
    have hi := (List.getElem?_eq_some_iff.1 hx).1
    have hle : i * 17 + j + 1 ≤ (fs.map Fr.enc).flatten.length := by rw [hlen]; simp; omega
    have hrow : x.enc.take j ++ [AV.int .u8 b] ++ x.enc.drop (j + 1) = Fr.enc { x with b := x.b.set j b } := by
      rw [take_set_drop (by rw [Fr.enc_len hxl]; omega)]
      simp [Fr.enc, List.set_append, hxl, hj]
    simp only [List.length_singleton] at hput
    rw [hrow] at hput
    simp (decide := true) only [st, c22, c22_0, c22_1, c22_2, c22_3, c22_4]
    refine execC_by hby ?_
    simp only [List.map_set, hx, memH]
    rw [← hput]
    simp (decide := true) only [st, byteRes, hc2, hle, List.append_assoc]

def frFree (fs : List Fr) (f : Int) : List Fr := match frAt fs f with
  | none => fs
  | some i => match fs[i]? with
    | none => fs
    | some x => fs.set i { x with taken := false }

theorem free_calls (ok : TblOK P tb) (M : MemAt h bm bl fs) (hb : bl < h.next) (f : Int) :
    ACalls P 24 [.ptr bm 0, .int .i64 f] h (.int .i64 (if (frAt fs f).isSome then 0 else 7)) (memH h bl (frFree fs f)) := by
  have hat := at_calls ok M hb f
  have hc2 := cellsOf_of M.row
  refine ok.calls (rf := c24) rfl (Nat.le_of_ble_eq_true rfl) ?_
  unfold frFree
  cases e : frAt fs f with
  | none =>
    rw [e] at hat
    simp (decide := true) only [st, c24, c24_0, c24_1, c24_2, c24_3, c24_4]
    refine execC_by hat ?_
    simp (decide := true) only [st, frRes, M.same, Option.isSome]
  | some i =>
    obtain ⟨x, hx, _, rfl⟩ := frAt_some e
    have hxl := M.len x (List.mem_of_getElem? hx)
    rw [e] at hat
    have hput := flat_put (v := [AV.bool false]) M.rows (i := i) (j := 16) (row := x.enc) (by simp [hx]) (by simp)
    have hlen := flat_len M.rows
    have hi := (List.getElem?_eq_some_iff.1 hx).1
    have hle : i * 17 + 16 + 1 ≤ (fs.map Fr.enc).flatten.length := by rw [hlen]; simp; omega
    have hrow : x.enc.take 16 ++ [AV.bool false] ++ x.enc.drop (16 + 1) = Fr.enc { x with taken := false } := by
      rw [take_set_drop (by rw [Fr.enc_len hxl]; omega)]
      simp [Fr.enc, List.set_append, hxl]
    simp only [List.length_singleton] at hput
    rw [hrow] at hput
    simp (decide := true) only [st, c24, c24_0, c24_1, c24_2, c24_3, c24_4]
    refine execC_by hat ?_
    simp only [List.map_set, hx, memH]
    rw [← hput]
    simp (decide := true) only [st, frRes, hc2, hle, List.append_assoc, Option.isSome]

/-- The least frame that is free. -/
def frLeast (fs : List Fr) : Option Nat := fs.findIdx? fun f => !f.taken

def frTake (fs : List Fr) : List Fr := match frLeast fs with
  | none => fs
  | some i => fs.set i ⟨List.replicate 16 0, true⟩

theorem len_calls (ok : TblOK P tb) (M : MemAt h bm bl fs) : ACalls P 41 [.ptr bm 0] h (.int .i64 fs.length) h := by
  have hc := cellsOf_of M.top
  refine ok.keeps (rf := c41) rfl (Nat.le_of_ble_eq_true rfl) rfl ?_
  simp (decide := true) only [st, c41, c41_0, c41_1, c41_2, c41_3, hc]

theorem take_calls (ok : TblOK P tb) (M : MemAt h bm bl fs) :
    ACalls P 21 [.ptr bm 0] h (match frLeast fs with | some i => .tup [.int .i64 i, .int .i64 0] | none => .tup [.int .i64 0, .int .i64 9]) (memH h bl (frTake fs)) := by
  have hc := cellsOf_of M.top
  have hc2 := cellsOf_of M.row
  have hsm := M.small
  refine ok.calls (rf := c21) rfl (Nat.le_of_ble_eq_true rfl) ?_
  simp (decide := true) only [st, c21, c21_0, c21_1, c21_2, c21_3, c21_4, c21_5, c21_6, c21_7, c21_8, c21_9, c21_10, hc]
  let I : Nat → Env → AHeap → Prop := fun n ρ h' => h' = h ∧ ∃ i : Nat, fs.length = i + n ∧ ρ 0 = .ptr bm 0 ∧ ρ 11 = .int .i64 fs.length ∧ ρ 12 = .int .i64 i ∧ ∀ j, j < i → ∀ x, fs[j]? = some x → x.taken = true
  refine wp_loop_n I ?_ fs.length ⟨rfl, 0, by omega, rfl, rfl, rfl, fun j hj => by omega⟩
  rintro n ρ h' ⟨rfl, i, hin, r0, r11, r12, hall⟩
  by_cases hi : i < fs.length
  · have hx : fs[i]? = some fs[i] := List.getElem?_eq_getElem hi
    have hcell := M.taken hx
    have hxl := M.len _ (List.mem_of_getElem? hx)
    cases htk : fs[i].taken
    · have hl : frLeast fs = some i := by
        unfold frLeast
        rw [List.findIdx?_eq_some_iff_getElem]
        exact ⟨hi, by simp [htk], fun j hj => by simpa using hall j hj _ (List.getElem?_eq_getElem (by omega))⟩
      rw [htk] at hcell
      have hput := flat_put (v := Fr.enc ⟨List.replicate 16 0, true⟩) M.rows (i := i) (j := 0) (row := fs[i].enc) (by simp [hx]) (by simp [Fr.enc])
      have hlen := flat_len M.rows
      have hle : i * 17 + 17 ≤ (fs.map Fr.enc).flatten.length := by rw [hlen]; simp; omega
      have hrow : fs[i].enc.take 0 ++ Fr.enc ⟨List.replicate 16 0, true⟩ ++ fs[i].enc.drop (0 + (Fr.enc ⟨List.replicate 16 0, true⟩).length) = Fr.enc ⟨List.replicate 16 0, true⟩ := by
        rw [List.drop_of_length_le (by rw [Fr.enc_len hxl]; simp [Fr.enc])]; simp
      rw [hrow] at hput
      simp only [Fr.enc, List.replicate, List.map, List.cons_append, List.nil_append, List.length, Nat.add_zero, Nat.reduceAdd] at hput
      simp (decide := true) only [st, c21, c21_0, c21_1, c21_2, c21_3, c21_4, c21_5, c21_6, c21_7, c21_8, c21_9, c21_10, r0, r11, r12, hi, hc, hc2, hcell, hl, hle, Nat.reduceAdd]
      simp only [frTake, hl, memH, List.map_set, Fr.enc, List.replicate, List.map, List.cons_append, List.nil_append]
      rw [← hput]
    · rw [htk] at hcell
      have hw : IntKind.wrap .i64 ((i : Int) + 1) = ((i + 1 : Nat) : Int) := by rw [wrapS] <;> omega
      simp (decide := true) only [st, c21, c21_0, c21_1, c21_2, c21_3, c21_4, c21_5, c21_6, c21_7, c21_8, c21_9, c21_10, r0, r11, r12, hi, hc, hc2, hcell, hw]
      refine ⟨n - 1, by omega, rfl, i + 1, by omega, ?_, ?_, ?_, fun j hj x hjx => ?_⟩
      · simp (decide := true) only [st, r0]
      · simp (decide := true) only [st, r11]
      · simp (decide := true) only [st]
      · by_cases hji : j = i
        · subst hji; rw [hx] at hjx; cases hjx; exact htk
        · exact hall j (by omega) x hjx
  · have hie : i = fs.length := by omega
    have hl : frLeast fs = none := by
      unfold frLeast
      rw [List.findIdx?_eq_none_iff]
      intro x hx
      obtain ⟨j, hj⟩ := List.mem_iff_getElem?.1 hx
      have := hall j (by rw [hie]; exact (List.getElem?_eq_some_iff.1 hj).1) x hj
      simp [this]
    simp (decide := true) only [st, c21, c21_0, c21_1, c21_2, c21_3, c21_4, c21_5, c21_6, c21_7, c21_8, c21_9, c21_10, r0, r11, r12, hi, hl]
    simp only [frTake, hl, M.same]

def frUsed (fs : List Fr) : Nat := fs.countP (·.taken)

theorem used_calls (ok : TblOK P tb) (M : MemAt h bm bl fs) (hlt : bm < h.next ∧ bl < h.next) : ACalls P 25 [.ptr bm 0] h (.int .i64 (frUsed fs)) h := by
  have hc := cellsOf_of M.top
  have hsm := M.small
  refine ok.keeps (rf := c25) rfl (Nat.le_of_ble_eq_true rfl) rfl ?_
  simp (decide := true) only [st, c25, c25_0, c25_1, c25_2, c25_3, c25_4, c25_5, c25_6, c25_7, c25_8, c25_9, hc]
  let I : Nat → Env → AHeap → Prop := fun n ρ h' => (∀ b, b < h.next → h'.get b = h.get b) ∧ h.next ≤ h'.next ∧ ∃ i : Nat, fs.length = i + n ∧ ρ 11 = .rs bl 0 fs.length 17 ∧ ρ 12 = .int .i64 fs.length ∧ ρ 13 = .int .i64 i ∧ ρ 3 = .int .i64 (frUsed (fs.take i))
  refine wp_loop_n I ?_ fs.length ⟨fun _ _ => rfl, Nat.le_refl _, 0, by omega, rfl, rfl, rfl, rfl⟩
  rintro n ρ h' ⟨hold, hnx, i, hin, r11, r12, r13, r3⟩
  by_cases hi : i < fs.length
  · have hx : fs[i]? = some fs[i] := List.getElem?_eq_getElem hi
    have hxl := M.len _ (List.mem_of_getElem? hx)
    have hc2 : cellsOf h' bl = some (fs.map Fr.enc).flatten := cellsOf_of (by rw [hold _ hlt.2]; exact M.row)
    have hlen := flat_len M.rows
    have hle : i * 17 + 17 ≤ (fs.map Fr.enc).flatten.length := by rw [hlen]; simp; omega
    have hrow := flat_row M.rows (i := i) (row := fs[i].enc) (by simp [hx])
    have hel := Fr.enc_len hxl
    have hone : fs[i].enc.all AV.one = true := by simp [Fr.enc, AV.one]
    have htk := Fr.enc_taken hxl
    have hd : fs[i].enc.drop 17 = [] := List.drop_eq_nil_of_le (by omega)
    have hw : IntKind.wrap .i64 ((i : Int) + 1) = ((i + 1 : Nat) : Int) := by rw [wrapS] <;> omega
    have hu : frUsed (fs.take i) ≤ i := Nat.le_trans (List.countP_le_length) (by simp; omega)
    have hw2 : IntKind.wrap .i64 ((frUsed (fs.take i) : Int) + 1) = ((frUsed (fs.take i) + 1 : Nat) : Int) := by rw [wrapS] <;> omega
    have hs : frUsed (fs.take (i + 1)) = frUsed (fs.take i) + (if fs[i].taken then 1 else 0) := by
      have e : fs.take (i + 1) = fs.take i ++ [fs[i]] := (List.take_append_getElem hi).symm
      unfold frUsed
      rw [e, List.countP_append, List.countP_singleton]
    simp (decide := true) only [st, c25, c25_0, c25_1, c25_2, c25_3, c25_4, c25_5, c25_6, c25_7, c25_8, c25_9, r11, r12, r13, hi, hc2, hle, hrow]
    cases htk2 : fs[i].taken
    all_goals
      rw [htk2] at htk hs
      have hne : ∀ b, b < h.next → b ≠ h'.next := fun b hb => by omega
      simp (decide := true) only [st, r13, hel, hone, hd, htk, r3, hw, hw2, Nat.reduceAdd]
      refine ⟨n - 1, by omega, fun b hb => ?_, ?_, i + 1, by omega, ?_, ?_, ?_, ?_⟩
      · simp (decide := true) only [st, hne b hb, hold b hb]
      · simp (decide := true) only [st]
        omega
      · simp (decide := true) only [st, r11]
      · simp (decide := true) only [st, r12]
      · simp (decide := true) only [st]
      · simp (decide := true) only [st, r3, hs]
  · have hie : i = fs.length := by omega
    rw [hie, List.take_length] at r3
    simp (decide := true) only [st, c25, c25_0, c25_1, c25_2, c25_3, c25_4, c25_5, c25_6, c25_7, c25_8, c25_9, r11, r12, r13, hi, r3]
    exact fun b hb => hold b hb

def frNew (n : Int) : Nat := (max 0 (min n 512)).toNat

theorem new_calls (ok : TblOK P tb) (n : Int) : ACalls P 20 [.int .i64 n] h (.ptr (h.next + 1) 0)
    ((h.at h.next (.cells (List.replicate (frNew n) (Fr.enc ⟨List.replicate 16 0, false⟩)).flatten)).at (h.next + 1) (.cells [.rs h.next 0 (frNew n) 17])) := by
  refine ok.calls (rf := c20) rfl (Nat.le_of_ble_eq_true rfl) ?_
  have hm : makeLen 17 (.int .i64 (max 0 (min n 512))) (.int .i64 (max 0 (min n 512))) = some (frNew n) := by
    unfold makeLen frNew
    simp only []
    rw [if_pos ⟨by omega, trivial, by omega, by omega⟩]
  simp (decide := true) only [st, c20, c20_0, c20_1, hm, Nat.reduceAdd]
  simp [Fr.enc, List.replicate]

def F0 : Fr := ⟨List.replicate 16 0, false⟩
def T0 : Fr := ⟨List.replicate 16 0, true⟩

theorem new_mem (ok : TblOK P tb) (h : AHeap) (n : Int) : ∃ bm bl h', ACalls P 20 [.int .i64 n] h (.ptr bm 0) h' ∧ MemAt h' bm bl (List.replicate (frNew n) F0) ∧ h.next ≤ bm ∧ h.next ≤ bl ∧ bm < h'.next ∧ bl < h'.next ∧ h.next ≤ h'.next ∧ ∀ b, b < h.next → h'.get b = h.get b := by
  refine ⟨h.next + 1, h.next, _, new_calls ok n, ⟨?_, ?_, ?_, ?_, ?_⟩, by omega, by omega, ?_, ?_, ?_, ?_⟩
  · simp [AHeap.at]
  · simp [AHeap.at, F0]
  · omega
  · intro f hf; simp [List.mem_replicate] at hf; simp [hf.2, F0]
  · simp [frNew]; omega
  · simp [AHeap.at]
  · simp [AHeap.at]; omega
  · simp [AHeap.at]; omega
  · intro b hb; simp [AHeap.at, show b ≠ h.next by omega, show b ≠ h.next + 1 by omega]

theorem take_new {n i : Nat} (hi : i < n) : frLeast (List.replicate i T0 ++ List.replicate (n - i) F0) = some i ∧ frTake (List.replicate i T0 ++ List.replicate (n - i) F0) = List.replicate (i + 1) T0 ++ List.replicate (n - (i + 1)) F0 := by
  have h1 : frLeast (List.replicate i T0 ++ List.replicate (n - i) F0) = some i := by
    unfold frLeast
    rw [List.findIdx?_append]
    have e1 : List.findIdx? (fun f => !f.taken) (List.replicate i T0) = none := by
      rw [List.findIdx?_eq_none_iff]; intro x hx; simp [List.mem_replicate] at hx; simp [hx.2, T0]
    rw [e1]
    have : n - i = (n - i - 1) + 1 := by omega
    rw [this, List.replicate_succ, List.findIdx?_cons]
    have : (!F0.taken) = true := rfl
    rw [this]
    simp
  refine ⟨h1, ?_⟩
  simp only [frTake, h1]
  have : n - i = (n - (i + 1)) + 1 := by omega
  rw [this, List.replicate_succ, List.set_append_right _ _ (by simp)]
  simp [T0, List.replicate_succ']

theorem take_full {n : Nat} : frLeast (List.replicate n T0) = none ∧ frTake (List.replicate n T0) = List.replicate n T0 := by
  have h1 : frLeast (List.replicate n T0) = none := by
    unfold frLeast
    rw [List.findIdx?_eq_none_iff]; intro x hx; simp [List.mem_replicate] at hx; simp [hx.2, T0]
  exact ⟨h1, by simp [frTake, h1]⟩

theorem frTake_len : (frTake fs).length = fs.length := by unfold frTake; split <;> simp
theorem frTake_b (hl : ∀ f ∈ fs, f.b.length = 16) : ∀ f ∈ frTake fs, f.b.length = 16 := by
  unfold frTake
  split
  · exact hl
  · intro f hf
    rcases List.mem_or_eq_of_mem_set hf with hf | rfl
    · exact hl f hf
    · simp
theorem frStore_len {f off b : Int} : (frStore fs f off b).length = fs.length := by unfold frStore; split <;> first | rfl | (split <;> simp)
theorem frStore_b {f off b : Int} (hl : ∀ f ∈ fs, f.b.length = 16) : ∀ x ∈ frStore fs f off b, x.b.length = 16 := by
  unfold frStore
  split
  · exact hl
  · split
    · exact hl
    · rename_i x hx
      intro y hy
      rcases List.mem_or_eq_of_mem_set hy with hy | rfl
      · exact hl y hy
      · simp [hl x (List.mem_of_getElem? hx)]
theorem frFree_len {f : Int} : (frFree fs f).length = fs.length := by unfold frFree; split <;> first | rfl | (split <;> simp)
theorem frFree_b {f : Int} (hl : ∀ f ∈ fs, f.b.length = 16) : ∀ x ∈ frFree fs f, x.b.length = 16 := by
  unfold frFree
  split
  · exact hl
  · split
    · exact hl
    · rename_i x hx
      intro y hy
      rcases List.mem_or_eq_of_mem_set hy with hy | rfl
      · exact hl y hy
      · simp [hl x (List.mem_of_getElem? hx)]

theorem MemAt.take (M : MemAt h bm bl fs) : MemAt (memH h bl (frTake fs)) bm bl (frTake fs) := M.upd frTake_len (frTake_b M.len)
theorem MemAt.store (M : MemAt h bm bl fs) (f off b : Int) : MemAt (memH h bl (frStore fs f off b)) bm bl (frStore fs f off b) := M.upd frStore_len (frStore_b M.len)
theorem MemAt.free (M : MemAt h bm bl fs) (f : Int) : MemAt (memH h bl (frFree fs f)) bm bl (frFree fs f) := M.upd frFree_len (frFree_b M.len)

end Go.Proofs.Ytchomcffeiheeaa.Am
