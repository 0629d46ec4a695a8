/- Memory by pages: what each function of the layer does to the heap. Conditions: none. -/
import Derived.Test.YtchomcffeiheeaaFr
set_option maxRecDepth 100000
set_option linter.unusedSimpArgs false
set_option linter.unusedVariables false
set_option linter.unnecessarySimpa false
/- Memory by pages. -/
namespace Go.Proofs.Ytchomcffeiheeaa.Am
open Go

structure Tb where
  l : List Nat
  n : Nat

def frow (l : List Nat) : List (List AV) := l.map fun (f : Nat) => [AV.int .i64 f]
def Tb.enc (t : Tb) : AV := .agg [.vs (frow t.l) .unk, .int .i64 t.n]
def Tb0 : AV := .agg [.vs [] .unk, .int .i64 0]

abbrev Tabs := List (Int × Tb)
def mapEnts (ts : Tabs) : List (AV × AV) := ts.map fun e => (.int .u64 e.1, e.2.enc)
def tfind (ts : Tabs) (id : Int) : Option Tb := (ts.find? fun e => id == e.1).map (·.2)
def tidx (ts : Tabs) (id : Int) : Option Nat := ts.findIdx? fun e => id == e.1

theorem findA_ents {id : Int} : ∀ (ts : Tabs) (i : Nat), findA (.int .u64 id) (mapEnts ts) i = some ((tidx ts id).map (· + i))
  | [], i => rfl
  | e :: ts, i => by
    have ih := findA_ents (id := id) ts (i + 1)
    simp only [mapEnts, List.map_cons, findA, if_true, tidx, List.findIdx?_cons] at ih ⊢
    by_cases h : (id == e.1) = true
    · simp [h]
    · have h' : (id == e.1) = false := by simpa using h
      simp only [h', if_false, Bool.false_eq_true]
      rw [ih]
      simp only [Option.map_map]
      congr 2
      funext x
      simp [Nat.add_comm, Nat.add_left_comm]

theorem lookup_ents {id : Int} {ts : Tabs} : lookupA (.int .u64 id) (mapEnts ts) = some ((tfind ts id).map Tb.enc) := by
  unfold lookupA
  rw [findA_ents]
  simp only [Option.map_some, Option.some.injEq]
  unfold tidx tfind
  induction ts with
  | nil => rfl
  | cons e ts ih =>
    simp only [List.findIdx?_cons, List.find?_cons]
    by_cases h : (id == e.1) = true
    · simp [h, mapEnts]
    · have h' : (id == e.1) = false := by simpa using h
      simp only [h', if_false, Bool.false_eq_true]
      rw [← ih]
      cases ts.findIdx? (fun e => id == e.1) <;> simp [mapEnts]

structure SpAt (h : AHeap) (bs bm bl bp : Nat) (fs : List Fr) (ts : Tabs) : Prop where
  top : h.get bs = some (.cells [.ptr bm 0, .map (some bp)])
  mem : MemAt h bm bl fs
  map : h.get bp = some (.map (mapEnts ts))
  n1 : bs ≠ bm
  n2 : bs ≠ bl
  n3 : bs ≠ bp
  n4 : bp ≠ bm
  n5 : bp ≠ bl
  l1 : bs < h.next
  l2 : bm < h.next
  l3 : bl < h.next
  l4 : bp < h.next
  tn : ∀ e ∈ ts, e.2.n ≤ 64 ∧ e.2.l.length = (e.2.n + 15) / 16

variable {P : Program} {h : AHeap} {bs bm bl bp : Nat} {fs : List Fr} {ts : Tabs}

theorem SpAt.look (S : SpAt h bs bm bl bp fs ts) (id : Int) (h' : AHeap) (hh : h'.get bp = h.get bp) : lookupM (.agg [.vs [] .full, .int .i64 0]) true h' (.map (some bp)) (.int .u64 id) =
    some (match tfind ts id with | some t => .tup [t.enc, .bool true] | none => .tup [.agg [.vs [] .full, .int .i64 0], .bool false]) := by
  unfold lookupM
  simp only [hh, S.map, lookup_ents, Option.map_some]
  cases tfind ts id <;> rfl

def ofRes : Option Tb → AV
  | some t => .tup [t.enc, .int .i64 0]
  | none => .tup [Tb0, .int .i64 7]

theorem frow_strip : ∀ (l : List Nat), AV.stripLL (frow l) = frow l
  | [] => rfl
  | x :: xs => by
    have := frow_strip xs
    simp only [frow, List.map_cons, AV.stripLL, AV.stripL, AV.strip] at this ⊢
    rw [this]
theorem Tb.enc_strip {t : Tb} : t.enc.strip = t.enc := by simp only [Tb.enc, AV.strip, AV.stripL, frow_strip]
theorem frow_allR {p : Nat → Bool} : ∀ (l : List Nat), AV.allLL p (frow l) = true
  | [] => rfl
  | x :: xs => by
    have := frow_allR (p := p) xs
    simp only [frow, List.map_cons, AV.allLL, AV.allL, AV.allR, Bool.and_true, Bool.true_and] at this ⊢
    exact this
theorem Tb.enc_allR {p : Nat → Bool} {t : Tb} : t.enc.allR p = true := by simp only [Tb.enc, AV.allR, AV.allL, frow_allR, Bool.and_self]
theorem ofRes_allR {p : Nat → Bool} {o : Option Tb} : (ofRes o).allR p = true := by
  cases o
  · rfl
  · simp only [ofRes, AV.allR, AV.allL, Tb.enc_allR, Bool.and_self]

theorem of_calls (ok : TblOK P tb) (S : SpAt h bs bm bl bp fs ts) (id : Int) : ACalls P 40 [.ptr bs 0, .int .u64 id] h (ofRes (tfind ts id)) h := by
  have hc := cellsOf_of S.top
  have hk := fun h' hh => S.look id h' hh
  have l1 := S.l1
  have l4 := S.l4
  have n1 : ¬ bs = h.next := by omega
  have n4 : ¬ bp = h.next := by omega
  have hne : ∀ b, b < h.next → ¬ b = h.next := fun b hb => by omega
  have hne1 : ∀ b, b < h.next → ¬ b = h.next + 1 := fun b hb => by omega
  have e1 : ¬ h.next = h.next + 1 := by omega
  have e2 : ¬ h.next + 1 = h.next := by omega
  refine ok.keepsS (rf := c40) rfl (Nat.le_of_ble_eq_true rfl) ofRes_allR ?_
  cases htf : tfind ts id with
  | none =>
    simp only [htf] at hk
    simp (decide := true) only [st, c40, c40_0, c40_1, c40_2, c40_3, c40_4, c40_5, c40_6, hc, n1, n4, hk, e1, e2, keepS_ret, AV.strip, AV.stripL, AV.stripLL, ofRes, Tb0]
    intro b hb
    simp (decide := true) only [st, hne b hb, hne1 b hb]
  | some t =>
    simp only [htf] at hk
    have hcells : t.enc.cells = [.vs (frow t.l) .unk, .int .i64 t.n] := rfl
    have hbk : AV.agg [.vs (frow t.l) .unk, .int .i64 t.n] = t.enc := rfl
    simp (decide := true) only [st, c40, c40_0, c40_1, c40_2, c40_3, c40_4, c40_5, c40_6, hc, n1, n4, hk, e1, e2, keepS_ret, hcells, AV.strip, AV.stripL, AV.stripLL, frow_strip, ofRes, Tb.enc]
    intro b hb
    simp (decide := true) only [st, hne b hb, hne1 b hb]

theorem tfind_mem {id : Int} {t : Tb} (e : tfind ts id = some t) : ∃ x ∈ ts, x.1 = id ∧ x.2 = t := by
  unfold tfind at e
  obtain ⟨x, h1, h2⟩ := Option.map_eq_some_iff.1 e
  exact ⟨x, List.mem_of_find?_eq_some h1, by have := List.find?_some h1; simp at this; exact this.symm, h2⟩

theorem SpAt.small (S : SpAt h bs bm bl bp fs ts) {id : Int} {t : Tb} (e : tfind ts id = some t) : t.n ≤ 64 := by
  obtain ⟨x, h1, _, rfl⟩ := tfind_mem e
  exact (S.tn x h1).1

theorem SpAt.llen (S : SpAt h bs bm bl bp fs ts) {id : Int} {t : Tb} (e : tfind ts id = some t) : t.l.length = (t.n + 15) / 16 := by
  obtain ⟨x, h1, _, rfl⟩ := tfind_mem e
  exact (S.tn x h1).2

/-- An id's table, if it has some bytes. -/
def inR (ts : Tabs) (id off n : Int) : Option Tb × Int := match tfind ts id with
  | none => (none, 7)
  | some t => if off < 0 ∨ n < 0 ∨ (t.n : Int) < off ∨ (t.n : Int) - off < n then (none, 11) else (some t, 0)

def tbV : Option Tb → AV
  | none => Tb0
  | some t => t.enc

theorem tbV_allR {p : Nat → Bool} {o : Option Tb} : (tbV o).allR p = true := by
  cases o
  · rfl
  · exact Tb.enc_allR

theorem within_calls (ok : TblOK P tb) (S : SpAt h bs bm bl bp fs ts) (id off n : Int) : ACalls P 39 [.ptr bs 0, .int .u64 id, .int .i64 off, .int .i64 n] h (.tup [tbV (inR ts id off n).1, .int .i64 (inR ts id off n).2]) h := by
  have hof := fun h' (S' : SpAt h' bs bm bl bp fs ts) => of_calls ok S' id
  have hne : ∀ b, b < h.next → ¬ b = h.next := fun b hb => by omega
  have hne1 : ∀ b, b < h.next → ¬ b = h.next + 1 := fun b hb => by omega
  have e1 : ¬ h.next = h.next + 1 := by omega
  have e2 : ¬ h.next + 1 = h.next := by omega
  have S1 : SpAt (h.at h.next (.cells [.vs [] .full, .int .i64 0])) bs bm bl bp fs ts :=
    { S with top := by rw [AHeap.at_get, if_neg (hne _ S.l1)]; exact S.top
             mem := { S.mem with top := by rw [AHeap.at_get, if_neg (hne _ S.l2)]; exact S.mem.top, row := by rw [AHeap.at_get, if_neg (hne _ S.l3)]; exact S.mem.row }
             map := by rw [AHeap.at_get, if_neg (hne _ S.l4)]; exact S.map
             l1 := by rw [AHeap.at_next]; have := S.l1; omega
             l2 := by rw [AHeap.at_next]; have := S.l2; omega
             l3 := by rw [AHeap.at_next]; have := S.l3; omega
             l4 := by rw [AHeap.at_next]; have := S.l4; omega }
  refine ok.keepsS (rf := c39) rfl (Nat.le_of_ble_eq_true rfl) (by simp only [AV.allR, AV.allL, tbV_allR, Bool.and_self]) ?_
  unfold inR
  cases htf : tfind ts id with
  | none =>
    simp only [htf, ofRes] at hof
    simp (decide := true) only [st, c39, c39_0, c39_1, c39_2, c39_3, c39_4, c39_5, c39_6]
    refine execC_by (hof _ S1) ?_
    simp (decide := true) only [st, e1, e2, Tb0, keepS_ret, AV.strip, AV.stripL, AV.stripLL, tbV]
    intro b hb
    simp (decide := true) only [st, hne b hb, hne1 b hb]
  | some t =>
    have hsm := S.small htf
    simp only [htf, ofRes] at hof
    have hcells : t.enc.cells = [.vs (frow t.l) .unk, .int .i64 t.n] := rfl
    simp (decide := true) only [st, c39, c39_0, c39_1, c39_2, c39_3, c39_5, c39_6]
    refine execC_by (hof _ S1) ?_
    simp (decide := true) only [st, e1, e2, hcells]
    refine exec_cut (Q := fun ρ' => ρ' 8 = .ptr h.next 0 ∧ ρ' 10 = .ptr (h.next + 1) 0 ∧ ρ' 23 = .bool (decide (off < 0 ∨ n < 0 ∨ (t.n : Int) < off ∨ (t.n : Int) - off < n))) ?_ ?_
    · by_cases h1 : off < 0
      · simp (decide := true) only [st, c39_4, e1, e2, h1, true_or]
      · by_cases h2 : n < 0
        · simp (decide := true) only [st, c39_4, e1, e2, h1, h2, true_or, or_true]
        · by_cases h3 : (t.n : Int) < off
          · simp (decide := true) only [st, c39_4, e1, e2, h1, h2, h3, true_or, or_true]
          · have hw3 : IntKind.wrap .i64 ((t.n : Int) - off) = (t.n : Int) - off := wrapS (by omega) (by omega)
            simp (decide := true) only [st, c39_4, e1, e2, h1, h2, h3, false_or, hw3]
    · rintro ρ' ⟨q8, q10, q23⟩
      by_cases hc : off < 0 ∨ n < 0 ∨ (t.n : Int) < off ∨ (t.n : Int) - off < n
      · simp (decide := true) only [st, q8, q10, q23, hc, e1, e2, Tb0, keepS_ret, AV.strip, AV.stripL, AV.stripLL, tbV]
        intro b hb
        simp (decide := true) only [st, hne b hb, hne1 b hb]
      · simp (decide := true) only [st, q8, q10, q23, hc, e1, e2, keepS_ret, AV.strip, AV.stripL, AV.stripLL, frow_strip, tbV, Tb.enc]
        intro b hb
        simp (decide := true) only [st, hne b hb, hne1 b hb]

theorem len_calls' (ok : TblOK P tb) (S : SpAt h bs bm bl bp fs ts) (id : Int) : ACalls P 34 [.ptr bs 0, .int .u64 id] h (match tfind ts id with | some t => .tup [.int .i64 t.n, .int .i64 0] | none => .tup [.int .i64 0, .int .i64 7]) h := by
  have hof := of_calls ok S id
  have hne : ∀ b, b < h.next → ¬ b = h.next := fun b hb => by omega
  refine ok.keeps (rf := c34) rfl (Nat.le_of_ble_eq_true rfl) (by split <;> rfl) ?_
  cases htf : tfind ts id with
  | none =>
    simp only [htf, ofRes] at hof
    simp (decide := true) only [st, c34, c34_0, c34_1, c34_2]
    refine execC_by hof ?_
    simp (decide := true) only [st, Tb0]
    intro b hb
    simp (decide := true) only [st, hne b hb]
  | some t =>
    simp only [htf, ofRes] at hof
    have hcells : t.enc.cells = [.vs (frow t.l) .unk, .int .i64 t.n] := rfl
    simp (decide := true) only [st, c34, c34_0, c34_1, c34_2]
    refine execC_by hof ?_
    simp (decide := true) only [st, hcells]
    intro b hb
    simp (decide := true) only [st, hne b hb]

theorem SpAt.clean (S : SpAt h bs bm bl bp fs ts) (n : Nat) : SpAt (h.clean n) bs bm bl bp fs ts :=
  { S with top := by simp only [AHeap.clean]; rw [if_pos S.l1]; exact S.top
           mem := { S.mem with top := by simp only [AHeap.clean]; rw [if_pos S.l2]; exact S.mem.top, row := by simp only [AHeap.clean]; rw [if_pos S.l3]; exact S.mem.row }
           map := by simp only [AHeap.clean]; rw [if_pos S.l4]; exact S.map
           l1 := Nat.lt_of_lt_of_le S.l1 (Nat.le_add_right _ _)
           l2 := Nat.lt_of_lt_of_le S.l2 (Nat.le_add_right _ _)
           l3 := Nat.lt_of_lt_of_le S.l3 (Nat.le_add_right _ _)
           l4 := Nat.lt_of_lt_of_le S.l4 (Nat.le_add_right _ _) }

theorem used_le {fs : List Fr} : frUsed fs ≤ fs.length := List.countP_le_length

theorem spfree_calls (ok : TblOK P tb) (S : SpAt h bs bm bl bp fs ts) : ACalls P 35 [.ptr bs 0] h (.int .i64 ((fs.length - frUsed fs : Nat) : Int)) h := by
  have S1 := S.clean 12
  have hc := cellsOf_of S1.top
  have hsm := S.mem.small
  have hul := used_le (fs := fs)
  have hlen := len_calls ok S1.mem
  have hus := used_calls ok S1.mem ⟨S1.l2, S1.l3⟩
  have hw : IntKind.wrap .i64 ((fs.length : Int) - (frUsed fs : Int)) = ((fs.length - frUsed fs : Nat) : Int) := by rw [wrapS] <;> omega
  refine ok.keeps (rf := c35) rfl (Nat.le_of_ble_eq_true rfl) rfl ?_
  simp (decide := true) only [st, c35, c35_0, c35_1, c35_2, c35_3]
  refine WP_regD2 ?_
  simp only [List.length_cons, List.length_nil, Nat.zero_add, Nat.reduceAdd]
  simp (decide := true) only [st, hc]
  refine e2C_by hlen (by simp (decide := true) only [st]) ?_
  simp (decide := true) only [st, hc, S.l1]
  refine e2C_by hus (by simp (decide := true) only [st]) ?_
  simp (decide := true) only [st, hw]
  intro b hb
  simp (decide := true) only [st, hb]

theorem SpAt.more (S : SpAt h bs bm bl bp fs ts) {h' : AHeap} (hn : h.next ≤ h'.next) (hk : ∀ b, b < h.next → h'.get b = h.get b) : SpAt h' bs bm bl bp fs ts :=
  { S with top := by rw [hk _ S.l1]; exact S.top
           mem := { S.mem with top := by rw [hk _ S.l2]; exact S.mem.top, row := by rw [hk _ S.l3]; exact S.mem.row }
           map := by rw [hk _ S.l4]; exact S.map
           l1 := Nat.lt_of_lt_of_le S.l1 hn
           l2 := Nat.lt_of_lt_of_le S.l2 hn
           l3 := Nat.lt_of_lt_of_le S.l3 hn
           l4 := Nat.lt_of_lt_of_le S.l4 hn }

/-- The memory has turned. -/
theorem SpAt.turn (S : SpAt h bs bm bl bp fs ts) {gs : List Fr} (h1 : gs.length = fs.length) (h2 : ∀ f ∈ gs, f.b.length = 16) : SpAt (memH h bl gs) bs bm bl bp gs ts :=
  { S with top := by simp only [memH, AHeap.set]; rw [if_neg S.n2]; exact S.top
           mem := S.mem.upd h1 h2
           map := by simp only [memH, AHeap.set]; rw [if_neg S.n5]; exact S.map }

theorem sp_new (ok : TblOK P tb) (h : AHeap) (n : Int) : ∃ bs bm bl bp h', ACalls P 27 [.int .i64 n] h (.ptr bs 0) h' ∧ SpAt h' bs bm bl bp (List.replicate (frNew n) F0) [] ∧
    h.next ≤ bs ∧ h.next ≤ bm ∧ h.next ≤ bl ∧ h.next ≤ bp ∧ h.next ≤ h'.next ∧ ∀ b, b < h.next → h'.get b = h.get b := by
  obtain ⟨bm, bl, h1, hnew, M, g1, g2, g3, g4, g5, g6⟩ := new_mem ok h n
  refine ⟨h1.next + 1, bm, bl, h1.next, (h1.at h1.next (.map [])).at (h1.next + 1) (.cells [.ptr bm 0, .map (some h1.next)]), ?_, ⟨?_, ⟨?_, ?_, M.ne, M.len, M.small⟩, ?_, ?_, ?_, ?_, ?_, ?_, ?_, ?_, ?_, ?_, ?_⟩, ?_, g1, g2, ?_, ?_, ?_⟩
  · refine ok.calls (rf := c27) rfl (Nat.le_of_ble_eq_true rfl) ?_
    simp (decide := true) only [st, c27, c27_0, c27_1]
    refine execC_by hnew ?_
    simp (decide := true) only [st]
  · simp [AHeap.at]
  · simp only [AHeap.at]; rw [if_neg (by omega), if_neg (by omega)]; exact M.top
  · simp only [AHeap.at]; rw [if_neg (by omega), if_neg (by omega)]; exact M.row
  · simp [AHeap.at, mapEnts]
  · omega
  · omega
  · omega
  · omega
  · omega
  · simp [AHeap.at]
  · simp [AHeap.at]; omega
  · simp [AHeap.at]; omega
  · simp [AHeap.at]; omega
  · simp
  · omega
  · omega
  · simp [AHeap.at]; omega
  · intro b hb
    simp only [AHeap.at]
    rw [if_neg (by omega), if_neg (by omega)]
    exact g6 b hb

/-- Frames taken one by one. -/
def takeN (fs : List Fr) : Nat → List Fr × List Nat
  | 0 => (fs, [])
  | k + 1 => (frTake (takeN fs k).1, (takeN fs k).2 ++ [(frLeast (takeN fs k).1).getD 0])

theorem takeN_len {k : Nat} : (takeN fs k).1.length = fs.length ∧ (takeN fs k).2.length = k := by
  induction k with
  | zero => exact ⟨rfl, rfl⟩
  | succ k ih =>
    simp only [takeN, frTake_len, List.length_append, List.length_singleton]
    omega

theorem takeN_b (hl : ∀ f ∈ fs, f.b.length = 16) {k : Nat} : ∀ f ∈ (takeN fs k).1, f.b.length = 16 := by
  induction k with
  | zero => exact hl
  | succ k ih => exact frTake_b ih

theorem least_of_used (h : frUsed fs < fs.length) : ∃ i, frLeast fs = some i ∧ frUsed (frTake fs) = frUsed fs + 1 := by
  cases hl : frLeast fs with
  | none =>
    unfold frLeast at hl
    rw [List.findIdx?_eq_none_iff] at hl
    have : frUsed fs = fs.length := by
      unfold frUsed
      rw [List.countP_eq_length]
      intro x hx
      have := hl x hx
      simpa using this
    omega
  | some i =>
    refine ⟨i, rfl, ?_⟩
    simp only [frTake, hl]
    unfold frLeast at hl
    rw [List.findIdx?_eq_some_iff_getElem] at hl
    obtain ⟨hi, h1, _⟩ := hl
    have hft : fs[i].taken = false := by simpa using h1
    unfold frUsed
    rw [List.countP_set hi, hft]
    simp

theorem takeN_used {k : Nat} (hk : k ≤ fs.length - frUsed fs) : frUsed (takeN fs k).1 = frUsed fs + k := by
  induction k with
  | zero => rfl
  | succ k ih =>
    have ih := ih (by omega)
    have hl := (takeN_len (fs := fs) (k := k)).1
    obtain ⟨i, h1, h2⟩ := least_of_used (fs := (takeN fs k).1) (by omega)
    simp only [takeN]
    rw [h2, ih]
    omega

def needOf (n : Int) : Nat := ((n + 15) / 16).toNat

/-- What Map comes to. -/
def mapR (fs : List Fr) (ts : Tabs) (id n : Int) : Int × List Fr × Tabs :=
  if n < 0 ∨ 64 < n then (1, fs, ts)
  else if (tfind ts id).isSome then (1, fs, ts)
  else if fs.length - frUsed fs < needOf n then (9, fs, ts)
  else (0, (takeN fs (needOf n)).1, ts ++ [(id, ⟨(takeN fs (needOf n)).2, n.toNat⟩)])

theorem mapSet_new {id : Int} {v : AV} (hn : tfind ts id = none) : mapSet (.int .u64 id) v (mapEnts ts) = some (mapEnts ts ++ [(.int .u64 id, v)]) := by
  unfold mapSet
  rw [findA_ents]
  have : tidx ts id = none := by
    unfold tfind at hn
    unfold tidx
    rw [List.findIdx?_eq_none_iff]
    intro x hx
    have := List.find?_eq_none.1 (Option.map_eq_none_iff.1 hn) x hx
    simpa using this
  rw [this]
  rfl

/-- What Map's first test comes to. -/
theorem map_first {ρ : Env} {h : AHeap} {n id : Int} (q0 : ρ 0 = .ptr bs 0) (q1 : ρ 1 = .int .u64 id) (q2 : ρ 2 = .int .i64 n) :
    exec P c28_1 ρ h (fun ρ' h' => (ρ' 0 = .ptr bs 0 ∧ ρ' 1 = .int .u64 id ∧ ρ' 2 = .int .i64 n ∧ ρ' 22 = .bool (decide (n < 0 ∨ 64 < n))) ∧ h' = h) := by
  by_cases h1 : n < 0
  · simp (decide := true) only [st, c28_1, q0, q1, q2, h1, true_or]
  · simp (decide := true) only [st, c28_1, q0, q1, q2, h1, false_or]

theorem map_calls (ok : TblOK P tb) (S : SpAt h bs bm bl bp fs ts) (id n : Int) : ∃ h', ACalls P 28 [.ptr bs 0, .int .u64 id, .int .i64 n] h (.int .i64 (mapR fs ts id n).1) h' ∧
    (SpAt h' bs bm bl bp (mapR fs ts id n).2.1 (mapR fs ts id n).2.2 ∧ h.next ≤ h'.next ∧ ∀ b, b < h.next → b ≠ bl → b ≠ bp → h'.get b = h.get b) := by
  have hc := cellsOf_of S.top
  have hmap := mapOf_of S.map
  have hne : ∀ b, b < h.next → ¬ b = h.next := fun b hb => by omega
  have hne1 : ∀ b, b < h.next → ¬ b = h.next + 1 := fun b hb => by omega
  have e1 : ¬ h.next = h.next + 1 := by omega
  have n1 : ¬ bs = h.next := by have := S.l1; omega
  have n4 : ¬ bp = h.next := by have := S.l4; omega
  by_cases hn : n < 0 ∨ 64 < n
  · have hR : mapR fs ts id n = (1, fs, ts) := by simp [mapR, hn]
    rw [hR]
    refine ok.callsX (rf := c28) rfl (Nat.le_of_ble_eq_true rfl) ?_
    simp (decide := true) only [st, c28, c28_0, c28_2, c28_4, c28_5, c28_6, c28_7, c28_8, c28_9, c28_10, c28_11, c28_12, c28_13, c28_14, c28_15, c28_16, c28_17, c28_18]
    refine exec_cut _ (map_first (bs := bs) (id := id) (n := n) (by simp (decide := true) only [st]) (by simp (decide := true) only [st]) (by simp (decide := true) only [st])) ?_
    rintro ρ1 ⟨q0, q1, q2, q22⟩
    rw [decide_eq_true hn] at q22
    simp (decide := true) only [st, q22, doneX_ret]
    exact S
  obtain ⟨n, rfl⟩ : ∃ k : Nat, n = k := ⟨n.toNat, by omega⟩
  have hn64 : n ≤ 64 := by omega
  cases htf : tfind ts id with
  | some t =>
    have hR : mapR fs ts id n = (1, fs, ts) := by simp only [mapR, if_neg hn, htf, Option.isSome, if_true]
    have hlk := lookup_ents (ts := ts) (id := id)
    rw [htf] at hlk
    have hcells : t.enc.cells = [.vs (frow t.l) .unk, .int .i64 t.n] := rfl
    rw [hR]
    refine ok.callsX (rf := c28) rfl (Nat.le_of_ble_eq_true rfl) ?_
    simp (decide := true) only [st, c28, c28_0, c28_2, c28_3, c28_4, c28_5, c28_6, c28_7, c28_8, c28_9, c28_10, c28_11, c28_12, c28_13, c28_14, c28_15, c28_16, c28_17, c28_18]
    refine exec_cut _ (map_first (bs := bs) (id := id) (n := n) (by simp (decide := true) only [st]) (by simp (decide := true) only [st]) (by simp (decide := true) only [st])) ?_
    rintro ρ1 ⟨q0, q1, q2, q22⟩
    rw [decide_eq_false hn] at q22
    simp (decide := true) only [st, q0, q1, q2, q22, hc, hmap, hlk, lookupM_some, wrapM, hcells, doneX_ret]
    refine ⟨S.more (by simp (decide := true) only [st]; omega) (fun b hb => by simp (decide := true) only [st, hne b hb]), by omega, fun b hb _ _ => ?_⟩
    simp (decide := true) only [st, hne b hb]
  | none =>
    have hlk := lookup_ents (ts := ts) (id := id)
    rw [htf] at hlk
    have hneed4 : needOf n ≤ 4 := by unfold needOf; omega
    have hneed : needOf n < 2 ^ 40 := by omega
    have hw1 : IntKind.wrap .i64 ((n : Int) + 16) = (n : Int) + 16 := wrapS (by omega) (by omega)
    have hw2 : IntKind.wrap .i64 ((n : Int) + 16 - 1) = (n : Int) + 15 := by rw [wrapS (by omega) (by omega)]; omega
    have hq : ((n : Int) + 15).tdiv 16 = (needOf n : Int) := by rw [Int.tdiv_eq_ediv_of_nonneg (by omega)]; unfold needOf; omega
    have hw3 := wrapN (n := needOf n) (by omega)
    let h1 : AHeap := (h.at h.next (.cells [.vs [] .full, .int .i64 0])).set h.next (some (.cells [.vs [] .full, .int .i64 0]))
    have S1 : SpAt h1 bs bm bl bp fs ts := S.more (by simp [h1, AHeap.at, AHeap.set]) (fun b hb => by simp [h1, AHeap.at, AHeap.set, hne b hb])
    have hfr := spfree_calls ok S1
    by_cases hroom : fs.length - frUsed fs < needOf n
    · have hR : mapR fs ts id n = (9, fs, ts) := by simp only [mapR, if_neg hn, htf, Option.isSome, hroom, if_true, Bool.false_eq_true, if_false]
      rw [hR]
      refine ok.callsX (rf := c28) rfl (Nat.le_of_ble_eq_true rfl) ?_
      simp (decide := true) only [st, c28, c28_0, c28_2, c28_3, c28_4, c28_5, c28_6, c28_7, c28_8, c28_9, c28_10, c28_11, c28_12, c28_13, c28_14, c28_15, c28_16, c28_17, c28_18]
      refine exec_cut _ (map_first (bs := bs) (id := id) (n := n) (by simp (decide := true) only [st]) (by simp (decide := true) only [st]) (by simp (decide := true) only [st])) ?_
      rintro ρ1 ⟨q0, q1, q2, q22⟩
      rw [decide_eq_false hn] at q22
      simp (decide := true) only [st, q0, q1, q2, q22, hc, hmap, hlk, lookupM_some, wrapM, hw1, hw2, hq, hw3, n1, n4, Option.map_none]
      refine execC_by hfr ?_
      simp (decide := true) only [st, hroom, doneX_ret]
      refine ⟨S1, by simp [h1, AHeap.at, AHeap.set], fun b hb _ _ => by simp [h1, AHeap.at, AHeap.set, hne b hb]⟩
    · have hR : mapR fs ts id n = (0, (takeN fs (needOf n)).1, ts ++ [(id, ⟨(takeN fs (needOf n)).2, n⟩)]) := by simp only [mapR, if_neg hn, htf, Option.isSome, hroom, Bool.false_eq_true, if_false, Int.toNat_natCast]
      rw [hR]
      refine ok.callsX (rf := c28) rfl (Nat.le_of_ble_eq_true rfl) ?_
      simp (decide := true) only [st, c28, c28_0, c28_2, c28_3, c28_4, c28_5, c28_6, c28_7, c28_8, c28_9, c28_10, c28_11, c28_12, c28_13, c28_14, c28_15, c28_16, c28_17, c28_18]
      refine exec_cut _ (map_first (bs := bs) (id := id) (n := n) (by simp (decide := true) only [st]) (by simp (decide := true) only [st]) (by simp (decide := true) only [st])) ?_
      rintro ρ1 ⟨q0, q1, q2, q22⟩
      rw [decide_eq_false hn] at q22
      simp (decide := true) only [st, q0, q1, q2, q22, hc, hmap, hlk, lookupM_some, wrapM, hw1, hw2, hq, hw3, n1, n4, Option.map_none]
      refine execC_by hfr ?_
      simp (decide := true) only [st, q0, q1, q2, hroom]
      have hb10 : h1.next = h.next + 1 := by simp only [h1, AHeap.at, AHeap.set]; omega
      have hg1 : ∀ b, b < h.next → h1.get b = h.get b := fun b hb => by simp [h1, AHeap.at, AHeap.set, hne b hb]
      rw [hb10]
      let I : Nat → Env → AHeap → Prop := fun m ρ h' => ∃ i, i + m = needOf n ∧ ρ 0 = .ptr bs 0 ∧ ρ 1 = .int .u64 id ∧ ρ 10 = .ptr (h.next + 1) 0 ∧ ρ 43 = .int .i64 (needOf n) ∧ ρ 44 = .int .i64 i ∧
        SpAt h' bs bm bl bp (takeN fs i).1 ts ∧ h.next + 1 < h'.next ∧ (∃ a, h'.get (h.next + 1) = some (.cells [a, .int .i64 n]) ∧ AccAt h.next h' a (frow (takeN fs i).2)) ∧ ∀ b, b < h.next → b ≠ bl → h'.get b = h.get b
      refine wp_loop_n I ?_ (needOf n) ⟨0, by omega, by simp (decide := true) only [st, q0], by simp (decide := true) only [st, q1], by simp (decide := true) only [st], by simp (decide := true) only [st], by simp (decide := true) only [st], S1.more (by simp (decide := true) only [st, hb10]; omega) (fun b hb => (by
        have : ¬ b = h.next + 1 := by omega
        simp (decide := true) only [st, this])), by simp (decide := true) only [st, hb10]; omega, ⟨.vs [] .full, by simp (decide := true) only [st], .nil⟩, fun b hb _ => (by
        simp (decide := true) only [st, hne1 b hb, hg1 b hb])⟩
      rintro m ρ h2 ⟨i, him, r0, r1, r10, r43, r44, Sp, hlt, ⟨a, hga, hacc⟩, hkeep⟩
      obtain ⟨tl, rfl⟩ := hacc.vs
      have hc' := cellsOf_of Sp.top
      by_cases hi : i < needOf n
      · have hus := takeN_used (fs := fs) (k := i) (by omega)
        have hln := takeN_len (fs := fs) (k := i)
        obtain ⟨f, hf1, hf2⟩ := least_of_used (fs := (takeN fs i).1) (by omega)
        have hnx : takeN fs (i + 1) = (frTake (takeN fs i).1, (takeN fs i).2 ++ [f]) := by simp only [takeN, hf1, Option.getD_some]
        have ht := take_calls ok Sp.mem
        rw [hf1] at ht
        have Sp2 := Sp.turn (gs := frTake (takeN fs i).1) frTake_len (frTake_b Sp.mem.len)
        have hn2 : (memH h2 bl (frTake (takeN fs i).1)).next = h2.next := rfl
        have hg2 : ∀ b, b ≠ bl → (memH h2 bl (frTake (takeN fs i).1)).get b = h2.get b := fun b hb => by simp only [memH, AHeap.set]; rw [if_neg hb]
        have hgl : (memH h2 bl (frTake (takeN fs i).1)).get bl ≠ some .tail := by simp [memH, AHeap.set]
        generalize memH h2 bl (frTake (takeN fs i).1) = h3 at *
        have hbl : ∀ x, h.next ≤ x → x ≠ bl := fun x hx => by have := S.l3; omega
        have hga3 : h3.get (h.next + 1) = some (.cells [.vs (frow (takeN fs i).2) tl, .int .i64 n]) := by rw [hg2 _ (hbl _ (by omega))]; exact hga
        have hacc3 : AccAt h.next h3 (.vs (frow (takeN fs i).2) tl) (frow (takeN fs i).2) := by
          rcases hacc with ⟨h5, h6⟩ | ⟨t0, h5, h6, h7, h8⟩
          · exact .inl ⟨h5, h6⟩
          · exact .inr ⟨t0, h5, by rw [hg2 _ (hbl _ h7)]; exact h6, h7, by omega⟩
        have hrl : (frow (takeN fs i).2).length = i := by simp [frow, hln.2]
        have hhd : headOk 1 (frow (takeN fs i).2) = true := by
          cases (takeN fs i).2 <;> simp [frow, headOk]
        obtain ⟨a4, h4, ha4, hacc4, hn4, hk4, hk4'⟩ := acc_append (bytes := 8) (sz := 1) (id := h3.next) (ys := [[.int .i64 f]]) hacc3 (Nat.le_refl _) (by omega) (by simp) hhd (by simp only [hrl, List.length_singleton]; omega) (by simp only [hrl, List.length_singleton]; omega)
        have hrow : frow (takeN fs i).2 ++ [[.int .i64 (f : Int)]] = frow (takeN fs (i + 1)).2 := by rw [hnx]; simp [frow]
        rw [hrow] at hacc4
        obtain ⟨tl4, rfl⟩ := hacc4.vs
        have hga4 : h4.get (h.next + 1) = some (.cells [.vs (frow (takeN fs i).2) tl, .int .i64 n]) := by rw [hk4 _ (by omega) (by rw [hga3]; simp)]; exact hga3
        have hc4 := cellsOf_of hga4
        simp (decide := true) only [st, r0, r10, r43, r44, hi, hc']
        refine execC_by ht ?_
        simp (decide := true) only [st, r0, r10, r43, r44, hc', cellsOf_of hga3, List.replicate, List.set, ha4, hc4, wrapN1 (show i < 2 ^ 61 by omega)]
        have Sp4 : SpAt h4 bs bm bl bp (takeN fs (i + 1)).1 ts := by
          rw [hnx]
          have hk5 : ∀ b, b < h2.next → b < h.next ∨ h3.get b ≠ some .tail → h4.get b = h3.get b := fun b hb hor => by
            rcases hor with h | h
            · exact hk4' b h
            · exact hk4 b (by omega) h
          exact { Sp2 with
            top := by rw [hk5 _ Sp.l1 (.inl S.l1)]; exact Sp2.top
            mem := { Sp2.mem with top := by rw [hk5 _ Sp.l2 (.inl S.l2)]; exact Sp2.mem.top, row := by rw [hk5 _ Sp.l3 (.inl S.l3)]; exact Sp2.mem.row }
            map := by rw [hk5 _ Sp.l4 (.inl S.l4)]; exact Sp2.map
            l1 := by have := Sp2.l1; omega
            l2 := by have := Sp2.l2; omega
            l3 := by have := Sp2.l3; omega
            l4 := by have := Sp2.l4; omega }
        have hold : ∀ b, b < h.next → ¬ b = h.next + 1 := fun b hb => by omega
        refine ⟨m - 1, by omega, i + 1, by omega, by simp (decide := true) only [st, r0], by simp (decide := true) only [st, r1], by simp (decide := true) only [st, r10], by simp (decide := true) only [st, r43], by simp (decide := true) only [st], ?_, by simp (decide := true) only [st]; omega, ⟨.vs (frow (takeN fs (i + 1)).2) tl4, by simp (decide := true) only [st], hacc4.of (by simp (decide := true) only [st]) (fun t0 ht0 => ?_)⟩, fun b hb hb2 => ?_⟩
        · exact { Sp4 with
            top := by simp (decide := true) only [st, hold _ S.l1]; exact Sp4.top
            mem := { Sp4.mem with top := by simp (decide := true) only [st, hold _ S.l2]; exact Sp4.mem.top, row := by simp (decide := true) only [st, hold _ S.l3]; exact Sp4.mem.row }
            map := by simp (decide := true) only [st, hold _ S.l4]; exact Sp4.map
            l1 := Sp4.l1, l2 := Sp4.l2, l3 := Sp4.l3, l4 := Sp4.l4 }
        · have : ¬ t0 = h.next + 1 := fun e => by rw [e, hga4] at ht0; cases ht0
          simp (decide := true) only [st, this]
          exact ht0
        · simp (decide := true) only [st, hold b hb]
          rw [hk4' b hb, hg2 b hb2]
          exact hkeep b hb hb2
      · have hie : i = needOf n := by omega
        subst hie
        have hstr : AV.strip (.agg [.vs (frow (takeN fs (needOf n)).2) tl, .int .i64 n]) = (⟨(takeN fs (needOf n)).2, n⟩ : Tb).enc := by simp only [AV.strip, AV.stripL, frow_strip, Tb.enc]
        have hset := mapSet_new (ts := ts) (v := (⟨(takeN fs (needOf n)).2, n⟩ : Tb).enc) htf
        simp (decide := true) only [st, r0, r10, r43, r44, hi, hc']
        refine WP_regD0 rfl ?_
        have l1' := Sp.l1
        have l4' := Sp.l4
        simp (decide := true) only [st, r0, r1, r10, hc', l1', hlt, cellsOf_of hga, mapOf_of Sp.map, l4', hstr, hset]
        refine ⟨(freeD_set l4').2 (by simp (decide := true) only [st]), ?_⟩
        simp (decide := true) only [st, doneX_ret]
        refine ⟨?_, ?_, fun b hb hb1 hb2 => ?_⟩
        · have Sc := Sp.clean 7
          exact { Sc with
            top := by simp (decide := true) only [st, S.n3, l1']; exact Sp.top
            mem := { Sc.mem with top := by simp (decide := true) only [st, S.n4.symm, Sp.l2]; exact Sp.mem.top, row := by simp (decide := true) only [st, S.n5.symm, Sp.l3]; exact Sp.mem.row }
            map := by simp (decide := true) only [st, mapEnts, List.map_append, List.map_cons, List.map_nil]
            l1 := Sc.l1, l2 := Sc.l2, l3 := Sc.l3, l4 := Sc.l4
            tn := fun e he => by
              rcases List.mem_append.1 he with he | he
              · exact S.tn e he
              · simp at he; subst he; exact ⟨hn64, by show (takeN fs (needOf n)).2.length = (n + 15) / 16; rw [takeN_len.2]; unfold needOf; omega⟩ }
        · omega
        · have : b < h2.next := by omega
          simp (decide := true) only [st, hb2, this]
          exact hkeep b hb hb1

end Go.Proofs.Ytchomcffeiheeaa.Am

/- Memory by pages: what is unmapped, read, written. -/
namespace Go.Proofs.Ytchomcffeiheeaa.Am
open Go
variable {P : Program} {h : AHeap} {bs bm bl bp : Nat} {fs : List Fr} {ts : Tabs}

def freeAll (fs : List Fr) (l : List Nat) : List Fr := l.foldl (fun fs (f : Nat) => frFree fs f) fs
def tdel (ts : Tabs) (id : Int) : Tabs := match tidx ts id with
  | some i => ts.eraseIdx i
  | none => ts

theorem freeAll_len : ∀ {l : List Nat} {fs : List Fr}, (freeAll fs l).length = fs.length
  | [], _ => rfl
  | f :: l, fs => by
    have := freeAll_len (l := l) (fs := frFree fs f)
    simp only [freeAll, List.foldl_cons, frFree_len] at this ⊢
    exact this
theorem freeAll_b : ∀ {l : List Nat} {fs : List Fr}, (∀ f ∈ fs, f.b.length = 16) → ∀ f ∈ freeAll fs l, f.b.length = 16
  | [], _, h => h
  | f :: l, fs, h => freeAll_b (l := l) (fs := frFree fs f) (frFree_b h)

theorem map_erase {α β : Type} {f : α → β} : ∀ {l : List α} {i : Nat}, (l.map f).eraseIdx i = (l.eraseIdx i).map f
  | [], i => by simp
  | a :: l, 0 => by simp
  | a :: l, i + 1 => by simp [map_erase (l := l) (i := i)]

/-- What Unmap comes to. -/
def unmapR (fs : List Fr) (ts : Tabs) (id : Int) : Int × List Fr × Tabs := match tfind ts id with
  | none => (7, fs, ts)
  | some t => (0, freeAll fs t.l, tdel ts id)

theorem mapDel_ents {id : Int} {t : Tb} (hf : tfind ts id = some t) : mapDel (.int .u64 id) (mapEnts ts) = some (mapEnts (tdel ts id)) := by
  unfold mapDel
  rw [findA_ents]
  have : ∃ i, tidx ts id = some i := by
    cases ht : tidx ts id with
    | some i => exact ⟨i, rfl⟩
    | none =>
      unfold tidx at ht
      unfold tfind at hf
      rw [List.findIdx?_eq_none_iff] at ht
      obtain ⟨x, h1, _⟩ := Option.map_eq_some_iff.1 hf
      have h2 := List.find?_some h1
      have h3 := ht x (List.mem_of_find?_eq_some h1)
      rw [h2] at h3; cases h3
  obtain ⟨i, hi⟩ := this
  simp only [tdel, hi, Option.map_some, Nat.add_zero, mapEnts, Option.some.injEq]
  rw [map_erase]

theorem tdel_mem {id : Int} {e : Int × Tb} (he : e ∈ tdel ts id) : e ∈ ts := by
  unfold tdel at he
  split at he
  · exact List.mem_of_mem_eraseIdx he
  · exact he

theorem unmap_calls (ok : TblOK P tb) (S : SpAt h bs bm bl bp fs ts) (id : Int) : ∃ h', ACalls P 31 [.ptr bs 0, .int .u64 id] h (.int .i64 (unmapR fs ts id).1) h' ∧
    (SpAt h' bs bm bl bp (unmapR fs ts id).2.1 (unmapR fs ts id).2.2 ∧ h.next ≤ h'.next ∧ ∀ b, b < h.next → b ≠ bl → b ≠ bp → h'.get b = h.get b) := by
  have hof := of_calls ok S id
  have hne : ∀ b, b < h.next → ¬ b = h.next := fun b hb => by omega
  cases htf : tfind ts id with
  | none =>
    have hR : unmapR fs ts id = (7, fs, ts) := by simp only [unmapR, htf]
    rw [htf] at hof
    rw [hR]
    refine ok.callsX (rf := c31) rfl (Nat.le_of_ble_eq_true rfl) ?_
    simp (decide := true) only [st, c31, c31_0, c31_1, c31_2, c31_3, c31_4, c31_5, c31_6, c31_7, c31_8, c31_9, c31_10]
    refine execC_by hof ?_
    simp (decide := true) only [st, ofRes, Tb0, doneX_ret]
    refine ⟨S.more (by simp (decide := true) only [st]; omega) (fun b hb => by simp (decide := true) only [st, hne b hb]), by omega, fun b hb _ _ => ?_⟩
    simp (decide := true) only [st, hne b hb]
  | some t =>
    have hR : unmapR fs ts id = (0, freeAll fs t.l, tdel ts id) := by simp only [unmapR, htf]
    rw [htf] at hof
    rw [hR]
    have hcells : t.enc.cells = [.vs (frow t.l) .unk, .int .i64 t.n] := rfl
    have hrl : (frow t.l).length = t.l.length := by simp [frow]
    have hll := S.llen htf
    have hsm := S.small htf
    refine ok.callsX (rf := c31) rfl (Nat.le_of_ble_eq_true rfl) ?_
    simp (decide := true) only [st, c31, c31_0, c31_1, c31_2, c31_3, c31_4, c31_5, c31_6, c31_7, c31_8, c31_9, c31_10]
    refine execC_by hof ?_
    simp (decide := true) only [st, ofRes, hcells, hrl]
    let I : Nat → Env → AHeap → Prop := fun m ρ h' => ∃ i, i + m = t.l.length ∧ ρ 0 = .ptr bs 0 ∧ ρ 1 = .int .u64 id ∧ ρ 19 = .vs (frow t.l) .unk ∧ ρ 20 = .int .i64 t.l.length ∧ ρ 21 = .int .i64 i ∧
      SpAt h' bs bm bl bp (freeAll fs (t.l.take i)) ts ∧ h.next ≤ h'.next ∧ ∀ b, b < h.next → b ≠ bl → b ≠ bp → h'.get b = h.get b
    refine wp_loop_n I ?_ t.l.length ⟨0, by omega, by simp (decide := true) only [st], by simp (decide := true) only [st], by simp (decide := true) only [st], by simp (decide := true) only [st], by simp (decide := true) only [st], S.more (by simp (decide := true) only [st]; omega) (fun b hb => (by simp (decide := true) only [st, hne b hb])), by simp (decide := true) only [st]; omega, fun b hb _ _ => (by simp (decide := true) only [st, hne b hb])⟩
    rintro m ρ h2 ⟨i, him, r0, r1, r19, r20, r21, Sp, hnx, hkeep⟩
    have hc := cellsOf_of Sp.top
    by_cases hi : i < t.l.length
    · have hg : (frow t.l)[i]? = some [.int .i64 (t.l[i] : Int)] := by simp [frow, List.getElem?_eq_getElem hi]
      have hfr := free_calls ok Sp.mem Sp.l3 (t.l[i] : Int)
      have hfa : freeAll fs (t.l.take (i + 1)) = frFree (freeAll fs (t.l.take i)) (t.l[i] : Int) := by
        rw [← List.take_append_getElem hi]; simp only [freeAll, List.foldl_append, List.foldl_cons, List.foldl_nil]
      have Sp2 := Sp.turn (gs := frFree (freeAll fs (t.l.take i)) (t.l[i] : Int)) frFree_len (frFree_b Sp.mem.len)
      rw [← hfa] at Sp2 hfr
      simp (decide := true) only [st, r0, r1, r19, r20, r21, hi, hg, hc]
      refine execC_by hfr ?_
      simp (decide := true) only [st, r21, wrapN1 (show i < 2 ^ 61 by omega)]
      · refine ⟨m - 1, by omega, i + 1, by omega, by simp (decide := true) only [st, r0], by simp (decide := true) only [st, r1], by simp (decide := true) only [st, r19], by simp (decide := true) only [st, r20], by simp (decide := true) only [st], Sp2, hnx, fun b hb h1 h2 => ?_⟩
        simp only [memH, AHeap.set]
        rw [if_neg h1]
        exact hkeep b hb h1 h2
    · have hie : i = t.l.length := by omega
      subst hie
      rw [List.take_length] at Sp
      simp (decide := true) only [st, r0, r1, r19, r20, r21, hi, hc, mapOf_of Sp.map, mapDel_ents htf, doneX_ret]
      refine ⟨{ Sp with
        top := by simp (decide := true) only [st, Sp.n3]; exact Sp.top
        mem := { Sp.mem with top := by simp (decide := true) only [st, Sp.n4.symm]; exact Sp.mem.top, row := by simp (decide := true) only [st, Sp.n5.symm]; exact Sp.mem.row }
        map := by simp (decide := true) only [st]
        l1 := Sp.l1, l2 := Sp.l2, l3 := Sp.l3, l4 := Sp.l4
        tn := fun e he => S.tn e (tdel_mem he) }, hnx, fun b hb h1 h2 => ?_⟩
      simp (decide := true) only [st, h2]
      exact hkeep b hb h1 h2

/-- A byte of a table. -/
def rdB (fs : List Fr) (t : Tb) (j : Nat) : Int := (frLoad fs ((t.l[j / 16]?.getD 0 : Nat) : Int) ((j % 16 : Nat) : Int)).1
def rdN (fs : List Fr) (t : Tb) (off n : Nat) : List Int := (List.range n).map fun j => rdB fs t (off + j)

def brow (l : List Int) : List (List AV) := l.map fun b => [AV.int .u8 b]

theorem rdN_len {t : Tb} {off n : Nat} : (rdN fs t off n).length = n := by simp [rdN]

theorem read_calls (ok : TblOK P tb) (S : SpAt h bs bm bl bp fs ts) {id : Int} {off n : Nat} {t : Tb} (hin : inR ts id off n = (some t, 0)) : ∃ bo h', ACalls P 30 [.ptr bs 0, .int .u64 id, .int .i64 off, .int .i64 n] h (.tup [.rs bo 0 n 1, .int .i64 0]) h' ∧
    (h'.get bo = some (.cells ((rdN fs t off n).map (.int .u8))) ∧ h.next ≤ bo ∧ bo < h'.next ∧ ∀ b, b < h.next → h'.get b = h.get b) := by
  have hwi := within_calls ok S id off n
  rw [hin] at hwi
  have htf : tfind ts id = some t := by
    unfold inR at hin
    split at hin
    · cases hin
    · rename_i t' ht
      split at hin
      · cases hin
      · cases hin; exact ht
  have hrng : off + n ≤ t.n := by
    unfold inR at hin
    rw [htf] at hin
    simp only at hin
    split at hin
    · cases hin
    · omega
  have hsm := S.small htf
  have hll := S.llen htf
  have hcells : t.enc.cells = [.vs (frow t.l) .unk, .int .i64 t.n] := rfl
  have hml : makeLen 1 (.int .i64 n) (.int .i64 n) = some n := by
    unfold makeLen
    simp only []
    rw [if_pos ⟨by omega, trivial, by omega, by omega⟩]
    simp
  have hne : ∀ b, b < h.next → ¬ b = h.next := fun b hb => by omega
  have hne1 : ∀ b, b < h.next → ¬ b = h.next + 1 := fun b hb => by omega
  have e1 : ¬ h.next = h.next + 1 := by omega
  have e2 : ¬ h.next + 1 = h.next := by omega
  refine ⟨h.next + 1, ok.callsX (rf := c30) rfl (Nat.le_of_ble_eq_true rfl) ?_⟩
  simp (decide := true) only [st, c30, c30_0]
  let J : Nat → Env → AHeap → Prop := fun m ρ h' => ∃ i, i + m = n ∧ ρ 0 = .ptr bs 0 ∧ ρ 2 = .int .i64 off ∧ ρ 3 = .int .i64 n ∧ ρ 10 = .ptr h.next 0 ∧ ρ 12 = .rs (h.next + 1) 0 n 1 ∧ ρ 13 = .int .i64 i ∧
    h.next + 1 < h'.next ∧ h'.get h.next = some (.cells [.vs (frow t.l) .unk, .int .i64 t.n]) ∧ h'.get (h.next + 1) = some (.cells ((rdN fs t off i).map (.int .u8) ++ List.replicate (n - i) (.int .u8 0))) ∧ ∀ b, b < h.next → h'.get b = h.get b
  refine wp_gotoS 0 rfl rfl J (fun l' ρ h hk => hk) ?_ ?_
  · simp (decide := true) only [st, c30, c30_0, c30_1, c30_2, c30_3, c30_4, c30_5, c30_6, c30_7, c30_8, c30_9, c30_10, seqs]
    refine execC_by hwi ?_
    simp (decide := true) only [st, tbV, hcells, hml, List.length_cons, List.length_nil]
    refine ⟨n, 0, by omega, by simp (decide := true) only [st], by simp (decide := true) only [st], by simp (decide := true) only [st], by simp (decide := true) only [st], by simp (decide := true) only [st], by simp (decide := true) only [st], by simp (decide := true) only [st]; omega, ?_, ?_, fun b hb => ?_⟩
    · simp (decide := true) only [st, e1]
    · have : (List.replicate n [AV.int .u8 0]).flatten = List.replicate n (.int .u8 0) := by simp
      simp (decide := true) only [st, this, rdN, List.range_zero, List.map_nil, Nat.sub_zero]
    · simp (decide := true) only [st, hne b hb, hne1 b hb]
  · rintro m ρ h2 ⟨i, him, r0, r2, r3, r10, r12, r13, hlt, hg1, hg2, hkeep⟩
    have S2 := S.more (h' := h2) (by omega) hkeep
    have hc := cellsOf_of S2.top
    by_cases hi : i < n
    · have hq : ((off : Int) + (i : Int)).tdiv 16 = (((off + i) / 16 : Nat) : Int) := by rw [Int.tdiv_eq_ediv_of_nonneg (by omega)]; omega
      have hm : ((off : Int) + (i : Int)).tmod 16 = (((off + i) % 16 : Nat) : Int) := by rw [Int.tmod_eq_emod_of_nonneg (by omega)]; omega
      have hw : IntKind.wrap .i64 ((off : Int) + (i : Int)) = (off : Int) + (i : Int) := wrapS (by omega) (by omega)
      have hw2 := wrapN (n := (off + i) / 16) (by omega)
      have hli : (off + i) / 16 < t.l.length := by omega
      have hrow : (frow t.l)[(off + i) / 16]? = some [.int .i64 (t.l[(off + i) / 16] : Int)] := by simp [frow, List.getElem?_eq_getElem hli]
      have S3 := S2.clean 20
      have hld := load_calls ok S3.mem S3.l3 (t.l[(off + i) / 16] : Int) (((off + i) % 16 : Nat) : Int)
      have hrd : rdB fs t (off + i) = (frLoad fs (t.l[(off + i) / 16] : Int) (((off + i) % 16 : Nat) : Int)).1 := by simp only [rdB, List.getElem?_eq_getElem hli, Option.getD_some]
      rw [← hrd] at hld
      have l1 := S2.l1
      have hb0 : h.next < h2.next := by omega
      simp (decide := true) only [st, c30, c30_0, c30_1, c30_2, c30_3, c30_4, c30_5, c30_6, c30_7, c30_8, c30_9, c30_10, r0, r2, r3, r10, r12, r13, hi, hw]
      refine WP_regD0 rfl ?_
      simp (decide := true) only [st, r0, r2, r3, r10, r12, r13, hc, l1, hb0, cellsOf_of hg1, hq, hw2, hrow, List.length_cons, List.length_nil]
      refine eDC_by hld (by simp (decide := true) only [st]) ?_
      have hin2 : (i : Int) < (n : Nat) := by omega
      have hlen2 : ((rdN fs t off i).map (AV.int .u8) ++ List.replicate (n - i) (AV.int .u8 0)).length = n := by simp [rdN_len]; omega
      have hle2 : i + 1 ≤ n := by omega
      have hlt' : h.next + 1 < h2.next := hlt
      simp (decide := true) only [st, r0, r2, r3, r10, r12, r13, hi, Nat.mul_one, hlt', cellsOf_of hg2, hlen2, hle2, wrapN1 (show i < 2 ^ 61 by omega)]
      have hA : ((rdN fs t off i).map (AV.int .u8)).length = i := by simp [rdN_len]
      have hcs : List.take i ((rdN fs t off i).map (AV.int .u8) ++ List.replicate (n - i) (AV.int .u8 0)) ++ [AV.int .u8 (rdB fs t (off + i))] ++ List.drop (i + 1) ((rdN fs t off i).map (AV.int .u8) ++ List.replicate (n - i) (AV.int .u8 0)) =
          (rdN fs t off (i + 1)).map (AV.int .u8) ++ List.replicate (n - (i + 1)) (AV.int .u8 0) := by
        rw [List.take_append_of_le_length (by omega), List.take_of_length_le (by omega), List.drop_append, List.drop_eq_nil_of_le (by omega), List.nil_append, hA, List.drop_replicate]
        simp only [rdN, List.range_succ, List.map_append, List.map_cons, List.map_nil]
        congr 2; omega
      refine ⟨(freeD_set hlt).2 (by simp (decide := true) only [st]), m - 1, by omega, i + 1, by omega, by simp (decide := true) only [st, r0], by simp (decide := true) only [st, r2], by simp (decide := true) only [st, r3], by simp (decide := true) only [st, r10], by simp (decide := true) only [st, r12], by simp (decide := true) only [st], by simp (decide := true) only [st]; omega, ?_, ?_, fun b hb => ?_⟩
      · simp (decide := true) only [st, e1, hb0]
        exact hg1
      · simp (decide := true) only [st, hcs]
      · have : b < h2.next := by omega
        simp (decide := true) only [st, hne1 b hb, this]
        exact hkeep b hb
    · have hie : i = n := by omega
      subst hie
      rw [Nat.sub_self, List.replicate_zero, List.append_nil] at hg2
      simp (decide := true) only [st, c30, c30_0, c30_1, c30_2, c30_3, c30_4, c30_5, c30_6, c30_7, c30_8, c30_9, c30_10, r0, r2, r3, r10, r12, r13, hi, jumpK, doneX_ret]
      exact ⟨hg2, by omega, hlt, hkeep⟩

/-- What is read, by value. -/
theorem read_val (ok : TblOK P tb) (S : SpAt h bs bm bl bp fs ts) {id : Int} {off n : Nat} {t : Tb} (hin : inR ts id off n = (some t, 0)) : ACalls P 30 [.ptr bs 0, .int .u64 id, .int .i64 off, .int .i64 n] h (.tup [.vs (brow (rdN fs t off n)) .unk, .int .i64 0]) h := by
  obtain ⟨bo, h', hc, hg, h1, h2, h3⟩ := read_calls ok S hin
  have hrows : ∀ (l : List Int), rowsOf (l.map (AV.int .u8)) 0 1 l.length = brow l := by
    have gen : ∀ (l : List Int) (pre : List AV), rowsOf (pre ++ l.map (AV.int .u8)) pre.length 1 l.length = brow l := by
      intro l
      induction l with
      | nil => intro pre; rfl
      | cons x xs ih =>
        intro pre
        simp only [List.length_cons, rowsOf, List.map_cons, List.drop_left]
        have := ih (pre ++ [AV.int .u8 x])
        simp only [List.append_assoc, List.singleton_append, List.length_append, List.length_singleton] at this
        rw [this]
        rfl
    intro l
    simpa using gen l []
  have hfz : AV.frz bo ((rdN fs t off n).map (AV.int .u8)) (.tup [.rs bo 0 n 1, .int .i64 0]) = .tup [.vs (brow (rdN fs t off n)) .unk, .int .i64 0] := by
    have := hrows (rdN fs t off n)
    rw [rdN_len] at this
    simp only [AV.frz, AV.frzL, if_true]
    rw [if_pos (by simp [rdN_len]), this]
  have hall : ∀ p : Nat → Bool, AV.allLL p (brow (rdN fs t off n)) = true := by
    intro p
    induction rdN fs t off n with
    | nil => rfl
    | cons x xs ih => simp only [brow, List.map_cons, AV.allLL, AV.allL, AV.allR, Bool.and_true, Bool.true_and] at ih ⊢; exact ih
  have hfr := hc.freeze hg h1 (by rw [hfz]; simp only [AV.allR, AV.allL, hall, Bool.and_self])
  rw [hfz] at hfr
  refine hfr.restore (fun b hb => ?_) (by simp only [AV.allR, AV.allL, hall, Bool.and_self])
  simp only [AHeap.set]
  rw [if_neg (by omega)]
  exact h3 b hb

/-- No bytes are read. -/
theorem read_none (ok : TblOK P tb) (S : SpAt h bs bm bl bp fs ts) {id off n e : Int} (hin : inR ts id off n = (none, e)) (he : e ≠ 0) : ACalls P 30 [.ptr bs 0, .int .u64 id, .int .i64 off, .int .i64 n] h (.tup [.vs [] .full, .int .i64 e]) h := by
  have hwi := within_calls ok S id off n
  rw [hin] at hwi
  have hne : ∀ b, b < h.next → ¬ b = h.next := fun b hb => by omega
  refine ok.keeps (rf := c30) rfl (Nat.le_of_ble_eq_true rfl) rfl ?_
  simp (decide := true) only [st, c30, c30_0]
  refine wp_gotoS 0 rfl rfl (fun _ _ _ => False) (fun l' ρ h hk => hk) ?_ (fun _ _ _ hf => hf.elim)
  simp (decide := true) only [st, c30, c30_0, c30_1, c30_2, c30_3, c30_4, c30_5, c30_6, c30_7, c30_8, c30_9, c30_10, seqs]
  refine execC_by hwi ?_
  simp (decide := true) only [st, tbV, Tb0, he]
  intro b hb
  simp (decide := true) only [st, hne b hb]

def wrB (fs : List Fr) (t : Tb) (a : Nat) (v : Int) : List Fr := frStore fs ((t.l[a / 16]?.getD 0 : Nat) : Int) ((a % 16 : Nat) : Int) v
/-- The first bytes of a list, written. -/
def wrN (fs : List Fr) (t : Tb) (off : Nat) (bs : List Int) : Nat → List Fr
  | 0 => fs
  | i + 1 => wrB (wrN fs t off bs i) t (off + i) (bs[i]?.getD 0)

theorem wrN_len {t : Tb} {off : Nat} {bs : List Int} {i : Nat} : (wrN fs t off bs i).length = fs.length := by
  induction i with
  | zero => rfl
  | succ i ih => simp only [wrN, wrB, frStore_len, ih]
theorem wrN_b {t : Tb} {off : Nat} {bs : List Int} {i : Nat} (hl : ∀ f ∈ fs, f.b.length = 16) : ∀ f ∈ wrN fs t off bs i, f.b.length = 16 := by
  induction i with
  | zero => exact hl
  | succ i ih => exact frStore_b ih

theorem write_none (ok : TblOK P tb) (S : SpAt h bs bm bl bp fs ts) {id off e : Int} {xs : List (List AV)} {tl : Tail} (hin : inR ts id off xs.length = (none, e)) (he : e ≠ 0) : ACalls P 29 [.ptr bs 0, .int .u64 id, .int .i64 off, .vs xs tl] h (.int .i64 e) h := by
  have hwi := within_calls ok S id off xs.length
  rw [hin] at hwi
  have hne : ∀ b, b < h.next → ¬ b = h.next := fun b hb => by omega
  refine ok.keeps (rf := c29) rfl (Nat.le_of_ble_eq_true rfl) rfl ?_
  simp (decide := true) only [st, c29, c29_0]
  refine wp_gotoS 0 rfl rfl (fun _ _ _ => False) (fun l' ρ h hk => hk) ?_ (fun _ _ _ hf => hf.elim)
  simp (decide := true) only [st, c29, c29_0, c29_1, c29_2, c29_3, c29_4, c29_5, c29_6, c29_7, c29_8, c29_9, seqs]
  refine execC_by hwi ?_
  simp (decide := true) only [st, tbV, Tb0, he]
  intro b hb
  simp (decide := true) only [st, hne b hb]

theorem write_calls (ok : TblOK P tb) (S : SpAt h bs bm bl bp fs ts) {id : Int} {off : Nat} {t : Tb} {vs : List Int} {tl : Tail} (hin : inR ts id off vs.length = (some t, 0)) : ∃ h', ACalls P 29 [.ptr bs 0, .int .u64 id, .int .i64 off, .vs (brow vs) tl] h (.int .i64 0) h' ∧
    (SpAt h' bs bm bl bp (wrN fs t off vs vs.length) ts ∧ h.next ≤ h'.next ∧ ∀ b, b < h.next → b ≠ bl → h'.get b = h.get b) := by
  have hwi := within_calls ok S id off vs.length
  rw [hin] at hwi
  have hbl : (brow vs).length = vs.length := by simp [brow]
  have htf : tfind ts id = some t := by
    unfold inR at hin
    split at hin
    · cases hin
    · rename_i t' ht
      split at hin
      · cases hin
      · cases hin; exact ht
  have hrng : off + vs.length ≤ t.n := by
    unfold inR at hin
    rw [htf] at hin
    simp only at hin
    split at hin
    · cases hin
    · omega
  have hsm := S.small htf
  have hll := S.llen htf
  have hcells : t.enc.cells = [.vs (frow t.l) .unk, .int .i64 t.n] := rfl
  have hne : ∀ b, b < h.next → ¬ b = h.next := fun b hb => by omega
  refine ok.callsX (rf := c29) rfl (Nat.le_of_ble_eq_true rfl) ?_
  simp (decide := true) only [st, c29, c29_0]
  let J : Nat → Env → AHeap → Prop := fun m ρ h' => ∃ i, i + m = vs.length ∧ ρ 0 = .ptr bs 0 ∧ ρ 2 = .int .i64 off ∧ ρ 3 = .vs (brow vs) tl ∧ ρ 9 = .ptr h.next 0 ∧ ρ 11 = .int .i64 i ∧
    h.next < h'.next ∧ h'.get h.next = some (.cells [.vs (frow t.l) .unk, .int .i64 t.n]) ∧ SpAt h' bs bm bl bp (wrN fs t off vs i) ts ∧ ∀ b, b < h.next → b ≠ bl → h'.get b = h.get b
  refine wp_gotoS 0 rfl rfl J (fun l' ρ h hk => hk) ?_ ?_
  · simp (decide := true) only [st, c29, c29_0, c29_1, c29_2, c29_3, c29_4, c29_5, c29_6, c29_7, c29_8, c29_9, seqs, hbl]
    refine execC_by hwi ?_
    simp (decide := true) only [st, tbV, hcells]
    exact ⟨vs.length, 0, by omega, by simp (decide := true) only [st], by simp (decide := true) only [st], by simp (decide := true) only [st], by simp (decide := true) only [st], by simp (decide := true) only [st], by simp (decide := true) only [st]; omega, by simp (decide := true) only [st], S.more (by simp (decide := true) only [st]; omega) (fun b hb => (by simp (decide := true) only [st, hne b hb])), fun b hb _ => (by simp (decide := true) only [st, hne b hb])⟩
  · rintro m ρ h2 ⟨i, him, r0, r2, r3, r9, r11, hlt, hg1, Sp, hkeep⟩
    have hc := cellsOf_of Sp.top
    by_cases hi : i < vs.length
    · have hq : ((off : Int) + (i : Int)).tdiv 16 = (((off + i) / 16 : Nat) : Int) := by rw [Int.tdiv_eq_ediv_of_nonneg (by omega)]; omega
      have hm : ((off : Int) + (i : Int)).tmod 16 = (((off + i) % 16 : Nat) : Int) := by rw [Int.tmod_eq_emod_of_nonneg (by omega)]; omega
      have hw : IntKind.wrap .i64 ((off : Int) + (i : Int)) = (off : Int) + (i : Int) := wrapS (by omega) (by omega)
      have hw2 := wrapN (n := (off + i) / 16) (by omega)
      have hli : (off + i) / 16 < t.l.length := by omega
      have hrow : (frow t.l)[(off + i) / 16]? = some [.int .i64 (t.l[(off + i) / 16] : Int)] := by simp [frow, List.getElem?_eq_getElem hli]
      have hv : (brow vs)[i]? = some [.int .u8 vs[i]] := by simp [brow, List.getElem?_eq_getElem hi]
      have S3 := Sp.clean 17
      have hst := store_calls ok S3.mem S3.l3 (t.l[(off + i) / 16] : Int) (((off + i) % 16 : Nat) : Int) vs[i]
      have hwr : wrN fs t off vs (i + 1) = frStore (wrN fs t off vs i) (t.l[(off + i) / 16] : Int) (((off + i) % 16 : Nat) : Int) vs[i] := by
        simp only [wrN, wrB, List.getElem?_eq_getElem hli, List.getElem?_eq_getElem hi, Option.getD_some]
      have S4 := S3.turn (gs := wrN fs t off vs (i + 1)) (by rw [wrN_len, wrN_len]) (wrN_b S.mem.len)
      rw [← hwr] at hst
      have l1 := Sp.l1
      have l3 := Sp.l3
      have hm2 : ((off : Int) + (i : Int)).tmod 16 = (((off + i) % 16 : Nat) : Int) := hm
      simp (decide := true) only [st, c29, c29_0, c29_1, c29_2, c29_3, c29_4, c29_5, c29_6, c29_7, c29_8, c29_9, r0, r2, r3, r9, r11, hi, hw, hbl]
      refine WP_regD0 rfl ?_
      simp (decide := true) only [st, r0, r2, r3, r9, r11, hc, l1, hlt, cellsOf_of hg1, hq, hw2, hrow, hv, hm2, List.length_cons, List.length_nil]
      refine eDC_by hst ((freeD_set l3).2 (by simp (decide := true) only [st])) ?_
      simp (decide := true) only [st, r11, wrapN1 (show i < 2 ^ 61 by omega)]
      refine ⟨m - 1, by omega, i + 1, by omega, by simp (decide := true) only [st, r0], by simp (decide := true) only [st, r2], by simp (decide := true) only [st, r3], by simp (decide := true) only [st, r9], by simp (decide := true) only [st], ?_, ?_, S4, fun b hb h1 => ?_⟩
      · simp only [memH, AHeap.set, AHeap.clean]; omega
      · have : h.next ≠ bl := by have := S.l3; omega
        simp only [memH, AHeap.set, AHeap.clean]
        rw [if_neg this, if_pos hlt]
        exact hg1
      · simp only [memH, AHeap.set, AHeap.clean]
        rw [if_neg h1, if_pos (by omega)]
        exact hkeep b hb h1
    · have hie : i = vs.length := by omega
      subst hie
      simp (decide := true) only [st, c29, c29_0, c29_1, c29_2, c29_3, c29_4, c29_5, c29_6, c29_7, c29_8, c29_9, r0, r2, r3, r9, r11, hi, hbl, jumpK, doneX_ret]
      exact ⟨Sp, by omega, hkeep⟩

end Go.Proofs.Ytchomcffeiheeaa.Am
