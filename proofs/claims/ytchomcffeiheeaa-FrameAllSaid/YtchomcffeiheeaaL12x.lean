/- The law of layer 12 on every row of operations, at the abstract machine. Conditions: none. -/
import Derived.Test.YtchomcffeiheeaaL12
set_option maxRecDepth 100000
set_option linter.unusedSimpArgs false
set_option linter.unusedVariables false
set_option linter.unnecessarySimpa false
namespace Go.Proofs.Ytchomcffeiheeaa.Am
open Go
variable {P : Program} {h h' : AHeap} {bv bm bl k : Nat} {fs : List Fr} {hv : List AV} {hb : Nat → Nat}

/-- The law's own copy of the frames. -/
structure Hv (h : AHeap) (bv bm bl : Nat) (fs : List Fr) (hv : List AV) (hb : Nat → Nat) : Prop where
  cells : h.get bv = some (.cells hv)
  len : hv.length = 512
  nil : ∀ f : Nat, f < 512 → frAt fs f = none → hv[f]? = some .nils
  rs : ∀ (f : Nat) x, fs[f]? = some x → x.taken = true → hv[f]? = some (.rs (hb f) 0 16 1) ∧ h.get (hb f) = some (.cells (x.b.map (.int .u8))) ∧ hb f < h.next ∧ hb f ≠ bv ∧ hb f ≠ bm ∧ hb f ≠ bl
  inj : ∀ (f g : Nat) x y, fs[f]? = some x → x.taken = true → fs[g]? = some y → y.taken = true → hb f = hb g → f = g
  lt : bv < h.next ∧ bm < h.next ∧ bl < h.next
  ne : bv ≠ bm ∧ bv ≠ bl
  mem : MemAt h bm bl fs

theorem MemAt.eqv (M : MemAt h bm bl fs) (e1 : h'.get bm = h.get bm) (e2 : h'.get bl = h.get bl) : MemAt h' bm bl fs where
  top := e1 ▸ M.top
  row := e2 ▸ M.row
  ne := M.ne
  len := M.len
  small := M.small

theorem frAt_iff {f : Nat} : frAt fs f = none ↔ ∀ x, fs[f]? = some x → x.taken = false := by
  simp only [frAt, Int.toNat_natCast]
  rw [if_pos (by omega)]
  cases h : fs[f]? with
  | none => simp
  | some x => by_cases ht : x.taken = true <;> simp [ht]

theorem Hv.more (H : Hv h bv bm bl fs hv hb) (hn : h.next ≤ h'.next) (hk : ∀ b, b < h.next → h'.get b = h.get b) : Hv h' bv bm bl fs hv hb where
  cells := by rw [hk _ H.lt.1]; exact H.cells
  len := H.len
  nil := H.nil
  rs f x hx ht := by
    obtain ⟨h1, h2, h3, h4⟩ := H.rs f x hx ht
    exact ⟨h1, by rw [hk _ h3]; exact h2, by omega, h4⟩
  inj := H.inj
  lt := ⟨by have := H.lt; omega, by have := H.lt; omega, by have := H.lt; omega⟩
  ne := H.ne
  mem := H.mem.eqv (hk _ H.lt.2.1) (hk _ H.lt.2.2)

/-- A frame is taken, the law makes its bytes. -/
theorem Hv.take (H : Hv h bv bm bl fs hv hb) {a nb : Nat} (ha : frLeast fs = some a) (h5 : fs.length ≤ 512) (hn : h.next ≤ nb) (hn2 : nb < h'.next) (e1 : h'.get nb = some (.cells ((List.replicate 16 (0 : Int)).map (.int .u8))))
    (e2 : h'.get bv = some (.cells (hv.set a (.rs nb 0 16 1)))) (e3 : h'.get bl = some (.cells ((frTake fs).map Fr.enc).flatten)) (hk : ∀ b, b < h.next → b ≠ bv → b ≠ bl → h'.get b = h.get b) :
    Hv h' bv bm bl (frTake fs) (hv.set a (.rs nb 0 16 1)) (fun f => if f = a then nb else hb f) := by
  have ht : frTake fs = fs.set a ⟨List.replicate 16 0, true⟩ := by simp [frTake, ha]
  have hal : a < fs.length := by
    have := List.findIdx?_eq_some_iff_findIdx_eq.1 ha
    exact this.1
  have hlt := H.lt
  have hget : ∀ f : Nat, (frTake fs)[f]? = if f = a then some ⟨List.replicate 16 0, true⟩ else fs[f]? := fun f => by
    rw [ht, List.getElem?_set]
    by_cases hf : a = f
    · subst hf; simp [hal]
    · rw [if_neg hf, if_neg (Ne.symm hf)]
  exact
  { cells := e2
    len := by simp [H.len]
    nil := fun f hf hn => by
      rw [frAt_iff] at hn
      have hfa : f ≠ a := fun e => by
        have := hn ⟨List.replicate 16 0, true⟩ (by rw [hget, if_pos e])
        cases this
      rw [List.getElem?_set_ne (Ne.symm hfa)]
      exact H.nil f hf (frAt_iff.2 fun x hx => hn x (by rw [hget, if_neg hfa]; exact hx))
    rs := fun f x hx hxt => by
      rw [hget] at hx
      by_cases hfa : f = a
      · rw [if_pos hfa] at hx; cases hx
        subst hfa
        simp only [if_true]
        refine ⟨List.getElem?_set_self (by rw [H.len]; omega), e1, hn2, by omega, by omega, by omega⟩
      · rw [if_neg hfa] at hx
        obtain ⟨h1, h2, h3, h4, h5, h6⟩ := H.rs f x hx hxt
        simp only [hfa, if_false]
        exact ⟨by rw [List.getElem?_set_ne (Ne.symm hfa)]; exact h1, by rw [hk _ h3 h4 h6]; exact h2, by omega, h4, h5, h6⟩
    inj := fun f g x y hx hxt hy hyt e => by
      rw [hget] at hx hy
      by_cases hfa : f = a <;> by_cases hga : g = a <;> simp only [hfa, hga, if_true, if_false] at hx hy e ⊢
      · exact absurd e (by have := (H.rs g y hy hyt).2.2.1; omega)
      · exact absurd e (by have := (H.rs f x hx hxt).2.2.1; omega)
      · exact H.inj f g x y hx hxt hy hyt e
    lt := ⟨by omega, by omega, by omega⟩
    ne := H.ne
    mem :=
    { top := by rw [hk _ hlt.2.1 (Ne.symm H.ne.1) H.mem.ne, frTake_len]; exact H.mem.top
      row := e3
      ne := H.mem.ne
      len := frTake_b H.mem.len
      small := by rw [frTake_len]; exact H.mem.small } }

/-- A frame is freed. -/
theorem Hv.free (H : Hv h bv bm bl fs hv hb) {f : Nat} {x : Fr} (hx : fs[f]? = some x) (ht : x.taken = true) (hn : h.next ≤ h'.next)
    (e2 : h'.get bv = some (.cells (hv.set f .nils))) (e3 : h'.get bl = some (.cells ((frFree fs f).map Fr.enc).flatten)) (hk : ∀ b, b < h.next → b ≠ bv → b ≠ bl → h'.get b = h.get b) :
    Hv h' bv bm bl (frFree fs f) (hv.set f .nils) hb := by
  have ha : frAt fs (f : Int) = some f := by
    simp only [frAt, Int.toNat_natCast, hx, ht]
    rw [if_pos (by omega)]; simp
  have he : frFree fs f = fs.set f { x with taken := false } := by simp only [frFree, ha, hx]
  have hlt := H.lt
  have hfl := (List.getElem?_eq_some_iff.1 hx).1
  have hget : ∀ g : Nat, (frFree fs f)[g]? = if g = f then some { x with taken := false } else fs[g]? := fun g => by
    rw [he, List.getElem?_set]
    by_cases hf : f = g
    · subst hf; simp [hfl]
    · rw [if_neg hf, if_neg (Ne.symm hf)]
  exact
  { cells := e2
    len := by simp [H.len]
    nil := fun g hg hn => by
      rw [List.getElem?_set]
      by_cases hgf : f = g
      · subst hgf; rw [if_pos rfl, if_pos (by rw [H.len]; exact hg)]
      · rw [if_neg hgf]
        exact H.nil g hg (frAt_iff.2 fun y hy => (frAt_iff.1 hn) y (by rw [hget, if_neg (Ne.symm hgf)]; exact hy))
    rs := fun g y hy hyt => by
      rw [hget] at hy
      by_cases hgf : g = f
      · rw [if_pos hgf] at hy; cases hy; cases hyt
      · rw [if_neg hgf] at hy
        obtain ⟨h1, h2, h3, h4, h5, h6⟩ := H.rs g y hy hyt
        exact ⟨by rw [List.getElem?_set_ne (Ne.symm hgf)]; exact h1, by rw [hk _ h3 h4 h6]; exact h2, by omega, h4, h5, h6⟩
    inj := fun g1 g2 y1 y2 h1 t1 h2 t2 e => by
      rw [hget] at h1 h2
      by_cases ha : g1 = f <;> by_cases hb : g2 = f <;> simp only [ha, hb, if_true, if_false] at h1 h2 ⊢
      · cases h1; cases t1
      · cases h2; cases t2
      · exact H.inj g1 g2 y1 y2 h1 t1 h2 t2 e
    lt := ⟨by omega, by omega, by omega⟩
    ne := H.ne
    mem :=
    { top := by rw [hk _ hlt.2.1 (Ne.symm H.ne.1) H.mem.ne, frFree_len]; exact H.mem.top
      row := e3
      ne := H.mem.ne
      len := frFree_b H.mem.len
      small := by rw [frFree_len]; exact H.mem.small } }

/-- A byte is written. -/
theorem Hv.store (H : Hv h bv bm bl fs hv hb) {f j : Nat} {x : Fr} {v : Int} (hx : fs[f]? = some x) (ht : x.taken = true) (hj : j < 16) (hn : h.next ≤ h'.next)
    (e2 : h'.get (hb f) = some (.cells ((x.b.set j v).map (.int .u8)))) (e3 : h'.get bl = some (.cells ((frStore fs f j v).map Fr.enc).flatten)) (hk : ∀ b, b < h.next → b ≠ hb f → b ≠ bl → h'.get b = h.get b) :
    Hv h' bv bm bl (frStore fs f j v) hv hb := by
  have ha : frAt fs (f : Int) = some f := by
    simp only [frAt, Int.toNat_natCast, hx, ht]
    rw [if_pos (by omega)]; simp
  have hby : frByte fs f j = (some (f, j), 0) := by
    simp only [frByte, ha]
    rw [if_neg (by omega)]; simp
  have he : frStore fs f j v = fs.set f { x with b := x.b.set j v } := by simp only [frStore, hby, hx]
  have hlt := H.lt
  have hfl := (List.getElem?_eq_some_iff.1 hx).1
  obtain ⟨q1, q2, q3, q4, q5, q6⟩ := H.rs f x hx ht
  have hget : ∀ g : Nat, (frStore fs f j v)[g]? = if g = f then some { x with b := x.b.set j v } else fs[g]? := fun g => by
    rw [he, List.getElem?_set]
    by_cases hf : f = g
    · subst hf; simp [hfl]
    · rw [if_neg hf, if_neg (Ne.symm hf)]
  exact
  { cells := by rw [hk _ hlt.1 (Ne.symm q4) H.ne.2]; exact H.cells
    len := H.len
    nil := fun g hg hn => H.nil g hg (frAt_iff.2 fun y hy => by
      have := (frAt_iff.1 hn)
      by_cases hgf : g = f
      · subst hgf
        rw [hx] at hy; cases hy
        exact this { x with b := x.b.set j v } (by rw [hget, if_pos rfl])
      · exact this y (by rw [hget, if_neg hgf]; exact hy))
    rs := fun g y hy hyt => by
      rw [hget] at hy
      by_cases hgf : g = f
      · rw [if_pos hgf] at hy; cases hy
        subst hgf
        exact ⟨q1, e2, by omega, q4, q5, q6⟩
      · rw [if_neg hgf] at hy
        obtain ⟨h1, h2, h3, h4, h5, h6⟩ := H.rs g y hy hyt
        have : hb g ≠ hb f := fun e => hgf (H.inj g f y x hy hyt hx ht e)
        exact ⟨h1, by rw [hk _ h3 this h6]; exact h2, by omega, h4, h5, h6⟩
    inj := fun g1 g2 y1 y2 h1 t1 h2 t2 e => by
      rw [hget] at h1 h2
      have key : ∀ (g : Nat) y, (if g = f then some { x with b := x.b.set j v } else fs[g]?) = some y → y.taken = true → ∃ y', fs[g]? = some y' ∧ y'.taken = true := fun g y hy ht' => by
        by_cases hg : g = f
        · subst hg; exact ⟨x, hx, ht⟩
        · rw [if_neg hg] at hy; exact ⟨y, hy, ht'⟩
      obtain ⟨z1, a1, b1⟩ := key g1 y1 h1 t1
      obtain ⟨z2, a2, b2⟩ := key g2 y2 h2 t2
      exact H.inj g1 g2 z1 z2 a1 b1 a2 b2 e
    lt := ⟨by omega, by omega, by omega⟩
    ne := H.ne
    mem :=
    { top := by rw [hk _ hlt.2.1 (Ne.symm q5) H.mem.ne, frStore_len]; exact H.mem.top
      row := e3
      ne := H.mem.ne
      len := frStore_b H.mem.len
      small := by rw [frStore_len]; exact H.mem.small } }

end Go.Proofs.Ytchomcffeiheeaa.Am

namespace Go.Proofs.Ytchomcffeiheeaa.Am
open Go
variable {P : Program} {fs : List Fr}

def opRow (kd f off b : Int) : List AV := [.int .i64 kd, .int .i64 f, .int .i64 off, .int .u8 b]

theorem fa7 : c7_7 = [a 7 (.alloc (List.replicate 512 .nils))] := rfl

theorem WP_regD0m {P : Program} {ros : List RO} {un : List (List Nat)} {K : AExit → Env → AHeap → Prop} {ρ : Env} {h : AHeap} (n : Nat) (hn : ros.length = n) (hu : un.all (·.isEmpty) = true) (he : execD0 P n h.next ros 0 ρ (h.clean n) (K .normal)) : WP P (.regD ros un) K ρ h := by
  subst hn
  exact WP_regD0 hu he

theorem wp_seq_cut {a b : RCode} {K : AExit → Env → AHeap → Prop} {ρ : Env} {h : AHeap} (Q : Env → Prop) (h1 : WP P a (thenK (fun ρ' h' => Q ρ' ∧ h' = h) (fun _ _ _ => False)) ρ h) (h2 : ∀ ρ', Q ρ' → WP P b K ρ' h) : WP P (.seq a b) K ρ h := by
  refine WP_seq.2 ?_
  obtain ⟨e, ρ', h', hb, hk⟩ := h1
  refine ⟨e, ρ', h', hb, ?_⟩
  cases e with
  | normal => obtain ⟨q, rfl⟩ := hk; exact h2 _ q
  | _ => exact hk.elim

theorem frUsed_le : frUsed fs ≤ fs.length := List.countP_le_length
theorem frUsed_take {a : Nat} (ha : frLeast fs = some a) : frUsed (frTake fs) = frUsed fs + 1 := by
  have h1 := List.findIdx?_eq_some_iff_getElem.1 ha
  obtain ⟨hlt, h2, -⟩ := h1
  have ht : frTake fs = fs.set a ⟨List.replicate 16 0, true⟩ := by simp [frTake, ha]
  rw [ht]
  unfold frUsed
  rw [List.countP_set hlt]
  simp at h2
  simp [h2]
theorem frUsed_free {f : Nat} {x : Fr} (hx : fs[f]? = some x) (ht : x.taken = true) : frUsed (frFree fs (f : Int)) + 1 = frUsed fs := by
  have ha : frAt fs (f : Int) = some f := by
    simp only [frAt, Int.toNat_natCast, hx, ht]
    rw [if_pos (by omega)]
    simp
  obtain ⟨hlt, hxe⟩ := List.getElem?_eq_some_iff.1 hx
  simp only [frFree, ha, hx]
  unfold frUsed
  rw [List.countP_set hlt, hxe]
  have : 0 < List.countP (fun x => x.taken) fs := List.countP_pos_iff.2 ⟨x, List.mem_of_getElem? hx, ht⟩
  simp [ht]
  omega
theorem frUsed_store {f off b : Int} : frUsed (frStore fs f off b) = frUsed fs := by
  unfold frStore
  split
  · rfl
  · rename_i i j e hby
    split
    · rfl
    · rename_i x hx
      obtain ⟨hlt, hxe⟩ := List.getElem?_eq_some_iff.1 hx
      unfold frUsed
      rw [List.countP_set hlt, hxe]
      have : x.taken = true → 0 < List.countP (fun x => x.taken) fs := fun ht => List.countP_pos_iff.2 ⟨x, List.mem_of_getElem? hx, ht⟩
      by_cases ht : x.taken = true
      · have := this ht
        simp [ht]; omega
      · simp [ht]

theorem nil_take (ok : TblOK P tb) {h : AHeap} : ACalls P 21 [.nil] h (.tup [.int .i64 0, .int .i64 1]) h := by
  refine ok.keeps (rf := c21) rfl (Nat.le_of_ble_eq_true rfl) rfl ?_
  simp (decide := true) only [st, c21, c21_0, c21_1, c21_2, c21_3, c21_4, c21_5, c21_6, c21_7, c21_8, c21_9, c21_10]
theorem nil_at (ok : TblOK P tb) {h : AHeap} {f : Int} : ACalls P 38 [.nil, .int .i64 f] h (.tup [.nil, .int .i64 1]) h := by
  refine ok.keeps (rf := c38) rfl (Nat.le_of_ble_eq_true rfl) rfl ?_
  simp (decide := true) only [st, c38, c38_0, c38_1, c38_2, c38_3, c38_4, c38_5]
theorem nil_byte (ok : TblOK P tb) {h : AHeap} {f o : Int} : ACalls P 37 [.nil, .int .i64 f, .int .i64 o] h (.tup [.nil, .int .i64 1]) h := by
  refine ok.keeps (rf := c37) rfl (Nat.le_of_ble_eq_true rfl) rfl ?_
  simp (decide := true) only [st, c37, c37_0, c37_1, c37_2, c37_3, c37_4, c37_5, c37_6]
  refine execC_by (nil_at ok) ?_
  simp (decide := true) only [st]
theorem nil_load (ok : TblOK P tb) {h : AHeap} {f o : Int} : ACalls P 23 [.nil, .int .i64 f, .int .i64 o] h (.tup [.int .u8 0, .int .i64 1]) h := by
  refine ok.keeps (rf := c23) rfl (Nat.le_of_ble_eq_true rfl) rfl ?_
  simp (decide := true) only [st, c23, c23_0, c23_1, c23_2, c23_3, c23_4]
  refine execC_by (nil_byte ok) ?_
  simp (decide := true) only [st]
theorem nil_store (ok : TblOK P tb) {h : AHeap} {f o b : Int} : ACalls P 22 [.nil, .int .i64 f, .int .i64 o, .int .u8 b] h (.int .i64 1) h := by
  refine ok.keeps (rf := c22) rfl (Nat.le_of_ble_eq_true rfl) rfl ?_
  simp (decide := true) only [st, c22, c22_0, c22_1, c22_2, c22_3, c22_4]
  refine execC_by (nil_byte ok) ?_
  simp (decide := true) only [st]
theorem nil_free (ok : TblOK P tb) {h : AHeap} {f : Int} : ACalls P 24 [.nil, .int .i64 f] h (.int .i64 1) h := by
  refine ok.keeps (rf := c24) rfl (Nat.le_of_ble_eq_true rfl) rfl ?_
  simp (decide := true) only [st, c24, c24_0, c24_1, c24_2, c24_3, c24_4]
  refine execC_by (nil_at ok) ?_
  simp (decide := true) only [st]
theorem nil_used (ok : TblOK P tb) {h : AHeap} : ACalls P 25 [.nil] h (.int .i64 0) h := by
  refine ok.keeps (rf := c25) rfl (Nat.le_of_ble_eq_true rfl) rfl ?_
  simp (decide := true) only [st, c25, c25_0, c25_1, c25_2, c25_3, c25_4, c25_5, c25_6, c25_7, c25_8, c25_9]

set_option maxHeartbeats 1000000 in
theorem frameAll_wp (ok : TblOK P tb) {n : Int} {xs : List (List AV)} {t : Tail} (hx : ∀ row ∈ xs, ∃ kd f off b, row = opRow kd f off b) :
    WP P c7.code (lawK c7.results) (args0 [.int .i64 n, .vs xs t]) AHeap.empty := by
  simp (decide := true) only [st, c7, c7_0, c7_1, c7_2, c7_3, c7_4, c7_5, c7_6, c7_8, c7_9, c7_10, c7_11, c7_14, c7_15, c7_16, c7_17, c7_18, c7_19, c7_21, c7_22, c7_24, c7_25, c7_26, c7_27, c7_28, c7_29, c7_31, c7_32, c7_33, c7_35, c7_36, c7_37, c7_38, c7_39, c7_41, c7_42, c7_43, c7_44, c7_46, c7_47, c7_48, c7_49, c7_50, c7_51, c7_52]
  refine execC_by (begun12 ok _) ?_
  simp (decide := true) only [st]
  by_cases hbig : 60 < (xs.length : Int)
  · simp (decide := true) only [st, hbig, lawK_ret]
  obtain ⟨bm, bl, h0, hnew, M0, -, -, hm0, hl0, -, -⟩ := new_mem ok AHeap.empty n
  have hk5 : frNew n ≤ 512 := by unfold frNew; omega
  have hkk : min (max n 0) 512 = ((frNew n : Nat) : Int) := by unfold frNew; omega
  generalize frNew n = k at *
  simp (decide := true) only [st, hbig]
  refine execC_by hnew ?_
  simp (decide := true) only [st, hkk, fa7]
  obtain ⟨bv, hbv⟩ : ∃ bv, bv = h0.next := ⟨_, rfl⟩
  have H0 : Hv (h0.at h0.next (.cells (List.replicate 512 .nils))) bv bm bl (List.replicate k F0) (List.replicate 512 .nils) (fun _ => 0) :=
  { cells := by subst hbv; simp only [AHeap.at, if_true]
    len := List.length_replicate
    nil := fun f hf _ => by rw [List.getElem?_replicate, if_pos hf]
    rs := fun f x hx ht => by
      have := List.mem_of_getElem? hx
      simp [List.mem_replicate] at this
      rw [this.2] at ht; cases ht
    inj := fun f g x y hx ht => by
      have := List.mem_of_getElem? hx
      simp [List.mem_replicate] at this
      rw [this.2] at ht; cases ht
    lt := ⟨by subst hbv; simp [AHeap.at], by simp [AHeap.at]; omega, by simp [AHeap.at]; omega⟩
    ne := by omega
    mem := M0.eqv (by simp [AHeap.at]; omega) (by simp [AHeap.at]; omega) }
  let I : Nat → Env → AHeap → Prop := fun m ρ h' => ∃ (i : Nat) (fs : List Fr) (hv : List AV) (hb : Nat → Nat), i + m = xs.length ∧ ρ 1 = .vs xs t ∧ ρ 5 = .ptr bm 0 ∧ ρ 6 = .int .i64 k ∧ ρ 7 = .ptr bv 0 ∧ ρ 8 = .int .i64 (frUsed fs) ∧ ρ 9 = .int .i64 i ∧ fs.length = k ∧ Hv h' bv bm bl fs hv hb
  have hu0 : frUsed (List.replicate k F0) = 0 := by unfold frUsed; rw [List.countP_replicate]; rfl
  refine wp_loop_n I ?_ xs.length ⟨0, _, _, _, by omega, by simp (decide := true) only [st], by simp (decide := true) only [st], by simp (decide := true) only [st], by simp (decide := true) only [st, hbv], by simp (decide := true) only [st, hu0], by simp (decide := true) only [st], by simp, H0⟩
  clear hnew M0 H0
  rintro m ρ h1 ⟨i, fs, hv, hb, him, r1, r5, r6, r7, r8, r9, hfl, H⟩
  by_cases hi : (i : Int) < xs.length
  · have hi' : i < xs.length := by omega
    obtain ⟨kd, f, off, b, hrow⟩ := hx _ (List.getElem_mem hi')
    have hrow' : xs[i]? = some (opRow kd f off b) := by rw [List.getElem?_eq_getElem hi', hrow]
    simp only [opRow] at hrow'
    simp (decide := true) only [st, r1, r9, hi, hrow']
    have H2 : Hv ((h1.at h1.next (.cells [.int .i64 0, .int .i64 0, .int .i64 0, .int .u8 0])).set h1.next (some (.cells [.int .i64 kd, .int .i64 f, .int .i64 off, .int .u8 b]))) bv bm bl fs hv hb :=
      H.more (by simp [AHeap.at, AHeap.set]) (fun x hx => by simp [AHeap.at, AHeap.set, show ¬ x = h1.next by omega])
    have ho : ((h1.at h1.next (.cells [.int .i64 0, .int .i64 0, .int .i64 0, .int .u8 0])).set h1.next (some (.cells [.int .i64 kd, .int .i64 f, .int .i64 off, .int .u8 b]))).get h1.next = some (.cells [.int .i64 kd, .int .i64 f, .int .i64 off, .int .u8 b]) := by simp [AHeap.set]
    have hon : h1.next < ((h1.at h1.next (.cells [.int .i64 0, .int .i64 0, .int .i64 0, .int .u8 0])).set h1.next (some (.cells [.int .i64 kd, .int .i64 f, .int .i64 off, .int .u8 b]))).next := by simp [AHeap.at, AHeap.set]
    have hob : h1.next ≠ bv ∧ h1.next ≠ bm ∧ h1.next ≠ bl := by have := H.lt; omega
    have hof : ∀ g x, fs[g]? = some x → x.taken = true → h1.next ≠ hb g := fun g x h1 h2 => by have := (H.rs g x h1 h2).2.2.1; omega
    generalize ((h1.at h1.next (.cells [.int .i64 0, .int .i64 0, .int .i64 0, .int .u8 0])).set h1.next (some (.cells [.int .i64 kd, .int .i64 f, .int .i64 off, .int .u8 b]))) = h2 at *
    generalize h1.next = bo at *
    have hcv := cellsOf_of H2.cells
    have hco := cellsOf_of ho
    let B : Env → Prop := fun ρ => ρ 1 = .vs xs t ∧ ρ 5 = .ptr bm 0 ∧ ρ 6 = .int .i64 k ∧ ρ 7 = .ptr bv 0 ∧ ρ 8 = .int .i64 (frUsed fs) ∧ ρ 9 = .int .i64 i ∧ ρ 10 = .ptr bo 0
    have b0 : B ρ → True := fun _ => trivial
    refine exec_cut (Q := fun ρ' => B ρ' ∧ ρ' 11 = .bool (frAt fs f).isSome) ?_ ?_
    · by_cases hf0 : 0 ≤ f
      · obtain ⟨g, rfl⟩ : ∃ g : Nat, f = g := ⟨f.toNat, by omega⟩
        by_cases hfk : g < k
        · have hm1 : min (g : Int) 511 = g := by omega
          have hm2 : max (g : Int) 0 = g := by omega
          cases e : frAt fs (g : Int) with
          | none =>
            have hg := H2.nil g (by omega) e
            simp (decide := true) only [st, c7_12, hco, r6, r7, hfk, hm1, hm2, hcv, hg, show g < 512 by omega, Nat.mul_one, Option.isSome_none]
            exact ⟨by simp (decide := true) only [st, r1], by simp (decide := true) only [st, r5], by simp (decide := true) only [st, r6], by simp (decide := true) only [st, r7], by simp (decide := true) only [st, r8], by simp (decide := true) only [st, r9], by simp (decide := true) only [st]⟩
          | some g' =>
            obtain ⟨x, q1, q2, q3⟩ := frAt_some e
            obtain rfl : g = g' := by omega
            have hg := (H2.rs g x q1 q2).1
            simp (decide := true) only [st, c7_12, hco, r6, r7, hfk, hm1, hm2, hcv, hg, show g < 512 by omega, Nat.mul_one, Option.isSome_some]
            exact ⟨by simp (decide := true) only [st, r1], by simp (decide := true) only [st, r5], by simp (decide := true) only [st, r6], by simp (decide := true) only [st, r7], by simp (decide := true) only [st, r8], by simp (decide := true) only [st, r9], by simp (decide := true) only [st]⟩
        · have e : frAt fs (g : Int) = none := frAt_iff.2 fun x hx => by
            have := (List.getElem?_eq_some_iff.1 hx).1
            omega
          simp (decide := true) only [st, c7_12, hco, r6, r7, hfk, e, Option.isSome_none]
          exact ⟨by simp (decide := true) only [st, r1], by simp (decide := true) only [st, r5], by simp (decide := true) only [st, r6], by simp (decide := true) only [st, r7], by simp (decide := true) only [st, r8], by simp (decide := true) only [st, r9], by simp (decide := true) only [st]⟩
      · have e : frAt fs f = none := by unfold frAt; rw [if_neg hf0]
        simp (decide := true) only [st, c7_12, hco, r6, r7, hf0, e, Option.isSome_none]
        exact ⟨by simp (decide := true) only [st, r1], by simp (decide := true) only [st, r5], by simp (decide := true) only [st, r6], by simp (decide := true) only [st, r7], by simp (decide := true) only [st, r8], by simp (decide := true) only [st, r9], by simp (decide := true) only [st]⟩
    clear r1 r5 r6 r7 r8 r9 b0
    rintro ρ1 ⟨⟨r1, r5, r6, r7, r8, r9, r10⟩, r11⟩
    simp (decide := true) only [st]
    refine exec_cut (Q := fun ρ' => B ρ' ∧ ρ' 11 = .bool (frAt fs f).isSome ∧ ρ' 12 = .bool (decide (0 ≤ off ∧ off < 16))) ?_ ?_
    · by_cases h0 : 0 ≤ off
      · by_cases h1 : off < 16
        · simp (decide := true) only [st, c7_13, hco, r10, r11, h0, h1]
          exact ⟨by simp (decide := true) only [st, r1], by simp (decide := true) only [st, r5], by simp (decide := true) only [st, r6], by simp (decide := true) only [st, r7], by simp (decide := true) only [st, r8], by simp (decide := true) only [st, r9], by simp (decide := true) only [st, r10]⟩
        · simp (decide := true) only [st, c7_13, hco, r10, r11, h0, h1]
          exact ⟨by simp (decide := true) only [st, r1], by simp (decide := true) only [st, r5], by simp (decide := true) only [st, r6], by simp (decide := true) only [st, r7], by simp (decide := true) only [st, r8], by simp (decide := true) only [st, r9], by simp (decide := true) only [st, r10]⟩
      · simp (decide := true) only [st, c7_13, hco, r10, r11, h0]
        exact ⟨by simp (decide := true) only [st, r1], by simp (decide := true) only [st, r5], by simp (decide := true) only [st, r6], by simp (decide := true) only [st, r7], by simp (decide := true) only [st, r8], by simp (decide := true) only [st, r9], by simp (decide := true) only [st, r10]⟩
    clear r1 r5 r6 r7 r8 r9 r10 r11
    rintro ρ2 ⟨⟨r1, r5, r6, r7, r8, r9, r10⟩, r11, r12⟩
    refine wp_seq_cut (fun ρ' => B ρ' ∧ ρ' 11 = .bool (frAt fs f).isSome ∧ ρ' 12 = .bool (decide (0 ≤ off ∧ off < 16)) ∧ ρ' 13 = .int .i64 0) ?_ ?_
    · simp (decide := true) only [st, r11, r12]
      exact ⟨by simp (decide := true) only [st, r1], by simp (decide := true) only [st, r5], by simp (decide := true) only [st, r6], by simp (decide := true) only [st, r7], by simp (decide := true) only [st, r8], by simp (decide := true) only [st, r9], by simp (decide := true) only [st, r10]⟩
    clear r1 r5 r6 r7 r8 r9 r10 r11 r12
    rintro ρ3 ⟨⟨r1, r5, r6, r7, r8, r9, r10⟩, r11, r12, r13⟩
    refine wp_seq_cut (fun ρ' => B ρ' ∧ ρ' 11 = .bool (frAt fs f).isSome ∧ ρ' 12 = .bool (decide (0 ≤ off ∧ off < 16)) ∧ ρ' 13 = .int .i64 (frByte fs f off).2) ?_ ?_
    · cases e : frAt fs f with
      | none =>
        have hw : (frByte fs f off).2 = 7 := by simp only [frByte, e]
        rw [e] at r11
        simp (decide := true) only [st, r11, r12, hw, Option.isSome_none, e]
        exact ⟨by simp (decide := true) only [st, r1], by simp (decide := true) only [st, r5], by simp (decide := true) only [st, r6], by simp (decide := true) only [st, r7], by simp (decide := true) only [st, r8], by simp (decide := true) only [st, r9], by simp (decide := true) only [st, r10]⟩
      | some g =>
        rw [e] at r11
        by_cases hin : 0 ≤ off ∧ off < 16
        · have hw : (frByte fs f off).2 = 0 := by simp only [frByte, e]; rw [if_neg (by omega)]
          simp (decide := true) only [st, r11, r12, r13, hw, Option.isSome_some, e, hin]
          exact ⟨by simp (decide := true) only [st, r1], by simp (decide := true) only [st, r5], by simp (decide := true) only [st, r6], by simp (decide := true) only [st, r7], by simp (decide := true) only [st, r8], by simp (decide := true) only [st, r9], by simp (decide := true) only [st, r10]⟩
        · have hw : (frByte fs f off).2 = 11 := by simp only [frByte, e]; rw [if_pos (by omega)]
          simp (decide := true) only [st, r11, r12, hw, Option.isSome_some, e, hin]
          exact ⟨by simp (decide := true) only [st, r1], by simp (decide := true) only [st, r5], by simp (decide := true) only [st, r6], by simp (decide := true) only [st, r7], by simp (decide := true) only [st, r8], by simp (decide := true) only [st, r9], by simp (decide := true) only [st, r10]⟩
    clear r1 r5 r6 r7 r8 r9 r10 r11 r12 r13
    rintro ρ4 ⟨⟨r1, r5, r6, r7, r8, r9, r10⟩, r11, r12, r13⟩
    simp (decide := true) only [st, r10, hco]
    generalize (IntKind.i64.wrap (kd.tmod 10 + 10)).tmod 10 = kx
    refine exec_cut (Q := fun ρ' => B ρ' ∧ ρ' 11 = .bool (frAt fs f).isSome ∧ ρ' 13 = .int .i64 (frByte fs f off).2 ∧ ρ' 14 = .int .i64 kx ∧ ρ' 119 = .bool (decide (kx < 4))) ?_ ?_
    · simp (decide := true) only [st, c7_20, r11, r13]
      exact ⟨by simp (decide := true) only [st, r1], by simp (decide := true) only [st, r5], by simp (decide := true) only [st, r6], by simp (decide := true) only [st, r7], by simp (decide := true) only [st, r8], by simp (decide := true) only [st, r9], by simp (decide := true) only [st, r10]⟩
    clear r1 r5 r6 r7 r8 r9 r10 r11 r12 r13
    rintro ρ5 ⟨⟨r1, r5, r6, r7, r8, r9, r10⟩, r11, r13, r14, r119⟩
    have hu := frUsed_le (fs := fs)
    simp (decide := true) only [st, r119]
    refine WPc_by (fun hx4 => ?_) (fun hx4 => ?_)
    · have ht := take_calls ok H2.mem
      simp (decide := true) only [st, r5]
      cases eL : frLeast fs with
      | none =>
        rw [eL] at ht
        have hfs : frTake fs = fs := by simp [frTake, eL]
        rw [hfs, H2.mem.same] at ht
        refine execC_by ht ?_
        simp (decide := true) only [st]
        let J : Nat → Env → AHeap → Prop := fun m' ρ' h' => h' = h2 ∧ ∃ a : Nat, a + m' = k ∧ B ρ' ∧ ρ' 15 = .int .i64 0 ∧ ρ' 16 = .int .i64 9 ∧ ρ' 17 = .int .i64 a
        refine wp_loop_n J ?_ k ⟨rfl, 0, by omega, ⟨by simp (decide := true) only [st, r1], by simp (decide := true) only [st, r5], by simp (decide := true) only [st, r6], by simp (decide := true) only [st, r7], by simp (decide := true) only [st, r8], by simp (decide := true) only [st, r9], by simp (decide := true) only [st, r10]⟩, by simp (decide := true) only [st], by simp (decide := true) only [st], by simp (decide := true) only [st]⟩
        clear r1 r5 r6 r7 r8 r9 r10 r11 r13 r14 r119
        rintro m' ρ6 h3 ⟨rfl, a, ham, ⟨r1, r5, r6, r7, r8, r9, r10⟩, r15, r16, r17⟩
        by_cases hak : a < k
        · obtain ⟨x, hxa⟩ : ∃ x, fs[a]? = some x := ⟨fs[a]'(by omega), List.getElem?_eq_getElem (by omega)⟩
          have hxt : x.taken = true := by
            have := List.findIdx?_eq_none_iff.1 eL x (List.mem_of_getElem? hxa)
            simpa using this
          have hg := (H2.rs a x hxa hxt).1
          simp (decide := true) only [st, c7_23, r6, r7, r17, hak, hcv, hg, show a < 512 by omega, Nat.mul_one, wrapN1 (show a < 2 ^ 61 by omega)]
          exact ⟨m' - 1, by omega, rfl, a + 1, by omega, ⟨by simp (decide := true) only [st, r1], by simp (decide := true) only [st, r5], by simp (decide := true) only [st, r6], by simp (decide := true) only [st, r7], by simp (decide := true) only [st, r8], by simp (decide := true) only [st, r9], by simp (decide := true) only [st, r10]⟩, by simp (decide := true) only [st, r15], by simp (decide := true) only [st, r16], by simp (decide := true) only [st]⟩
        · have hak' : a = k := by omega
          subst hak'
          simp (decide := true) only [st, c7_23, r6, r7, r17, r15, r16, r9, Nat.lt_irrefl, wrapN1 (show i < 2 ^ 61 by omega)]
          exact ⟨m - 1, by omega, i + 1, fs, hv, hb, by omega, by simp (decide := true) only [st, r1], by simp (decide := true) only [st, r5], by simp (decide := true) only [st, r6], by simp (decide := true) only [st, r7], by simp (decide := true) only [st, r8], by simp (decide := true) only [st], hfl, H2⟩
      | some a0 =>
        rw [eL] at ht
        obtain ⟨hlt0, hnt0, hbef⟩ := List.findIdx?_eq_some_iff_getElem.1 eL
        have hn0 : hv[a0]? = some .nils := H2.nil a0 (by omega) (frAt_iff.2 fun x hx => by
          rw [List.getElem?_eq_getElem hlt0] at hx; cases hx; simpa using hnt0)
        have hc3 : (memH h2 bl (frTake fs)).get bv = some (.cells hv) := by
          have := H2.ne.2
          simp only [memH, AHeap.set, if_neg this]; exact H2.cells
        have hcv3 := cellsOf_of hc3
        refine execC_by ht ?_
        simp (decide := true) only [st]
        let J : Nat → Env → AHeap → Prop := fun m' ρ' h' => h' = memH h2 bl (frTake fs) ∧ ∃ a : Nat, a + m' = a0 ∧ B ρ' ∧ ρ' 15 = .int .i64 a0 ∧ ρ' 16 = .int .i64 0 ∧ ρ' 17 = .int .i64 a
        refine wp_loop_n J ?_ a0 ⟨rfl, 0, by omega, ⟨by simp (decide := true) only [st, r1], by simp (decide := true) only [st, r5], by simp (decide := true) only [st, r6], by simp (decide := true) only [st, r7], by simp (decide := true) only [st, r8], by simp (decide := true) only [st, r9], by simp (decide := true) only [st, r10]⟩, by simp (decide := true) only [st], by simp (decide := true) only [st], by simp (decide := true) only [st]⟩
        clear r1 r5 r6 r7 r8 r9 r10 r11 r13 r14 r119
        rintro m' ρ6 h3 ⟨rfl, a, ham, ⟨r1, r5, r6, r7, r8, r9, r10⟩, r15, r16, r17⟩
        by_cases hak : a < a0
        · obtain ⟨x, hxa⟩ : ∃ x, fs[a]? = some x := ⟨fs[a]'(by omega), List.getElem?_eq_getElem (by omega)⟩
          have hxt : x.taken = true := by
            have := hbef a hak
            rw [List.getElem?_eq_getElem (by omega)] at hxa; cases hxa; simpa using this
          have hg := (H2.rs a x hxa hxt).1
          simp (decide := true) only [st, c7_23, r6, r7, r17, show a < k by omega, hcv3, hg, show a < 512 by omega, Nat.mul_one, wrapN1 (show a < 2 ^ 61 by omega)]
          exact ⟨m' - 1, by omega, rfl, a + 1, by omega, ⟨by simp (decide := true) only [st, r1], by simp (decide := true) only [st, r5], by simp (decide := true) only [st, r6], by simp (decide := true) only [st, r7], by simp (decide := true) only [st, r8], by simp (decide := true) only [st, r9], by simp (decide := true) only [st, r10]⟩, by simp (decide := true) only [st, r15], by simp (decide := true) only [st, r16], by simp (decide := true) only [st]⟩
        · have hak' : a = a0 := by omega
          subst hak'
          have hak1 : a < k := by omega
          have hak2 : ¬ (a : Int) = k := by omega
          have hak3 : a < 512 := by omega
          simp (decide := true) only [st, c7_23, r6, r7, r17, hak1, hcv3, hn0, hak3, Nat.mul_one, hak2, makeLen]
          have hbvn : ¬ bv = (memH h2 bl (frTake fs)).next := by have := H2.lt.1; show ¬ bv = h2.next; omega
          have hlen : a + 1 ≤ hv.length := by rw [H2.len]; omega
          have hmn : (memH h2 bl (frTake fs)).next = h2.next := rfl
          have hne := H2.ne
          have hlt := H2.lt
          have H4 : Hv (((memH h2 bl (frTake fs)).at (memH h2 bl (frTake fs)).next (.cells (List.replicate (Int.toNat 16) [AV.int .u8 0]).flatten)).set bv (some (.cells (List.take a hv ++ [AV.rs (memH h2 bl (frTake fs)).next 0 (Int.toNat 16) 1] ++ List.drop (a + 1) hv)))) bv bm bl (frTake fs) (hv.set a (.rs h2.next 0 16 1)) (fun f => if f = a then h2.next else hb f) := by
            refine H2.take eL (by omega) (Nat.le_refl _) ?_ ?_ ?_ ?_ ?_
            · simp only [AHeap.set, AHeap.at, hmn]; omega
            · simp only [AHeap.set, AHeap.at, hmn, if_neg (show ¬ h2.next = bv by omega), if_true]; rfl
            · simp only [AHeap.set, if_true]
              rw [take_set_drop (by omega)]; rfl
            · simp only [AHeap.set, AHeap.at, hmn, if_neg (show ¬ bl = bv by omega), if_neg (show ¬ bl = h2.next by omega), memH, if_true]
            · intro x hx h1 h2'
              simp only [AHeap.set, AHeap.at, hmn, if_neg h1, if_neg (show ¬ x = h2.next by omega), memH, if_neg h2']
          have hu4 := used_calls ok H4.mem ⟨H4.lt.2.1, H4.lt.2.2⟩
          have hfu := frUsed_take eL
          simp (decide := true) only [st, c7_30, hbvn, hlen, r8, r15, r16, r17, r5, wrapN1 (show frUsed fs < 2 ^ 61 by omega)]
          refine execC_by hu4 ?_
          simp (decide := true) only [st, hfu, r9, wrapN1 (show i < 2 ^ 61 by omega)]
          exact ⟨m - 1, by omega, i + 1, _, _, _, by omega, by simp (decide := true) only [st, r1], by simp (decide := true) only [st, r5], by simp (decide := true) only [st, r6], by simp (decide := true) only [st, r7], by simp (decide := true) only [st, hfu], by simp (decide := true) only [st], by rw [frTake_len]; exact hfl, H4⟩
    · simp (decide := true) only [st, r14]
      refine WPc_by (fun hx6 => ?_) (fun hx6 => ?_)
      · have hfc := free_calls ok H2.mem H2.lt.2.2 f
        simp (decide := true) only [st, r5, r10, hco]
        cases e : frAt fs f with
        | none =>
          have hff : frFree fs f = fs := by simp only [frFree, e]
          rw [e] at r11 hfc
          rw [hff, H2.mem.same] at hfc
          refine execC_by hfc ?_
          simp (decide := true) only [st, c7_34, beq_self_eq_true, Bool.not_true, Bool.not_false, r5, r11, e, Option.isSome_none]
          refine execC_by (used_calls ok H2.mem ⟨H2.lt.2.1, H2.lt.2.2⟩) ?_
          simp (decide := true) only [st, r8, r9, wrapN1 (show i < 2 ^ 61 by omega)]
          exact ⟨m - 1, by omega, i + 1, _, _, _, by omega, by simp (decide := true) only [st, r1], by simp (decide := true) only [st, r5], by simp (decide := true) only [st, r6], by simp (decide := true) only [st, r7], by simp (decide := true) only [st, r8], by simp (decide := true) only [st], hfl, H2⟩
        | some g =>
          obtain ⟨x, q1, q2, rfl⟩ := frAt_some e
          have hgl := (List.getElem?_eq_some_iff.1 q1).1
          have hg5 : g < 512 := by omega
          have hlen : g + 1 ≤ hv.length := by rw [H2.len]; omega
          have hc3 : (memH h2 bl (frFree fs g)).get bv = some (.cells hv) := by
            have := H2.ne.2
            simp only [memH, AHeap.set, if_neg this]; exact H2.cells
          have hcv3 := cellsOf_of hc3
          have ho3 : (memH h2 bl (frFree fs g)).get bo = some (.cells [.int .i64 kd, .int .i64 g, .int .i64 off, .int .u8 b]) := by
            simp only [memH, AHeap.set, if_neg hob.2.2]; exact ho
          have hco3 := cellsOf_of ho3
          rw [e] at r11 hfc
          have hfu := frUsed_free q1 q2
          refine execC_by hfc ?_
          have H4 : Hv ((memH h2 bl (frFree fs g)).set bv (some (.cells (List.take g hv ++ [AV.nils] ++ List.drop (g + 1) hv)))) bv bm bl (frFree fs g) (hv.set g .nils) hb := by
            refine H2.free q1 q2 (Nat.le_refl _) ?_ ?_ ?_
            · simp only [AHeap.set, if_true]
              rw [take_set_drop (by omega)]
            · simp only [AHeap.set, if_neg (show ¬ bl = bv from fun h => H2.ne.2 h.symm), memH, if_true]
            · intro y hy h1 h2'
              simp only [AHeap.set, if_neg h1, memH, if_neg h2']
          have hw8 : IntKind.wrap .i64 ((frUsed fs : Int) - 1) = (frUsed (frFree fs g) : Nat) := by rw [wrapS] <;> omega
          simp (decide := true) only [st, c7_34, beq_self_eq_true, Bool.not_true, Bool.not_false, r5, r7, r8, r10, r11, e, Option.isSome_some, hco3, hg5, Nat.mul_one, hcv3, hlen, hw8]
          refine execC_by (used_calls ok H4.mem ⟨H4.lt.2.1, H4.lt.2.2⟩) ?_
          simp (decide := true) only [st, r9, wrapN1 (show i < 2 ^ 61 by omega)]
          exact ⟨m - 1, by omega, i + 1, _, _, _, by omega, by simp (decide := true) only [st, r1], by simp (decide := true) only [st, r5], by simp (decide := true) only [st, r6], by simp (decide := true) only [st, r7], by simp (decide := true) only [st], by simp (decide := true) only [st], by rw [frFree_len]; exact hfl, H4⟩
      · simp (decide := true) only [st, r14]
        refine WPc_by (fun hx9 => ?_) (fun hx9 => ?_)
        · have hsc := store_calls ok H2.mem H2.lt.2.2 f off b
          simp (decide := true) only [st, c7_40, r5, r10, hco]
          rcases hby : frByte fs f off with ⟨o, er⟩
          cases o with
          | none =>
            have herr := frByte_none hby
            have hss : frStore fs f off b = fs := by simp only [frStore, hby]
            rw [hby, hss, H2.mem.same] at hsc
            rw [hby] at r13
            refine execC_by hsc ?_
            simp (decide := true) only [st, r13, r5, herr]
            refine execC_by (used_calls ok H2.mem ⟨H2.lt.2.1, H2.lt.2.2⟩) ?_
            simp (decide := true) only [st, r8, r9, wrapN1 (show i < 2 ^ 61 by omega)]
            exact ⟨m - 1, by omega, i + 1, _, _, _, by omega, by simp (decide := true) only [st, r1], by simp (decide := true) only [st, r5], by simp (decide := true) only [st, r6], by simp (decide := true) only [st, r7], by simp (decide := true) only [st, r8], by simp (decide := true) only [st], hfl, H2⟩
          | some gj =>
            obtain ⟨g, j⟩ := gj
            obtain ⟨rfl, hj16, rfl, rfl, x, q1, q2⟩ := frByte_some hby
            have hgl := (List.getElem?_eq_some_iff.1 q1).1
            have hg5 : g < 512 := by omega
            obtain ⟨p1, p2, p3, p4, p5, p6⟩ := H2.rs g x q1 q2
            have hxl := H2.mem.len x (List.mem_of_getElem? q1)
            rw [hby] at r13 hsc
            refine execC_by hsc ?_
            have hne := H2.ne
            have hlt := H2.lt
            have hnx : (memH h2 bl (frStore fs g j b)).next = h2.next := rfl
            have hget : ∀ y, y < h2.next → y ≠ bl → ((memH h2 bl (frStore fs g j b)).clean 10).get y = h2.get y := fun y h1 h2' => by
              simp only [AHeap.clean, hnx, if_pos h1, memH, AHeap.set, if_neg h2']
            have hco4 := cellsOf_of ((hget bo hon hob.2.2).trans ho)
            have hcv4 := cellsOf_of ((hget bv hlt.1 hne.2).trans H2.cells)
            have hcb4 := cellsOf_of ((hget (hb g) p3 p6).trans p2)
            have hfree : ∀ i y, freeD 10 (memH h2 bl (frStore fs g j b)).next i (((memH h2 bl (frStore fs g j b)).clean 10).set (hb g) y) := fun i y => (freeD_set p3).2 (freeD_clean.2 trivial)
            have hj17 : j + 1 ≤ (x.b.map (AV.int .u8)).length := by simp [hxl]; omega
            have H4 : Hv (((memH h2 bl (frStore fs g j b)).clean 10).set (hb g) (some (.cells (List.take j (x.b.map (AV.int .u8)) ++ [AV.int .u8 b] ++ List.drop (j + 1) (x.b.map (AV.int .u8)))))) bv bm bl (frStore fs g j b) hv hb := by
              refine H2.store q1 q2 hj16 ?_ ?_ ?_ ?_
              · simp only [AHeap.set, AHeap.clean, hnx]; omega
              · simp only [AHeap.set, if_true]
                rw [take_set_drop (by simp [hxl]; omega), List.map_set]
              · simp only [AHeap.set, AHeap.clean, hnx, if_neg (show ¬ bl = hb g from fun h => p6 h.symm), if_pos hlt.2.2, memH, if_true]
              · intro y hy h1 h2'
                simp only [AHeap.set, if_neg h1]
                exact hget y hy h2'
            simp (decide := true) only [st, r13]
            refine WP_regD0m 10 rfl rfl ?_
            simp (decide := true) only [st, r5, r7, r10, hco4, hg5, Nat.mul_one, hcv4, p1, hj16, hcb4, hj17, Nat.zero_add, hfree]
            refine execC_by (used_calls ok H4.mem ⟨H4.lt.2.1, H4.lt.2.2⟩) ?_
            simp (decide := true) only [st, frUsed_store, r8, r9, wrapN1 (show i < 2 ^ 61 by omega)]
            exact ⟨m - 1, by omega, i + 1, _, _, _, by omega, by simp (decide := true) only [st, r1], by simp (decide := true) only [st, r5], by simp (decide := true) only [st, r6], by simp (decide := true) only [st, r7], by simp (decide := true) only [st, frUsed_store, r8], by simp (decide := true) only [st], by rw [frStore_len]; exact hfl, H4⟩
        · have hlc := load_calls ok H2.mem H2.lt.2.2 f off
          simp (decide := true) only [st, r5, r10, hco]
          rcases hby : frByte fs f off with ⟨o, er⟩
          have H4 := H2.more (h' := h2.clean 27) (by simp only [AHeap.clean]; omega) (fun y hy => by simp only [AHeap.clean, if_pos hy])
          cases o with
          | none =>
            have herr := frByte_none hby
            have hll : frLoad fs f off = (0, er) := by simp only [frLoad, hby]
            rw [hll] at hlc
            rw [hby] at r13
            refine execC_by hlc ?_
            simp (decide := true) only [st]
            refine WP_regD0m 27 rfl rfl ?_
            simp (decide := true) only [st, c7_45, r13, r5, herr]
            refine execC_by (used_calls ok H4.mem ⟨H4.lt.2.1, H4.lt.2.2⟩) ?_
            simp (decide := true) only [st, r8, r9, wrapN1 (show i < 2 ^ 61 by omega)]
            exact ⟨m - 1, by omega, i + 1, _, _, _, by omega, by simp (decide := true) only [st, r1], by simp (decide := true) only [st, r5], by simp (decide := true) only [st, r6], by simp (decide := true) only [st, r7], by simp (decide := true) only [st, r8], by simp (decide := true) only [st], hfl, H4⟩
          | some gj =>
            obtain ⟨g, j⟩ := gj
            obtain ⟨rfl, hj16, rfl, rfl, x, q1, q2⟩ := frByte_some hby
            have hgl := (List.getElem?_eq_some_iff.1 q1).1
            have hg5 : g < 512 := by omega
            obtain ⟨p1, p2, p3, p4, p5, p6⟩ := H4.rs g x q1 q2
            have hxl := H2.mem.len x (List.mem_of_getElem? q1)
            have hxj : x.b[j]? = some x.b[j] := List.getElem?_eq_getElem (by omega)
            have hll : frLoad fs g j = (x.b[j], 0) := by simp only [frLoad, hby, q1, Option.bind_some, hxj]; rfl
            have hbj : (x.b.map (AV.int .u8))[j]? = some (.int .u8 x.b[j]) := by rw [List.getElem?_map, hxj]; rfl
            rw [hll] at hlc
            rw [hby] at r13
            have hco4 : cellsOf (h2.clean 27) bo = _ := cellsOf_of (show (h2.clean 27).get bo = _ by simp only [AHeap.clean, if_pos hon]; exact ho)
            have hcv4 := cellsOf_of H4.cells
            have hcb4 := cellsOf_of p2
            refine execC_by hlc ?_
            simp (decide := true) only [st]
            refine WP_regD0m 27 rfl rfl ?_
            simp (decide := true) only [st, c7_45, r13, r5, r7, r10, hco4, hg5, Nat.mul_one, hcv4, p1, hj16, hcb4, Nat.zero_add, hbj]
            refine execC_by (used_calls ok H4.mem ⟨H4.lt.2.1, H4.lt.2.2⟩) ?_
            simp (decide := true) only [st, r8, r9, wrapN1 (show i < 2 ^ 61 by omega)]
            exact ⟨m - 1, by omega, i + 1, _, _, _, by omega, by simp (decide := true) only [st, r1], by simp (decide := true) only [st, r5], by simp (decide := true) only [st, r6], by simp (decide := true) only [st, r7], by simp (decide := true) only [st, r8], by simp (decide := true) only [st], hfl, H4⟩
  · have hiq : i = xs.length := by omega
    simp (decide := true) only [st, r1, r9, hi]
    refine execC_by (nil_take ok) ?_
    simp (decide := true) only [st]
    refine execC_by (nil_load ok) ?_
    simp (decide := true) only [st, c7_53]
    refine execC_by (nil_free ok) ?_
    simp (decide := true) only [st]
    refine execC_by (nil_store ok) ?_
    simp (decide := true) only [st]
    refine execC_by (nil_used ok) ?_
    simp (decide := true) only [st, lawK_ret]
end Go.Proofs.Ytchomcffeiheeaa.Am
