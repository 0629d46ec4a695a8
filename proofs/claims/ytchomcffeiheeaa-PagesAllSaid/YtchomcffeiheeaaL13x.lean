/- The law of layer 13 on every row of operations, at the abstract machine: what the law keeps beside. Conditions: none. -/
import Derived.Test.YtchomcffeiheeaaL13
set_option maxRecDepth 100000
set_option linter.unusedSimpArgs false
set_option linter.unusedVariables false
set_option linter.unnecessarySimpa false
namespace Go.Proofs.Ytchomcffeiheeaa.Am
open Go
variable {P : Program} {h : AHeap} {bs bm bl bp N : Nat} {A : Mem}

/-- The law's own copy: each program's bytes in a block. -/
def drow (A : Mem) (blks : List Nat) : List (List AV) := (blks.zip A).map fun e => [.rs e.1 0 e.2.2.length 1]
def irow (A : Mem) : List (List AV) := A.map fun e => [.int .u64 e.1]

structure Dat (h : AHeap) (A : Mem) (blks : List Nat) : Prop where
  len : blks.length = A.length
  get : ∀ (k b : Nat) (e : Int × List Int), blks[k]? = some b → A[k]? = some e → h.get b = some (.cells (e.2.map (.int .u8))) ∧ b < h.next
  nodup : blks.Nodup
  small : ∀ e ∈ A, e.2.length ≤ 64

theorem drow_get {blks : List Nat} {k b : Nat} {e : Int × List Int} (h1 : blks[k]? = some b) (h2 : A[k]? = some e) : (drow A blks)[k]? = some [.rs b 0 e.2.length 1] := by
  have : (blks.zip A)[k]? = some (b, e) := List.getElem?_zip_eq_some.2 ⟨h1, h2⟩
  simp only [drow, List.getElem?_map, this]; rfl
theorem irow_get {k : Nat} {e : Int × List Int} (h2 : A[k]? = some e) : (irow A)[k]? = some [.int .u64 e.1] := by simp [irow, h2]
theorem irow_len : (irow A).length = A.length := by simp [irow]

theorem within_no (ok : TblOK P tb) {xs : List (List AV)} {t : Tail} {off n : Int} : ACalls P 32 [.int .i64 (-1), .vs xs t, .int .i64 off, .int .i64 n] h (.int .i64 7) h := by
  refine ok.keeps (rf := c32) rfl (Nat.le_of_ble_eq_true rfl) rfl ?_
  simp (decide := true) only [st, c32, c32_0, c32_1, c32_2, c32_3, c32_4, c32_5]

theorem within_yes (ok : TblOK P tb) {blks : List Nat} {t : Tail} {off n : Int} {k b : Nat} {e : Int × List Int} (h1 : blks[k]? = some b) (h2 : A[k]? = some e) (hs : e.2.length ≤ 64) :
    ACalls P 32 [.int .i64 k, .vs (drow A blks) t, .int .i64 off, .int .i64 n] h (.int .i64 (if off < 0 ∨ n < 0 ∨ (e.2.length : Int) < off ∨ (e.2.length : Int) - off < n then 11 else 0)) h := by
  have hr := drow_get h1 h2
  have hk0 : ¬ (k : Int) < 0 := by omega
  refine ok.keeps (rf := c32) rfl (Nat.le_of_ble_eq_true rfl) rfl ?_
  generalize e.2.length = L at *
  simp (decide := true) only [st, c32, c32_0, c32_1, c32_2, c32_3, c32_4, c32_5, hk0]
  by_cases g1 : off < 0
  · simp (decide := true) only [st, g1, true_or]
  by_cases g2 : n < 0
  · simp (decide := true) only [st, g1, g2, true_or, or_true]
  by_cases g3 : (L : Int) < off
  · simp (decide := true) only [st, g1, g2, g3, hr, true_or, or_true]
  have hw : IntKind.wrap .i64 ((L : Int) - off) = (L : Int) - off := by rw [wrapS] <;> omega
  by_cases g4 : (L : Int) - off < n
  · simp (decide := true) only [st, g1, g2, g3, g4, hr, hw, true_or, or_true]
  · simp (decide := true) only [st, g1, g2, g3, g4, hr, hw, or_self]

theorem drow_len {blks : List Nat} (hl : blks.length = A.length) : (drow A blks).length = A.length := by simp [drow, hl]

theorem rowsOf_bytes : ∀ {d pre : List Int}, rowsOf ((pre ++ d).map (AV.int .u8)) pre.length 1 d.length = brow d
  | [], _ => rfl
  | a :: d, pre => by
    have ih := rowsOf_bytes (d := d) (pre := pre ++ [a])
    simp only [List.length_cons, rowsOf]
    rw [List.append_assoc] at ih
    simp only [List.length_append, List.length_cons, List.length_nil, List.singleton_append] at ih
    rw [ih]
    simp [brow]

theorem rowsA_bytes {h : AHeap} {b : Nat} {d : List Int} (hc : cellsOf h b = some (d.map (.int .u8))) : rowsA 1 h (.rs b 0 d.length 1) = some (brow d) := by
  have := rowsOf_bytes (d := d) (pre := [])
  simp only [rowsA, hc]
  simp at this ⊢
  exact this

theorem SpA.keys (S : SpA h bs bm bl bp N A) : (A.map (·.1)).Nodup := by
  obtain ⟨fs, ts, S, R⟩ := S
  rw [R.dat, List.map_map]
  exact R.keys

theorem aget_key (hk : (A.map (·.1)).Nodup) {k : Nat} {e : Int × List Int} (he : A[k]? = some e) : aget A e.1 = some e.2 := by
  obtain ⟨hlt, hke⟩ := List.getElem?_eq_some_iff.1 he
  unfold aget
  rw [List.find?_eq_some_iff_getElem.2 ⟨by simp, k, hlt, hke, fun j hj => ?_⟩]
  · rfl
  · have : (A.map (·.1))[j]'(by simp; omega) ≠ (A.map (·.1))[k]'(by simp; omega) := by
      intro h
      have := (List.getElem_inj hk).1 h
      omega
    simp at this
    rw [hke] at this
    simpa using fun h => this h.symm

theorem same_calls (ok : TblOK P tb) (S : SpA h bs bm bl bp N A) {blks : List Nat} (D : Dat h A blks) (hal : A.length < 2 ^ 40) {t1 t2 : Tail} :
    ACalls P 33 [.ptr bs 0, .vs (irow A) t1, .vs (drow A blks) t2, .int .i64 ((N - aused A : Nat) : Int)] h (.bool true) h := by
  refine ok.keeps (rf := c33) rfl (Nat.le_of_ble_eq_true rfl) rfl ?_
  simp (decide := true) only [st, c33, c33_0, c33_1, c33_2, c33_4, c33_6, c33_7, c33_8, c33_9, c33_10, c33_11, c33_12]
  let I : Nat → Env → AHeap → Prop := fun m ρ h' => ∃ k : Nat, k + m = A.length ∧ ρ 0 = .ptr bs 0 ∧ ρ 1 = .vs (irow A) t1 ∧ ρ 2 = .vs (drow A blks) t2 ∧ ρ 3 = .int .i64 ((N - aused A : Nat) : Int) ∧ ρ 9 = .int .i64 k ∧ h.next ≤ h'.next ∧ ∀ b, b < h.next → h'.get b = h.get b
  refine wp_loop_n I ?_ A.length ⟨0, by omega, by simp (decide := true) only [st], by simp (decide := true) only [st], by simp (decide := true) only [st], by simp (decide := true) only [st], by simp (decide := true) only [st], Nat.le_refl _, fun _ _ => rfl⟩
  rintro m ρ h1 ⟨k, hkm, r0, r1, r2, r3, r9, hn, hk⟩
  have S1 := S.more hn hk
  by_cases hkl : k < A.length
  · obtain ⟨e, he⟩ : ∃ e, A[k]? = some e := ⟨A[k], List.getElem?_eq_getElem hkl⟩
    obtain ⟨b, hb⟩ : ∃ b, blks[k]? = some b := ⟨blks[k]'(by rw [D.len]; exact hkl), List.getElem?_eq_getElem (by rw [D.len]; exact hkl)⟩
    obtain ⟨d1, d2⟩ := D.get k b e hb he
    have hag := aget_key S.keys he
    have hes := D.small e (List.mem_of_getElem? he)
    have hin : absIn A e.1 (0 : Nat) (e.2.length : Nat) = (some e.2, 0) := by
      unfold absIn
      rw [hag]
      simp only
      rw [if_neg (by omega)]
    have hlen := irow_len (A := A)
    simp (decide := true) only [st, r1, r9, hlen, hkl]
    refine WP_regD0n 16 rfl rfl ?_
    obtain ⟨bo, h2, q1, q2, q3, q4, q5⟩ := A_read_rs ok (S1.clean 16) hin
    rw [List.drop_zero, List.take_length] at q2
    have hfree : ∀ i, freeD 16 h1.next i h2 := fun i j j1 j2 => by
      rw [q5 _ (by simp only [AHeap.clean]; omega)]
      exact (freeD_clean (i := i)).2 trivial j j1 j2
    simp (decide := true) only [st, c33_3, r0, r1, r2, r9, irow_get he, drow_get hb he]
    refine eDC_by q1 (hfree _) ?_
    have hn2 : h.next ≤ h2.next := by
      have : (h1.clean 16).next = h1.next + 16 := rfl
      omega
    have hk2 : ∀ y, y < h.next → h2.get y = h.get y := fun y hy => by
      rw [q5 _ (by simp only [AHeap.clean]; omega)]
      simp only [AHeap.clean, if_pos (show y < h1.next by omega)]
      exact hk y hy
    have hbo : h.next ≤ bo := by
      have : (h1.clean 16).next = h1.next + 16 := rfl
      omega
    have S2 := S.more hn2 hk2
    have hL := A_len ok S2 e.1
    rw [hag] at hL
    have hcb : cellsOf (h2.clean 25) b = some (e.2.map (.int .u8)) := cellsOf_of (by
      simp only [AHeap.clean, if_pos (show b < h2.next by omega)]
      rw [hk2 b d2]; exact d1)
    have hcbo : cellsOf (h2.clean 25) bo = some (e.2.map (.int .u8)) := cellsOf_of (by
      simp only [AHeap.clean, if_pos q4]
      exact q2)
    have hra := rowsA_bytes hcb
    have hrb := rowsA_bytes hcbo
    have habn : abin false .neq (.str { data := (bstr e.2).toArray }) (.str { data := (bstr e.2).toArray }) = some (.bool false) := by simp [abin]
    simp (decide := true) only [st, r0, r1, r9, irow_get he]
    refine execC_by hL ?_
    simp (decide := true) only [st]
    refine WP_gen (fun ρ => ρ 0 = .ptr bs 0 ∧ ρ 1 = .vs (irow A) t1 ∧ ρ 2 = .vs (drow A blks) t2 ∧ ρ 3 = .int .i64 ((N - aused A : Nat) : Int) ∧ ρ 9 = .int .i64 k ∧ ρ 10 = .rs bo 0 e.2.length 1 ∧ ρ 11 = .int .i64 0 ∧ ρ 12 = .int .i64 e.2.length ∧ ρ 13 = .int .i64 0) ⟨by simp (decide := true) only [st, r0], by simp (decide := true) only [st, r1], by simp (decide := true) only [st, r2], by simp (decide := true) only [st, r3], by simp (decide := true) only [st, r9], by simp (decide := true) only [st], by simp (decide := true) only [st], by simp (decide := true) only [st], by simp (decide := true) only [st]⟩ ?_
    clear r0 r1 r2 r3 r9
    rintro ρ1 ⟨r0, r1, r2, r3, r9, r10, r11, r12, r13⟩
    refine WP_regD0n 25 rfl rfl ?_
    simp (decide := true) only [st, c33_5, r0, r1, r2, r9, r10, r11, r12, r13, hra, hrb, brow_bytes, habn, drow_get hb he]
    let J : Nat → Env → AHeap → Prop := fun m' ρ h' => ∃ (j : Nat) (l : List Int), j + m' = e.2.length ∧ ρ 0 = .ptr bs 0 ∧ ρ 1 = .vs (irow A) t1 ∧ ρ 2 = .vs (drow A blks) t2 ∧ ρ 3 = .int .i64 ((N - aused A : Nat) : Int) ∧ ρ 9 = .int .i64 k ∧ ρ 10 = .rs bo 0 e.2.length 1 ∧ ρ 14 = .int .i64 j ∧
      l.length = e.2.length ∧ h'.get bo = some (.cells (l.map (.int .u8))) ∧ h.next ≤ h'.next ∧ ∀ b, b < h.next → h'.get b = h.get b
    refine wp_loop_n J ?_ e.2.length ⟨0, e.2, by omega, by simp (decide := true) only [st, r0], by simp (decide := true) only [st, r1], by simp (decide := true) only [st, r2], by simp (decide := true) only [st, r3], by simp (decide := true) only [st, r9], by simp (decide := true) only [st, r10], by simp (decide := true) only [st], rfl, by simp only [AHeap.clean, if_pos q4]; exact q2, by simp only [AHeap.clean]; omega, fun y hy => by simp only [AHeap.clean, if_pos (show y < h2.next by omega)]; exact hk2 y hy⟩
    clear r0 r1 r2 r3 r9 r10 r11 r12 r13
    rintro m' ρ2 h3 ⟨j, l, hjm, r0, r1, r2, r3, r9, r10, r14, hll, hbg, hn3, hk3⟩
    by_cases hj : j < e.2.length
    · have hc := cellsOf_of hbg
      obtain ⟨v, hv⟩ : ∃ v, l[j]? = some v := ⟨l[j]'(by omega), List.getElem?_eq_getElem (by omega)⟩
      have hvm : (l.map (AV.int .u8))[j]? = some (.int .u8 v) := by rw [List.getElem?_map, hv]; rfl
      have hlm : j + 1 ≤ (l.map (AV.int .u8)).length := by simp; omega
      obtain ⟨w, hw⟩ : ∃ w, abin false .xor (.int .u8 v) (.int .u8 85) = some (.int .u8 w) := ⟨_, rfl⟩
      have hts := take_set_drop (l := l.map (AV.int .u8)) (j := j) (v := .int .u8 w) (by simp; omega)
      simp (decide := true) only [st, r10, r14, hj, hc, hvm, hlm, hw, Nat.mul_one, Nat.zero_add, hts, wrapN1 (show j < 2 ^ 61 by omega)]
      refine ⟨m' - 1, by omega, j + 1, l.set j w, by omega, by simp (decide := true) only [st, r0], by simp (decide := true) only [st, r1], by simp (decide := true) only [st, r2], by simp (decide := true) only [st, r3], by simp (decide := true) only [st, r9], by simp (decide := true) only [st, r10], by simp (decide := true) only [st], by simp [hll], ?_, hn3, fun y hy => ?_⟩
      · simp only [AHeap.set, if_true, List.map_set]
      · simp only [AHeap.set, if_neg (show ¬ y = bo by omega)]
        exact hk3 y hy
    · simp (decide := true) only [st, r9, r10, r14, hj, wrapN1 (show k < 2 ^ 61 by omega)]
      exact ⟨m - 1, by omega, k + 1, by omega, by simp (decide := true) only [st, r0], by simp (decide := true) only [st, r1], by simp (decide := true) only [st, r2], by simp (decide := true) only [st, r3], by simp (decide := true) only [st], hn3, hk3⟩
  · have hkA : k = A.length := by omega
    have hlen := irow_len (A := A)
    simp (decide := true) only [st, r0, r1, r3, r9, hlen, hkl]
    refine execC_by (A_free ok S1) ?_
    simp (decide := true) only [st, r3]
    exact hk

end Go.Proofs.Ytchomcffeiheeaa.Am

namespace Go.Proofs.Ytchomcffeiheeaa.Am
open Go
variable {P : Program} {h : AHeap}

def npB (ros : List RO) (k : Nat) : Bool := match ros[k]? with
  | some o => (match o.op with | .p _ => false | _ => true)
  | none => true
def unNP (ros : List RO) (un : List (List Nat)) : Bool := (List.range ros.length).all fun i => (un.getD i []).all fun k => npB ros i && npB ros k

/-- A region that draws its order, where no step that only reads is without its place. -/
theorem execD_of1 {ros : List RO} {un : List (List Nat)} {base : Nat} {K : Env → AHeap → Prop} (hu : unNP ros un = true) : ∀ (os : List RO) (i : Nat) (ρ : Env) (h : AHeap) (done : List (Env × AHeap × Option AV)),
    ros.drop i = os → execD0 P ros.length base os i ρ h K → execD P ros un base os i ρ h done K
  | [], i, ρ, h, done, _, he => he
  | o :: os, i, ρ, h, done, hd, ⟨r, h', hs, hf, he⟩ => by
    have hoi : ros[i]? = some o := by
      have : (ros.drop i)[0]? = some o := by rw [hd]; rfl
      rw [List.getElem?_drop] at this
      simpa using this
    refine ⟨r, h', hs, fun k hk ok d hok hdk => ?_, hf, execD_of1 hu os (i + 1) _ h' _ (by rw [← List.drop_drop, hd]; rfl) he⟩
    have h1 := List.all_eq_true.1 hu i (List.mem_range.2 (List.getElem?_eq_some_iff.1 hoi).1)
    have h2 := List.all_eq_true.1 h1 k hk
    simp only [Bool.and_eq_true, npB, hoi, hok] at h2
    unfold chk
    split
    · split
      · rename_i hq
        rw [hq] at h2
        simp at h2
      · trivial
    · split
      · rename_i hq
        rw [hq] at h2
        simp at h2
      · trivial

theorem WP_regD1n {ros : List RO} {un : List (List Nat)} {K : AExit → Env → AHeap → Prop} {ρ : Env} (n : Nat) (hn : ros.length = n) (hu : unNP ros un = true) (he : execD0 P n h.next ros 0 ρ (h.clean n) (K .normal)) : WP P (.regD ros un) K ρ h := by
  subst hn
  obtain ⟨ρ1, h1, he, hk⟩ := execD_post (execD_of1 hu ros 0 ρ _ [] rfl he)
  exact ⟨_, _, _, .regC he, hk⟩

/-- Who has the room behind it. -/
def tokOf : AV → Option Nat
  | .vs _ (.own t) => some t
  | _ => none
/-- The heap behind an append. -/
def hAcc (h : AHeap) (a : AV) (id : Nat) : AHeap := (match tokOf a with | some t => h.set t none | none => h).at id .tail

theorem acc_step {base bytes sz id : Nat} {h : AHeap} {a : AV} {xs ys : List (List AV)} (A : AccAt base h a xs) (hy : ys ≠ []) (hh : headOk sz xs = true) (h1 : (xs.length + ys.length) * bytes < 2 ^ 40) (h2 : xs.length + ys.length < 2 ^ 40) :
    appF bytes sz id h a (some ys) = some (.vs (xs ++ ys) (.own id), hAcc h a id) := by
  rcases A with ⟨rfl, rfl⟩ | ⟨t, rfl, h3, h4, h5⟩
  · simp only [appF, hAcc, tokOf]
    rw [if_neg hy, if_pos ⟨hh, h1, h2⟩]
  · simp only [appF, hAcc, tokOf]
    rw [if_neg hy, if_pos ⟨hh, h1, h2⟩]
    simp only [h3]

theorem hAcc_other {h : AHeap} {a : AV} {id b : Nat} (h1 : b ≠ id) (h2 : tokOf a ≠ some b) : (hAcc h a id).get b = h.get b := by
  unfold hAcc
  cases ht : tokOf a with
  | none => simp [AHeap.at, h1]
  | some t =>
    have : b ≠ t := fun e => h2 (by rw [ht, e])
    simp [AHeap.at, AHeap.set, h1, this]
theorem hAcc_id {h : AHeap} {a : AV} {id : Nat} : (hAcc h a id).get id = some .tail := by
  unfold hAcc
  cases tokOf a <;> simp [AHeap.at]
theorem hAcc_next {h : AHeap} {a : AV} {id : Nat} : (hAcc h a id).next = (h.at id .tail).next := by
  unfold hAcc
  cases tokOf a <;> rfl

/-- What PagesAll has at the head of its loop. -/
structure PA (base : Nat) (h : AHeap) (bs bm bl bp N : Nat) (A : Mem) (a1 a2 : AV) (blks : List Nat) : Prop where
  sp : SpA h bs bm bl bp N A
  ids : AccAt base h a1 (irow A)
  dat : AccAt base h a2 (drow A blks)
  dd : Dat h A blks
  tok : ∀ t, tokOf a1 = some t → tokOf a2 ≠ some t
  bas : bs < base ∧ bm < base ∧ bl < base ∧ bp < base
  bk : ∀ b ∈ blks, base ≤ b

variable {base bs bm bl bp N : Nat} {A A' : Mem} {a1 a2 : AV} {blks : List Nat} {h' : AHeap}

theorem AccAt.to {base : Nat} {h h' : AHeap} {a : AV} {xs : List (List AV)} (A : AccAt base h a xs) (hn : h.next ≤ h'.next) (hk : ∀ b, base ≤ b → b < h.next → h'.get b = h.get b) : AccAt base h' a xs := by
  rcases A with ⟨rfl, rfl⟩ | ⟨t, rfl, h1, h2, h3⟩
  · exact .inl ⟨rfl, rfl⟩
  · exact .inr ⟨t, rfl, by rw [hk t h2 h3]; exact h1, h2, by omega⟩

theorem Dat.to (D : Dat h A blks) (hn : h.next ≤ h'.next) (hb : ∀ b ∈ blks, base ≤ b) (hk : ∀ b, base ≤ b → b < h.next → h'.get b = h.get b) : Dat h' A blks where
  len := D.len
  get k b e h1 h2 := by
    obtain ⟨q1, q2⟩ := D.get k b e h1 h2
    exact ⟨by rw [hk b (hb b (List.mem_of_getElem? h1)) q2]; exact q1, by omega⟩
  nodup := D.nodup
  small := D.small

/-- The layer was called, the law's own copy is as it was. -/
theorem PA.same (p : PA base h bs bm bl bp N A a1 a2 blks) (S : SpA h' bs bm bl bp N A) (hn : h.next ≤ h'.next) (hk : ∀ b, b < h.next → b ≠ bl → b ≠ bp → h'.get b = h.get b) : PA base h' bs bm bl bp N A a1 a2 blks := by
  have hb := p.bas
  have hk' : ∀ b, base ≤ b → b < h.next → h'.get b = h.get b := fun b h1 h2 => hk b h2 (by omega) (by omega)
  exact { sp := S, ids := p.ids.to hn hk', dat := p.dat.to hn hk', dd := p.dd.to hn p.bk hk', tok := p.tok, bas := p.bas, bk := p.bk }

theorem PA.more (p : PA base h bs bm bl bp N A a1 a2 blks) (hn : h.next ≤ h'.next) (hk : ∀ b, b < h.next → h'.get b = h.get b) : PA base h' bs bm bl bp N A a1 a2 blks :=
  p.same (p.sp.more hn hk) hn fun b h1 _ _ => hk b h1

/-- A program was mapped, the law's lists have grown. -/
theorem PA.map (p : PA base h bs bm bl bp N A a1 a2 blks) {e : Int × List Int} (he : e.2.length ≤ 64) (S : SpA h' bs bm bl bp N (A ++ [e])) (hn : h.next ≤ h'.next) {t1 t2 nb : Nat}
    (q1 : h.next ≤ t1) (q2 : h.next ≤ t2) (q3 : h.next ≤ nb) (q4 : t1 < h'.next) (q5 : t2 < h'.next) (q6 : nb < h'.next) (q7 : t1 ≠ t2)
    (e1 : h'.get t1 = some .tail) (e2 : h'.get t2 = some .tail) (e3 : h'.get nb = some (.cells (e.2.map (.int .u8)))) (hbase : base ≤ h.next)
    (hk : ∀ b, base ≤ b → b < h.next → h.get b ≠ some .tail → h'.get b = h.get b) :
    PA base h' bs bm bl bp N (A ++ [e]) (.vs (irow A ++ [[.int .u64 e.1]]) (.own t1)) (.vs (drow A blks ++ [[.rs nb 0 e.2.length 1]]) (.own t2)) (blks ++ [nb]) where
  sp := S
  ids := .inr ⟨t1, by simp [irow], e1, by omega, q4⟩
  dat := .inr ⟨t2, by simp [drow, List.zip_append p.dd.len], e2, by omega, q5⟩
  dd :=
  { len := by simp [p.dd.len]
    get := fun k b x h1 h2 => by
      by_cases hkl : k < A.length
      · rw [List.getElem?_append_left (by rw [p.dd.len]; exact hkl)] at h1
        rw [List.getElem?_append_left hkl] at h2
        obtain ⟨g1, g2⟩ := p.dd.get k b x h1 h2
        refine ⟨?_, by omega⟩
        rw [hk b (p.bk b (List.mem_of_getElem? h1)) g2 (by rw [g1]; simp)]
        exact g1
      · have hl := p.dd.len
        have : k = A.length := by
          have := (List.getElem?_eq_some_iff.1 h2).1
          simp at this; omega
        subst this
        rw [← hl] at h1
        simp at h1 h2
        subst h1 h2
        exact ⟨e3, q6⟩
    nodup := by
      rw [List.nodup_append]
      refine ⟨p.dd.nodup, by simp, fun a ha b hb => ?_⟩
      simp at hb
      subst hb
      obtain ⟨k, hk1⟩ := List.mem_iff_getElem?.1 ha
      have hkl := (List.getElem?_eq_some_iff.1 hk1).1
      have := (p.dd.get k a _ hk1 (List.getElem?_eq_getElem (by rw [← p.dd.len]; exact hkl))).2
      omega
    small := fun x hx => by
      rcases List.mem_append.1 hx with hx | hx
      · exact p.dd.small x hx
      · simp at hx; subst hx; exact he }
  tok := fun t h1 h2 => by
    simp [tokOf] at h1 h2
    omega
  bas := p.bas
  bk := fun b hb => by
    rcases List.mem_append.1 hb with hb | hb
    · exact p.bk b hb
    · simp at hb; subst hb; omega

end Go.Proofs.Ytchomcffeiheeaa.Am

namespace Go.Proofs.Ytchomcffeiheeaa.Am
open Go
variable {P : Program} {h h' : AHeap} {base bs bm bl bp N : Nat} {A A' : Mem} {a1 a2 : AV} {blks : List Nat}

theorem app_any {bytes sz id : Nat} {a : AV} {xs ys : List (List AV)} (A : AccAt base h a xs) (hb : base ≤ id) (hh : headOk sz xs = true) (h1 : (xs.length + ys.length) * bytes < 2 ^ 40) (h2 : xs.length + ys.length < 2 ^ 40) :
    ∃ a' h', appF bytes sz id h a (some ys) = some (a', h') ∧ AccAt base h' a' (xs ++ ys) ∧ (∀ t, tokOf a' = some t → t = id ∨ tokOf a = some t) ∧ (∀ b, b ≠ id → tokOf a ≠ some b → h'.get b = h.get b) ∧ h.next ≤ h'.next ∧ h'.next ≤ max h.next (id + 1) := by
  by_cases hy : ys = []
  · subst hy
    obtain ⟨t, rfl⟩ := A.vs
    refine ⟨.vs xs t, h, by simp [appF], by simpa using A, fun t' ht => .inr ht, fun _ _ _ => rfl, Nat.le_refl _, by omega⟩
  · refine ⟨_, _, acc_step A hy hh h1 h2, .inr ⟨id, rfl, hAcc_id, hb, ?_⟩, fun t ht => .inl ?_, fun b h1 h2 => hAcc_other h1 h2, ?_, ?_⟩
    · rw [hAcc_next]; simp only [AHeap.at]; omega
    · simp [tokOf] at ht; exact ht.symm
    · rw [hAcc_next]; simp only [AHeap.at]; omega
    · rw [hAcc_next]; simp only [AHeap.at]; omega

theorem irow_erase {k : Nat} : irow (A.eraseIdx k) = (irow A).take k ++ (irow A).drop (k + 1) := by
  simp [irow, List.eraseIdx_eq_take_drop_succ]

theorem zip_erase {α β : Type} : ∀ {l : List α} {m : List β} {k : Nat}, (l.eraseIdx k).zip (m.eraseIdx k) = (l.zip m).eraseIdx k
  | [], _, k => by simp
  | _ :: _, [], k => by simp
  | a :: l, b :: m, 0 => rfl
  | a :: l, b :: m, k + 1 => by simp [zip_erase (l := l) (m := m) (k := k)]

theorem drow_erase {k : Nat} : drow (A.eraseIdx k) (blks.eraseIdx k) = (drow A blks).take k ++ (drow A blks).drop (k + 1) := by
  unfold drow
  rw [zip_erase, List.eraseIdx_eq_take_drop_succ, List.map_append, List.map_take, List.map_drop]

theorem drow_set {x : Int} {l : List Int} {e : Int × List Int} : ∀ {A : Mem} {blks : List Nat} {k : Nat}, A[k]? = some e → l.length = e.2.length → drow (A.set k (x, l)) blks = drow A blks
  | [], _, _, h, _ => by simp at h
  | _ :: _, [], _, _, _ => by simp [drow]
  | a :: A, b :: blks, 0, h, hl => by
    simp at h; subst h
    simp [drow, hl]
  | a :: A, b :: blks, k + 1, h, hl => by
    have := drow_set (x := x) (l := l) (A := A) (blks := blks) (k := k) (by simpa using h) hl
    simp only [drow, List.set_cons_succ, List.zip_cons_cons, List.map_cons] at this ⊢
    rw [this]

/-- A program was unmapped, the law's lists are made anew. -/
theorem PA.del (p : PA base h bs bm bl bp N A a1 a2 blks) {k : Nat} {b1 b2 : AV} (S : SpA h' bs bm bl bp N (A.eraseIdx k)) (hn : h.next ≤ h'.next)
    (i1 : AccAt base h' b1 (irow (A.eraseIdx k))) (i2 : AccAt base h' b2 (drow (A.eraseIdx k) (blks.eraseIdx k))) (ht : ∀ t, tokOf b1 = some t → tokOf b2 ≠ some t)
    (hk : ∀ b, base ≤ b → b < h.next → h.get b ≠ some .tail → h'.get b = h.get b) : PA base h' bs bm bl bp N (A.eraseIdx k) b1 b2 (blks.eraseIdx k) where
  sp := S
  ids := i1
  dat := i2
  dd :=
  { len := by
      have := p.dd.len
      simp only [List.length_eraseIdx, this]
    get := fun j b e h1 h2 => by
      have key : ∃ j' : Nat, blks[j']? = some b ∧ A[j']? = some e := by
        rw [List.getElem?_eraseIdx] at h1 h2
        by_cases hj : j < k
        · rw [if_pos hj] at h1 h2; exact ⟨j, h1, h2⟩
        · rw [if_neg hj] at h1 h2; exact ⟨j + 1, h1, h2⟩
      obtain ⟨j', g1, g2⟩ := key
      obtain ⟨q1, q2⟩ := p.dd.get j' b e g1 g2
      exact ⟨by rw [hk b (p.bk b (List.mem_of_getElem? g1)) q2 (by rw [q1]; simp)]; exact q1, by omega⟩
    nodup := p.dd.nodup.sublist (List.eraseIdx_sublist ..)
    small := fun e he => p.dd.small e (List.mem_of_mem_eraseIdx he) }
  tok := ht
  bas := p.bas
  bk := fun b hb => p.bk b (List.mem_of_mem_eraseIdx hb)

/-- Bytes were written. -/
theorem PA.write (p : PA base h bs bm bl bp N A a1 a2 blks) {k nb : Nat} {e : Int × List Int} {l : List Int} (hA : A[k]? = some e) (hb : blks[k]? = some nb) (hl : l.length = e.2.length) (S : SpA h' bs bm bl bp N (A.set k (e.1, l))) (hn : h.next ≤ h'.next)
    (e1 : h'.get nb = some (.cells (l.map (.int .u8)))) (hk : ∀ b, base ≤ b → b < h.next → b ≠ nb → h'.get b = h.get b) : PA base h' bs bm bl bp N (A.set k (e.1, l)) a1 a2 blks := by
  have hi : irow (A.set k (e.1, l)) = irow A := by
    apply List.ext_getElem?
    intro j
    simp only [irow, List.getElem?_map, List.getElem?_set]
    by_cases hj : k = j
    · subst hj
      obtain ⟨hlt, hv⟩ := List.getElem?_eq_some_iff.1 hA
      simp [hlt, hv]
    · simp [hj]
  have hd : drow (A.set k (e.1, l)) blks = drow A blks := drow_set hA hl
  obtain ⟨g1, g2⟩ := p.dd.get k nb e hb hA
  have hnt : ∀ t, h.get t = some .tail → t ≠ nb := fun t ht hh => by rw [hh, g1] at ht; cases ht
  have acc : ∀ {a xs}, AccAt base h a xs → AccAt base h' a xs := fun {a xs} ha => by
    rcases ha with ⟨rfl, rfl⟩ | ⟨t, rfl, h1, h2, h3⟩
    · exact .inl ⟨rfl, rfl⟩
    · exact .inr ⟨t, rfl, by rw [hk t h2 h3 (hnt t h1)]; exact h1, h2, by omega⟩
  exact
  { sp := S
    ids := by rw [hi]; exact acc p.ids
    dat := by rw [hd]; exact acc p.dat
    dd :=
    { len := by simp [p.dd.len]
      get := fun j b x h1 h2 => by
        by_cases hj : j = k
        · subst hj
          rw [hb] at h1; cases h1
          have := (List.getElem?_eq_some_iff.1 hA).1
          rw [List.getElem?_set_self this] at h2; cases h2
          exact ⟨e1, by omega⟩
        · rw [List.getElem?_set_ne (Ne.symm hj)] at h2
          obtain ⟨q1, q2⟩ := p.dd.get j b x h1 h2
          have hbn : b ≠ nb := fun hh => hj (by
            have i1 := (List.getElem?_eq_some_iff.1 h1)
            have i2 := (List.getElem?_eq_some_iff.1 hb)
            obtain ⟨l1, v1⟩ := i1
            obtain ⟨l2, v2⟩ := i2
            exact (List.getElem_inj p.dd.nodup).1 (by rw [v1, v2, hh]))
          exact ⟨by rw [hk b (p.bk b (List.mem_of_getElem? h1)) q2 hbn]; exact q1, by omega⟩
      nodup := p.dd.nodup
      small := fun x hx => by
        rcases List.mem_or_eq_of_mem_set hx with hx | hx
        · exact p.dd.small x hx
        · subst hx
          simp only [hl]
          exact p.dd.small e (List.mem_of_getElem? hA) }
    tok := p.tok
    bas := p.bas
    bk := p.bk }

end Go.Proofs.Ytchomcffeiheeaa.Am

namespace Go.Proofs.Ytchomcffeiheeaa.Am
open Go
variable {P : Program}

theorem nil_of (ok : TblOK P tb) {h : AHeap} {f : Int} : ACalls P 40 [.nil, .int .u64 f] h (.tup [.agg [.vs [] .full, .int .i64 0], .int .i64 1]) h := by
  refine ok.keeps (rf := c40) rfl (Nat.le_of_ble_eq_true rfl) rfl ?_
  simp (decide := true) only [st, c40, c40_0, c40_1, c40_2, c40_3, c40_4, c40_5, c40_6]
  exact fun y hy => by rw [if_neg (show ¬ y = h.next by omega), if_neg (show ¬ y = h.next by omega)]
theorem nil_len (ok : TblOK P tb) {h : AHeap} {f : Int} : ACalls P 34 [.nil, .int .u64 f] h (.tup [.int .i64 0, .int .i64 1]) h := by
  refine ok.keeps (rf := c34) rfl (Nat.le_of_ble_eq_true rfl) rfl ?_
  simp (decide := true) only [st, c34, c34_0, c34_1, c34_2]
  refine execC_by (nil_of ok) ?_
  simp (decide := true) only [st]
  exact fun y hy => by simp only [AHeap.at, AHeap.set, if_neg (show ¬ y = h.next by omega)]
theorem nil_map (ok : TblOK P tb) {h : AHeap} {f n : Int} : ACalls P 28 [.nil, .int .u64 f, .int .i64 n] h (.int .i64 1) h := by
  refine ok.keeps (rf := c28) rfl (Nat.le_of_ble_eq_true rfl) rfl ?_
  simp (decide := true) only [st, c28, c28_0, c28_1, c28_2, c28_3, c28_4, c28_5, c28_6, c28_7, c28_8, c28_9, c28_10, c28_11, c28_12, c28_13, c28_14, c28_15, c28_16, c28_17, c28_18]
theorem nil_unmap (ok : TblOK P tb) {h : AHeap} {f : Int} : ACalls P 31 [.nil, .int .u64 f] h (.int .i64 1) h := by
  refine ok.keeps (rf := c31) rfl (Nat.le_of_ble_eq_true rfl) rfl ?_
  simp (decide := true) only [st, c31, c31_0, c31_1, c31_2, c31_3, c31_4, c31_5, c31_6, c31_7, c31_8, c31_9, c31_10]
  refine execC_by (nil_of ok) ?_
  simp (decide := true) only [st]
  exact fun y hy => by simp only [AHeap.at, AHeap.set, if_neg (show ¬ y = h.next by omega)]
theorem nil_pfree (ok : TblOK P tb) {h : AHeap} : ACalls P 35 [.nil] h (.int .i64 0) h := by
  refine ok.keeps (rf := c35) rfl (Nat.le_of_ble_eq_true rfl) rfl ?_
  simp (decide := true) only [st, c35, c35_0, c35_1, c35_2, c35_3]

theorem nil_within (ok : TblOK P tb) {h : AHeap} {id off n : Int} : ACalls P 39 [.nil, .int .u64 id, .int .i64 off, .int .i64 n] h (.tup [tbV none, .int .i64 1]) h := by
  have hne : ∀ b, b < h.next → ¬ b = h.next := fun b hb => by omega
  have hne1 : ∀ b, b < h.next → ¬ b = h.next + 1 := fun b hb => by omega
  have e1 : ¬ h.next = h.next + 1 := by omega
  have e2 : ¬ h.next + 1 = h.next := by omega
  refine ok.keepsS (rf := c39) rfl (Nat.le_of_ble_eq_true rfl) (by simp only [AV.allR, AV.allL, tbV_allR, Bool.and_self]) ?_
  simp (decide := true) only [st, c39, c39_0, c39_1, c39_2, c39_3, c39_4, c39_5, c39_6]
  refine execC_by (nil_of ok) ?_
  simp (decide := true) only [st, e1, e2, Tb0, keepS_ret, AV.strip, AV.stripL, AV.stripLL, tbV]
  intro b hb
  simp (decide := true) only [st, hne b hb, hne1 b hb]

theorem nil_read (ok : TblOK P tb) {h : AHeap} {id off n : Int} : ACalls P 30 [.nil, .int .u64 id, .int .i64 off, .int .i64 n] h (.tup [.vs [] .full, .int .i64 1]) h := by
  have hne : ∀ b, b < h.next → ¬ b = h.next := fun b hb => by omega
  refine ok.keeps (rf := c30) rfl (Nat.le_of_ble_eq_true rfl) rfl ?_
  simp (decide := true) only [st, c30, c30_0]
  refine wp_gotoS 0 rfl rfl (fun _ _ _ => False) (fun l' ρ h hk => hk) ?_ (fun _ _ _ hf => hf.elim)
  simp (decide := true) only [st, c30, c30_0, c30_1, c30_2, c30_3, c30_4, c30_5, c30_6, c30_7, c30_8, c30_9, c30_10, seqs]
  refine execC_by (nil_within ok) ?_
  simp (decide := true) only [st, tbV, Tb0]
  intro b hb
  simp (decide := true) only [st, hne b hb]

theorem nil_write (ok : TblOK P tb) {h : AHeap} {id off : Int} {xs : List (List AV)} {tl : Tail} : ACalls P 29 [.nil, .int .u64 id, .int .i64 off, .vs xs tl] h (.int .i64 1) h := by
  have hne : ∀ b, b < h.next → ¬ b = h.next := fun b hb => by omega
  refine ok.keeps (rf := c29) rfl (Nat.le_of_ble_eq_true rfl) rfl ?_
  simp (decide := true) only [st, c29, c29_0]
  refine wp_gotoS 0 rfl rfl (fun _ _ _ => False) (fun l' ρ h hk => hk) ?_ (fun _ _ _ hf => hf.elim)
  simp (decide := true) only [st, c29, c29_0, c29_1, c29_2, c29_3, c29_4, c29_5, c29_6, c29_7, c29_8, c29_9, seqs]
  refine execC_by (nil_within ok) ?_
  simp (decide := true) only [st, tbV, Tb0]
  intro b hb
  simp (decide := true) only [st, hne b hb]

end Go.Proofs.Ytchomcffeiheeaa.Am

namespace Go.Proofs.Ytchomcffeiheeaa.Am
open Go
variable {P : Program}

theorem execD0_mono {n base : Nat} {K K' : Env → AHeap → Prop} (hk : ∀ ρ h, K ρ h → K' ρ h) : ∀ {os : List RO} {i : Nat} {ρ : Env} {h : AHeap}, execD0 P n base os i ρ h K → execD0 P n base os i ρ h K'
  | [], _, _, _, he => hk _ _ he
  | _ :: _, _, _, _, ⟨r, h', hs, hf, he⟩ => ⟨r, h', hs, hf, execD0_mono hk he⟩

theorem execD_phase {ros : List RO} {un : List (List Nat)} {base : Nat} {K : Env → AHeap → Prop} {ys : List RO} : ∀ (xs : List RO) (i : Nat) (ρ : Env) (h : AHeap) (done : List (Env × AHeap × Option AV)),
    (∀ j, i ≤ j → j < i + xs.length → un.getD j [] = []) →
    execD0 P ros.length base xs i ρ h (fun ρ' h' => ∀ l : List (Env × AHeap × Option AV), l.length = xs.length → (∀ x l', l = x :: l' → x.2.1 = h) → execD P ros un base ys (i + xs.length) ρ' h' (done ++ l) K) →
    execD P ros un base (xs ++ ys) i ρ h done K
  | [], i, ρ, h, done, hu, he => by
    have := he [] rfl (fun x l' hx => by cases hx)
    simpa using this
  | o :: os, i, ρ, h, done, hu, ⟨r, h', hs, hf, he⟩ => by
    refine ⟨r, h', hs, fun k hk => ?_, hf, ?_⟩
    · rw [hu i (Nat.le_refl _) (by simp)] at hk
      cases hk
    · refine execD_phase os (i + 1) _ h' _ (fun j h1 h2 => hu j (by omega) (by simp only [List.length_cons]; omega)) (execD0_mono (fun ρ' h'' q l hl hx => ?_) he)
      have := q ((ρ, h, r) :: l) (by simp [hl]) (fun x l' hx => by cases hx; rfl)
      rw [show i + (o :: os).length = i + 1 + os.length by simp only [List.length_cons]; omega] at this
      simpa using this

/-- One reading stands without its place beside one step. -/
theorem WP_regDs {ros : List RO} {un : List (List Nat)} {K : AExit → Env → AHeap → Prop} {ρ : Env} {h : AHeap} (ps bs cs : List RO) (o : RO) (n : Nat) (q : POp) (hn : ros.length = n) (hr : ros = ps ++ (bs ++ ([o] ++ (cs ++ [])))) (ho : o.op = .p q) (hb : bs ≠ [])
    (hu : un = List.replicate (ps.length + bs.length) [] ++ [ps.length] :: List.replicate cs.length [])
    (he : execD0 P n h.next ps 0 ρ (h.clean n) (fun ρ1 h1 => execD0 P n h.next bs ps.length ρ1 h1 (fun ρ2 h2 => apure q ρ2 h1 = apure q ρ2 h2 ∧ execD0 P n h.next (o :: cs) (ps.length + bs.length) ρ2 h2 (K .normal)))) : WP P (.regD ros un) K ρ h := by
  subst hn
  have key : execD P ros un h.next ros 0 ρ (h.clean ros.length) [] (K .normal) := by
    have hul : ∀ j, j < ps.length + bs.length → un.getD j [] = [] := fun j hj => by
      rw [hu, List.getD_eq_getElem?_getD, List.getElem?_append_left (by simpa using hj)]
      simp [List.getElem?_replicate, hj]
    have hum : un.getD (ps.length + bs.length) [] = [ps.length] := by
      rw [hu, List.getD_eq_getElem?_getD, List.getElem?_append_right (by simp)]
      simp
    have hur : ∀ j, ps.length + bs.length < j → un.getD j [] = [] := fun j hj => by
      rw [hu, List.getD_eq_getElem?_getD, List.getElem?_append_right (by simp; omega)]
      obtain ⟨d, hd⟩ : ∃ d, j - (ps.length + bs.length) = d + 1 := ⟨j - (ps.length + bs.length) - 1, by omega⟩
      simp only [List.length_replicate, hd, List.getElem?_cons_succ, List.getElem?_replicate]
      split <;> rfl
    conv => arg 5; rw [hr]
    refine execD_phase ps 0 _ _ _ (fun j h1 h2 => hul j (by omega)) (execD0_mono (fun ρ1 h1 e1 l1 hl1 _ => ?_) he)
    rw [Nat.zero_add]
    refine execD_phase bs ps.length _ _ _ (fun j h1 h2 => hul j (by omega)) (execD0_mono (fun ρ2 h2 e2 l2 hl2 hx2 => ?_) e1)
    obtain ⟨eq, r, h', hs, hf, e3⟩ := e2
    rw [List.nil_append]
    refine ⟨r, h', hs, fun k hk ok d hok hd => ?_, hf, ?_⟩
    · rw [hum] at hk
      simp at hk
      subst hk
      rw [List.getElem?_append_right (by omega)] at hd
      have h2d : d.2.1 = h1 := by
        cases l2 with
        | nil => simp [hl1] at hd
        | cons x l' =>
          simp [hl1] at hd
          subst hd
          exact hx2 _ _ rfl
      unfold chk
      rw [if_neg (by rw [ho]; simp [ROp.eff])]
      rw [ho]
      cases r with
      | none => trivial
      | some v =>
        simp only
        rw [h2d, eq]
        unfold AStep at hs
        rw [ho] at hs
        split at hs
        · obtain ⟨v1, hv, hp⟩ := hs
          cases hv
          exact hp.1
        · cases hs.1
        · exact hs.elim
    · refine execD_phase cs _ _ _ _ (fun j h1 h2 => hur j (by omega)) (execD0_mono (fun ρ3 h3 e4 l3 hl3 _ => e4) e3)
  obtain ⟨ρ1, h1, he, hk⟩ := execD_post key
  exact ⟨_, _, _, .regC he, hk⟩
end Go.Proofs.Ytchomcffeiheeaa.Am
