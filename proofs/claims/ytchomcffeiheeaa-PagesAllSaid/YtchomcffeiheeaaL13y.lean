/- The law of layer 13 on every row of operations, at the abstract machine: its walk. Conditions: none. -/
import Derived.Test.YtchomcffeiheeaaL13x
set_option maxRecDepth 100000
set_option linter.unusedSimpArgs false
set_option linter.unusedVariables false
set_option linter.unnecessarySimpa false
namespace Go.Proofs.Ytchomcffeiheeaa.Am
open Go
variable {P : Program} {h h' : AHeap} {base bs bm bl bp N : Nat} {A A' : Mem} {a1 a2 : AV} {blks : List Nat}

def opRow13 (kd off n id : Int) (bb : List Int) : List AV := [.int .i64 kd, .int .i64 off, .int .i64 n, .int .u64 id, .vs (brow bb) .unk]

/-- Where the name stands. -/
def atI (A : Mem) (id : Int) : Option Nat := A.findIdx? fun e => id == e.1
def atV : Option Nat → Int
  | some k => k
  | none => -1

theorem atI_step {id : Int} (hn : (A.map (·.1)).Nodup) {k : Nat} {e : Int × List Int} (he : A[k]? = some e) :
    atV (atI (A.take (k + 1)) id) = if e.1 = id then (k : Int) else atV (atI (A.take k) id) := by
  obtain ⟨hlt, hv⟩ := List.getElem?_eq_some_iff.1 he
  have ht : A.take (k + 1) = A.take k ++ [e] := by rw [List.take_add_one, he]; rfl
  unfold atI
  rw [ht, List.findIdx?_append]
  by_cases h1 : e.1 = id
  · rw [if_pos h1]
    have : (A.take k).findIdx? (fun x => id == x.1) = none := by
      rw [List.findIdx?_eq_none_iff]
      intro x hx
      obtain ⟨j, hj⟩ := List.mem_iff_getElem?.1 hx
      have hjk : j < k := by
        have := (List.getElem?_eq_some_iff.1 hj).1
        simp at this; omega
      rw [List.getElem?_take_of_lt hjk] at hj
      obtain ⟨hjl, hjv⟩ := List.getElem?_eq_some_iff.1 hj
      have hne : (A.map (·.1))[j]'(by simp; omega) ≠ (A.map (·.1))[k]'(by simp; omega) := fun hh => by
        have := (List.getElem_inj hn).1 hh
        omega
      simp [hjv, hv] at hne
      simp
      intro hh
      exact hne (by rw [← hh, h1])
    rw [this]
    simp [atV, h1, Nat.min_eq_left (show k ≤ A.length by omega)]
  · rw [if_neg h1]
    have : ¬ id = e.1 := fun hh => h1 hh.symm
    simp [this]

theorem atI_some (hn : (A.map (·.1)).Nodup) {id : Int} {k : Nat} (h : atI A id = some k) : ∃ e, A[k]? = some e ∧ e.1 = id ∧ aget A id = some e.2 ∧ adel A id = A.eraseIdx k ∧ ∀ off vs, absWr A id off vs = A.set k (e.1, e.2.take off ++ vs ++ e.2.drop (off + vs.length)) := by
  obtain ⟨hlt, h1, h2⟩ := List.findIdx?_eq_some_iff_getElem.1 h
  have he : A[k]? = some A[k] := List.getElem?_eq_getElem hlt
  have hid : A[k].1 = id := by simp at h1; exact h1.symm
  refine ⟨A[k], he, hid, ?_, ?_, ?_⟩
  · have := aget_key hn he
    rwa [hid] at this
  · unfold adel
    rw [List.eraseP_eq_eraseIdx, show A.findIdx? (fun e => id == e.1) = some k from h]
  · intro off vs
    unfold absWr
    apply List.ext_getElem?
    intro j
    rw [List.getElem?_map, List.getElem?_set]
    by_cases hj : k = j
    · subst hj
      rw [if_pos rfl, if_pos hlt, he]
      simp [hid]
    · rw [if_neg hj]
      cases hx : A[j]? with
      | none => rfl
      | some x =>
        obtain ⟨hjl, hjv⟩ := List.getElem?_eq_some_iff.1 hx
        have hne : (A.map (·.1))[j]'(by simp; omega) ≠ (A.map (·.1))[k]'(by simp; omega) := fun hh => by
          have := (List.getElem_inj hn).1 hh
          omega
        simp [hjv, hid] at hne
        simp [show ¬ id = x.1 from fun hh => hne hh.symm]

theorem atI_none {id : Int} (h : atI A id = none) : aget A id = none := by
  unfold atI at h
  rw [List.findIdx?_eq_none_iff] at h
  simp only [aget, Option.map_eq_none_iff, List.find?_eq_none]
  intro x hx
  have := h x hx
  simpa using this

theorem rowsOf_one {cs : List AV} : ∀ {n off : Nat}, off + n ≤ cs.length → rowsOf cs off 1 n = ((cs.drop off).take n).map fun x => [x]
  | 0, off, h => by simp [rowsOf]
  | n + 1, off, h => by
    have ih := rowsOf_one (cs := cs) (n := n) (off := off + 1) (by omega)
    simp only [rowsOf]
    rw [ih, List.drop_eq_getElem_cons (show off < cs.length by omega)]
    simp only [List.take_succ_cons, List.take_zero, List.map_cons]

theorem part_bytes {H : AHeap} {b o c : Nat} {d : List Int} (hc : cellsOf H b = some (d.map (.int .u8))) (ho : o + c ≤ d.length) :
    ∃ v, (∀ (ρ : Env) (x y : Opd), x.ev ρ = .int .i64 o → y.ev ρ = .int .i64 ((o + c : Nat) : Int) → aslice ρ 1 (.rs b 0 d.length 1) (some x) (some y) none = some v) ∧ rowsA 1 H v = some (brow ((d.drop o).take c)) := by
  refine ⟨if o = o + c then .vs [] .unk else .rs b (0 + o * 1) (o + c - o) 1, fun ρ x y e1 e2 => ?_, ?_⟩
  · simp only [aslice, boundA_some, e1, e2, bndV]
    rw [if_pos (by omega), if_pos (by omega)]
    simp only [Int.toNat_natCast, Option.bind_eq_bind, Option.bind_some]
    rw [if_pos ⟨by decide, by omega, ho, trivial⟩]
    by_cases hz : o = o + c
    · rw [if_pos hz, if_pos hz]
    · rw [if_neg hz, if_neg hz]
  · by_cases hz : c = 0
    · subst hz
      simp [rowsA, headOk, brow]
    · rw [if_neg (by omega)]
      simp only [rowsA, hc, if_true]
      rw [if_pos (by simp; omega), rowsOf_one (by simp; omega)]
      simp [brow, Function.comp_def]

theorem brow_flat : ∀ {l : List Int}, (brow l).flatten = l.map (.int .u8)
  | [] => rfl
  | a :: l => by
    have := brow_flat (l := l)
    simp only [brow, List.map_cons, List.flatten_cons] at this ⊢
    rw [this]; rfl

theorem SpA.eqv (S : SpA h bs bm bl bp N A) (hn : h.next ≤ h'.next) (e1 : h'.get bs = h.get bs) (e2 : h'.get bm = h.get bm) (e3 : h'.get bl = h.get bl) (e4 : h'.get bp = h.get bp) : SpA h' bs bm bl bp N A := by
  obtain ⟨fs, ts, S, R⟩ := S
  exact ⟨fs, ts, { S with top := by rw [e1]; exact S.top
                          mem := { S.mem with top := by rw [e2]; exact S.mem.top, row := by rw [e3]; exact S.mem.row }
                          map := by rw [e4]; exact S.map
                          l1 := Nat.lt_of_lt_of_le S.l1 hn
                          l2 := Nat.lt_of_lt_of_le S.l2 hn
                          l3 := Nat.lt_of_lt_of_le S.l3 hn
                          l4 := Nat.lt_of_lt_of_le S.l4 hn }, R⟩

theorem aused_set {x : Int} {l : List Int} {e : Int × List Int} : ∀ {A : Mem} {k : Nat}, A[k]? = some e → l.length = e.2.length → aused (A.set k (x, l)) = aused A
  | [], _, h, _ => by simp at h
  | a :: A, 0, h, hl => by
    simp at h; subst h
    simp [aused, hl]
  | a :: A, k + 1, h, hl => by
    have := aused_set (x := x) (l := l) (A := A) (k := k) (by simpa using h) hl
    simp only [aused, List.set_cons_succ, List.map_cons, List.sum_cons] at this ⊢
    omega

theorem copy_bytes {H : AHeap} {b o : Nat} {d bb : List Int} (hc : H.get b = some (.cells (d.map (.int .u8)))) (ho : o + bb.length ≤ d.length) :
    ∃ v r H', (∀ (ρ : Env) (x : Opd), x.ev ρ = .int .i64 o → aslice ρ 1 (.rs b 0 d.length 1) (some x) none none = some v) ∧ (∀ (ρ : Env) (id : Nat) (x y : Opd), x.ev ρ = v → y.ev ρ = .vs (brow bb) .unk → aeff (.copy 1 x y) ρ id H = some (r, H')) ∧
      H'.get b = some (.cells ((d.take o ++ bb ++ d.drop (o + bb.length)).map (.int .u8))) ∧ (∀ y, y ≠ b → H'.get y = H.get y) ∧ H'.next = H.next := by
  have hsl : ∀ (ρ : Env) (x : Opd), x.ev ρ = .int .i64 o → aslice ρ 1 (.rs b 0 d.length 1) (some x) none none = some (if o = d.length then .vs [] .unk else .rs b (0 + o * 1) (d.length - o) 1) := fun ρ x e1 => by
    simp only [aslice, boundA_some, e1, bndV]
    rw [if_pos (by omega)]
    simp only [Int.toNat_natCast, boundA, Option.bind_eq_bind, Option.bind_some]
    rw [if_pos ⟨by decide, by omega, by omega, trivial⟩]
    by_cases hz : o = d.length
    · rw [if_pos hz, if_pos hz]
    · rw [if_neg hz, if_neg hz]
  have hrw : ∀ h', rowsA 1 h' (.vs (brow bb) .unk) = some (brow bb) := fun h' => by simp only [rowsA, brow_head, if_true]
  by_cases hz : o = d.length
  · have hbb : bb = [] := List.length_eq_zero_iff.1 (by omega)
    subst hbb
    refine ⟨_, .int .i64 0, H, hsl, fun ρ id x y e1 e2 => ?_, ?_, fun _ _ => rfl, rfl⟩
    · rw [if_pos hz] at e1
      simp only [aeff, e1, e2, hrw]
    · rw [hc]; simp [hz]
  · refine ⟨_, .int .i64 ((min (brow bb).length (d.length - o) : Nat) : Int), H.set b (some (.cells (setAt (d.map (.int .u8)) (0 + o * 1) ((brow bb).take (min (brow bb).length (d.length - o))).flatten))), hsl, fun ρ id x y e1 e2 => ?_, ?_, fun y hy => by simp only [AHeap.set, if_neg hy], rfl⟩
    · rw [if_neg hz] at e1
      simp only [aeff, e1, e2, hrw, cellsOf_of hc]
      rw [if_pos ⟨trivial, by simp; omega⟩]
    · simp only [AHeap.set, if_true]
      have hfl : ((brow bb).take (min (brow bb).length (d.length - o))).flatten = bb.map (.int .u8) := by
        rw [brow_len, Nat.min_eq_left (by omega), List.take_of_length_le (by rw [brow_len]; exact Nat.le_refl _)]
        exact brow_flat
      rw [hfl]
      simp [setAt]

def r31a : List RO := [m 157 7, fa 158 3 10, ld 159 158, p 160 (.bslice 1 [(.int .u64 0)] [(0, (t 159))])]
def r31b : List RO := [e 161 (.append 8 1 (t 157) (t 160)), m 162 8, fa 163 2 10]
def r31c : List RO := [a 165 (.mksliceR [(.int .u8 0)] 1 (t 164) (t 164)), p 166 (.bslice 1 [(.vs [] .full)] [(0, (t 165))]), e 167 (.append 24 1 (t 162) (t 166)), m 168 6, m 169 14, b 170 .sub (t 168) (t 169), m 7 161, m 8 167, m 6 170]

theorem aused_del : ∀ {A : Mem} {k : Nat} {e : Int × List Int}, A[k]? = some e → aused (A.eraseIdx k) + aneed e.2.length = aused A
  | [], _, _, h => by simp at h
  | a :: A, 0, e, h => by
    simp at h; subst h
    simp [aused]; omega
  | a :: A, k + 1, e, h => by
    have := aused_del (A := A) (k := k) (e := e) (by simpa using h)
    simp only [aused, List.eraseIdx_cons_succ, List.map_cons, List.sum_cons] at this ⊢
    omega

theorem slc_to {ρ : Env} {xs : List (List AV)} {t : Tail} {x : Opd} {k : Nat} (hx : x.ev ρ = .int .i64 k) (hk : k ≤ xs.length) (hh : headOk 1 xs = true) : aslice ρ 1 (.vs xs t) none (some x) none = some (.vs (xs.take k) (sliceTail t xs.length 0 k)) := by
  simp only [aslice, boundA_some, hx, bndV]
  rw [if_pos (by omega)]
  simp only [Int.toNat_natCast, boundA, Option.bind_eq_bind, Option.bind_some]
  rw [if_pos ⟨by omega, hk, hh⟩]
  simp
theorem slc_from {ρ : Env} {xs : List (List AV)} {t : Tail} {x : Opd} {k : Nat} (hx : x.ev ρ = .int .i64 k) (hk : k ≤ xs.length) (hh : headOk 1 xs = true) : aslice ρ 1 (.vs xs t) (some x) none none = some (.vs (xs.drop k) (sliceTail t xs.length k xs.length)) := by
  simp only [aslice, boundA_some, hx, bndV]
  rw [if_pos (by omega)]
  simp only [Int.toNat_natCast, boundA, Option.bind_eq_bind, Option.bind_some]
  rw [if_pos ⟨by omega, by omega, hh⟩]
  simp only [Option.some.injEq, AV.vs.injEq, and_true]
  rw [List.take_of_length_le (by simp)]

theorem head_drop {xs : List (List AV)} {k : Nat} (h : ∀ r ∈ xs, r.length = 1) : headOk 1 (xs.drop k) = true := by
  cases hd : xs.drop k with
  | nil => rfl
  | cons r l =>
    have : r ∈ xs := List.mem_of_mem_drop (i := k) (by rw [hd]; exact List.mem_cons_self)
    simp [headOk, h r this]
theorem irow_one : ∀ r ∈ irow A, r.length = 1 := fun r hr => by
  obtain ⟨e, -, rfl⟩ := List.mem_map.1 hr; rfl
theorem drow_one : ∀ r ∈ drow A blks, r.length = 1 := fun r hr => by
  obtain ⟨e, -, rfl⟩ := List.mem_map.1 hr; rfl

theorem WP_cut {c : RCode} {K : Env → AHeap → Prop} {L : AExit → Env → AHeap → Prop} {ρ : Env} (Q : Env → Prop) (h1 : WP P c (thenK (fun ρ' h' => Q ρ' ∧ h' = h) (fun _ _ _ => False)) ρ h) (h2 : ∀ ρ', Q ρ' → K ρ' h) : WP P c (thenK K L) ρ h := by
  obtain ⟨e, ρ', h', hb, hk⟩ := h1
  refine ⟨e, ρ', h', hb, ?_⟩
  cases e with
  | normal => obtain ⟨q, rfl⟩ := hk; exact h2 _ q
  | _ => exact hk.elim

theorem WPc_cut {c d : RCode} {K : Env → AHeap → Prop} {L : AExit → Env → AHeap → Prop} {ρ : Env} {v : AV} (Q : Env → Prop) (h1 : WPc P c d (thenK (fun ρ' h' => Q ρ' ∧ h' = h) (fun _ _ _ => False)) ρ h v) (h2 : ∀ ρ', Q ρ' → K ρ' h) : WPc P c d (thenK K L) ρ h v := by
  cases v with
  | bool b =>
    cases b
    · rw [WPc_f] at h1 ⊢; exact WP_cut Q h1 h2
    · rw [WPc_t] at h1 ⊢; exact WP_cut Q h1 h2
  | _ => exact h1.elim

set_option maxHeartbeats 1000000 in
theorem pagesAll_wp (ok : TblOK P tb) {n : Int} {xs : List (List AV)} {t : Tail} (hx : ∀ row ∈ xs, ∃ kd off n id bb, row = opRow13 kd off n id bb) :
    WP P c11.code (lawK c11.results) (args0 [.int .i64 n, .vs xs t]) AHeap.empty := by
  simp (decide := true) only [st, c11, c11_0, c11_1, c11_2, c11_3, c11_4, c11_5, c11_6, c11_7, c11_8, c11_9, c11_10, c11_11, c11_12, c11_13, c11_14, c11_15, c11_16, c11_18, c11_19, c11_20, c11_23, c11_25, c11_26, c11_27, c11_29, c11_30, c11_32, c11_33, c11_35, c11_36, c11_37, c11_40, c11_43, c11_44, c11_45, c11_50, c11_51, c11_52, c11_53, c11_54, c11_55, c11_56]
  refine execC_by (begun13 ok _) ?_
  simp (decide := true) only [st]
  by_cases hbig : 50 < (xs.length : Int)
  · simp (decide := true) only [st, hbig, lawK_ret]
  obtain ⟨bs, bm, bl, bp, h0, hnew, S0, -⟩ := A_new ok AHeap.empty n
  have hk5 : frNew n ≤ 512 := by unfold frNew; omega
  have hkk : min (max n 0) 512 = ((frNew n : Nat) : Int) := by unfold frNew; omega
  generalize frNew n = N at *
  simp (decide := true) only [st, hbig]
  refine execC_by hnew ?_
  simp (decide := true) only [st, hkk]
  obtain ⟨base, hbase⟩ : ∃ base, base = h0.next := ⟨_, rfl⟩
  have p0 : PA base h0 bs bm bl bp N [] (.vs [] .full) (.vs [] .full) [] :=
  { sp := S0, ids := .inl ⟨rfl, rfl⟩, dat := .inl ⟨rfl, rfl⟩
    dd := ⟨rfl, fun k b e h1 h2 => by simp at h1, List.nodup_nil, fun e he => by cases he⟩
    tok := fun t h => by cases h
    bas := by subst hbase; exact S0.lt
    bk := fun b hb => by cases hb }
  let I : Nat → Env → AHeap → Prop := fun m ρ h' => ∃ (i : Nat) (A : Mem) (a1 a2 : AV) (blks : List Nat), i + m = xs.length ∧ ρ 1 = .vs xs t ∧ ρ 5 = .ptr bs 0 ∧ ρ 6 = .int .i64 ((N - aused A : Nat) : Int) ∧ ρ 7 = a1 ∧ ρ 8 = a2 ∧ ρ 9 = .int .i64 i ∧ A.length ≤ i ∧ aused A ≤ N ∧ base ≤ h'.next ∧ PA base h' bs bm bl bp N A a1 a2 blks
  have hz0 : N - aused [] = N := by simp [aused]
  refine wp_loop_n I ?_ xs.length ⟨0, [], _, _, _, by omega, by simp (decide := true) only [st], by simp (decide := true) only [st], by simp (decide := true) only [st, hz0], by simp (decide := true) only [st], by simp (decide := true) only [st], by simp (decide := true) only [st], by simp, by simp [aused], by omega, p0⟩
  clear hnew S0 p0
  rintro m ρ h1 ⟨i, A, a1, a2, blks, him, r1, r5, r6, r7, r8, r9, hAi, hus, hbn, p⟩
  by_cases hi : (i : Int) < xs.length
  · have hi' : i < xs.length := by omega
    obtain ⟨kd, off, n', id, bb, hrow⟩ := hx _ (List.getElem_mem hi')
    have hrow' : xs[i]? = some (opRow13 kd off n' id bb) := by rw [List.getElem?_eq_getElem hi', hrow]
    simp only [opRow13] at hrow'
    simp (decide := true) only [st, r1, r9, hi, hrow']
    have p2 : PA base ((h1.at h1.next (.cells [.int .i64 0, .int .i64 0, .int .i64 0, .int .u64 0, .vs [] .full])).set h1.next (some (.cells [.int .i64 kd, .int .i64 off, .int .i64 n', .int .u64 id, .vs (brow bb) .unk]))) bs bm bl bp N A a1 a2 blks :=
      p.more (by simp only [AHeap.at, AHeap.set]; omega) (fun x hx => by simp only [AHeap.at, AHeap.set, if_neg (show ¬ x = h1.next by omega)])
    have ho : ((h1.at h1.next (.cells [.int .i64 0, .int .i64 0, .int .i64 0, .int .u64 0, .vs [] .full])).set h1.next (some (.cells [.int .i64 kd, .int .i64 off, .int .i64 n', .int .u64 id, .vs (brow bb) .unk]))).get h1.next = some (.cells [.int .i64 kd, .int .i64 off, .int .i64 n', .int .u64 id, .vs (brow bb) .unk]) := by simp only [AHeap.set, if_true]
    have hon : h1.next < ((h1.at h1.next (.cells [.int .i64 0, .int .i64 0, .int .i64 0, .int .u64 0, .vs [] .full])).set h1.next (some (.cells [.int .i64 kd, .int .i64 off, .int .i64 n', .int .u64 id, .vs (brow bb) .unk]))).next := by simp only [AHeap.at, AHeap.set]; omega
    have hobl : ∀ b ∈ blks, b < h1.next := fun b hb => by
      obtain ⟨k, hk⟩ := List.mem_iff_getElem?.1 hb
      have hkl := (List.getElem?_eq_some_iff.1 hk).1
      exact (p.dd.get k b _ hk (List.getElem?_eq_getElem (by rw [← p.dd.len]; exact hkl))).2
    clear p
    generalize ((h1.at h1.next (.cells [.int .i64 0, .int .i64 0, .int .i64 0, .int .u64 0, .vs [] .full])).set h1.next (some (.cells [.int .i64 kd, .int .i64 off, .int .i64 n', .int .u64 id, .vs (brow bb) .unk]))) = h2 at *
    generalize h1.next = bo at *
    have hkeys := p2.sp.keys
    obtain ⟨t1, ha1⟩ := p2.ids.vs
    obtain ⟨t2, ha2⟩ := p2.dat.vs
    let B : Env → Prop := fun ρ => ρ 1 = .vs xs t ∧ ρ 5 = .ptr bs 0 ∧ ρ 6 = .int .i64 ((N - aused A : Nat) : Int) ∧ ρ 7 = a1 ∧ ρ 8 = a2 ∧ ρ 9 = .int .i64 i ∧ ρ 10 = .ptr bo 0
    refine WPc_by (fun h100 => ?_) (fun h100 => ?_)
    · simp (decide := true) only [st, lawK_ret]
    · simp (decide := true) only [st]
      let J : Nat → Env → AHeap → Prop := fun m' ρ' h' => ∃ k : Nat, k + m' = A.length ∧ B ρ' ∧ ρ' 11 = .int .i64 (atV (atI (A.take k) id)) ∧ ρ' 12 = .int .i64 k ∧ h2.next ≤ h'.next ∧ ∀ b, b < h2.next → h'.get b = h2.get b
      have hat0 : atV (atI ([] : Mem) id) = Int.negSucc 0 := rfl
      refine wp_loop_n J ?_ A.length ⟨0, by omega, ⟨by simp (decide := true) only [st, r1], by simp (decide := true) only [st, r5], by simp (decide := true) only [st, r6], by simp (decide := true) only [st, r7], by simp (decide := true) only [st, r8], by simp (decide := true) only [st, r9], by simp (decide := true) only [st]⟩, by simp (decide := true) only [st, hat0], by simp (decide := true) only [st], Nat.le_refl _, fun _ _ => rfl⟩
      clear r1 r5 r6 r7 r8 r9
      rintro m' ρ3 h3 ⟨k, hkm, ⟨r1, r5, r6, r7, r8, r9, r10⟩, r11, r12, hn3, hk3⟩
      have hlen := irow_len (A := A)
      by_cases hkl : k < A.length
      · obtain ⟨e, he⟩ : ∃ e, A[k]? = some e := ⟨A[k], List.getElem?_eq_getElem hkl⟩
        have hst := atI_step (id := id) hkeys he
        have hco : cellsOf (h3.clean 7) bo = some [.int .i64 kd, .int .i64 off, .int .i64 n', .int .u64 id, .vs (brow bb) .unk] := cellsOf_of (by
          simp only [AHeap.clean, if_pos (show bo < h3.next by omega)]
          rw [hk3 bo hon]; exact ho)
        simp (decide := true) only [st, r7, r12, ha1, hlen, hkl]
        refine WP_regD0n 7 rfl rfl ?_
        simp (decide := true) only [st, c11_17, r7, r10, r12, ha1, irow_get he, hco]
        refine WPc_by (fun heq => ?_) (fun heq => ?_)
        · rw [if_pos heq] at hst
          simp (decide := true) only [st, r12, wrapN1 (show k < 2 ^ 61 by omega)]
          exact ⟨m' - 1, by omega, k + 1, by omega, ⟨by simp (decide := true) only [st, r1], by simp (decide := true) only [st, r5], by simp (decide := true) only [st, r6], by simp (decide := true) only [st, r7], by simp (decide := true) only [st, r8], by simp (decide := true) only [st, r9], by simp (decide := true) only [st, r10]⟩, by simp (decide := true) only [st, hst], by simp (decide := true) only [st], by simp only [AHeap.clean]; omega, fun y hy => by simp only [AHeap.clean, if_pos (show y < h3.next by omega)]; exact hk3 y hy⟩
        · rw [if_neg heq] at hst
          simp (decide := true) only [st, r12, wrapN1 (show k < 2 ^ 61 by omega)]
          exact ⟨m' - 1, by omega, k + 1, by omega, ⟨by simp (decide := true) only [st, r1], by simp (decide := true) only [st, r5], by simp (decide := true) only [st, r6], by simp (decide := true) only [st, r7], by simp (decide := true) only [st, r8], by simp (decide := true) only [st, r9], by simp (decide := true) only [st, r10]⟩, by simp (decide := true) only [st, hst, r11], by simp (decide := true) only [st], by simp only [AHeap.clean]; omega, fun y hy => by simp only [AHeap.clean, if_pos (show y < h3.next by omega)]; exact hk3 y hy⟩
      · have hkA : k = A.length := by omega
        rw [hkA, List.take_length] at r11
        have p3 := p2.more hn3 hk3
        have ho3 : h3.get bo = _ := (hk3 bo hon).trans ho
        have hon3 : bo < h3.next := by omega
        have hbn3 : base ≤ h3.next := by omega
        have hco := cellsOf_of ho3
        simp (decide := true) only [st, r7, r10, r12, ha1, hlen, hkl, hco]
        generalize (IntKind.i64.wrap (kd.tmod 10 + 10)).tmod 10 = kx
        refine exec_cut (Q := fun ρ' => B ρ' ∧ ρ' 11 = .int .i64 (atV (atI A id)) ∧ ρ' 13 = .int .i64 kx ∧ ρ' 122 = .bool (decide (kx < 2))) ?_ ?_
        · simp (decide := true) only [st, c11_21, r11]
          exact ⟨by simp (decide := true) only [st, r1], by simp (decide := true) only [st, r5], by simp (decide := true) only [st, r6], by simp (decide := true) only [st, r7], by simp (decide := true) only [st, r8], by simp (decide := true) only [st, r9], by simp (decide := true) only [st, r10]⟩
        clear r1 r5 r6 r7 r8 r9 r10 r11 r12
        rintro ρ4 ⟨⟨r1, r5, r6, r7, r8, r9, r10⟩, r11, r13, r122⟩
        simp (decide := true) only [st, r122]
        refine WPc_by (fun hx2 => ?_) (fun hx2 => ?_)
        · have hq : IntKind.i64.wrap ((IntKind.i64.wrap (IntKind.i64.wrap (min (max n' 0) 64 + 16) - 1)).tdiv 16) = (min (max n' 0) 64 + 15) / 16 := by
            rw [wrapS (n := min (max n' 0) 64 + 16) (by omega) (by omega), wrapS (n := min (max n' 0) 64 + 16 - 1) (by omega) (by omega), Int.tdiv_eq_ediv_of_nonneg (by omega), wrapS (by omega) (by omega)]
            omega
          simp (decide := true) only [st, c11_22, r10, hco, hq]
          obtain ⟨want, hwant⟩ : ∃ w, w = (absMap N A id n').1 := ⟨_, rfl⟩
          have hatI : (0 ≤ atV (atI A id)) ↔ (aget A id).isSome := by
            cases hat : atI A id with
            | none => simp [atI_none hat, atV]
            | some k =>
              obtain ⟨e, he, hid, hag, -, -⟩ := atI_some hkeys hat
              simp [hag, atV]
          have hnd : ¬ (n' < 0 ∨ 64 < n') → (min (max n' 0) 64 + 15) / 16 = ((aneed n'.toNat : Nat) : Int) := fun hh => by
            unfold aneed; omega
          refine exec_cut (Q := fun ρ' => B ρ' ∧ ρ' 11 = .int .i64 (atV (atI A id)) ∧ ρ' 13 = .int .i64 kx ∧ ρ' 14 = .int .i64 ((min (max n' 0) 64 + 15) / 16) ∧ ρ' 15 = .int .i64 0 ∧ ρ' 143 = .bool (decide (n' < 0 ∨ 64 < n' ∨ 0 ≤ atV (atI A id)))) ?_ ?_
          · by_cases b1 : n' < 0
            · simp (decide := true) only [st, c11_24, r10, r11, r13, hco, b1, true_or]
              exact ⟨by simp (decide := true) only [st, r1], by simp (decide := true) only [st, r5], by simp (decide := true) only [st, r6], by simp (decide := true) only [st, r7], by simp (decide := true) only [st, r8], by simp (decide := true) only [st, r9], by simp (decide := true) only [st, r10]⟩
            by_cases b2 : 64 < n'
            · simp (decide := true) only [st, c11_24, r10, r11, r13, hco, b1, b2, true_or, or_true]
              exact ⟨by simp (decide := true) only [st, r1], by simp (decide := true) only [st, r5], by simp (decide := true) only [st, r6], by simp (decide := true) only [st, r7], by simp (decide := true) only [st, r8], by simp (decide := true) only [st, r9], by simp (decide := true) only [st, r10]⟩
            · simp (decide := true) only [st, c11_24, r10, r11, r13, hco, b1, b2, false_or]
              exact ⟨by simp (decide := true) only [st, r1], by simp (decide := true) only [st, r5], by simp (decide := true) only [st, r6], by simp (decide := true) only [st, r7], by simp (decide := true) only [st, r8], by simp (decide := true) only [st, r9], by simp (decide := true) only [st, r10]⟩
          clear r1 r5 r6 r7 r8 r9 r10 r11 r13 r122
          rintro ρ5 ⟨⟨r1, r5, r6, r7, r8, r9, r10⟩, r11, r13, r14, r15, r143⟩
          simp (decide := true) only [st, r143]
          refine WPc_cut (fun ρ' => B ρ' ∧ ρ' 11 = .int .i64 (atV (atI A id)) ∧ ρ' 13 = .int .i64 kx ∧ ρ' 14 = .int .i64 ((min (max n' 0) 64 + 15) / 16) ∧ ρ' 15 = .int .i64 want) ?_ ?_
          · refine WPc_by (fun b1 => ?_) (fun b1 => ?_)
            · have hw : want = 1 := by
                rw [hwant]; unfold absMap
                by_cases b2 : n' < 0 ∨ 64 < n'
                · rw [if_pos b2]
                · rw [if_neg b2, if_pos (hatI.1 (by omega))]
              simp (decide := true) only [st, hw, r11, r13, r14]
              exact ⟨by simp (decide := true) only [st, r1], by simp (decide := true) only [st, r5], by simp (decide := true) only [st, r6], by simp (decide := true) only [st, r7], by simp (decide := true) only [st, r8], by simp (decide := true) only [st, r9], by simp (decide := true) only [st, r10]⟩
            · have hnd := hnd (by omega)
              have hw : want = if N - aused A < aneed n'.toNat then 9 else 0 := by
                rw [hwant]; unfold absMap
                rw [if_neg (by omega), if_neg (by rw [← hatI]; omega)]
                split <;> rfl
              simp (decide := true) only [st, r14, r6]
              refine WPc_by (fun b2 => ?_) (fun b2 => ?_)
              · rw [if_pos (by omega)] at hw
                simp (decide := true) only [st, hw, r11, r13, r14, r15]
                exact ⟨by simp (decide := true) only [st, r1], by simp (decide := true) only [st, r5], by simp (decide := true) only [st, r6], by simp (decide := true) only [st, r7], by simp (decide := true) only [st, r8], by simp (decide := true) only [st, r9], by simp (decide := true) only [st, r10]⟩
              · rw [if_neg (by omega)] at hw
                simp (decide := true) only [st, hw, r11, r13, r14, r15]
                exact ⟨by simp (decide := true) only [st, r1], by simp (decide := true) only [st, r5], by simp (decide := true) only [st, r6], by simp (decide := true) only [st, r7], by simp (decide := true) only [st, r8], by simp (decide := true) only [st, r9], by simp (decide := true) only [st, r10]⟩
          clear r1 r5 r6 r7 r8 r9 r10 r11 r13 r14 r15 r143
          rintro ρ6 ⟨⟨r1, r5, r6, r7, r8, r9, r10⟩, r11, r13, r14, r15⟩
          obtain ⟨h4, hmp, S4, n4, k4⟩ := A_map ok p3.sp id n'
          rw [← hwant] at hmp
          simp (decide := true) only [st, c11_28, r5, r10, hco]
          refine execC_by hmp ?_
          simp (decide := true) only [st, r15]
          refine WPc_by (fun hw0 => ?_) (fun hw0 => ?_)
          · have hab : absMap N A id n' = (0, A ++ [(id, List.replicate n'.toNat 0)]) ∧ 0 ≤ n' ∧ n' ≤ 64 ∧ aget A id = none ∧ aneed n'.toNat ≤ N - aused A := by
              rw [hw0] at hwant
              unfold absMap at hwant ⊢
              by_cases b1 : n' < 0 ∨ 64 < n'
              · rw [if_pos b1] at hwant; simp at hwant
              rw [if_neg b1] at hwant ⊢
              by_cases b2 : (aget A id).isSome
              · rw [if_pos b2] at hwant; simp at hwant
              rw [if_neg b2] at hwant ⊢
              by_cases b3 : N - aused A < aneed n'.toNat
              · rw [if_pos b3] at hwant; simp at hwant
              rw [if_neg b3]
              exact ⟨rfl, by omega, by omega, by simpa using b2, by omega⟩
            obtain ⟨hab, hn0, hn64, hag, hfit⟩ := hab
            rw [hab] at S4
            rw [hnd (by omega)] at r14
            obtain ⟨c, rfl⟩ : ∃ c : Nat, n' = c := ⟨n'.toNat, by omega⟩
            have hbas := p3.bas
            have hbo : base ≤ bo := hbn
            have hcl : ∀ b, b < h4.next → (h4.clean 17).get b = h4.get b := fun b hb => by simp only [AHeap.clean, if_pos hb]
            have hk17 : ∀ b, base ≤ b → b < h3.next → (h4.clean 17).get b = h3.get b := fun b b1 b2 => by
              rw [hcl b (by omega), k4 b b2 (by omega) (by omega)]
            have hnx : (h4.clean 17).next = h4.next + 17 := rfl
            have i17 := p3.ids.to (h' := h4.clean 17) (by omega) hk17
            have hco4 : cellsOf (h4.clean 17) bo = some [.int .i64 kd, .int .i64 off, .int .i64 c, .int .u64 id, .vs (brow bb) .unk] := cellsOf_of (by rw [hk17 bo hbo hon3]; exact ho3)
            have hset1 : (List.replicate 1 [AV.int .u64 0]).set 0 [AV.int .u64 id] = [[.int .u64 id]] := rfl
            have hhd1 : headOk 1 [[AV.int .u64 id]] = true := rfl
            have hirl : (irow A).length = A.length := irow_len
            have hih : headOk 1 (irow A) = true := by cases A <;> rfl
            have hdh : headOk 1 (drow A blks) = true := by cases A <;> cases blks <;> rfl
            have hdl := drow_len p3.dd.len
            have happ1 := acc_step (bytes := 8) (sz := 1) (id := h4.next + (1 + 1 + 1 + 1)) (ys := [[.int .u64 id]]) i17 (by simp) hih (by rw [hirl]; simp; omega) (by rw [hirl]; simp; omega)
            obtain ⟨H5, hH5⟩ : ∃ H, H = hAcc (h4.clean 17) a1 (h4.next + (1 + 1 + 1 + 1)) := ⟨_, rfl⟩
            rw [← hH5] at happ1
            have tk1 : ∀ t, tokOf a1 = some t → h3.get t = some .tail ∧ base ≤ t ∧ t < h3.next := fun t ht => by
              rcases p3.ids with ⟨rfl, -⟩ | ⟨t', rfl, q1, q2, q3⟩
              · cases ht
              · cases ht; exact ⟨q1, q2, q3⟩
            have tk2 : ∀ t, tokOf a2 = some t → h3.get t = some .tail ∧ base ≤ t ∧ t < h3.next := fun t ht => by
              rcases p3.dat with ⟨rfl, -⟩ | ⟨t', rfl, q1, q2, q3⟩
              · cases ht
              · cases ht; exact ⟨q1, q2, q3⟩
            have H5o : ∀ b, b ≠ h4.next + 4 → tokOf a1 ≠ some b → H5.get b = (h4.clean 17).get b := fun b q1 q2 => by rw [hH5]; exact hAcc_other q1 q2
            have H5t : H5.get (h4.next + 4) = some .tail := by rw [hH5]; exact hAcc_id
            have H5n : H5.next = h4.next + 17 := by rw [hH5, hAcc_next]; simp only [AHeap.at, AHeap.clean]; omega
            have hbot : tokOf a1 ≠ some bo := fun hh => by
              have := (tk1 _ hh).1
              rw [ho3] at this; cases this
            have hco5 : cellsOf H5 bo = some [.int .i64 kd, .int .i64 off, .int .i64 c, .int .u64 id, .vs (brow bb) .unk] := cellsOf_of (by
              rw [H5o bo (by omega) hbot, hk17 bo hbo hon3]; exact ho3)
            have fr5 : freeD 17 h4.next (1 + 1 + 1 + 1) H5 := fun j j1 j2 => by
              rw [H5o _ (by omega) (fun hh => by have := (tk1 _ hh).2.2; omega)]
              simp only [AHeap.clean, if_neg (show ¬ h4.next + j < h4.next by omega)]
            have i5 : AccAt base H5 a2 (drow A blks) := by
              rcases p3.dat with ⟨e1, e2⟩ | ⟨t', e1, q1, q2, q3⟩
              · exact .inl ⟨e1, e2⟩
              · refine .inr ⟨t', e1, ?_, q2, by omega⟩
                rw [H5o _ (by omega) (fun hh => p3.tok _ hh (by rw [e1]; rfl)), hk17 _ q2 q3]
                exact q1
            refine WP_regDs r31a r31b r31c (ld 164 163) 17 _ rfl rfl rfl (by simp [r31b]) rfl ?_
            simp (decide := true) only [st, r31a, r31b, r31c, r7, r10, hco4, hset1, hhd1, happ1, hco5]
            refine ⟨fr5, ?_⟩
            have hmk : makeLen 1 (.int .i64 c) (.int .i64 c) = some c := by
              simp [makeLen]; omega
            obtain ⟨H6, hH6⟩ : ∃ H, H = H5.at (h4.next + (1 + 1 + 1 + 1 + (1 + 1 + 1) + 1)) (.cells (List.replicate c [AV.int .u8 0]).flatten) := ⟨_, rfl⟩
            have H6n : H6.next = h4.next + 17 := by rw [hH6]; simp only [AHeap.at, H5n]; omega
            have H6b : H6.get (h4.next + 8) = some (.cells ((List.replicate c (0 : Int)).map (.int .u8))) := by
              rw [hH6]; simp only [AHeap.at]
              simp
            have H6o : ∀ b, b ≠ h4.next + 8 → H6.get b = H5.get b := fun b hb => by rw [hH6]; simp only [AHeap.at]; rw [if_neg hb]
            have i6 : AccAt base H6 a2 (drow A blks) := by
              rcases i5 with ⟨e1, e2⟩ | ⟨t', e1, q1, q2, q3⟩
              · exact .inl ⟨e1, e2⟩
              · have := (tk2 t' (by rw [e1]; rfl)).2.2
                exact .inr ⟨t', e1, by rw [H6o _ (by omega)]; exact q1, q2, by omega⟩
            have happ2 := acc_step (bytes := 24) (sz := 1) (id := h4.next + (1 + 1 + 1 + 1 + (1 + 1 + 1) + 1 + 1 + 1)) (ys := [[.rs (h4.next + (1 + 1 + 1 + 1 + (1 + 1 + 1) + 1)) 0 c 1]]) i6 (by simp) hdh (by rw [hdl]; simp; omega) (by rw [hdl]; simp; omega)
            obtain ⟨H7, hH7⟩ : ∃ H, H = hAcc H6 a2 (h4.next + (1 + 1 + 1 + 1 + (1 + 1 + 1) + 1 + 1 + 1)) := ⟨_, rfl⟩
            rw [← hH7] at happ2
            have hset2 : (List.replicate 1 [AV.vs [] .full]).set 0 [AV.rs (h4.next + (1 + 1 + 1 + 1 + (1 + 1 + 1) + 1)) 0 c 1] = [[AV.rs (h4.next + (1 + 1 + 1 + 1 + (1 + 1 + 1) + 1)) 0 c 1]] := rfl
            have hhd2 : headOk 1 [[AV.rs (h4.next + (1 + 1 + 1 + 1 + (1 + 1 + 1) + 1)) 0 c 1]] = true := rfl
            have H7o : ∀ b, b ≠ h4.next + 10 → tokOf a2 ≠ some b → H7.get b = H6.get b := fun b q1 q2 => by rw [hH7]; exact hAcc_other q1 q2
            have H7t : H7.get (h4.next + 10) = some .tail := by rw [hH7]; exact hAcc_id
            have H7n : H7.next = h4.next + 17 := by rw [hH7, hAcc_next]; simp only [AHeap.at, H6n]; omega
            have fr7 : freeD 17 h4.next (1 + 1 + 1 + 1 + (1 + 1 + 1) + 1 + 1 + 1) H7 := fun j j1 j2 => by
              rw [H7o _ (by omega) (fun hh => by have := (tk2 _ hh).2.2; omega), H6o _ (by omega), H5o _ (by omega) (fun hh => by have := (tk1 _ hh).2.2; omega)]
              simp only [AHeap.clean, if_neg (show ¬ h4.next + j < h4.next by omega)]
            have hold : ∀ b, b < h4.next → tokOf a1 ≠ some b → tokOf a2 ≠ some b → H7.get b = h4.get b := fun b q1 q2 q3 => by
              rw [H7o b (by omega) q3, H6o b (by omega), H5o b (by omega) q2, hcl b q1]
            have hH6' := hH6.symm
            simp (decide := true) only [st, r8, r10, hco5, hmk, hset2, hhd2, hH6', happ2]
            have b1ne : ∀ b, b < base → tokOf a1 ≠ some b := fun b hb hh => by have := (tk1 _ hh).2.1; omega
            have b2ne : ∀ b, b < base → tokOf a2 ≠ some b := fun b hb hh => by have := (tk2 _ hh).2.1; omega
            rw [Int.toNat_natCast] at S4
            rw [Int.toNat_natCast] at r14 hfit
            have S7 : SpA H7 bs bm bl bp N (A ++ [(id, List.replicate c 0)]) := S4.eqv (by omega)
              (hold _ S4.lt.1 (b1ne _ (by omega)) (b2ne _ (by omega))) (hold _ S4.lt.2.1 (b1ne _ (by omega)) (b2ne _ (by omega)))
              (hold _ S4.lt.2.2.1 (b1ne _ (by omega)) (b2ne _ (by omega))) (hold _ S4.lt.2.2.2 (b1ne _ (by omega)) (b2ne _ (by omega)))
            have p7 := p3.map (e := (id, List.replicate c 0)) (t1 := h4.next + 4) (t2 := h4.next + 10) (nb := h4.next + 8) (by simp; omega) S7 (by omega) (by omega) (by omega) (by omega) (by omega) (by omega) (by omega) (by omega)
              (by rw [H7o _ (by omega) (fun hh => by have := (tk2 _ hh).2.2; omega), H6o _ (by omega)]; exact H5t) H7t
              (by rw [H7o _ (by omega) (fun hh => by have := (tk2 _ hh).2.2; omega)]; exact H6b) (by omega)
              (fun b q1 q2 q3 => by
                rw [hold b (by omega) (fun hh => q3 (tk1 _ hh).1) (fun hh => q3 (tk2 _ hh).1)]
                exact k4 b q2 (by omega) (by omega))
            simp only [List.length_replicate] at p7
            have hau : aused (A ++ [(id, List.replicate c 0)]) = aused A + aneed c := by simp [aused]
            have hwr : IntKind.wrap .i64 (((N - aused A : Nat) : Int) - (aneed c : Nat)) = ((N - aused (A ++ [(id, List.replicate c 0)]) : Nat) : Int) := by
              rw [wrapS] <;> omega
            have hsm := same_calls ok p7.sp p7.dd (by simp; omega) (t1 := .own (h4.next + 4)) (t2 := .own (h4.next + 10))
            have ei : irow (A ++ [(id, List.replicate c 0)]) = irow A ++ [[.int .u64 id]] := by simp [irow]
            have ed : drow (A ++ [(id, List.replicate c 0)]) (blks ++ [h4.next + 8]) = drow A blks ++ [[.rs (h4.next + 8) 0 c 1]] := by simp [drow, List.zip_append p3.dd.len]
            rw [ei, ed] at hsm
            refine ⟨fr7, ?_⟩
            simp (decide := true) only [st, r5, r6, r14, hwr]
            refine execC_by hsm ?_
            simp (decide := true) only [st, r9, wrapN1 (show i < 2 ^ 61 by omega)]
            exact ⟨m - 1, by omega, i + 1, _, _, _, _, by omega, by simp (decide := true) only [st, r1], by simp (decide := true) only [st, r5], by simp (decide := true) only [st, hwr], by simp (decide := true) only [st], by simp (decide := true) only [st], by simp (decide := true) only [st], by simp; omega, by rw [hau]; omega, by omega, p7⟩
          · have hab : (absMap N A id n').2 = A := by
              unfold absMap at hwant ⊢
              by_cases b1 : n' < 0 ∨ 64 < n'
              · rw [if_pos b1]
              rw [if_neg b1] at hwant ⊢
              by_cases b2 : (aget A id).isSome
              · rw [if_pos b2]
              rw [if_neg b2] at hwant ⊢
              by_cases b3 : N - aused A < aneed n'.toNat
              · rw [if_pos b3]
              · rw [if_neg b3] at hwant
                exact absurd hwant hw0
            rw [hab] at S4
            have p4 := p3.same S4 n4 k4
            have hsm := same_calls ok p4.sp p4.dd (by omega) (t1 := t1) (t2 := t2)
            simp (decide := true) only [st, r5, r6, r7, r8, ha1, ha2]
            refine execC_by hsm ?_
            simp (decide := true) only [st, r9, wrapN1 (show i < 2 ^ 61 by omega)]
            exact ⟨m - 1, by omega, i + 1, A, a1, a2, blks, by omega, by simp (decide := true) only [st, r1], by simp (decide := true) only [st, r5], by simp (decide := true) only [st, r6], by simp (decide := true) only [st, r7], by simp (decide := true) only [st, r8], by simp (decide := true) only [st], by omega, hus, by omega, p4⟩
        · simp (decide := true) only [st, r13]
          refine WPc_by (fun hx3 => ?_) (fun hx3 => ?_)
          · obtain ⟨h4, hum, S4, n4, k4⟩ := A_unmap ok p3.sp id
            simp (decide := true) only [st, r5, r10, hco]
            refine execC_by hum ?_
            simp (decide := true) only [st]
            have hb0 : (!false == false) = false := rfl
            have hb1 : (!true == true) = false := rfl
            cases hat : atI A id with
            | none =>
              have hag := atI_none hat
              have hab : absUnmap A id = (7, A) := by simp only [absUnmap, hag]
              rw [hab] at S4
              have p4 := p3.same S4 n4 k4
              have hsm := same_calls ok p4.sp p4.dd (by omega) (t1 := t1) (t2 := t2)
              rw [hat] at r11
              simp (decide := true) only [st, c11_34, r11, atV, hab, hb0, r5, r6, r7, r8, ha1, ha2]
              refine execC_by hsm ?_
              simp (decide := true) only [st, r9, wrapN1 (show i < 2 ^ 61 by omega)]
              exact ⟨m - 1, by omega, i + 1, A, a1, a2, blks, by omega, by simp (decide := true) only [st, r1], by simp (decide := true) only [st, r5], by simp (decide := true) only [st, r6], by simp (decide := true) only [st, r7], by simp (decide := true) only [st, r8], by simp (decide := true) only [st], by omega, hus, by omega, p4⟩
            | some k =>
              obtain ⟨e, he, hid, hag, hdel, -⟩ := atI_some hkeys hat
              obtain ⟨b, hb⟩ : ∃ b, blks[k]? = some b := ⟨blks[k]'(by rw [p2.dd.len]; exact (List.getElem?_eq_some_iff.1 he).1), List.getElem?_eq_getElem _⟩
              have hes := p2.dd.small e (List.mem_of_getElem? he)
              have hab : absUnmap A id = (0, A.eraseIdx k) := by simp only [absUnmap, hag, hdel]
              rw [hab] at S4
              rw [hat] at r11
              have hkA := (List.getElem?_eq_some_iff.1 he).1
              have hbas := p3.bas
              have hg0 : ¬ (k : Int) < 0 := by omega
              have haus : aused (A.eraseIdx k) + aneed e.2.length = aused A := aused_del he
              have hq : IntKind.i64.wrap ((IntKind.i64.wrap (IntKind.i64.wrap ((e.2.length : Int) + 16) - 1)).tdiv 16) = (aneed e.2.length : Nat) := by
                rw [wrapS (n := (e.2.length : Int) + 16) (by omega) (by omega), wrapS (n := (e.2.length : Int) + 16 - 1) (by omega) (by omega), Int.tdiv_eq_ediv_of_nonneg (by omega), wrapS (by omega) (by omega)]
                unfold aneed; omega
              have hq2 : IntKind.i64.wrap (((N - aused A : Nat) : Int) + (aneed e.2.length : Nat)) = ((N - aused (A.eraseIdx k) : Nat) : Int) := by
                rw [wrapS] <;> omega
              simp (decide := true) only [st, c11_34, r6, r8, r11, atV, hab, ha2, hb1, hg0, drow_get hb he, hq, hq2]
              refine WP_gen (fun ρ' => ρ' 1 = .vs xs t ∧ ρ' 5 = .ptr bs 0 ∧ ρ' 6 = .int .i64 ((N - aused (A.eraseIdx k) : Nat) : Int) ∧ ρ' 7 = a1 ∧ ρ' 8 = a2 ∧ ρ' 9 = .int .i64 i ∧ ρ' 11 = .int .i64 k) ⟨by simp (decide := true) only [st, r1], by simp (decide := true) only [st, r5], by simp (decide := true) only [st, hq, hq2], by simp (decide := true) only [st, r7], by simp (decide := true) only [st, r8], by simp (decide := true) only [st, r9], by simp (decide := true) only [st, r11, atV]⟩ ?_
              clear r1 r5 r6 r7 r8 r9 r10 r11 r13 r122
              rintro ρ5 ⟨r1, r5, r6, r7, r8, r9, r11⟩
              have hwk1 := wrapN1 (show k < 2 ^ 61 by omega)
              have hlen1 := irow_len (A := A)
              have hih : headOk 1 (irow A) = true := by cases A <;> rfl
              have hdh : headOk 1 (drow A blks) = true := by cases A <;> cases blks <;> rfl
              have hdl := drow_len p3.dd.len
              refine WP_regD0n 11 rfl rfl ?_
              have hkl1 : k ≤ (irow A).length := by omega
              have hkl2 : k ≤ (drow A blks).length := by omega
              have hkl3 : k + 1 ≤ (irow A).length := by omega
              have hkl4 : k + 1 ≤ (drow A blks).length := by omega
              have hnx : (h4.clean 11).next = h4.next + 11 := rfl
              have hc4 : ∀ b, b < h4.next → (h4.clean 11).get b = h4.get b := fun b hb => by simp only [AHeap.clean, if_pos hb]
              have hf4 : ∀ j, (h4.clean 11).get (h4.next + j) = none := fun j => by simp only [AHeap.clean, if_neg (show ¬ h4.next + j < h4.next by omega)]
              have hth : headOk 1 ((irow A).take k) = true := by cases A <;> cases k <;> rfl
              have hdr : headOk 1 ((irow A).drop (k + 1)) = true := head_drop irow_one
              obtain ⟨b1, H5, e5, i5, t5, o5, n5, m5⟩ := app_any (base := base) (bytes := 8) (sz := 1) (id := h4.next + (1 + 1 + 1 + 1)) (ys := (irow A).take k) (.nil (h := h4.clean 11)) (by omega) rfl (by simp; omega) (by simp; omega)
              obtain ⟨b2, H6, e6, i6, t6, o6, n6, m6⟩ := app_any (bytes := 8) (sz := 1) (id := h4.next + (1 + 1 + 1 + 1 + 1 + 1 + 1 + 1 + 1)) (ys := (irow A).drop (k + 1)) i5 (by omega) (by simpa using hth) (by simp; omega) (by simp; omega)
              have f5 : freeD 11 h4.next (1 + 1 + 1 + 1) H5 := fun j j1 j2 => by
                rw [o5 _ (by omega) (by simp [tokOf])]; exact hf4 j
              have f6 : freeD 11 h4.next (1 + 1 + 1 + 1 + 1 + 1 + 1 + 1 + 1) H6 := fun j j1 j2 => by
                rw [o6 _ (by omega) (fun hh => by rcases t5 _ hh with q | q; omega; simp [tokOf] at q), o5 _ (by omega) (by simp [tokOf])]; exact hf4 j
              have hr0 : List.replicate 0 [AV.int .u64 0] = [] := rfl
              have hr1 : List.replicate 0 [AV.vs [] .full] = [] := rfl
              have htk : List.take ((irow A).length - (k + 1)) ((irow A).drop (k + 1)) = (irow A).drop (k + 1) := List.take_of_length_le (by simp)
              have htk2 : List.take ((drow A blks).length - (k + 1)) ((drow A blks).drop (k + 1)) = (drow A blks).drop (k + 1) := List.take_of_length_le (by simp)
              have hbo : base ≤ bo := hbn
              simp (decide := true) only [st, c11_38, r7, r11, ha1, hwk1, hkl1, hkl3, hih, hth, hdr, e5, e6, hr0, Nat.zero_le, Nat.sub_zero, and_self, if_true]
              refine ⟨f5, ?_⟩
              simp (decide := true) only [st, r7, r11, ha1, hwk1, hkl1, hkl3, hih, hth, hdr, htk, e6, Nat.zero_le, Nat.le_refl, and_self, if_true]
              refine ⟨f6, ?_⟩
              refine WP_gen (fun ρ' => ρ' 1 = .vs xs t ∧ ρ' 5 = .ptr bs 0 ∧ ρ' 6 = .int .i64 ((N - aused (A.eraseIdx k) : Nat) : Int) ∧ ρ' 7 = b2 ∧ ρ' 8 = a2 ∧ ρ' 9 = .int .i64 i ∧ ρ' 11 = .int .i64 k) ⟨by simp (decide := true) only [st, r1], by simp (decide := true) only [st, r5], by simp (decide := true) only [st, r6], by simp (decide := true) only [st], by simp (decide := true) only [st, r8], by simp (decide := true) only [st, r9], by simp (decide := true) only [st, r11]⟩ ?_
              clear r1 r5 r6 r7 r8 r9 r11
              rintro ρ6 ⟨r1, r5, r6, r7, r8, r9, r11⟩
              have hc6 : ∀ b, b < H6.next → (H6.clean 11).get b = H6.get b := fun b hb => by simp only [AHeap.clean, if_pos hb]
              have hf6 : ∀ j, (H6.clean 11).get (H6.next + j) = none := fun j => by simp only [AHeap.clean, if_neg (show ¬ H6.next + j < H6.next by omega)]
              have hnx6 : (H6.clean 11).next = H6.next + 11 := rfl
              have hth2 : headOk 1 ((drow A blks).take k) = true := by
                cases hq : (drow A blks).take k with
                | nil => rfl
                | cons r l => simp [headOk, drow_one r (List.mem_of_mem_take (by rw [hq]; exact List.mem_cons_self))]
              have hdr2 : headOk 1 ((drow A blks).drop (k + 1)) = true := head_drop drow_one
              obtain ⟨b3, H7, e7, i7, t7, o7, n7, m7⟩ := app_any (base := base) (bytes := 24) (sz := 1) (id := H6.next + (1 + 1 + 1 + 1)) (ys := (drow A blks).take k) (.nil (h := H6.clean 11)) (by omega) rfl (by simp; omega) (by simp; omega)
              obtain ⟨b4, H8, e8, i8, t8, o8, n8, m8⟩ := app_any (bytes := 24) (sz := 1) (id := H6.next + (1 + 1 + 1 + 1 + 1 + 1 + 1 + 1 + 1)) (ys := (drow A blks).drop (k + 1)) i7 (by omega) (by simpa using hth2) (by simp; omega) (by simp; omega)
              have f7 : freeD 11 H6.next (1 + 1 + 1 + 1) H7 := fun j j1 j2 => by
                rw [o7 _ (by omega) (by simp [tokOf])]; exact hf6 j
              have f8 : freeD 11 H6.next (1 + 1 + 1 + 1 + 1 + 1 + 1 + 1 + 1) H8 := fun j j1 j2 => by
                rw [o8 _ (by omega) (fun hh => by rcases t7 _ hh with q | q; omega; simp [tokOf] at q), o7 _ (by omega) (by simp [tokOf])]; exact hf6 j
              refine WP_regD0n 11 rfl rfl ?_
              simp (decide := true) only [st, c11_39, r8, r11, ha2, hkl2, hkl4, hdh, hth2, hdr2, e7, e8, hr1, Nat.zero_le, Nat.sub_zero, and_self, if_true]
              refine ⟨f7, ?_⟩
              simp (decide := true) only [st, r8, r11, ha2, hwk1, hkl2, hkl4, hdh, hth2, hdr2, htk2, e8, Nat.zero_le, Nat.le_refl, and_self, if_true]
              refine ⟨f8, ?_⟩
              have t6' : ∀ t', tokOf b2 = some t' → h4.next ≤ t' ∧ t' < h4.next + 11 := fun t' ht => by
                rcases t6 _ ht with q | q
                · omega
                · rcases t5 _ q with q | q
                  · omega
                  · simp [tokOf] at q
              have t8' : ∀ t', tokOf b4 = some t' → H6.next ≤ t' := fun t' ht => by
                rcases t8 _ ht with q | q
                · omega
                · rcases t7 _ q with q | q
                  · omega
                  · simp [tokOf] at q
              have t5' : ∀ t', tokOf b1 = some t' → t' = h4.next + 4 := fun t' ht => by
                rcases t5 _ ht with q | q
                · omega
                · simp [tokOf] at q
              have t7' : ∀ t', tokOf b3 = some t' → t' = H6.next + 4 := fun t' ht => by
                rcases t7 _ ht with q | q
                · omega
                · simp [tokOf] at q
              have k6 : ∀ b, b < H6.next → H8.get b = H6.get b := fun b hb => by
                rw [o8 _ (by omega) (fun hh => by have := t7' _ hh; omega), o7 _ (by omega) (by simp [tokOf]), hc6 _ hb]
              have k8 : ∀ b, b < h4.next → H8.get b = h4.get b := fun b hb => by
                rw [k6 _ (by omega), o6 _ (by omega) (fun hh => by have := t5' _ hh; omega), o5 _ (by omega) (by simp [tokOf]), hc4 _ hb]
              have S8 : SpA H8 bs bm bl bp N (A.eraseIdx k) := S4.more (by omega) k8
              have p8 := p3.del (h' := H8) S8 (by omega) (b1 := b2) (b2 := b4) (by
                rw [irow_erase]
                rw [List.nil_append] at i6
                exact i6.to (by omega) (fun b _ hb => k6 b hb)) (by
                rw [drow_erase]
                rw [List.nil_append] at i8
                exact i8) (fun t' q1 q2 => by have := t6' _ q1; have := t8' _ q2; omega) (fun b q1 q2 q3 => by
                rw [k8 _ (by omega)]; exact k4 b q2 (by omega) (by omega))
              obtain ⟨tl1, hb2⟩ := p8.ids.vs
              obtain ⟨tl2, hb4⟩ := p8.dat.vs
              have hle : (A.eraseIdx k).length = A.length - 1 := by rw [List.length_eraseIdx]; simp [hkA]
              have hsm := same_calls ok p8.sp p8.dd (by omega) (t1 := tl1) (t2 := tl2)
              simp (decide := true) only [st, r5, r6, r7, hb2, hb4]
              refine execC_by hsm ?_
              simp (decide := true) only [st, r9, wrapN1 (show i < 2 ^ 61 by omega)]
              exact ⟨m - 1, by omega, i + 1, _, _, _, _, by omega, by simp (decide := true) only [st, r1], by simp (decide := true) only [st, r5], by simp (decide := true) only [st, r6], by simp (decide := true) only [st, r7, hb2], by simp (decide := true) only [st, hb4], by simp (decide := true) only [st], by omega, by omega, by omega, p8⟩
          · simp (decide := true) only [st, r13]
            refine WPc_by (fun hx7 => ?_) (fun hx7 => ?_)
            · have hsm := same_calls ok p3.sp p3.dd (by omega) (t1 := t1) (t2 := t2)
              simp (decide := true) only [st, c11_41, r5, r10, hco]
              cases hat : atI A id with
              | none =>
                have hag := atI_none hat
                have hin : absIn A id off (brow bb).length = (none, 7) := by simp only [absIn, hag]
                rw [hat] at r11
                have hwr := A_write_none ok p3.sp (tl := .unk) hin (by decide)
                have hwi := within_no ok (h := h3) (xs := drow A blks) (t := t2) (off := off) (n := (bb.length : Int))
                refine execC_by hwr ?_
                simp (decide := true) only [st, c11_42, r8, r10, r11, ha2, hco, atV, brow_len]
                refine execC_by hwi ?_
                simp (decide := true) only [st, r5, r6, r7, r8, ha1, ha2]
                refine execC_by hsm ?_
                simp (decide := true) only [st, r9, wrapN1 (show i < 2 ^ 61 by omega)]
                exact ⟨m - 1, by omega, i + 1, A, a1, a2, blks, by omega, by simp (decide := true) only [st, r1], by simp (decide := true) only [st, r5], by simp (decide := true) only [st, r6], by simp (decide := true) only [st, r7], by simp (decide := true) only [st, r8], by simp (decide := true) only [st], by omega, hus, hbn3, p3⟩
              | some k =>
                obtain ⟨e, he, hid, hag, -, hwA⟩ := atI_some hkeys hat
                obtain ⟨b, hb⟩ : ∃ b, blks[k]? = some b := ⟨blks[k]'(by rw [p2.dd.len]; exact (List.getElem?_eq_some_iff.1 he).1), List.getElem?_eq_getElem _⟩
                have hes := p2.dd.small e (List.mem_of_getElem? he)
                rw [hat] at r11
                by_cases hbad : off < 0 ∨ ((bb.length : Nat) : Int) < 0 ∨ (e.2.length : Int) < off ∨ (e.2.length : Int) - off < (bb.length : Nat)
                · have hwi := within_yes ok (h := h3) (t := t2) (off := off) (n := ((bb.length : Nat) : Int)) hb he hes
                  have hin : absIn A id off (brow bb).length = (none, 11) := by simp only [absIn, hag, brow_len]; rw [if_pos hbad]
                  have hwr := A_write_none ok p3.sp (tl := .unk) hin (by decide)
                  rw [if_pos hbad] at hwi
                  refine execC_by hwr ?_
                  simp (decide := true) only [st, c11_42, r8, r10, r11, ha2, hco, atV, brow_len]
                  refine execC_by hwi ?_
                  simp (decide := true) only [st, r5, r6, r7, r8, ha1, ha2]
                  refine execC_by hsm ?_
                  simp (decide := true) only [st, r9, wrapN1 (show i < 2 ^ 61 by omega)]
                  exact ⟨m - 1, by omega, i + 1, A, a1, a2, blks, by omega, by simp (decide := true) only [st, r1], by simp (decide := true) only [st, r5], by simp (decide := true) only [st, r6], by simp (decide := true) only [st, r7], by simp (decide := true) only [st, r8], by simp (decide := true) only [st], by omega, hus, hbn3, p3⟩
                · obtain ⟨o, rfl⟩ : ∃ o : Nat, off = o := ⟨off.toNat, by omega⟩
                  have hin : absIn A id o bb.length = (some e.2, 0) := by simp only [absIn, hag]; rw [if_neg hbad]
                  obtain ⟨h4, hwr, S4, n4, k4⟩ := A_write ok p3.sp (tl := .unk) hin
                  rw [hwA] at S4
                  have hwi := within_yes ok (h := h4) (t := t2) (off := (o : Int)) (n := ((bb.length : Nat) : Int)) hb he hes
                  rw [if_neg hbad] at hwi
                  obtain ⟨g1, g2⟩ := p3.dd.get k b e hb he
                  have hbas := p3.bas
                  have hbb := p3.bk b (List.mem_of_getElem? hb)
                  have hbo : base ≤ bo := hbn
                  have hco4 : cellsOf (h4.clean 10) bo = some [.int .i64 kd, .int .i64 o, .int .i64 n', .int .u64 id, .vs (brow bb) .unk] := cellsOf_of (by
                    simp only [AHeap.clean, if_pos (show bo < h4.next by omega)]
                    rw [k4 bo hon3 (by omega)]; exact ho3)
                  have g4 : (h4.clean 10).get b = some (.cells (e.2.map (.int .u8))) := by
                    simp only [AHeap.clean, if_pos (show b < h4.next by omega)]
                    rw [k4 b g2 (by omega)]; exact g1
                  obtain ⟨v, r, h5, hv1, hv2, hv3, hv4, hv5⟩ := copy_bytes (o := o) (bb := bb) g4 (by omega)
                  have p6 : PA base h5 bs bm bl bp N (A.set k (e.1, e.2.take o ++ bb ++ e.2.drop (o + bb.length))) a1 a2 blks := by
                    refine p3.write he hb (by simp; omega) (S4.eqv (by rw [hv5]; simp only [AHeap.clean]; omega) ?_ ?_ ?_ ?_) (by rw [hv5]; simp only [AHeap.clean]; omega) hv3 (fun y y1 y2 y3 => ?_)
                    · rw [hv4 _ (by omega)]; simp only [AHeap.clean, if_pos S4.lt.1]
                    · rw [hv4 _ (by omega)]; simp only [AHeap.clean, if_pos S4.lt.2.1]
                    · rw [hv4 _ (by omega)]; simp only [AHeap.clean, if_pos S4.lt.2.2.1]
                    · rw [hv4 _ (by omega)]; simp only [AHeap.clean, if_pos S4.lt.2.2.2]
                    · rw [hv4 _ y3]
                      simp only [AHeap.clean, if_pos (show y < h4.next by omega)]
                      exact k4 y y2 (by omega)
                  have hfr : freeD 10 h4.next 9 h5 := fun j j1 j2 => by omega
                  refine execC_by hwr ?_
                  have hcoh4 : cellsOf h4 bo = some [.int .i64 kd, .int .i64 o, .int .i64 n', .int .u64 id, .vs (brow bb) .unk] := cellsOf_of (by
                    rw [k4 bo hon3 (by omega)]; exact ho3)
                  have hln : (e.2.take o ++ bb ++ e.2.drop (o + bb.length)).length = e.2.length := by simp; omega
                  have hau := aused_set (x := e.1) he hln
                  obtain ⟨t1', ha1'⟩ := p6.ids.vs
                  obtain ⟨t2', ha2'⟩ := p6.dat.vs
                  have hsm6 := same_calls ok p6.sp p6.dd (by simp; omega) (t1 := t1') (t2 := t2')
                  rw [hau] at hsm6
                  simp (decide := true) only [st, c11_42, r8, r10, r11, ha2, atV, brow_len, hcoh4]
                  refine execC_by hwi ?_
                  simp (decide := true) only [st]
                  refine WP_gen (fun ρ' => B ρ' ∧ ρ' 11 = .int .i64 k) ⟨⟨by simp (decide := true) only [st, r1], by simp (decide := true) only [st, r5], by simp (decide := true) only [st, r6], by simp (decide := true) only [st, r7], by simp (decide := true) only [st, r8], by simp (decide := true) only [st, r9], by simp (decide := true) only [st, r10]⟩, by simp (decide := true) only [st, r11, atV]⟩ ?_
                  clear r1 r5 r6 r7 r8 r9 r10 r11 r13 r122
                  rintro ρ5 ⟨⟨r1, r5, r6, r7, r8, r9, r10⟩, r11⟩
                  refine WP_regD0n 10 rfl rfl ?_
                  simp (decide := true) only [st, c11_46, r8, r10, r11, ha2, hco4, drow_get hb he]
                  rw [hv1 _ _ (by simp (decide := true) only [st])]
                  simp (decide := true) only [st, hco4, r10]
                  rw [hv2 _ _ _ _ (by simp (decide := true) only [st]) (by simp (decide := true) only [st])]
                  refine eDE_some.2 ⟨fun j j1 j2 => by omega, ?_⟩
                  simp (decide := true) only [st, r5, r6, r7, r8, ha1', ha2']
                  refine execC_by hsm6 ?_
                  simp (decide := true) only [st, r9, wrapN1 (show i < 2 ^ 61 by omega)]
                  exact ⟨m - 1, by omega, i + 1, _, a1, a2, blks, by omega, by simp (decide := true) only [st, r1], by simp (decide := true) only [st, r5], by simp (decide := true) only [st, r6, hau], by simp (decide := true) only [st, r7], by simp (decide := true) only [st, r8], by simp (decide := true) only [st], by simp; omega, by rw [hau]; exact hus, by rw [hv5]; simp only [AHeap.clean]; omega, p6⟩
            · have p5 : ∀ n, PA base (h3.clean n) bs bm bl bp N A a1 a2 blks := fun n => p3.more (by simp only [AHeap.clean]; omega) (fun y hy => by simp only [AHeap.clean, if_pos hy])
              have hsm := same_calls ok (p5 34).sp (p5 34).dd (by omega) (t1 := t1) (t2 := t2)
              have tail : ∀ (ρ' : Env), B ρ' → True := fun _ _ => trivial
              simp (decide := true) only [st, c11_47, r5, r10, hco]
              cases hat : atI A id with
              | none =>
                have hag := atI_none hat
                have hin : absIn A id off n' = (none, 7) := by simp only [absIn, hag]
                rw [hat] at r11
                have hrd := A_read_none ok p3.sp hin (by decide)
                have hwi := within_no ok (h := h3) (xs := drow A blks) (t := t2) (off := off) (n := n')
                refine execC_by hrd ?_
                simp (decide := true) only [st, c11_48, r8, r10, r11, ha2, hco, atV]
                refine execC_by hwi ?_
                simp (decide := true) only [st]
                refine WP_regD0n 34 rfl rfl ?_
                simp (decide := true) only [st, c11_49, r5, r6, r7, r8, ha1, ha2]
                refine execC_by hsm ?_
                simp (decide := true) only [st, r9, wrapN1 (show i < 2 ^ 61 by omega)]
                exact ⟨m - 1, by omega, i + 1, A, a1, a2, blks, by omega, by simp (decide := true) only [st, r1], by simp (decide := true) only [st, r5], by simp (decide := true) only [st, r6], by simp (decide := true) only [st, r7], by simp (decide := true) only [st, r8], by simp (decide := true) only [st], by omega, hus, by simp only [AHeap.clean]; omega, p5 34⟩
              | some k =>
                obtain ⟨e, he, hid, hag, -, -⟩ := atI_some hkeys hat
                obtain ⟨b, hb⟩ : ∃ b, blks[k]? = some b := ⟨blks[k]'(by rw [p2.dd.len]; exact (List.getElem?_eq_some_iff.1 he).1), List.getElem?_eq_getElem _⟩
                have hes := p2.dd.small e (List.mem_of_getElem? he)
                rw [hat] at r11
                have hwi := within_yes ok (h := h3) (t := t2) (off := off) (n := n') hb he hes
                by_cases hbad : off < 0 ∨ n' < 0 ∨ (e.2.length : Int) < off ∨ (e.2.length : Int) - off < n'
                · have hin : absIn A id off n' = (none, 11) := by simp only [absIn, hag]; rw [if_pos hbad]
                  have hrd := A_read_none ok p3.sp hin (by decide)
                  rw [if_pos hbad] at hwi
                  refine execC_by hrd ?_
                  simp (decide := true) only [st, c11_48, r8, r10, r11, ha2, hco, atV]
                  refine execC_by hwi ?_
                  simp (decide := true) only [st]
                  refine WP_regD0n 34 rfl rfl ?_
                  simp (decide := true) only [st, c11_49, r5, r6, r7, r8, ha1, ha2]
                  refine execC_by hsm ?_
                  simp (decide := true) only [st, r9, wrapN1 (show i < 2 ^ 61 by omega)]
                  exact ⟨m - 1, by omega, i + 1, A, a1, a2, blks, by omega, by simp (decide := true) only [st, r1], by simp (decide := true) only [st, r5], by simp (decide := true) only [st, r6], by simp (decide := true) only [st, r7], by simp (decide := true) only [st, r8], by simp (decide := true) only [st], by omega, hus, by simp only [AHeap.clean]; omega, p5 34⟩
                · obtain ⟨o, rfl⟩ : ∃ o : Nat, off = o := ⟨off.toNat, by omega⟩
                  obtain ⟨c, rfl⟩ : ∃ c : Nat, n' = c := ⟨n'.toNat, by omega⟩
                  have hin : absIn A id o c = (some e.2, 0) := by simp only [absIn, hag]; rw [if_neg hbad]
                  have hrd := A_read ok p3.sp hin
                  rw [if_neg hbad] at hwi
                  have hcb := cellsOf_of ((p5 34).dd.get k b e hb he).1
                  obtain ⟨v, hv1, hv2⟩ := part_bytes (o := o) (c := c) hcb (by omega)
                  have hco4 : cellsOf (h3.clean 34) bo = some [.int .i64 kd, .int .i64 o, .int .i64 c, .int .u64 id, .vs (brow bb) .unk] := cellsOf_of (by
                    simp only [AHeap.clean, if_pos hon3]; exact ho3)
                  have habn : abin false .neq (.str { data := (bstr ((e.2.drop o).take c)).toArray }) (.str { data := (bstr ((e.2.drop o).take c)).toArray }) = some (.bool false) := by simp [abin]
                  have woc : IntKind.wrap .i64 ((o : Int) + (c : Int)) = ((o + c : Nat) : Int) := by rw [wrapS] <;> omega
                  refine execC_by hrd ?_
                  simp (decide := true) only [st, c11_48, r8, r10, r11, ha2, hco, atV]
                  refine execC_by hwi ?_
                  simp (decide := true) only [st]
                  refine WP_gen (fun ρ' => B ρ' ∧ ρ' 11 = .int .i64 k ∧ ρ' 19 = .vs (brow ((e.2.drop o).take c)) .unk ∧ ρ' 20 = .int .i64 0 ∧ ρ' 21 = .int .i64 0) ⟨⟨by simp (decide := true) only [st, r1], by simp (decide := true) only [st, r5], by simp (decide := true) only [st, r6], by simp (decide := true) only [st, r7], by simp (decide := true) only [st, r8], by simp (decide := true) only [st, r9], by simp (decide := true) only [st, r10]⟩, by simp (decide := true) only [st, r11, atV], by simp (decide := true) only [st], by simp (decide := true) only [st], by simp (decide := true) only [st]⟩ ?_
                  clear r1 r5 r6 r7 r8 r9 r10 r11 r13 r122
                  rintro ρ5 ⟨⟨r1, r5, r6, r7, r8, r9, r10⟩, r11, r19, r20, r21⟩
                  refine WP_regD0n 34 rfl rfl ?_
                  simp (decide := true) only [st, c11_49, r8, r10, r11, r19, r20, r21, ha2, hco4, drow_get hb he, brow_head, brow_bytes, woc]
                  rw [hv1 _ _ _ (by simp (decide := true) only [st]) (by simp (decide := true) only [st])]
                  simp (decide := true) only [st, r5, r6, r7, r8, r19, r20, r21, ha1, ha2, hv2, brow_bytes, habn]
                  refine execC_by hsm ?_
                  simp (decide := true) only [st, r9, wrapN1 (show i < 2 ^ 61 by omega)]
                  exact ⟨m - 1, by omega, i + 1, A, a1, a2, blks, by omega, by simp (decide := true) only [st, r1], by simp (decide := true) only [st, r5], by simp (decide := true) only [st, r6], by simp (decide := true) only [st, r7], by simp (decide := true) only [st, r8], by simp (decide := true) only [st], by omega, hus, by simp only [AHeap.clean]; omega, p5 34⟩
  · simp (decide := true) only [st, r9, r1, hi, lawK_ret]
    refine execC_by (nil_read ok) ?_
    simp (decide := true) only [st]
    refine execC_by (nil_len ok) ?_
    simp (decide := true) only [st, c11_57]
    refine execC_by (nil_map ok) ?_
    simp (decide := true) only [st]
    refine execC_by (nil_unmap ok) ?_
    simp (decide := true) only [st]
    refine execC_by (nil_write ok) ?_
    simp (decide := true) only [st]
    refine execC_by (nil_pfree ok) ?_
    simp (decide := true) only [st, lawK_ret]
end Go.Proofs.Ytchomcffeiheeaa.Am
