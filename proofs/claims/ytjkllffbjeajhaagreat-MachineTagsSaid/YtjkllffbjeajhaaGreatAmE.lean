/- What is handed in, as the abstract machine sees it; equations for stepping through code. Conditions: none. -/
import Derived.Test.YtjkllffbjeajhaaGreatAmD
import Derived.WideKeyArgs
import Derived.Handed
set_option linter.unusedSimpArgs false
set_option linter.unusedVariables false
set_option linter.unnecessarySimpa false
/- What is handed in: each cell is one cell. -/
namespace Go.Proofs.YtjkllffbjeajhaaGreat.Am
open Go Go.ChangeShapes

def layB (P : Program) : Bool := (List.range P.types.size).all fun t => match P.underlying t with
  | some (.struct fs) => (fs.toList.all fun f => decide (f.type < P.types.size)) && (List.range (P.cellsOf t)).all fun j => fs.toList.any fun f => decide (f.offset ≤ j) && decide (j < f.offset + P.cellsOf f.type)
  | some (.array n e) => decide (e < P.types.size) && P.cellsOf t == n * P.cellsOf e
  | _ => true

section
variable {P : Program} {H : Type} {enc : TypeId × Value → H} {w : World} {base : Nat} {sp : Nat → Bool} {held : Bool}

theorem mapM_get {α β : Type} {f : α → Option β} : ∀ {l : List α} {r : List β}, l.mapM f = some r → ∀ x ∈ l, ∃ y, f x = some y
  | [], r, h, x, hx => by simp at hx
  | a :: l, r, h, x, hx => by
    rw [List.mapM_cons] at h
    simp only [Option.bind_eq_bind, Option.bind_eq_some_iff] at h
    obtain ⟨b, hb, bs, hbs, _⟩ := h
    rcases List.mem_cons.1 hx with rfl | hx
    · exact ⟨b, hb⟩
    · exact mapM_get hbs x hx

theorem seg_get {cs : List Value} {o n j : Nat} {c : Value} (hj : cs[j]? = some c) (h1 : o ≤ j) (h2 : j < o + n) : c ∈ (cs.drop o).take n := by
  rw [List.mem_iff_getElem?]
  refine ⟨j - o, ?_⟩
  rw [List.getElem?_take_of_lt (by omega), List.getElem?_drop, show o + (j - o) = j by omega]
  exact hj

theorem trod_one (hl : layB P = true) : ∀ {fuel : Nat} {t : TypeId} {cs : List Value} {x : DataW H × List MemPlace}, t < P.types.size → DataW.trod enc P w base sp held fuel t cs = some x → ∀ c ∈ cs, c.oneCell' = true := by
  intro fuel
  induction fuel with
  | zero => intro t cs x _ h; simp [DataW.trod] at h
  | succ n ih =>
    intro t cs x ht h c hc
    obtain ⟨j, hj⟩ := List.mem_iff_getElem?.1 hc
    have hjl := (List.getElem?_eq_some_iff.1 hj).1
    unfold DataW.trod at h
    have hlay := List.all_eq_true.1 hl t (List.mem_range.2 ht)
    split at h <;> first
      | (simp only [List.mem_singleton] at hc; subst hc; rfl)
      | skip
    · rename_i fs hu
      rw [hu] at hlay
      simp only [List.all_eq_true, List.mem_range, List.any_eq_true, Bool.and_eq_true, decide_eq_true_eq] at hlay
      obtain ⟨htys, hlay⟩ := hlay
      split at h
      · rename_i hlen
        obtain ⟨f, hf, h1, h2⟩ := hlay j (by omega)
        obtain ⟨xs, hxs, _⟩ := Option.map_eq_some_iff.1 h
        obtain ⟨y, hy⟩ := mapM_get hxs f hf
        exact ih (htys f hf) hy c (seg_get hj h1 h2)
      · cases h
    · rename_i m e hu
      rw [hu] at hlay
      simp only [beq_iff_eq, Bool.and_eq_true, decide_eq_true_eq] at hlay
      obtain ⟨hte, hlay⟩ := hlay
      split at h
      · rename_i hlen
        have hpos : 0 < P.cellsOf e := by
          rcases Nat.eq_zero_or_pos (P.cellsOf e) with h0 | h0
          · rw [h0, Nat.mul_zero] at hlay; omega
          · exact h0
        obtain ⟨xs, hxs, _⟩ := Option.map_eq_some_iff.1 h
        have hq : j / P.cellsOf e < m := (Nat.div_lt_iff_lt_mul hpos).2 (by rw [← hlay]; omega)
        obtain ⟨y, hy⟩ := mapM_get hxs (j / P.cellsOf e) (List.mem_range.2 hq)
        refine ih hte hy c (seg_get hj (Nat.div_mul_le_self _ _) ?_)
        have := Nat.div_add_mod' j (P.cellsOf e)
        have := Nat.mod_lt j hpos
        omega
      · cases h
    all_goals (first | (cases h; done) | skip)

end
end Go.Proofs.YtjkllffbjeajhaaGreat.Am

/- What is handed in, once for all types: from the reader's word to an abstract value. -/
namespace Go.Proofs.YtjkllffbjeajhaaGreat.Am
open Go Go.ChangeShapes

/-- The cells that are there. -/
def There (w : World) : Imm := fun k _ => k < w.heap.size

/-- What handed-in data of a type look like. -/
def Hd (P : Program) : Nat → TypeId → List AV → Prop
  | 0, _, _ => False
  | f + 1, t, as =>
    match P.underlying t with
    | some .bool => ∃ b, as = [.bool b]
    | some (.int k) => ∃ n, as = [.int k n] ∧ (Lit.int k n).wf = true
    | some .string => ∃ s : ByteArray, as = [.str s] ∧ s.size ≤ maxLen
    | some (.slice e) => ∃ xs, as = [.vs xs .unk] ∧ xs.length ≤ maxLen ∧ ∀ row ∈ xs, Hd P f e row ∧ row.all AV.one = true
    | some (.struct fs) => as.length = P.cellsOf t ∧ ∀ fd ∈ fs.toList, Hd P f fd.type ((as.drop fd.offset).take (P.cellsOf fd.type))
    | some (.array n e) => as.length = n * P.cellsOf e ∧ ∀ i, i < n → Hd P f e ((as.drop (i * P.cellsOf e)).take (P.cellsOf e))
    | _ => as = [.any1]

def contig (P : Program) : Nat → List Field → Option Nat
  | o, [] => some o
  | o, f :: fs => if f.offset = o ∧ f.type < P.types.size then contig P (o + P.cellsOf f.type) fs else none

def layC (P : Program) : Bool := (List.range P.types.size).all fun t => match P.underlying t with
  | some (.struct fs) => contig P 0 fs.toList == some (P.cellsOf t)
  | some (.array n e) => decide (e < P.types.size) && P.cellsOf t == n * P.cellsOf e
  | some (.slice e) => decide (e < P.types.size) && decide (0 < P.cellsOf e)
  | _ => true

section
variable {P : Program} {H : Type} {enc : TypeId × Value → H} {w : World} {sp : Nat → Bool} {held : Bool}

theorem LRone {ι : Inj} {I : Imm} {a : AV} {v : Value} (h : VR ι I w a v) : LR ι I w [a] [v] := LR.cons h LR.nil

theorem LR.app {ι : Inj} {I : Imm} : ∀ {a b : List AV} {c d : List Value}, LR ι I w a c → LR ι I w b d → LR ι I w (a ++ b) (c ++ d)
  | [], b, [], d, _, h => h
  | [], b, c :: cs, d, h, _ => by have := h.1; simp at this
  | a :: as, b, [], d, h, _ => by have := h.1; simp at this
  | a :: as, b, c :: cs, d, h, h2 => by
    have h1 : VR ι I w a c := h.2 0 a c rfl rfl
    have h3 : LR ι I w as cs := ⟨by have := h.1; simpa using this, fun i v c e1 e2 => h.2 (i + 1) v c (by simpa using e1) (by simpa using e2)⟩
    exact LR.cons h1 (LR.app h3 h2)

theorem contig_open {n : Nat} {G : Nat → TypeId → List AV → Prop} {ι : Inj} {I : Imm} : ∀ (fs : List Field) (o e : Nat) (cs : List Value), contig P o fs = some e → cs.length + o = e →
    (∀ f ∈ fs, ∀ l, l = ((cs.drop (f.offset - o)).take (P.cellsOf f.type)) → f.offset + P.cellsOf f.type ≤ e → ∃ as, G n f.type as ∧ LR ι I w as l ∧ ∀ v ∈ as, v.one = true) →
    ∃ as, LR ι I w as cs ∧ (∀ v ∈ as, v.one = true) ∧ ∀ f ∈ fs, o ≤ f.offset ∧ G n f.type ((as.drop (f.offset - o)).take (P.cellsOf f.type))
  | [], o, e, cs, hc, hl, _ => by
    simp [contig] at hc
    subst hc
    have : cs = [] := List.length_eq_zero_iff.1 (by omega)
    subst this
    exact ⟨[], LR.nil, by simp, by simp⟩
  | f :: fs, o, e, cs, hc, hl, hf => by
    simp only [contig] at hc
    split at hc
    · rename_i h1
      obtain ⟨h1, _⟩ := h1
      have hle : ∀ (fs : List Field) (o e : Nat), contig P o fs = some e → o ≤ e := by
        intro fs
        induction fs with
        | nil => intro o e h; simp [contig] at h; omega
        | cons g gs ih => intro o e h; simp only [contig] at h; split at h; exact Nat.le_trans (Nat.le_add_right _ _) (ih _ _ h); cases h
      have h2 := hle _ _ _ hc
      obtain ⟨a, ha1, ha2, ha3⟩ := hf f (by simp) _ rfl (by omega)
      have hlen : a.length = P.cellsOf f.type := by rw [ha2.1, List.length_take, List.length_drop]; omega
      obtain ⟨b, hb1, hb2, hb3⟩ := contig_open fs (o + P.cellsOf f.type) e (cs.drop (P.cellsOf f.type)) hc (by simp; omega) (fun g hg l hl hle' => by
        have hge : ∀ (fs : List Field) (o e : Nat), contig P o fs = some e → ∀ g ∈ fs, o ≤ g.offset := by
          intro fs
          induction fs with
          | nil => intro o e h g hg; simp at hg
          | cons q qs ih =>
            intro o e h g hg
            simp only [contig] at h
            split at h
            · rename_i hq
              rcases List.mem_cons.1 hg with rfl | hg
              · omega
              · have := ih _ _ h g hg; omega
            · cases h
        have := hge _ _ _ hc g hg
        refine hf g (List.mem_cons_of_mem _ hg) l ?_ hle'
        rw [hl, List.drop_drop]
        congr 2
        omega)
      refine ⟨a ++ b, ?_, ?_, ?_⟩
      · have := LR.app ha2 hb1
        rw [h1, Nat.sub_self, List.drop_zero, List.take_append_drop] at this
        exact this
      · intro v hv
        rcases List.mem_append.1 hv with hv | hv
        · exact ha3 v hv
        · exact hb2 v hv
      · intro g hg
        rcases List.mem_cons.1 hg with rfl | hg
        · refine ⟨by omega, ?_⟩
          rw [h1, Nat.sub_self, List.drop_zero, List.take_append_of_le_length (by omega), List.take_of_length_le (by omega)]
          exact ha1
        · obtain ⟨h3, h4⟩ := hb3 g hg
          refine ⟨by omega, ?_⟩
          have : g.offset - o = a.length + (g.offset - (o + P.cellsOf f.type)) := by omega
          rw [this, List.drop_append, List.drop_eq_nil_of_le (by omega), Nat.add_sub_cancel_left, List.nil_append]
          exact h4
    · cases hc

theorem there_cell {b off : Nat} {v : Value} (h : w.cell? ⟨b, off, none⟩ = some v) : There w b off := by
  apply Classical.byContradiction
  intro hn
  have : w.heap[b]? = none := by
    have hn' : ¬ b < w.heap.size := hn
    simp; omega
  simp [World.cell?, this] at h

/-- A row of equal parts. -/
theorem parts_open {G : List AV → Prop} {ι : Inj} {I : Imm} {s : Nat} : ∀ (n : Nat) (cs : List Value), cs.length = n * s →
    (∀ i, i < n → ∃ as, G as ∧ LR ι I w as ((cs.drop (i * s)).take s) ∧ ∀ v ∈ as, v.one = true) →
    ∃ as, LR ι I w as cs ∧ (∀ v ∈ as, v.one = true) ∧ ∀ i, i < n → G ((as.drop (i * s)).take s)
  | 0, cs, hl, _ => by
    have : cs = [] := List.length_eq_zero_iff.1 (by simpa using hl)
    subst this
    exact ⟨[], LR.nil, by simp, by omega⟩
  | n + 1, cs, hl, hf => by
    have hs : (n + 1) * s = n * s + s := Nat.succ_mul n s
    obtain ⟨a, ha1, ha2, ha3⟩ := hf 0 (by omega)
    have hlen : a.length = s := by rw [ha2.1, List.length_take, List.length_drop]; omega
    obtain ⟨b, hb1, hb2, hb3⟩ := parts_open (G := G) (s := s) n (cs.drop s) (by rw [List.length_drop]; omega) (fun i hi => by
      obtain ⟨x, h1, h2, h3⟩ := hf (i + 1) (by omega)
      refine ⟨x, h1, ?_, h3⟩
      rw [List.drop_drop]
      rw [Nat.succ_mul, Nat.add_comm] at h2
      exact h2)
    refine ⟨a ++ b, ?_, ?_, ?_⟩
    · have := LR.app ha2 hb1
      rw [Nat.zero_mul, List.drop_zero, List.take_append_drop] at this
      exact this
    · intro v hv
      rcases List.mem_append.1 hv with hv | hv
      · exact ha3 v hv
      · exact hb2 v hv
    · intro i hi
      cases i with
      | zero =>
        rw [Nat.zero_mul, List.drop_zero, List.take_append_of_le_length (by omega), List.take_of_length_le (by omega)]
        exact ha1
      | succ i =>
        have : (i + 1) * s = a.length + i * s := by rw [Nat.succ_mul]; omega
        rw [this, List.drop_append, List.drop_eq_nil_of_le (by omega), Nat.add_sub_cancel_left, List.nil_append]
        exact hb3 i (by omega)

theorem open_cells (hl : layC P = true) : ∀ {fuel : Nat} {t : TypeId} {cs : List Value} {x : DataW H × List MemPlace}, t < P.types.size → DataW.trod enc P w 0 sp held fuel t cs = some x →
    ∃ as, Hd P fuel t as ∧ LR (fun _ => none) (There w) w as cs ∧ ∀ v ∈ as, v.one = true := by
  intro fuel
  induction fuel with
  | zero => intro t cs x _ h; simp [DataW.trod] at h
  | succ n ih =>
    intro t cs x ht h
    have hlay := List.all_eq_true.1 hl t (List.mem_range.2 ht)
    unfold DataW.trod at h
    unfold Hd
    split at h
    · rename_i b hu
      rw [hu]; exact ⟨[.bool b], ⟨b, rfl⟩, LRone (.bool b), by simp [AV.one]⟩
    · rename_i k k' m hu
      rw [hu]
      split at h
      · rename_i hc
        obtain ⟨rfl, hc⟩ := hc
        exact ⟨[.int k' m], ⟨m, rfl, hc⟩, LRone (.int k' m), by simp [AV.one]⟩
      · cases h
    · rename_i hu; rw [hu]; exact ⟨[.any1], rfl, LRone (.any1 _ rfl), by simp [AV.one]⟩
    · rename_i s hu
      rw [hu]
      split at h
      · rename_i hc
        exact ⟨[.str s], ⟨s, rfl, hc⟩, LRone (.str s), by simp [AV.one]⟩
      · cases h
    · rename_i hu; rw [hu]; exact ⟨[.any1], rfl, LRone (.any1 _ rfl), by simp [AV.one]⟩
    · rename_i hu; rw [hu]; exact ⟨[.any1], rfl, LRone (.any1 _ rfl), by simp [AV.one]⟩
    · rename_i hu
      rw [hu]
      exact ⟨[.vs [] .unk], ⟨[], rfl, by simp, by simp⟩, LRone (.vsNil _ (.inl rfl)), by simp [AV.one]⟩
    · rename_i e a len cap hu
      rw [hu] at hlay ⊢
      simp only [Bool.and_eq_true, decide_eq_true_eq] at hlay
      obtain ⟨hte, hpos⟩ := hlay
      split at h
      · rename_i hc
        obtain ⟨_, hlc, hcm⟩ := hc
        simp only [Option.bind_eq_some_iff] at h
        obtain ⟨elems, hel, _⟩ := h
        rcases Nat.eq_zero_or_pos len with h0 | h0
        · subst h0
          exact ⟨[.vs [] .unk], ⟨[], rfl, by simp, by simp⟩, LRone (.vsZ _ _ _ (.inl rfl)), by simp [AV.one]⟩
        · have key : ∀ i, ∃ as : List AV, i < len → Hd P n e as ∧ as.length = P.cellsOf e ∧ (∀ v ∈ as, v.one = true) ∧
              ∀ j, j < P.cellsOf e → ∃ u, w.cell? ((a.add (i * P.cellsOf e)).add j) = some u ∧ ∀ v, as[j]? = some v → VR (fun _ => none) (There w) w v u := by
            intro i
            by_cases hi : i < len
            · obtain ⟨y, hy⟩ := mapM_get hel i (List.mem_range.2 hi)
              obtain ⟨csi, h1, h2⟩ := Option.bind_eq_some_iff.1 hy
              obtain ⟨_, hcl, hcc⟩ := World.cells?_some h1
              obtain ⟨as, h3, h4, h5⟩ := ih hte h2
              refine ⟨as, fun _ => ⟨h3, by rw [h4.1, hcl], h5, fun j hj => ?_⟩⟩
              have hjl : j < csi.length := by omega
              refine ⟨csi[j], by rw [hcc j hj, List.getElem?_eq_getElem hjl], fun v hv => h4.2 j v _ hv (List.getElem?_eq_getElem hjl)⟩
            · exact ⟨[], fun h => absurd h hi⟩
          obtain ⟨f, hf⟩ := Classical.skolem.1 key
          have hspot : a.spot = none := by
            obtain ⟨_, _, _, h4⟩ := hf 0 h0
            obtain ⟨u, hu', _⟩ := h4 0 hpos
            have := World.cell?_spot hu'
            simpa [Addr.add] using this
          obtain ⟨cb, o, spt⟩ := a
          simp only at hspot
          subst hspot
          have hrow : ∀ (i : Nat) (row : List AV), ((List.range len).map f)[i]? = some row → i < len ∧ row = f i := by
            intro i row hi
            have hlt : i < len := by have := (List.getElem?_eq_some_iff.1 hi).1; simpa using this
            simp [List.getElem?_map, List.getElem?_range hlt] at hi
            exact ⟨hlt, hi.symm⟩
          have hcell : ∀ i j, i < len → j < P.cellsOf e → ∃ u, w.cell? ⟨cb, o + i * P.cellsOf e + j, none⟩ = some u ∧ ∀ v, (f i)[j]? = some v → VR (fun _ => none) (There w) w v u := by
            intro i j hi hj
            obtain ⟨_, _, _, h4⟩ := hf i hi
            have := h4 j hj
            rw [Addr.add_mid, Addr.add_mid] at this
            exact this
          have hv := VR.vs (ι := fun _ => none) (I := There w) (w := w) ((List.range len).map f) .unk cb o (P.cellsOf e) cap (fun i j => (w.cell? ⟨cb, o + i * P.cellsOf e + j, none⟩).getD undef)
            (fun i row hi => by obtain ⟨h1, rfl⟩ := hrow i row hi; exact (hf i h1).2.1)
            (fun i j hi hj => by obtain ⟨u, hu, _⟩ := hcell i j (by simpa using hi) hj; exact there_cell hu)
            (fun i j hi hj => by obtain ⟨u, hu, _⟩ := hcell i j (by simpa using hi) hj; simp [hu])
            (fun i row j v hi hj => by
              obtain ⟨h1, rfl⟩ := hrow i row hi
              have hj' : j < P.cellsOf e := by rw [← (hf i h1).2.1]; exact (List.getElem?_eq_some_iff.1 hj).1
              obtain ⟨u, hu, hv⟩ := hcell i j h1 hj'
              simp only [hu, Option.getD_some]
              exact hv v hj)
            (fun row hr v hv => by
              obtain ⟨i, hi⟩ := List.mem_iff_getElem?.1 hr
              obtain ⟨h1, rfl⟩ := hrow i row hi
              exact (hf i h1).2.2.1 v hv)
            (by simpa using hlc) trivial
          have hxl : ((List.range len).map f).length = len := by simp
          rw [hxl] at hv
          refine ⟨[.vs ((List.range len).map f) .unk], ⟨_, rfl, by rw [hxl]; omega, fun row hr => ?_⟩, LRone hv, by simp [AV.one]⟩
          obtain ⟨i, hi⟩ := List.mem_iff_getElem?.1 hr
          obtain ⟨h1, rfl⟩ := hrow i row hi
          exact ⟨(hf i h1).1, List.all_eq_true.2 (hf i h1).2.2.1⟩
      · cases h
    · rename_i cs _ _ fs hu
      rw [hu] at hlay ⊢
      simp only [beq_iff_eq] at hlay
      split at h
      · rename_i hlen
        obtain ⟨xs, hxs, _⟩ := Option.map_eq_some_iff.1 h
        have htys : ∀ (fs : List Field) (o e : Nat), contig P o fs = some e → ∀ g ∈ fs, g.type < P.types.size := by
          intro fs
          induction fs with
          | nil => intro o e h g hg; simp at hg
          | cons q qs ih =>
            intro o e h g hg
            simp only [contig] at h
            split at h
            · rename_i hq
              rcases List.mem_cons.1 hg with rfl | hg
              · exact hq.2
              · exact ih _ _ h g hg
            · cases h
        obtain ⟨as, h1, h2, h3⟩ := contig_open (P := P) (w := w) (n := n) (G := fun f t as => Hd P f t as) fs.toList 0 _ cs hlay (by omega) (fun f hf l hl _ => by
          obtain ⟨y, hy⟩ := mapM_get hxs f hf
          rw [Nat.sub_zero] at hl
          rw [← hl] at hy
          exact ih (htys _ _ _ hlay f hf) hy)
        exact ⟨as, ⟨by rw [h1.1, hlen], fun f hf => by have := (h3 f hf).2; rwa [Nat.sub_zero] at this⟩, h1, h2⟩
      · cases h
    · rename_i cs _ _ m e hu
      rw [hu] at hlay ⊢
      simp only [beq_iff_eq, Bool.and_eq_true, decide_eq_true_eq] at hlay
      obtain ⟨hte, hlay⟩ := hlay
      split at h
      · rename_i hlen
        obtain ⟨xs, hxs, _⟩ := Option.map_eq_some_iff.1 h
        obtain ⟨as, h1, h2, h3⟩ := parts_open (w := w) (G := Hd P n e) m cs (by rw [hlen, hlay]) (fun i hi => by
          obtain ⟨y, hy⟩ := mapM_get hxs i (List.mem_range.2 hi)
          exact ih hte hy)
        exact ⟨as, ⟨by rw [h1.1, hlen, hlay], h3⟩, h1, h2⟩
      · cases h
    all_goals first
      | (cases h; done)
      | (rename_i hu; rw [hu]; exact ⟨[.any1], rfl, LRone (.any1 _ rfl), by simp [AV.one]⟩)
      | skip
end
end Go.Proofs.YtjkllffbjeajhaaGreat.Am

/- A law, from its abstract calls to its row. -/
namespace Go.Proofs.YtjkllffbjeajhaaGreat.Am
open Go Go.ChangeShapes Go.WideShapes Go.ChangeAt Go.RowKit

/-- One argument. -/
def HdV (P : Program) (t : TypeId) (a : AV) : Prop :=
  ∃ f, match P.underlying t with
  | some (.struct _) | some (.array _ _) => ∃ cs, a = .agg cs ∧ Hd P f t cs ∧ cs.all AV.one = true
  | _ => Hd P f t [a]

/-- All arguments. -/
def HdAll (P : Program) : List TypeId → List AV → Prop
  | [], as => as = []
  | t :: ts, as => ∃ a bs, as = a :: bs ∧ HdV P t a ∧ HdAll P ts bs

section
variable {P : Program} {H : Type} {enc : TypeId × Value → H} {w w' : World}

theorem HdV.none_row {t : TypeId} {d : TypeDesc} {a : AV} (hu : P.underlying t = some d) (hd : d.isRow = false) (h : HdV P t a) : ∃ f, Hd P f t [a] := by
  obtain ⟨f, h⟩ := h
  rw [hu] at h
  cases d <;> first | (simp [TypeDesc.isRow] at hd; done) | exact ⟨f, h⟩

theorem open_val (hl : layC P = true) {t : TypeId} {v : Value} {base : Nat} (ht : t < P.types.size) (hok : Value.okWide P w .any base t v) {sp : Nat → Bool} {held : Bool} {d : DataW H} {p : List MemPlace}
    (h : DataW.Trod enc P w 0 sp held t v d p) : ∃ a, HdV P t a ∧ VR (fun _ => none) (There w) w a v := by
  obtain ⟨n, hn⟩ := h
  obtain ⟨as, h1, h2, h3⟩ := open_cells hl ht hn
  unfold HdV
  unfold Value.okWide at hok
  split at hok
  · rename_i hu
    obtain ⟨cs, rfl, hsz, _⟩ := hok
    refine ⟨.agg as, ⟨n, ?_⟩, ?_⟩
    · rw [hu]; exact ⟨as, rfl, h1, List.all_eq_true.2 h3⟩
    · have : (Value.agg cs).cells.toList = cs.toList := rfl
      rw [this] at h2
      have := VR.agg as cs.toList h2.1 h2.2
      simpa using this
  · rename_i hu
    obtain ⟨cs, rfl, hsz, _⟩ := hok
    refine ⟨.agg as, ⟨n, ?_⟩, ?_⟩
    · rw [hu]; exact ⟨as, rfl, h1, List.all_eq_true.2 h3⟩
    · have : (Value.agg cs).cells.toList = cs.toList := rfl
      rw [this] at h2
      have := VR.agg as cs.toList h2.1 h2.2
      simpa using this
  · rename_i hns hna
    have hc : v.cells.toList = [v] := by
      cases v <;> first | rfl | (unfold Cell.okWide Cell.ok at hok; split at hok <;> simp_all)
    rw [hc] at h2
    have hlen := h2.1
    match as, hlen, h1, h2, h3 with
    | [a], _, h1, h2, h3 =>
      refine ⟨a, ⟨n, ?_⟩, h2.2 0 a v rfl rfl⟩
      split
      · rename_i hu; exact (hns _ hu).elim
      · rename_i hu; exact (hna _ _ hu).elim
      · exact h1

theorem open_all (hl : layC P = true) {base : Nat} {sp : Nat → Bool} {held : Bool} : ∀ {ts : List TypeId} {vs : List Value} {ds : List (DataW H)} {p : List MemPlace}, (∀ t ∈ ts, t < P.types.size) →
    (∀ (j : Nat) t v, ts[j]? = some t → vs[j]? = some v → Value.okWide P w .any base t v) → DataW.TrodAll enc P w 0 sp held ts vs ds p →
    ∃ as, HdAll P ts as ∧ LR (fun _ => none) (There w) w as vs
  | [], vs, ds, p, _, _, h => by
    obtain ⟨rfl, _, _⟩ := trodAll_nil h
    exact ⟨[], rfl, LR.nil⟩
  | t :: ts, vs, ds, p, ht, hok, h => by
    obtain ⟨v, vs', d, ds', p', q, rfl, rfl, rfl, h1, h2⟩ := trodAll_cons h
    obtain ⟨a, ha1, ha2⟩ := open_val hl (ht t (by simp)) (hok 0 t v rfl rfl) h1
    obtain ⟨as, hb1, hb2⟩ := open_all hl (fun x hx => ht x (List.mem_cons_of_mem _ hx)) (fun j t v e1 e2 => hok (j + 1) t v (by simpa using e1) (by simpa using e2)) h2
    exact ⟨a :: as, ⟨a, as, rfl, ha1, hb1⟩, LR.cons ha2 hb2⟩

theorem trodAll_len {base : Nat} {sp : Nat → Bool} {held : Bool} : ∀ {ts : List TypeId} {vs : List Value} {ds : List (DataW H)} {ps : List MemPlace}, DataW.TrodAll enc P w base sp held ts vs ds ps → vs.length = ts.length ∧ ds.length = ts.length
  | [], _, _, _, h => by
    obtain ⟨rfl, rfl, _⟩ := trodAll_nil h
    exact ⟨rfl, rfl⟩
  | _ :: _, _, _, _, h => by
    obtain ⟨v, vs1, d, ds1, a, b, rfl, rfl, rfl, _, h2⟩ := trodAll_cons h
    have := trodAll_len h2
    simp [this.1, this.2]

theorem Kept.same (h : Kept w w') {p : MemPlace} (hp : p.block < w.heap.size) : w.sameAt w' p := by
  cases p with
  | cell b off =>
    have := h.2.2.2 b hp
    simp only [World.sameAt, World.cell?, this]
  | map b => exact h.2.2.2 b hp

theorem trodAll_stays (hl : laidOutB P = true) {sp : Nat → Bool} (hk : Kept w w') : ∀ {ts : List TypeId} {vs : List Value} {ds : List (DataW H)} {p : List MemPlace},
    (∀ t ∈ ts, P.readableRec t = true ∧ t < P.types.size) → (∀ x ∈ p, x.block < w.heap.size) → (∀ x ∈ p, sp x.block = true) →
    DataW.TrodAll enc P w 0 (fun _ => true) true ts vs ds p → DataW.TrodAll enc P w' 0 sp true ts vs ds p
  | [], vs, ds, p, _, _, _, h => by
    obtain ⟨rfl, rfl, rfl⟩ := trodAll_nil h
    exact trodAll_mk0
  | t :: ts, vs, ds, p, ht, hlt, hsp, h => by
    obtain ⟨v, vs', d, ds', p', q, rfl, rfl, rfl, h1, h2⟩ := trodAll_cons h
    refine ⟨p', q, ?_, ?_, rfl⟩
    · exact WideElems.Trod_stays hl (ht t (by simp)).1 (ht t (by simp)).2 h1 (fun x hx => hk.same (hlt x (by simp [hx]))) (fun x hx => hsp x (by simp [hx]))
    · exact trodAll_stays hl hk (fun x hx => ht x (List.mem_cons_of_mem _ hx)) (fun x hx => hlt x (by simp [hx])) (fun x hx => hsp x (by simp [hx])) h2

end

section
variable {C : Checked} {os : Os} {f : FuncId} {fn : Func} {s : ChangeSpec} {conds : List PathCond} {H : Type} {enc : TypeId × Value → H}

/-- A law whose abstract call comes to true for whatever is handed in. -/
theorem law_lifted (own : ownKnob C.prog.godebug = none) (started : os.Started) (noInit : C.prog.inits.idxOf? f = none) (hfn : C.prog.funcs[f]? = some fn)
    (witness : ∃ (w : World) (tape : Tape) (i : Input), w.os = os ∧ (w.forCall tape i).Shaped C.prog ∧ i.vars = [] ∧ Input.okWide C.prog (w.forCall tape i) .any w.heap.size f i ∧
      s.pre6 enc C.prog fn conds false (w.forCall tape i).memory i.args ∧ ({} : Assume).holds C.prog (lone (Frame.enter C.prog f i.args .normal) [] (w.forCall tape i)))
    (hl1 : laidOutB C.prog = true) (hl2 : layC C.prog = true) (hvars : s.vars = [])
    (hspec : ∀ ds : List (DataW H), ds.length = fn.params.size → s.fn H ds = { results := [.lit (.bool true)], args := ds })
    {tb : TypeId} (hres : fn.resultTypes = #[tb]) (hb : C.prog.underlying tb = some .bool)
    (hpar : (fn.params.toList.all fun t => C.prog.readableRec t && decide (t < C.prog.types.size)) = true)
    (hcall : ∀ as, HdAll C.prog fn.params.toList as → ∃ h', ACalls C.prog f as AHeap.empty (.bool true) h') :
    ReturnsInHanded {} C os f .any (s.pre6 enc C.prog fn conds false) (s.post enc C.prog fn false true false false) := by
  have hpar' : ∀ t ∈ fn.params.toList, C.prog.readableRec t = true ∧ t < C.prog.types.size := fun t ht => by
    have := List.all_eq_true.1 hpar t ht
    simpa using this
  refine returnsInHanded_of_change (C := C) own started noInit hfn witness ?_
  intro W base args ds gs before hval hW hcnd _
  have hW' := hW
  obtain ⟨p, q, hA, hV, rfl, hfz, hnd⟩ := hW
  rw [hvars] at hV
  obtain ⟨rfl, rfl⟩ := trodVars_none hV
  simp only [List.append_nil] at hW'
  have hlt : ∀ x ∈ p, x.block < W.heap.size := fun x hx => hW'.lt x hx
  obtain ⟨as, h1, h2⟩ := open_all hl2 (fun t ht => (hpar' t ht).2) (fun j t v e1 e2 => hval j t v (by simpa using e1) (by simpa using e2)) hA
  obtain ⟨h', hc⟩ := hcall as h1
  have hlen := (trodAll_len hA).2
  have hsp : s.fn H (ds ++ []) = { results := [.lit (.bool true)], args := ds } := by
    rw [List.append_nil]; exact hspec ds (by simpa using hlen)
  refine (calls_true hc (I := There W) (fun k j h => h) h2).mono fun e W' ⟨he, hk⟩ => ?_
  subst he
  refine ⟨_, rfl, post_of_kept (pa := p) (pv := []) hW' ?_ ?_ ?_ (by simp) hk ?_⟩
  · intro b sp hd
    rw [hsp, hres]
    exact trodAll_mk1 (trod_bool hb true)
  · intro sp hs
    rw [hsp]
    exact trodAll_stays hl1 hk hpar' hlt hs hA
  · intro sp hs
    rw [hvars]
    rw [hsp]
    exact rfl
  · exact ok_one hres rfl (okWide_bool hb true)

end
end Go.Proofs.YtjkllffbjeajhaaGreat.Am

/- What is handed in, by kinds. -/
namespace Go.Proofs.YtjkllffbjeajhaaGreat.Am
open Go

section
variable {P : Program}

theorem hd_int_list {t : TypeId} {k : IntKind} {f : Nat} {as : List AV} (hu : P.underlying t = some (.int k)) (h : Hd P f t as) : ∃ n, as = [.int k n] ∧ (Lit.int k n).wf = true := by
  cases f with
  | zero => exact h.elim
  | succ f => unfold Hd at h; rw [hu] at h; exact h

theorem hd_int {t : TypeId} {k : IntKind} {a : AV} (hu : P.underlying t = some (.int k)) (h : HdV P t a) : ∃ n, a = .int k n ∧ (Lit.int k n).wf = true := by
  obtain ⟨f, h⟩ := h.none_row hu rfl
  obtain ⟨n, h1, h2⟩ := hd_int_list hu h
  cases h1
  exact ⟨n, rfl, h2⟩

theorem wf_u8 {n : Int} (h : (Lit.int .u8 n).wf = true) : 0 ≤ n ∧ n < 256 := by
  have h1 : IntKind.min .u8 = 0 := rfl
  have h2 : IntKind.max .u8 = 255 := by decide
  simp [Lit.wf, h1, h2] at h
  omega

theorem hd_u8 {t : TypeId} {a : AV} (hu : P.underlying t = some (.int .u8)) (h : HdV P t a) : ∃ n : Nat, n < 256 ∧ a = .int .u8 n := by
  obtain ⟨n, rfl, h2⟩ := hd_int hu h
  have := wf_u8 h2
  exact ⟨n.toNat, by omega, by rw [Int.toNat_of_nonneg this.1]⟩

theorem hd_slice_list {t e : TypeId} {f : Nat} {as : List AV} (hu : P.underlying t = some (.slice e)) (h : Hd P f t as) : ∃ xs, as = [.vs xs .unk] ∧ xs.length ≤ maxLen ∧ ∃ f, ∀ row ∈ xs, Hd P f e row ∧ row.all AV.one = true := by
  cases f with
  | zero => exact h.elim
  | succ f => unfold Hd at h; rw [hu] at h; obtain ⟨xs, h1, h2, h3⟩ := h; exact ⟨xs, h1, h2, f, h3⟩

theorem hd_slice {t e : TypeId} {a : AV} (hu : P.underlying t = some (.slice e)) (h : HdV P t a) : ∃ xs, a = .vs xs .unk ∧ xs.length ≤ maxLen ∧ ∃ f, ∀ row ∈ xs, Hd P f e row ∧ row.all AV.one = true := by
  obtain ⟨f, h⟩ := h.none_row hu rfl
  obtain ⟨xs, h1, h2⟩ := hd_slice_list hu h
  cases h1
  exact ⟨xs, rfl, h2⟩

/-- A list of which each member is made of something. -/
theorem exists_map {α β : Type} {f : α → β} {p : α → Prop} : ∀ {l : List β}, (∀ x ∈ l, ∃ a, x = f a ∧ p a) → ∃ m : List α, l = m.map f ∧ ∀ a ∈ m, p a
  | [], _ => ⟨[], rfl, by simp⟩
  | x :: xs, h => by
    obtain ⟨a, rfl, ha⟩ := h x (by simp)
    obtain ⟨m, rfl, hm⟩ := exists_map (l := xs) (fun y hy => h y (List.mem_cons_of_mem _ hy))
    exact ⟨a :: m, rfl, fun b hb => by rcases List.mem_cons.1 hb with rfl | hb; exact ha; exact hm b hb⟩

theorem hd_ints {t e : TypeId} {k : IntKind} {a : AV} (hu : P.underlying t = some (.slice e)) (he : P.underlying e = some (.int k)) (h : HdV P t a) :
    ∃ ns : List Int, a = .vs (ns.map fun n => [.int k n]) .unk ∧ ns.length ≤ maxLen ∧ ∀ n ∈ ns, (Lit.int k n).wf = true := by
  obtain ⟨xs, rfl, h1, f, h2⟩ := hd_slice hu h
  obtain ⟨m, rfl, hm⟩ := exists_map (f := fun n => [AV.int k n]) (p := fun n => (Lit.int k n).wf = true) (fun row hr => hd_int_list he (h2 row hr).1)
  exact ⟨m, rfl, by simpa using h1, hm⟩

theorem hd_struct_list {t : TypeId} {fs : Array Field} {f : Nat} {as : List AV} (hu : P.underlying t = some (.struct fs)) (h : Hd P f t as) :
    as.length = P.cellsOf t ∧ ∃ f, ∀ fd ∈ fs.toList, Hd P f fd.type ((as.drop fd.offset).take (P.cellsOf fd.type)) := by
  cases f with
  | zero => exact h.elim
  | succ f => unfold Hd at h; rw [hu] at h; exact ⟨h.1, f, h.2⟩

theorem hd_struct {t : TypeId} {fs : Array Field} {a : AV} (hu : P.underlying t = some (.struct fs)) (h : HdV P t a) :
    ∃ as, a = .agg as ∧ as.all AV.one = true ∧ as.length = P.cellsOf t ∧ ∃ f, ∀ fd ∈ fs.toList, Hd P f fd.type ((as.drop fd.offset).take (P.cellsOf fd.type)) := by
  obtain ⟨f, h⟩ := h
  rw [hu] at h
  obtain ⟨cs, rfl, h, h1⟩ := h
  exact ⟨cs, rfl, h1, hd_struct_list hu h⟩

/-- A field of one cell. -/
theorem hd_field {fs : Array Field} {f : Nat} {as : List AV} (h : ∀ fd ∈ fs.toList, Hd P f fd.type ((as.drop fd.offset).take (P.cellsOf fd.type))) (i : Nat) {fd : Field} (hi : fs.toList[i]? = some fd) : Hd P f fd.type ((as.drop fd.offset).take (P.cellsOf fd.type)) :=
  h fd (List.mem_of_getElem? hi)

theorem cell_of_take {as : List AV} {o n : Nat} {v : AV} (hn : n = 1) (h : (as.drop o).take n = [v]) : as[o]? = some v := by
  subst hn
  have : ((as.drop o).take 1)[0]? = some v := by rw [h]; rfl
  rw [List.getElem?_take_of_lt (by omega), List.getElem?_drop] at this
  simpa using this

theorem cell_of_one {as : List AV} {o n : Nat} {v : AV} (h : (as.drop o).take n = [v]) : as[o]? = some v := by
  have h0 : ((as.drop o).take n)[0]? = some v := by rw [h]; rfl
  rw [List.getElem?_take] at h0
  split at h0
  · rw [List.getElem?_drop] at h0; simpa using h0
  · cases h0

end
end Go.Proofs.YtjkllffbjeajhaaGreat.Am

/- A call's value with nothing known of the room behind; a new slice that nobody will write to any more. -/
namespace Go.Proofs.YtjkllffbjeajhaaGreat.Am
open Go

section
variable {P : Program}

theorem ACalls.strip {f : Nat} {args : List AV} {h h' : AHeap} {r : AV} (hc : ACalls P f args h r h') : ACalls P f args h r.strip h' := by
  intro ι I w cargs H hl
  refine (hc ι I w cargs H hl).mono ?_
  rintro e w' ⟨v, ι', I', rfl, hv, H', E⟩
  exact ⟨v, ι', I', rfl, hv.strip, H', E⟩

/-- A call that hands out a new block's slice: by value, if nobody writes to it any more. -/
theorem ACalls.freeze {f : Nat} {args : List AV} {h h' : AHeap} {r : AV} (hc : ACalls P f args h r h') {b : Nat} {cs : List AV} (hg : h'.get b = some (.cells cs)) (hb : h.next ≤ b)
    (hr : (AV.frz b cs r).allR (fun i => i != b) = true) : ACalls P f args h (AV.frz b cs r) (h'.set b none) := by
  intro ι I w cargs H hl
  refine (hc ι I w cargs H hl).mono ?_
  rintro e w' ⟨v, ι', I', rfl, hv, H', E⟩
  cases hbi : ι' b with
  | none =>
    have hv2 : VR ι' I' w' (AV.frz b cs r) v := by
      clear hr hc
      induction hv with
      | rs b' off len sz cb' o' room' cap h1 h2 h3 =>
        unfold AV.frz
        by_cases hbb : b' = b
        · subst hbb; rw [hbi] at h1; cases h1
        · rw [if_neg hbb]; exact .rs b' off len sz cb' o' room' cap h1 h2 h3
      | rk b' off len sz cap cb' o' room' h1 h2 h3 =>
        unfold AV.frz
        by_cases hbb : b' = b
        · rw [if_pos hbb]; exact .undef _
        · rw [if_neg hbb]; exact .rk b' off len sz cap cb' o' room' h1 h2 h3
      | agg xs xs' hl hv ih => exact .agg _ _ (by rw [frzL_len]; exact hl) (fun i v c h1 h2 => by obtain ⟨u, e1, rfl⟩ := frzL_get h1; exact ih i u c e1 h2)
      | tup xs xs' hl hv ih => exact .tup _ _ (by rw [frzL_len]; exact hl) (fun i v c h1 h2 => by obtain ⟨u, e1, rfl⟩ := frzL_get h1; exact ih i u c e1 h2)
      | vs xs t cb' o' s cap g hs hI hc hv h1 hcap ht ih => exact .vs xs t cb' o' s cap g hs hI hc hv h1 hcap ht
      | vsNil t ht => exact .vsNil t ht
      | vsZ t a cap ht => exact .vsZ t a cap ht
      | undef v => exact .undef v
      | int k n => exact .int k n
      | bool b => exact .bool b
      | flt k b => exact .flt k b
      | cpx k a b => exact .cpx k a b
      | str s => exact .str s
      | nil => exact .nil
      | ptr b off cb o room h => exact .ptr b off cb o room h
      | vp xs off cb' o' g hI hc hv h1 ih => exact .vp xs off cb' o' g hI hc hv h1
      | nils => exact .nils
      | vz a cap => exact .vz a cap
      | mapNil => exact .mapNil
      | map b cb h => exact .map b cb h
      | fn f fs cs fs' cs' hf hc h1 h2 ih1 ih2 => exact .fn f fs cs fs' cs' hf hc h1 h2
      | nilfn => exact .nilfn
      | any1 v h => exact .any1 v h
    have hget : ∀ i l x, ι' i = some l → (h'.set b none).get i = some x → h'.get i = some x := fun i l x hi hx => by
      have : i ≠ b := fun e => by rw [e, hbi] at hi; cases hi
      simpa [AHeap.set, this] using hx
    refine ⟨v, ι', I', rfl, hv2, ?_, ?_⟩
    · exact { dom := H'.dom, inside := H'.inside, cells := fun i cs l hg hi => H'.cells i cs l (hget i l _ hi hg) hi, maps := fun i es l hg hi => H'.maps i es l (hget i l _ hi hg) hi, tails := fun i l hg hi => H'.tails i l (hget i l _ hi hg) hi
              disj := fun i j l l' x x' k j' hne hi hj hg hg' => H'.disj i j l l' x x' k j' hne hi hj (hget i l _ hi hg) (hget j l' _ hj hg')
              imm := fun i l x k j hi hg => H'.imm i l x k j hi (hget i l _ hi hg), Iin := H'.Iin, pl := fun i cs cb o room hg hi => H'.pl i cs cb o room (hget i _ _ hi hg) hi }
    · exact { E with
              own := fun k j ⟨i, l, x, hi, hg, hl⟩ => E.own k j ⟨i, l, x, hi, hget i l _ hi hg, hl⟩
              lost := fun i hn hi => by
                have : i ≠ b := by omega
                simp only [AHeap.set, this, if_false]; exact E.lost i hn hi }
  | some l =>
    obtain ⟨cb, o, room, rfl, _, _, _⟩ := H'.cells b cs l hg hbi
    have hv2 := hv.frz H' hg hbi
    have hget : ∀ i x, (h'.set b none).get i = some x → i ≠ b ∧ h'.get i = some x := fun i x hx => by
      by_cases hib : i = b
      · subst hib; simp [AHeap.set] at hx
      · exact ⟨hib, by simpa [AHeap.set, hib] using hx⟩
    have hmono : ∀ a c, VR ι' I' w' a c → VR ι' (frzI I' cb o room) w' a c := fun a c h => h.mono (fun _ _ h => h) (fun _ _ h => .inl h) (fun _ _ _ => rfl)
    refine ⟨v, ι', frzI I' cb o room, rfl, hv2, ?_, ?_⟩
    · exact
      { dom := H'.dom, inside := H'.inside
        cells := fun i cs l hg hi => by
          obtain ⟨cb', o', room', e1, e2, e3, e4⟩ := H'.cells i cs l (hget i _ hg).2 hi
          exact ⟨cb', o', room', e1, e2, e3, fun j hj => by obtain ⟨c, g1, g2, g3⟩ := e4 j hj; exact ⟨c, g1, g2, fun v hv => hmono _ _ (g3 v hv)⟩⟩
        maps := fun i es l hg hi => by
          obtain ⟨cb', es', clock, e1, e2, e3, e4⟩ := H'.maps i es l (hget i _ hg).2 hi
          exact ⟨cb', es', clock, e1, e2, e3, fun j k v e h1 h2 => ⟨hmono _ _ (e4 j k v e h1 h2).1, hmono _ _ (e4 j k v e h1 h2).2⟩⟩
        tails := fun i l hg hi => H'.tails i l (hget i _ hg).2 hi
        disj := fun i j l l' x x' k j' hne hi hj hg hg' => H'.disj i j l l' x x' k j' hne hi hj (hget i _ hg).2 (hget j _ hg').2
        imm := fun i l x k j hi hg hl hk => by
          rcases hk with hk | ⟨rfl, h1, h2⟩
          · exact H'.imm i l x k j hi (hget i _ hg).2 hl hk
          · exact H'.disj i b l _ x _ k j (hget i _ hg).1 hi hbi (hget i _ hg).2 ‹_› hl rfl
        Iin := fun k j hk => by
          rcases hk with hk | ⟨rfl, _, _⟩
          · exact H'.Iin k j hk
          · exact H'.inside b _ hbi
        pl := fun i cs cb o room hg hi => H'.pl i cs cb o room (hget i _ hg).2 hi }
    · exact { E with
              imm := fun k j h => .inl (E.imm k j h)
              own := fun k j ⟨i, l, x, hi, hg, hl⟩ => E.own k j ⟨i, l, x, hi, (hget i _ hg).2, hl⟩
              inew := fun k j hk => by
                rcases hk with hk | ⟨rfl, h1, h2⟩
                · exact E.inew k j hk
                · rcases E.own k j ⟨b, _, _, hbi, ‹_›, rfl⟩ with h | h
                  · exact .inr (.inl h)
                  · exact .inr (.inr h)
              lost := fun i hn hi => by
                have : i ≠ b := by omega
                simp only [AHeap.set, this, if_false]; exact E.lost i hn hi }
end
end Go.Proofs.YtjkllffbjeajhaaGreat.Am

/- The calculus as equations: for stepping through code by rewriting. -/
namespace Go.Proofs.YtjkllffbjeajhaaGreat.Am
open Go

section
variable {P : Program} {K : AExit → Env → AHeap → Prop} {ρ : Env} {h : AHeap}

theorem exec_mono {K K' : Env → AHeap → Prop} (hk : ∀ ρ h, K ρ h → K' ρ h) : ∀ {ros : List RO} {ρ : Env} {h : AHeap}, exec P ros ρ h K → exec P ros ρ h K'
  | [], ρ, h, he => hk _ _ he
  | o :: os, ρ, h, ⟨r, h', hs, he⟩ => ⟨r, h', hs, exec_mono hk he⟩

theorem WP_skip : WP P .skip K ρ h ↔ K .normal ρ h := ⟨fun ⟨_, _, _, hb, hk⟩ => by cases hb; exact hk, wp_skip'⟩
theorem WP_label {l : Nat} : WP P (.label l) K ρ h ↔ K .normal ρ h := ⟨fun ⟨_, _, _, hb, hk⟩ => by cases hb; exact hk, wp_label'⟩
theorem WP_exit {i : Nat} : WP P (.exit i) K ρ h ↔ K (.exit i) ρ h := ⟨fun ⟨_, _, _, hb, hk⟩ => by cases hb; exact hk, wp_exit'⟩
theorem WP_goto {i : Nat} : WP P (.goto i) K ρ h ↔ K (.goto i) ρ h := ⟨fun ⟨_, _, _, hb, hk⟩ => by cases hb; exact hk, wp_goto'⟩
theorem WP_ret : WP P .ret K ρ h ↔ K .ret ρ h := ⟨fun ⟨_, _, _, hb, hk⟩ => by cases hb; exact hk, wp_ret'⟩
theorem WP_reg {ros : List RO} : WP P (.reg ros) K ρ h ↔ exec P ros ρ h (K .normal) :=
  ⟨fun ⟨_, _, _, hb, hk⟩ => by cases hb; rename_i he; exact exec_mono (fun ρ h ⟨e1, e2⟩ => by subst e1; subst e2; exact hk) he, wp_reg⟩

theorem WP_seq {a b : RCode} : WP P (.seq a b) K ρ h ↔ WP P a (thenK (WP P b K) K) ρ h := by
  constructor
  · rintro ⟨e, ρ', h', hb, hk⟩
    cases hb with
    | seq b1 b2 => exact ⟨_, _, _, b1, _, _, _, b2, hk⟩
    | seqX b1 he =>
      refine ⟨_, _, _, b1, ?_⟩
      cases e with
      | normal => exact absurd rfl he
      | _ => exact hk
  · exact wp_seq'

/-- By a condition. -/
def condP (v : AV) (A B : Prop) : Prop := match v with
  | .bool c => if c = true then A else B
  | _ => False

theorem condP_bool {c : Bool} {A B : Prop} : condP (.bool c) A B ↔ if c = true then A else B := Iff.rfl

theorem WP_cond {c : Opd} {x y : RCode} : WP P (.cond c x y) K ρ h ↔ condP (c.ev ρ) (WP P x K ρ h) (WP P y K ρ h) := by
  constructor
  · rintro ⟨e, ρ', h', hb, hk⟩
    cases hb with
    | cond t hc b1 =>
      rw [hc]
      cases t
      · exact ⟨_, _, _, b1, hk⟩
      · exact ⟨_, _, _, b1, hk⟩
  · intro hc
    unfold condP at hc
    split at hc
    · rename_i t ht
      refine wp_cond' ht ?_
      cases t <;> simpa using hc
    · exact hc.elim

theorem WP_block {id : Nat} {c : RCode} : WP P (.block id c) K ρ h ↔ WP P c (blockK id K) ρ h := by
  constructor
  · rintro ⟨e, ρ', h', hb, hk⟩
    cases hb with
    | block b1 =>
      rename_i e1
      refine ⟨_, _, _, b1, ?_⟩
      cases e1 with
      | exit i =>
        simp only [blockK]
        by_cases hi : i = id
        · subst hi; simpa using hk
        · have : ¬ (AExit.exit i = AExit.exit id) := fun h => hi (AExit.exit.inj h)
          rw [if_neg this] at hk
          rw [if_neg hi]; exact hk
      | normal => simpa [blockK] using hk
      | goto l => simpa [blockK] using hk
      | ret => simpa [blockK] using hk
  · exact wp_block'

section
variable {K : Env → AHeap → Prop}

theorem exec_call_iff {d : Option Nat} {f : Nat} {as : List Opd} {os : List RO} : exec P (⟨d, none, .call f as⟩ :: os) ρ h K ↔ ∃ v h', ACalls P f (as.map (Opd.ev ρ)) h v h' ∧ exec P os (put ρ d v) h' K := by
  constructor
  · rintro ⟨r, h', hs, hk⟩
    simp only [AStep, guardVal, AOpRun] at hs
    obtain ⟨v, rfl, hv⟩ := hs
    exact ⟨v, h', hv, hk⟩
  · rintro ⟨v, h', hv, hk⟩
    exact exec_call hv hk

/-- A step that is done just if a guard says so. -/
theorem exec_guard {d : Option Nat} {g : Nat} {b : Bool} {op : ROp} {os : List RO} : exec P (⟨d, some (g, b), op⟩ :: os) ρ h K ↔ gK (ρ g) b (exec P (⟨d, none, op⟩ :: os) ρ h K) (exec P os (put ρ d (.tup [])) h K) := by
  unfold gK
  split
  · rename_i c hc
    by_cases hcb : c = b
    · subst hcb
      simp only [if_true]
      constructor
      · rintro ⟨r, h', hs, hk⟩
        simp only [AStep, guardVal, hc, beq_self_eq_true] at hs
        exact ⟨r, h', hs, hk⟩
      · rintro ⟨r, h', hs, hk⟩
        refine ⟨r, h', ?_, hk⟩
        simp only [AStep, guardVal, hc, beq_self_eq_true]
        exact hs
    · have hcb' : (c == b) = false := by simpa using hcb
      rw [if_neg hcb]
      constructor
      · rintro ⟨r, h', hs, hk⟩
        simp only [AStep, guardVal, hc, hcb'] at hs
        obtain ⟨rfl, rfl⟩ := hs
        exact hk
      · intro hk
        refine ⟨none, h, ?_, hk⟩
        simp only [AStep, guardVal, hc, hcb']
        trivial
  · rename_i hc
    constructor
    · rintro ⟨r, h', hs, hk⟩
      simp only [AStep, guardVal, hc] at hs
      obtain ⟨rfl, rfl⟩ := hs
      exact hk
    · intro hk
      refine ⟨none, h, ?_, hk⟩
      simp only [AStep, guardVal, hc]
      trivial
  · rename_i h1 h2
    constructor
    · rintro ⟨r, h', hs, hk⟩
      unfold AStep at hs
      have : guardVal ⟨d, some (g, b), op⟩ ρ = none := by
        unfold guardVal
        simp only []
      rw [this] at hs
      exact hs
    · exact fun h => h.elim
end
end

section
variable {P : Program} {ρ : Env} {h : AHeap} {K : Env → AHeap → Prop} {d : Option Nat} {os : List RO}

/-- A step's value is there, or not: then the rest. -/
def execV (P : Program) (d : Option Nat) (os : List RO) (ρ : Env) (h : AHeap) (K : Env → AHeap → Prop) (o : Option AV) : Prop := ∃ v, o = some v ∧ exec P os (put ρ d v) h K
def execA (P : Program) (d : Option Nat) (os : List RO) (ρ : Env) (h : AHeap) (K : Env → AHeap → Prop) (o : Option (Blk × AV)) : Prop := ∃ b v, o = some (b, v) ∧ exec P os (put ρ d v) (h.at h.next b) K
def execE (P : Program) (d : Option Nat) (os : List RO) (ρ : Env) (K : Env → AHeap → Prop) (o : Option (AV × AHeap)) : Prop := ∃ v h', o = some (v, h') ∧ exec P os (put ρ d v) h' K
def execC (P : Program) (d : Option Nat) (os : List RO) (ρ : Env) (h : AHeap) (K : Env → AHeap → Prop) (f : Nat) (as : List AV) : Prop := ∃ v h', ACalls P f as h v h' ∧ exec P os (put ρ d v) h' K
def execG (P : Program) (d : Option Nat) (op : ROp) (os : List RO) (ρ : Env) (h : AHeap) (K : Env → AHeap → Prop) (b : Bool) (v : AV) : Prop := gK v b (exec P (⟨d, none, op⟩ :: os) ρ h K) (exec P os (put ρ d (.tup [])) h K)
def WPc (P : Program) (x y : RCode) (K : AExit → Env → AHeap → Prop) (ρ : Env) (h : AHeap) (v : AV) : Prop := condP v (WP P x K ρ h) (WP P y K ρ h)

theorem execV_some {v : AV} : execV P d os ρ h K (some v) ↔ exec P os (put ρ d v) h K := by simp [execV]
theorem execA_some {b : Blk} {v : AV} : execA P d os ρ h K (some (b, v)) ↔ exec P os (put ρ d v) (h.at h.next b) K :=
  ⟨fun ⟨_, _, e, h⟩ => by cases e; exact h, fun h => ⟨_, _, rfl, h⟩⟩
theorem execE_some {v : AV} {h' : AHeap} : execE P d os ρ K (some (v, h')) ↔ exec P os (put ρ d v) h' K :=
  ⟨fun ⟨_, _, e, h⟩ => by cases e; exact h, fun h => ⟨_, _, rfl, h⟩⟩
theorem execC_by {f : Nat} {as : List AV} {v : AV} {h' : AHeap} (hc : ACalls P f as h v h') (hk : exec P os (put ρ d v) h' K) : execC P d os ρ h K f as := ⟨v, h', hc, hk⟩
theorem execG_tt {op : ROp} : execG P d op os ρ h K true (.bool true) ↔ exec P (⟨d, none, op⟩ :: os) ρ h K := by simp [execG, gK]
theorem execG_ff {op : ROp} : execG P d op os ρ h K false (.bool false) ↔ exec P (⟨d, none, op⟩ :: os) ρ h K := by simp [execG, gK]
theorem execG_tf {op : ROp} : execG P d op os ρ h K true (.bool false) ↔ exec P os (put ρ d (.tup [])) h K := by simp [execG, gK]
theorem execG_ft {op : ROp} : execG P d op os ρ h K false (.bool true) ↔ exec P os (put ρ d (.tup [])) h K := by simp [execG, gK]
theorem execG_tup {op : ROp} {b : Bool} : execG P d op os ρ h K b (.tup []) ↔ exec P os (put ρ d (.tup [])) h K := Iff.rfl

variable {K : AExit → Env → AHeap → Prop} {x y : RCode}
theorem WPc_t : WPc P x y K ρ h (.bool true) ↔ WP P x K ρ h := by simp [WPc, condP]
theorem WPc_f : WPc P x y K ρ h (.bool false) ↔ WP P y K ρ h := by simp [WPc, condP]

/-- Where neither way is known. -/
theorem WPc_by {p : Prop} [Decidable p] (h1 : p → WP P x K ρ h) (h2 : ¬ p → WP P y K ρ h) : WPc P x y K ρ h (.bool (decide p)) := by
  by_cases hp : p
  · simp only [hp, decide_true, WPc_t]; exact h1 hp
  · simp only [hp, decide_false, WPc_f]; exact h2 hp
theorem WPc_bool {b : Bool} (h1 : b = true → WP P x K ρ h) (h2 : b = false → WP P y K ρ h) : WPc P x y K ρ h (.bool b) := by
  cases b
  · rw [WPc_f]; exact h2 rfl
  · rw [WPc_t]; exact h1 rfl
theorem execG_by {op : ROp} {K : Env → AHeap → Prop} {b : Bool} {p : Prop} [Decidable p] (h1 : p → execG P d op os ρ h K b (.bool true)) (h2 : ¬ p → execG P d op os ρ h K b (.bool false)) : execG P d op os ρ h K b (.bool (decide p)) := by
  by_cases hp : p
  · simp only [hp, decide_true]; exact h1 hp
  · simp only [hp, decide_false]; exact h2 hp
theorem execG_bool {op : ROp} {K : Env → AHeap → Prop} {b c : Bool} (h1 : c = true → execG P d op os ρ h K b (.bool true)) (h2 : c = false → execG P d op os ρ h K b (.bool false)) : execG P d op os ρ h K b (.bool c) := by
  cases c
  · exact h2 rfl
  · exact h1 rfl
end

/-- A region that draws its order, where nothing needs to be looked at twice. -/
def execD0 (P : Program) (n base : Nat) : List RO → Nat → Env → AHeap → (Env → AHeap → Prop) → Prop
  | [], _, ρ, h, K => K ρ h
  | o :: os, i, ρ, h, K => ∃ r h', AStep P o (base + i) ρ h r h' ∧ (o.op.eff = true → ∀ j, i < j → j < n → h'.get (base + j) = none) ∧ execD0 P n base os (i + 1) (put ρ o.dst (resOf r)) h' K

theorem execD_of0 {P : Program} {ros : List RO} {un : List (List Nat)} {base : Nat} {K : Env → AHeap → Prop} (hu : un.all (·.isEmpty) = true) : ∀ (os : List RO) (i : Nat) (ρ : Env) (h : AHeap) (done : List (Env × AHeap × Option AV)),
    execD0 P ros.length base os i ρ h K → execD P ros un base os i ρ h done K
  | [], i, ρ, h, done, he => he
  | o :: os, i, ρ, h, done, ⟨r, h', hs, hf, he⟩ => by
    refine ⟨r, h', hs, fun k hk => ?_, hf, execD_of0 hu os (i + 1) _ h' _ he⟩
    have : un.getD i [] = [] := by
      rw [List.getD_eq_getElem?_getD]
      cases hq : un[i]? with
      | none => rfl
      | some l =>
        have := List.all_eq_true.1 hu l (List.mem_of_getElem? hq)
        cases l with
        | nil => rfl
        | cons a b => simp at this
    rw [this] at hk
    cases hk

theorem WP_regD0 {P : Program} {ros : List RO} {un : List (List Nat)} {K : AExit → Env → AHeap → Prop} {ρ : Env} {h : AHeap} (hu : un.all (·.isEmpty) = true) (he : execD0 P ros.length h.next ros 0 ρ (h.clean ros.length) (K .normal)) : WP P (.regD ros un) K ρ h := by
  obtain ⟨ρ1, h1, he, hk⟩ := execD_post (execD_of0 hu ros 0 ρ _ [] he)
  exact ⟨_, _, _, .regC he, hk⟩

section
variable {P : Program} {n base i : Nat} {ρ : Env} {h : AHeap} {K : Env → AHeap → Prop} {d : Option Nat} {os : List RO}

def eDV (P : Program) (n base : Nat) (os : List RO) (i : Nat) (d : Option Nat) (ρ : Env) (h : AHeap) (K : Env → AHeap → Prop) (o : Option AV) : Prop := ∃ v, o = some v ∧ execD0 P n base os (i + 1) (put ρ d v) h K
def eDA (P : Program) (n base : Nat) (os : List RO) (i : Nat) (d : Option Nat) (ρ : Env) (h : AHeap) (K : Env → AHeap → Prop) (o : Option (Blk × AV)) : Prop := ∃ b v, o = some (b, v) ∧ execD0 P n base os (i + 1) (put ρ d v) (h.at (base + i) b) K
def freeD (n base i : Nat) (h : AHeap) : Prop := ∀ j, i < j → j < n → h.get (base + j) = none
def eDE (P : Program) (n base : Nat) (os : List RO) (i : Nat) (d : Option Nat) (ρ : Env) (K : Env → AHeap → Prop) (o : Option (AV × AHeap)) : Prop := ∃ v h', o = some (v, h') ∧ freeD n base i h' ∧ execD0 P n base os (i + 1) (put ρ d v) h' K
def eDC (P : Program) (n base : Nat) (os : List RO) (i : Nat) (d : Option Nat) (ρ : Env) (h : AHeap) (K : Env → AHeap → Prop) (f : Nat) (as : List AV) : Prop := ∃ v h', ACalls P f as h v h' ∧ freeD n base i h' ∧ execD0 P n base os (i + 1) (put ρ d v) h' K
def eDG (P : Program) (n base : Nat) (op : ROp) (os : List RO) (i : Nat) (d : Option Nat) (ρ : Env) (h : AHeap) (K : Env → AHeap → Prop) (b : Bool) (v : AV) : Prop :=
  gK v b (execD0 P n base (⟨d, none, op⟩ :: os) i ρ h K) (freeD n base i h ∧ execD0 P n base os (i + 1) (put ρ d (.tup [])) h K)

theorem eD_p {q : POp} : execD0 P n base (⟨d, none, .p q⟩ :: os) i ρ h K ↔ eDV P n base os i d ρ h K (apure q ρ h) := by
  constructor
  · rintro ⟨r, h', hs, _, he⟩
    simp only [AStep, guardVal, AOpRun] at hs
    obtain ⟨v, rfl, hv, rfl⟩ := hs
    exact ⟨v, hv, he⟩
  · rintro ⟨v, hv, he⟩
    exact ⟨some v, h, ⟨v, rfl, hv, rfl⟩, fun hh => by simp [ROp.eff] at hh, he⟩
theorem eD_a {q : AOp} : execD0 P n base (⟨d, none, .a q⟩ :: os) i ρ h K ↔ eDA P n base os i d ρ h K (aalloc q ρ (base + i)) := by
  constructor
  · rintro ⟨r, h', hs, _, he⟩
    simp only [AStep, guardVal, AOpRun] at hs
    obtain ⟨v, rfl, b, hv, rfl⟩ := hs
    exact ⟨b, v, hv, he⟩
  · rintro ⟨b, v, hv, he⟩
    exact ⟨some v, _, ⟨v, rfl, b, hv, rfl⟩, fun hh => by simp [ROp.eff] at hh, he⟩
theorem eD_e {q : EOp} : execD0 P n base (⟨d, none, .e q⟩ :: os) i ρ h K ↔ eDE P n base os i d ρ K (aeff q ρ (base + i) h) := by
  constructor
  · rintro ⟨r, h', hs, hf, he⟩
    simp only [AStep, guardVal, AOpRun] at hs
    obtain ⟨v, rfl, hv⟩ := hs
    exact ⟨v, h', hv, hf rfl, he⟩
  · rintro ⟨v, h', hv, hf, he⟩
    exact ⟨some v, h', ⟨v, rfl, hv⟩, fun _ => hf, he⟩
theorem eD_c {f : Nat} {as : List Opd} : execD0 P n base (⟨d, none, .call f as⟩ :: os) i ρ h K ↔ eDC P n base os i d ρ h K f (as.map (Opd.ev ρ)) := by
  constructor
  · rintro ⟨r, h', hs, hf, he⟩
    simp only [AStep, guardVal, AOpRun] at hs
    obtain ⟨v, rfl, hv⟩ := hs
    exact ⟨v, h', hv, hf rfl, he⟩
  · rintro ⟨v, h', hv, hf, he⟩
    exact ⟨some v, h', ⟨v, rfl, hv⟩, fun _ => hf, he⟩
theorem eD_g {g : Nat} {b : Bool} {op : ROp} (he : eDG P n base op os i d ρ h K b (ρ g)) : execD0 P n base (⟨d, some (g, b), op⟩ :: os) i ρ h K := by
  unfold eDG gK at he
  split at he
  · rename_i c hc
    by_cases hcb : c = b
    · subst hcb
      rw [if_pos rfl] at he
      obtain ⟨r, h', hs, hf, he⟩ := he
      refine ⟨r, h', ?_, hf, he⟩
      simp only [AStep, guardVal, hc, beq_self_eq_true]
      exact hs
    · have hcb' : (c == b) = false := by simpa using hcb
      rw [if_neg hcb] at he
      refine ⟨none, h, ?_, fun _ => he.1, he.2⟩
      simp only [AStep, guardVal, hc, hcb']
      trivial
  · rename_i hc
    refine ⟨none, h, ?_, fun _ => he.1, he.2⟩
    simp only [AStep, guardVal, hc]
    trivial
  · exact he.elim
theorem eD_gp {g : Nat} {b : Bool} {q : POp} : execD0 P n base (⟨d, some (g, b), .p q⟩ :: os) i ρ h K ↔ gK (ρ g) b (execD0 P n base (⟨d, none, .p q⟩ :: os) i ρ h K) (execD0 P n base os (i + 1) (put ρ d (.tup [])) h K) := by
  unfold gK
  split
  · rename_i c hc
    by_cases hcb : c = b
    · subst hcb
      rw [if_pos rfl]
      constructor
      · rintro ⟨r, h', hs, hf, he⟩
        simp only [AStep, guardVal, hc, beq_self_eq_true] at hs
        exact ⟨r, h', hs, hf, he⟩
      · rintro ⟨r, h', hs, hf, he⟩
        refine ⟨r, h', ?_, hf, he⟩
        simp only [AStep, guardVal, hc, beq_self_eq_true]
        exact hs
    · have hcb' : (c == b) = false := by simpa using hcb
      rw [if_neg hcb]
      constructor
      · rintro ⟨r, h', hs, hf, he⟩
        simp only [AStep, guardVal, hc, hcb'] at hs
        obtain ⟨rfl, rfl⟩ := hs
        exact he
      · intro he
        refine ⟨none, h, ?_, fun hh => by simp [ROp.eff] at hh, he⟩
        simp only [AStep, guardVal, hc, hcb']
        trivial
  · rename_i hc
    constructor
    · rintro ⟨r, h', hs, hf, he⟩
      simp only [AStep, guardVal, hc] at hs
      obtain ⟨rfl, rfl⟩ := hs
      exact he
    · intro he
      refine ⟨none, h, ?_, fun hh => by simp [ROp.eff] at hh, he⟩
      simp only [AStep, guardVal, hc]
      trivial
  · constructor
    · rintro ⟨r, h', hs, hf, he⟩
      unfold AStep at hs
      have : guardVal ⟨d, some (g, b), .p q⟩ ρ = none := by unfold guardVal; simp only []
      rw [this] at hs
      exact hs
    · exact fun h => h.elim

theorem eD_gc {g : Nat} {b : Bool} {f : Nat} {as : List Opd} : execD0 P n base (⟨d, some (g, b), .call f as⟩ :: os) i ρ h K ↔ eDG P n base (.call f as) os i d ρ h K b (ρ g) := by
  refine ⟨?_, eD_g⟩
  rintro ⟨r, h', hs, hf, he⟩
  unfold eDG gK
  split
  · rename_i c hc
    by_cases hcb : c = b
    · subst hcb
      rw [if_pos rfl]
      simp only [AStep, guardVal, hc, beq_self_eq_true] at hs
      exact ⟨r, h', hs, hf, he⟩
    · have hcb' : (c == b) = false := by simpa using hcb
      rw [if_neg hcb]
      simp only [AStep, guardVal, hc, hcb'] at hs
      obtain ⟨rfl, rfl⟩ := hs
      exact ⟨hf rfl, he⟩
  · rename_i hc
    simp only [AStep, guardVal, hc] at hs
    obtain ⟨rfl, rfl⟩ := hs
    exact ⟨hf rfl, he⟩
  · unfold AStep at hs
    have : guardVal ⟨d, some (g, b), .call f as⟩ ρ = none := by unfold guardVal; simp only []
    rw [this] at hs
    exact hs.elim
theorem eDG_tt {op : ROp} : eDG P n base op os i d ρ h K true (.bool true) ↔ execD0 P n base (⟨d, none, op⟩ :: os) i ρ h K := by simp [eDG, gK]
theorem eDG_ff {op : ROp} : eDG P n base op os i d ρ h K false (.bool false) ↔ execD0 P n base (⟨d, none, op⟩ :: os) i ρ h K := by simp [eDG, gK]
theorem eDG_tf {op : ROp} : eDG P n base op os i d ρ h K true (.bool false) ↔ freeD n base i h ∧ execD0 P n base os (i + 1) (put ρ d (.tup [])) h K := by simp [eDG, gK]
theorem eDG_ft {op : ROp} : eDG P n base op os i d ρ h K false (.bool true) ↔ freeD n base i h ∧ execD0 P n base os (i + 1) (put ρ d (.tup [])) h K := by simp [eDG, gK]
theorem eDG_tup {op : ROp} {b : Bool} : eDG P n base op os i d ρ h K b (.tup []) ↔ freeD n base i h ∧ execD0 P n base os (i + 1) (put ρ d (.tup [])) h K := Iff.rfl

/-- A pure step behind a guard, as data. -/
def eDH (P : Program) (n base : Nat) (q : POp) (os : List RO) (i : Nat) (d : Option Nat) (ρ : Env) (h : AHeap) (K : Env → AHeap → Prop) (b : Bool) (v : AV) : Prop :=
  gK v b (execD0 P n base (⟨d, none, .p q⟩ :: os) i ρ h K) (execD0 P n base os (i + 1) (put ρ d (.tup [])) h K)
theorem eD_h {g : Nat} {b : Bool} {q : POp} : execD0 P n base (⟨d, some (g, b), .p q⟩ :: os) i ρ h K ↔ eDH P n base q os i d ρ h K b (ρ g) := eD_gp
theorem eDH_tt {q : POp} : eDH P n base q os i d ρ h K true (.bool true) ↔ execD0 P n base (⟨d, none, .p q⟩ :: os) i ρ h K := by simp [eDH, gK]
theorem eDH_ff {q : POp} : eDH P n base q os i d ρ h K false (.bool false) ↔ execD0 P n base (⟨d, none, .p q⟩ :: os) i ρ h K := by simp [eDH, gK]
theorem eDH_tf {q : POp} : eDH P n base q os i d ρ h K true (.bool false) ↔ execD0 P n base os (i + 1) (put ρ d (.tup [])) h K := by simp [eDH, gK]
theorem eDH_ft {q : POp} : eDH P n base q os i d ρ h K false (.bool true) ↔ execD0 P n base os (i + 1) (put ρ d (.tup [])) h K := by simp [eDH, gK]
theorem eDH_tup {q : POp} {b : Bool} : eDH P n base q os i d ρ h K b (.tup []) ↔ execD0 P n base os (i + 1) (put ρ d (.tup [])) h K := Iff.rfl
theorem eDH_by {q : POp} {b : Bool} {p : Prop} [Decidable p] (h1 : p → eDH P n base q os i d ρ h K b (.bool true)) (h2 : ¬ p → eDH P n base q os i d ρ h K b (.bool false)) : eDH P n base q os i d ρ h K b (.bool (decide p)) := by
  by_cases hp : p
  · simp only [hp, decide_true]; exact h1 hp
  · simp only [hp, decide_false]; exact h2 hp
theorem freeD_clean {n m : Nat} {h : AHeap} : freeD n h.next i (h.clean m) ↔ True := by
  simp only [freeD, iff_true, AHeap.clean]
  intro j _ _
  rw [if_neg (by omega)]
theorem freeD_set {b : Nat} {x : Option Blk} (hb : b < base) : freeD n base i (h.set b x) ↔ freeD n base i h := by
  simp only [freeD, AHeap.set]
  exact ⟨fun hh j h1 h2 => by have := hh j h1 h2; rwa [if_neg (by omega)] at this, fun hh j h1 h2 => by rw [if_neg (by omega)]; exact hh j h1 h2⟩
theorem eDV_some {v : AV} : eDV P n base os i d ρ h K (some v) ↔ execD0 P n base os (i + 1) (put ρ d v) h K := by simp [eDV]
theorem eDA_some {b : Blk} {v : AV} : eDA P n base os i d ρ h K (some (b, v)) ↔ execD0 P n base os (i + 1) (put ρ d v) (h.at (base + i) b) K :=
  ⟨fun ⟨_, _, e, h⟩ => by cases e; exact h, fun h => ⟨_, _, rfl, h⟩⟩
theorem eDE_some {v : AV} {h' : AHeap} : eDE P n base os i d ρ K (some (v, h')) ↔ freeD n base i h' ∧ execD0 P n base os (i + 1) (put ρ d v) h' K :=
  ⟨fun ⟨_, _, e, h⟩ => by cases e; exact h, fun h => ⟨_, _, rfl, h⟩⟩
theorem eDC_by {f : Nat} {as : List AV} {v : AV} {h' : AHeap} (hc : ACalls P f as h v h') (hf : freeD n base i h') (hk : execD0 P n base os (i + 1) (put ρ d v) h' K) : eDC P n base os i d ρ h K f as := ⟨v, h', hc, hf, hk⟩
end

/-- Is a step looked at by another one? -/
def flagD (un : List (List Nat)) (k : Nat) : Bool := !(un.getD k []).isEmpty || un.any (·.contains k)
def keyLt (base : Nat) : Option Nat → Prop
  | none => True
  | some b => b < base
def keepsB (base : Nat) (h h' : AHeap) : Prop := ∀ b, b < base → h'.get b = h.get b

/-- A region that draws its order, where what was there stays as it is. -/
def execD2 (P : Program) (un : List (List Nat)) (n base : Nat) : List RO → Nat → Env → AHeap → (Env → AHeap → Prop) → Prop
  | [], _, ρ, h, K => K ρ h
  | o :: os, i, ρ, h, K => ∃ r h', AStep P o (base + i) ρ h r h' ∧ (o.op.eff = true → ∀ j, i < j → j < n → h'.get (base + j) = none) ∧ keepsB base h h' ∧
      (∀ q, o.op = .p q → flagD un i = true → keyLt base (q.key ρ)) ∧ execD2 P un n base os (i + 1) (put ρ o.dst (resOf r)) h' K

theorem execD_of2 {P : Program} {ros : List RO} {un : List (List Nat)} {base : Nat} {K : Env → AHeap → Prop} : ∀ (os : List RO) (i : Nat) (ρ : Env) (h : AHeap) (done : List (Env × AHeap × Option AV)),
    done.length = i → ros.drop i = os →
    (∀ k d, done[k]? = some d → keepsB base d.2.1 h ∧ ∀ ok q v, ros[k]? = some ok → ok.op = .p q → flagD un k = true → d.2.2 = some v → apure q d.1 d.2.1 = some v ∧ keyLt base (q.key d.1)) →
    execD2 P un ros.length base os i ρ h K → execD P ros un base os i ρ h done K
  | [], i, ρ, h, done, _, _, _, he => he
  | o :: os, i, ρ, h, done, hl, hd, hinv, ⟨r, h', hs, hf, hk, hkey, he⟩ => by
    have hoi : ros[i]? = some o := by
      have : (ros.drop i)[0]? = some o := by rw [hd]; rfl
      rw [List.getElem?_drop] at this
      simpa using this
    have hfl : ∀ k, k ∈ un.getD i [] → flagD un i = true ∧ flagD un k = true := fun k hk => by
      constructor
      · unfold flagD
        cases hq : un.getD i [] with
        | nil => rw [hq] at hk; cases hk
        | cons a b => rfl
      · unfold flagD
        have : un.any (fun l => l.contains k) = true := by
          rw [List.any_eq_true]
          rw [List.getD_eq_getElem?_getD] at hk
          cases hq : un[i]? with
          | none => rw [hq] at hk; cases hk
          | some l => rw [hq] at hk; exact ⟨l, List.mem_of_getElem? hq, by simpa using hk⟩
        rw [this, Bool.or_true]
    have hval : ∀ q v, o.op = .p q → r = some v → apure q ρ h = some v ∧ h' = h := fun q v hq hr => by
      unfold AStep at hs
      split at hs
      · obtain ⟨v', h1, h2⟩ := hs
        rw [hr] at h1; cases h1
        rw [hq] at h2
        exact h2
      · rw [hr] at hs; cases hs.1
      · exact hs.elim
    refine ⟨r, h', hs, fun k hkm ok d hok hdk => ?_, hf, ?_⟩
    · obtain ⟨f1, f2⟩ := hfl k hkm
      obtain ⟨hold, hrec⟩ := hinv k d hdk
      unfold chk
      split
      · split
        · rename_i v q hv hq
          obtain ⟨h1, h2⟩ := hrec ok q v hok hq f2 hv
          rw [← h1]
          refine (apure_key q d.1 d.2.1 h' (fun b hb => ?_)).symm
          rw [hb] at h2
          rw [hk b h2, hold b h2]
        · trivial
      · split
        · rename_i v q hq
          obtain ⟨h1, rfl⟩ := hval q v hq rfl
          have h2 := hkey q hq f1
          rw [← h1]
          refine apure_key q ρ d.2.1 h' (fun b hb => ?_)
          rw [hb] at h2
          exact (hold b h2).symm
        · trivial
    · refine execD_of2 os (i + 1) _ h' _ (by simp [hl]) ?_ ?_ he
      · rw [← List.drop_drop, hd]; rfl
      · intro k d hdk
        rw [List.getElem?_append] at hdk
        split at hdk
        · obtain ⟨g1, g2⟩ := hinv k d hdk
          exact ⟨fun b hb => by rw [hk b hb, g1 b hb], g2⟩
        · rename_i hlt
          have hki : k = i := by
            have := (List.getElem?_eq_some_iff.1 hdk).1
            simp at this; omega
          subst hki
          simp [hl] at hdk
          subst hdk
          refine ⟨hk, fun ok q v hok hq hfl hv => ?_⟩
          rw [hoi] at hok; cases hok
          exact ⟨(hval q v hq hv).1, hkey q hq hfl⟩

theorem WP_regD2 {P : Program} {ros : List RO} {un : List (List Nat)} {K : AExit → Env → AHeap → Prop} {ρ : Env} {h : AHeap} (he : execD2 P un ros.length h.next ros 0 ρ (h.clean ros.length) (K .normal)) : WP P (.regD ros un) K ρ h := by
  obtain ⟨ρ1, h1, he, hk⟩ := execD_post (execD_of2 ros 0 ρ _ [] rfl rfl (fun k d hd => by simp at hd) he)
  exact ⟨_, _, _, .regC he, hk⟩

section
variable {P : Program} {un : List (List Nat)} {n base i : Nat} {ρ : Env} {h : AHeap} {K : Env → AHeap → Prop} {d : Option Nat} {os : List RO}

def e2V (P : Program) (un : List (List Nat)) (n base : Nat) (os : List RO) (i : Nat) (d : Option Nat) (ρ : Env) (h : AHeap) (K : Env → AHeap → Prop) (o : Option AV) : Prop := ∃ v, o = some v ∧ execD2 P un n base os (i + 1) (put ρ d v) h K
def e2A (P : Program) (un : List (List Nat)) (n base : Nat) (os : List RO) (i : Nat) (d : Option Nat) (ρ : Env) (h : AHeap) (K : Env → AHeap → Prop) (o : Option (Blk × AV)) : Prop := ∃ b v, o = some (b, v) ∧ execD2 P un n base os (i + 1) (put ρ d v) (h.at (base + i) b) K
def e2E (P : Program) (un : List (List Nat)) (n base : Nat) (os : List RO) (i : Nat) (d : Option Nat) (ρ : Env) (h : AHeap) (K : Env → AHeap → Prop) (o : Option (AV × AHeap)) : Prop := ∃ v h', o = some (v, h') ∧ freeD n base i h' ∧ keepsB base h h' ∧ execD2 P un n base os (i + 1) (put ρ d v) h' K
def e2C (P : Program) (un : List (List Nat)) (n base : Nat) (os : List RO) (i : Nat) (d : Option Nat) (ρ : Env) (h : AHeap) (K : Env → AHeap → Prop) (f : Nat) (as : List AV) : Prop := ∃ v h', ACalls P f as h v h' ∧ freeD n base i h' ∧ keepsB base h h' ∧ execD2 P un n base os (i + 1) (put ρ d v) h' K
def e2H (P : Program) (un : List (List Nat)) (n base : Nat) (q : POp) (os : List RO) (i : Nat) (d : Option Nat) (ρ : Env) (h : AHeap) (K : Env → AHeap → Prop) (b : Bool) (v : AV) : Prop :=
  gK v b (execD2 P un n base (⟨d, none, .p q⟩ :: os) i ρ h K) (execD2 P un n base os (i + 1) (put ρ d (.tup [])) h K)
def e2G (P : Program) (un : List (List Nat)) (n base : Nat) (f : Nat) (as : List Opd) (os : List RO) (i : Nat) (d : Option Nat) (ρ : Env) (h : AHeap) (K : Env → AHeap → Prop) (b : Bool) (v : AV) : Prop :=
  gK v b (e2C P un n base os i d ρ h K f (as.map (Opd.ev ρ))) (freeD n base i h ∧ execD2 P un n base os (i + 1) (put ρ d (.tup [])) h K)

theorem e2_p {q : POp} : execD2 P un n base (⟨d, none, .p q⟩ :: os) i ρ h K ↔ (flagD un i = true → keyLt base (q.key ρ)) ∧ e2V P un n base os i d ρ h K (apure q ρ h) := by
  constructor
  · rintro ⟨r, h', hs, _, _, hk, he⟩
    simp only [AStep, guardVal, AOpRun] at hs
    obtain ⟨v, rfl, hv, rfl⟩ := hs
    exact ⟨hk q rfl, v, hv, he⟩
  · rintro ⟨hk, v, hv, he⟩
    exact ⟨some v, h, ⟨v, rfl, hv, rfl⟩, fun hh => by simp [ROp.eff] at hh, fun _ _ => rfl, (fun q' hq => by cases hq; exact hk), he⟩
theorem e2_a {q : AOp} (he : e2A P un n base os i d ρ h K (aalloc q ρ (base + i))) : execD2 P un n base (⟨d, none, .a q⟩ :: os) i ρ h K := by
  obtain ⟨b, v, hv, he⟩ := he
  exact ⟨some v, _, ⟨v, rfl, b, hv, rfl⟩, fun hh => by simp [ROp.eff] at hh, fun b hb => by simp only [AHeap.at]; rw [if_neg (by omega)], (fun q' hq => by cases hq), he⟩
theorem e2_a' {q : AOp} : execD2 P un n base (⟨d, none, .a q⟩ :: os) i ρ h K ↔ e2A P un n base os i d ρ h K (aalloc q ρ (base + i)) := by
  refine ⟨?_, e2_a⟩
  rintro ⟨r, h', hs, _, _, hk, he⟩
  simp only [AStep, guardVal, AOpRun] at hs
  obtain ⟨v, rfl, b, hv, rfl⟩ := hs
  exact ⟨b, v, hv, he⟩
theorem e2_e {q : EOp} : execD2 P un n base (⟨d, none, .e q⟩ :: os) i ρ h K ↔ e2E P un n base os i d ρ h K (aeff q ρ (base + i) h) := by
  constructor
  · rintro ⟨r, h', hs, hf, hk, _, he⟩
    simp only [AStep, guardVal, AOpRun] at hs
    obtain ⟨v, rfl, hv⟩ := hs
    exact ⟨v, h', hv, hf rfl, hk, he⟩
  · rintro ⟨v, h', hv, hf, hk, he⟩
    exact ⟨some v, h', ⟨v, rfl, hv⟩, fun _ => hf, hk, (fun q' hq => by cases hq), he⟩
theorem e2_c {f : Nat} {as : List Opd} : execD2 P un n base (⟨d, none, .call f as⟩ :: os) i ρ h K ↔ e2C P un n base os i d ρ h K f (as.map (Opd.ev ρ)) := by
  constructor
  · rintro ⟨r, h', hs, hf, hk, _, he⟩
    simp only [AStep, guardVal, AOpRun] at hs
    obtain ⟨v, rfl, hv⟩ := hs
    exact ⟨v, h', hv, hf rfl, hk, he⟩
  · rintro ⟨v, h', hv, hf, hk, he⟩
    exact ⟨some v, h', ⟨v, rfl, hv⟩, fun _ => hf, hk, fun q' hq => (by cases hq), he⟩
/-- A call that leaves the heap. -/
theorem e2C_by {f : Nat} {as : List AV} {v : AV} (hc : ACalls P f as h v h) (hf : freeD n base i h) (he : execD2 P un n base os (i + 1) (put ρ d v) h K) : e2C P un n base os i d ρ h K f as := ⟨v, h, hc, hf, fun _ _ => rfl, he⟩
theorem e2_h {g : Nat} {b : Bool} {q : POp} (hk : flagD un i = true → keyLt base (q.key ρ)) (he : e2H P un n base q os i d ρ h K b (ρ g)) : execD2 P un n base (⟨d, some (g, b), .p q⟩ :: os) i ρ h K := by
  unfold e2H gK at he
  split at he
  · rename_i c hc
    by_cases hcb : c = b
    · subst hcb
      rw [if_pos rfl] at he
      obtain ⟨r, h', hs, hf, hkp, hk', he⟩ := he
      refine ⟨r, h', ?_, hf, hkp, hk', he⟩
      simp only [AStep, guardVal, hc, beq_self_eq_true]
      exact hs
    · have hcb' : (c == b) = false := by simpa using hcb
      rw [if_neg hcb] at he
      refine ⟨none, h, ?_, fun hh => by simp [ROp.eff] at hh, fun _ _ => rfl, (fun q' hq => by cases hq; exact hk), he⟩
      simp only [AStep, guardVal, hc, hcb']
      trivial
  · rename_i hc
    refine ⟨none, h, ?_, fun hh => by simp [ROp.eff] at hh, fun _ _ => rfl, (fun q' hq => by cases hq; exact hk), he⟩
    simp only [AStep, guardVal, hc]
    trivial
  · exact he.elim
/-- By a guard. -/
def e3H (P : Program) (un : List (List Nat)) (n base : Nat) (q : POp) (os : List RO) (i : Nat) (d : Option Nat) (ρ : Env) (h : AHeap) (K : Env → AHeap → Prop) (b : Bool) (v : AV) : Prop :=
  gK v b (e2V P un n base os i d ρ h K (apure q ρ h)) (execD2 P un n base os (i + 1) (put ρ d (.tup [])) h K)
def e3G (P : Program) (un : List (List Nat)) (n base : Nat) (f : Nat) (as : List AV) (os : List RO) (i : Nat) (d : Option Nat) (ρ : Env) (h : AHeap) (K : Env → AHeap → Prop) (b : Bool) (v : AV) : Prop :=
  gK v b (e2C P un n base os i d ρ h K f as) (freeD n base i h ∧ execD2 P un n base os (i + 1) (put ρ d (.tup [])) h K)
theorem gK_cases {v : AV} {b : Bool} {A B : Prop} (hg : gK v b A B) : (v = .bool b ∧ A) ∨ ((v = .bool (!b) ∨ v = .tup []) ∧ B) := by
  unfold gK at hg
  split at hg
  · rename_i c
    by_cases hc : c = b
    · subst hc; rw [if_pos rfl] at hg; exact .inl ⟨rfl, hg⟩
    · rw [if_neg hc] at hg
      refine .inr ⟨.inl ?_, hg⟩
      cases c <;> cases b <;> first | rfl | exact (hc rfl).elim
  · exact .inr ⟨.inr rfl, hg⟩
  · exact hg.elim
theorem gK_yes {v : AV} {b : Bool} {A B : Prop} (hv : v = .bool b) (ha : A) : gK v b A B := by subst hv; simp [gK, ha]
theorem gK_no {v : AV} {b : Bool} {A B : Prop} (hv : v = .bool (!b) ∨ v = .tup []) (hb : B) : gK v b A B := by
  rcases hv with rfl | rfl
  · cases b <;> simp [gK, hb]
  · simp [gK, hb]
theorem guard_yes {ro : RO} {g : Nat} {b : Bool} (hr : ro.guard = some (g, b)) (hv : ρ g = .bool b) : guardVal ro ρ = some true := by simp [guardVal, hr, hv]
theorem guard_no {ro : RO} {g : Nat} {b : Bool} (hr : ro.guard = some (g, b)) (hv : ρ g = .bool (!b) ∨ ρ g = .tup []) : guardVal ro ρ = some false := by
  rcases hv with hv | hv
  · cases b <;> simp [guardVal, hr, hv]
  · simp [guardVal, hr, hv]
theorem guard_some {ro : RO} {g : Nat} {b : Bool} (hr : ro.guard = some (g, b)) {c : Bool} (h : guardVal ro ρ = some c) : (c = true ∧ ρ g = .bool b) ∨ (c = false ∧ (ρ g = .bool (!b) ∨ ρ g = .tup [])) := by
  unfold guardVal at h
  rw [hr] at h
  simp only at h
  split at h
  · rename_i x hx
    cases h
    cases x <;> cases b <;> simp [hx]
  · rename_i hx; cases h; exact .inr ⟨rfl, .inr hx⟩
  · cases h

theorem e3_h {g : Nat} {b : Bool} {q : POp} : execD2 P un n base (⟨d, some (g, b), .p q⟩ :: os) i ρ h K ↔ (flagD un i = true → keyLt base (q.key ρ)) ∧ e3H P un n base q os i d ρ h K b (ρ g) := by
  constructor
  · rintro ⟨r, h', hs, _, _, hk, he⟩
    refine ⟨hk q rfl, ?_⟩
    unfold AStep at hs
    split at hs
    · rename_i hg
      obtain ⟨v, rfl, hv, rfl⟩ := hs
      rcases guard_some rfl hg with ⟨_, hv'⟩ | ⟨hf, _⟩
      · exact gK_yes hv' ⟨v, hv, he⟩
      · cases hf
    · rename_i hg
      obtain ⟨rfl, rfl⟩ := hs
      rcases guard_some rfl hg with ⟨hf, _⟩ | ⟨_, hv'⟩
      · cases hf
      · exact gK_no hv' he
    · exact hs.elim
  · rintro ⟨hk, he⟩
    rcases gK_cases he with ⟨hv, v, hv2, he⟩ | ⟨hv, he⟩
    · exact ⟨some v, h, by unfold AStep; rw [guard_yes rfl hv]; exact ⟨v, rfl, hv2, rfl⟩, fun hh => by simp [ROp.eff] at hh, fun _ _ => rfl, (fun q' hq => by cases hq; exact hk), he⟩
    · exact ⟨none, h, by unfold AStep; rw [guard_no rfl hv]; exact ⟨rfl, rfl⟩, fun hh => by simp [ROp.eff] at hh, fun _ _ => rfl, (fun q' hq => by cases hq; exact hk), he⟩

theorem e3_g {g : Nat} {b : Bool} {f : Nat} {as : List Opd} : execD2 P un n base (⟨d, some (g, b), .call f as⟩ :: os) i ρ h K ↔ e3G P un n base f (as.map (Opd.ev ρ)) os i d ρ h K b (ρ g) := by
  constructor
  · rintro ⟨r, h', hs, hf, hkp, hk, he⟩
    unfold AStep at hs
    split at hs
    · rename_i hg
      obtain ⟨v, rfl, hv⟩ := hs
      rcases guard_some rfl hg with ⟨_, hv'⟩ | ⟨hf, _⟩
      · exact gK_yes hv' ⟨v, h', hv, hf rfl, hkp, he⟩
      · cases hf
    · rename_i hg
      obtain ⟨rfl, rfl⟩ := hs
      rcases guard_some rfl hg with ⟨hf, _⟩ | ⟨_, hv'⟩
      · cases hf
      · exact gK_no hv' ⟨hf rfl, he⟩
    · exact hs.elim
  · intro he
    rcases gK_cases he with ⟨hv, v, h', hc, hf, hkp, he⟩ | ⟨hv, hf, he⟩
    · exact ⟨some v, h', by unfold AStep; rw [guard_yes rfl hv]; exact ⟨v, rfl, hc⟩, fun _ => hf, hkp, (fun q' hq => by cases hq), he⟩
    · exact ⟨none, h, by unfold AStep; rw [guard_no rfl hv]; exact ⟨rfl, rfl⟩, fun _ => hf, fun _ _ => rfl, (fun q' hq => by cases hq), he⟩

theorem e2E_some {v : AV} {h' : AHeap} : e2E P un n base os i d ρ h K (some (v, h')) ↔ freeD n base i h' ∧ keepsB base h h' ∧ execD2 P un n base os (i + 1) (put ρ d v) h' K :=
  ⟨fun ⟨_, _, e, h⟩ => by cases e; exact h, fun h => ⟨_, _, rfl, h⟩⟩
def kv : AV → Option Nat
  | .ptr b _ => some b
  | _ => none
theorem key_load {ag : Bool} {sz : Nat} {x : Opd} : (POp.load ag sz x).key ρ = kv (x.ev ρ) := by
  simp only [POp.key]
  cases x.ev ρ <;> rfl
theorem e2V_some {v : AV} : e2V P un n base os i d ρ h K (some v) ↔ execD2 P un n base os (i + 1) (put ρ d v) h K := by simp [e2V]
theorem e2A_some {b : Blk} {v : AV} : e2A P un n base os i d ρ h K (some (b, v)) ↔ execD2 P un n base os (i + 1) (put ρ d v) (h.at (base + i) b) K :=
  ⟨fun ⟨_, _, e, h⟩ => by cases e; exact h, fun h => ⟨_, _, rfl, h⟩⟩
end

def mapOf (h : AHeap) (b : Nat) : Option (List (AV × AV)) := match h.get b with
  | some (.map es) => some es
  | _ => none
theorem mapOf_of {h : AHeap} {b : Nat} {es : List (AV × AV)} (e : h.get b = some (.map es)) : mapOf h b = some es := by simp [mapOf, e]

def wrapM (z : AV) (ok : Bool) (r : Option AV) : AV := match r with
  | some v => if ok then .tup [v, .bool true] else v
  | none => if ok then .tup [z, .bool false] else z

theorem lookupM_some {z : AV} {ok : Bool} {h : AHeap} {b : Nat} {kd : IntKind} {n : Int} : lookupM z ok h (.map (some b)) (.int kd n) = (mapOf h b).bind fun es => (lookupA (.int kd n) es).map (wrapM z ok) := by
  unfold lookupM mapOf
  simp only []
  split
  · rename_i es he; rw [he]; simp only [Option.bind_some]; congr 1
  · rename_i he
    split
    · rename_i es hes; exact absurd hes (he es)
    · rfl

def mapUpdF (h : AHeap) (m k v : AV) : Option (AV × AHeap) := match m, k with
  | .map (some b), .int kd n => match h.get b with
    | some (.map es) => (mapSet (.int kd n) v.strip es).map fun es' => (.undef, h.set b (some (.map es')))
    | _ => none
  | _, _ => none
theorem mapUpdF_some {h : AHeap} {b : Nat} {kd : IntKind} {n : Int} {v : AV} : mapUpdF h (.map (some b)) (.int kd n) v = (mapOf h b).bind fun es => (mapSet (.int kd n) v.strip es).map fun es' => (.undef, h.set b (some (.map es'))) := by
  unfold mapUpdF mapOf
  cases hg : h.get b with
  | none => simp [hg]
  | some x => cases x <;> simp [hg]
def mapDelF (h : AHeap) (m k : AV) : Option (AV × AHeap) := match m, k with
  | .map (some b), .int kd n => match h.get b with
    | some (.map es) => (mapDel (.int kd n) es).map fun es' => (.tup [], h.set b (some (.map es')))
    | _ => none
  | _, _ => none
theorem mapDelF_some {h : AHeap} {b : Nat} {kd : IntKind} {n : Int} : mapDelF h (.map (some b)) (.int kd n) = (mapOf h b).bind fun es => (mapDel (.int kd n) es).map fun es' => (.tup [], h.set b (some (.map es'))) := by
  unfold mapDelF mapOf
  cases hg : h.get b with
  | none => simp [hg]
  | some x => cases x <;> simp [hg]
theorem aeff_mapupd {ρ : Env} {id : Nat} {h : AHeap} {m k v : Opd} : aeff (.mapupd m k v) ρ id h = mapUpdF h (m.ev ρ) (k.ev ρ) (v.ev ρ) := rfl
theorem aeff_mapdel {ρ : Env} {id : Nat} {h : AHeap} {m k : Opd} : aeff (.mapdel m k) ρ id h = mapDelF h (m.ev ρ) (k.ev ρ) := rfl

/-- What was appended to, and how: the value of an append. -/
def appF (bytes sz id : Nat) (h : AHeap) (x : AV) : Option (List (List AV)) → Option (AV × AHeap)
  | none => none
  | some ys => match x with
    | .vs xs t =>
      if ys = [] then some (.vs xs t, h) else
      if headOk sz xs ∧ (xs.length + ys.length) * bytes < 2 ^ 40 ∧ xs.length + ys.length < 2 ^ 40 then
        match t with
        | .full => some (.vs (xs ++ ys) (.own id), h.at id .tail)
        | .own t => match h.get t with
          | some .tail => some (.vs (xs ++ ys) (.own id), (h.set t none).at id .tail)
          | _ => none
        | .unk => none
      else none
    | .nils =>
      if ys = [] then some (.nils, h) else
      if ys.length * bytes < 2 ^ 40 ∧ ys.length < 2 ^ 40 then some (.vs ys (.own id), h.at id .tail) else none
    | _ => none
theorem aeff_append {ρ : Env} {id bytes sz : Nat} {h : AHeap} {x y : Opd} : aeff (.append bytes sz x y) ρ id h = appF bytes sz id h (x.ev ρ) (rowsA sz h (y.ev ρ)) := by
  simp only [aeff]
  cases rowsA sz h (y.ev ρ) <;> rfl

/-- A list that is being made: nobody else has it. -/
def AccAt (base : Nat) (h : AHeap) (a : AV) (xs : List (List AV)) : Prop := (a = .vs [] .full ∧ xs = []) ∨ ∃ t, a = .vs xs (.own t) ∧ h.get t = some .tail ∧ base ≤ t ∧ t < h.next

theorem AccAt.nil {base : Nat} {h : AHeap} : AccAt base h (.vs [] .full) [] := .inl ⟨rfl, rfl⟩
theorem AccAt.vs {base : Nat} {h : AHeap} {a : AV} {xs : List (List AV)} (A : AccAt base h a xs) : ∃ t, a = .vs xs t := by
  rcases A with ⟨rfl, rfl⟩ | ⟨t, rfl, _⟩
  · exact ⟨_, rfl⟩
  · exact ⟨_, rfl⟩
theorem AccAt.of {base : Nat} {h h' : AHeap} {a : AV} {xs : List (List AV)} (A : AccAt base h a xs) (hn : h.next ≤ h'.next) (hk : ∀ t, h.get t = some .tail → h'.get t = some .tail) : AccAt base h' a xs := by
  rcases A with ⟨rfl, rfl⟩ | ⟨t, rfl, h1, h2, h3⟩
  · exact .nil
  · exact .inr ⟨t, rfl, hk t h1, h2, by omega⟩

theorem acc_append {base bytes sz id : Nat} {h : AHeap} {a : AV} {xs ys : List (List AV)} (A : AccAt base h a xs) (hid : h.next ≤ id) (hb : base ≤ id) (hy : ys ≠ []) (hh : headOk sz xs = true) (h1 : (xs.length + ys.length) * bytes < 2 ^ 40) (h2 : xs.length + ys.length < 2 ^ 40) :
    ∃ a' h', appF bytes sz id h a (some ys) = some (a', h') ∧ AccAt base h' a' (xs ++ ys) ∧ h'.next = id + 1 ∧ (∀ b, b ≠ id → h.get b ≠ some .tail → h'.get b = h.get b) ∧ ∀ b, b < base → h'.get b = h.get b := by
  rcases A with ⟨rfl, rfl⟩ | ⟨t, rfl, h3, h4, h5⟩
  · refine ⟨.vs ([] ++ ys) (.own id), h.at id .tail, ?_, .inr ⟨id, rfl, by simp [AHeap.at], hb, by simp [AHeap.at]; omega⟩, by simp [AHeap.at]; omega, fun b hb _ => by simp [AHeap.at, hb], fun b hb => by simp [AHeap.at]; omega⟩
    simp only [appF]
    rw [if_neg hy, if_pos ⟨hh, h1, h2⟩]
  · refine ⟨.vs (xs ++ ys) (.own id), (h.set t none).at id .tail, ?_, .inr ⟨id, rfl, by simp [AHeap.at], hb, by simp [AHeap.at, AHeap.set]; omega⟩, by simp [AHeap.at, AHeap.set]; omega, fun b hb hn => ?_, fun b hb => ?_⟩
    · simp only [appF]
      rw [if_neg hy, if_pos ⟨hh, h1, h2⟩]
      simp only [h3]
    · have : b ≠ t := fun e => hn (by rw [e]; exact h3)
      simp [AHeap.at, AHeap.set, hb, this]
    · have e1 : b ≠ t := by omega
      have e2 : b ≠ id := by omega
      simp [AHeap.at, AHeap.set, e1, e2]

def bndV : AV → Option Nat
  | .int _ i => if 0 ≤ i then some i.toNat else none
  | _ => none
theorem boundA_some {ρ : Env} {d : Nat} {x : Opd} : boundA ρ d (some x) = bndV (x.ev ρ) := by
  unfold boundA bndV
  generalize e : x.ev ρ = y
  cases y <;> simp only [e]
theorem aslice_vs {ρ : Env} {sz : Nat} {xs : List (List AV)} {t : Tail} {lo hi : Option Opd} : aslice ρ sz (.vs xs t) lo hi none = (boundA ρ xs.length hi).bind fun h => (boundA ρ 0 lo).bind fun l =>
    if l ≤ h ∧ h ≤ xs.length ∧ headOk sz xs = true then some (.vs ((xs.drop l).take (h - l)) (sliceTail t xs.length l h)) else none := rfl
theorem freeD_weak {n base i j : Nat} {h : AHeap} (hf : freeD n base i h) (hij : i ≤ j) : freeD n base j h := fun k h1 h2 => hf k (by omega) h2
theorem freeD_of {n base i bl : Nat} {h h' : AHeap} (hf : freeD n base i h) (hk : ∀ b, b < h.next → b ≠ bl → h'.get b = h.get b) (hn : base + n ≤ h.next) (hb : bl < base) : freeD n base i h' := fun k h1 h2 => by
  rw [hk _ (by omega) (by omega)]
  exact hf k h1 h2

/- Slices whose room is known. -/
def appRF (bytes sz id : Nat) (h : AHeap) (x : AV) : Option (List (List AV)) → Option (AV × AHeap)
  | none => none
  | some ys => match x with
    | .vs [] .full => if ys = [] then some (.vs [] .full, h) else if ys.length * bytes < 2 ^ 40 ∧ ys.length < 2 ^ 40 then some (.rs id 0 ys.length sz, h.at id (.cells ys.flatten)) else none
    | .nils => if ys = [] then some (.nils, h) else if ys.length * bytes < 2 ^ 40 ∧ ys.length < 2 ^ 40 then some (.rs id 0 ys.length sz, h.at id (.cells ys.flatten)) else none
    | .rs b off len sz' =>
      if ys = [] then some (.rs b off len sz', h) else
      (cellsOf h b).bind fun cs => if sz' = sz ∧ off = 0 ∧ len * sz ≤ cs.length ∧ (len + ys.length) * bytes < 2 ^ 40 ∧ len + ys.length < 2 ^ 40 then
          some (.rs id 0 (len + ys.length) sz, (h.set b none).at id (.cells (cs.take (len * sz) ++ ys.flatten)))
        else none
    | .rk b off len sz' cap => (cellsOf h b).bind fun cs => if sz' = sz ∧ len + ys.length ≤ cap ∧ off + len * sz ≤ cs.length then
          some (.rk b off (len + ys.length) sz cap, h.set b (some (.cells (setAt cs (off + len * sz) ys.flatten))))
        else none
    | _ => none
theorem aeff_appendR {ρ : Env} {id bytes sz : Nat} {h : AHeap} {x y : Opd} : aeff (.appendR bytes sz x y) ρ id h = appRF bytes sz id h (x.ev ρ) (rowsA sz h (y.ev ρ)) := by
  simp only [aeff]
  generalize x.ev ρ = v
  cases rowsA sz h (y.ev ρ) with
  | none => rfl
  | some ys =>
    cases v <;> try rfl
    case vs xs t => cases xs <;> cases t <;> rfl
    case rs b off len sz' => simp only [appRF]; cases cellsOf h b <;> rfl
    case rk b off len sz' cap => simp only [appRF]; cases cellsOf h b <;> rfl

def appZF (bytes : Nat) (z : List AV) (id : Nat) (h : AHeap) (x n : AV) : Option (AV × AHeap) :=
  match n with
  | .int _ m =>
    if 0 < m ∧ m < 2 ^ 40 then
      match x with
      | .nils => if m.toNat * bytes < 2 ^ 40 then some (.rs id 0 m.toNat z.length, h.at id (.cells (List.replicate m.toNat z).flatten)) else none
      | .rk b off len sz' cap => (cellsOf h b).bind fun cs =>
          if sz' = z.length ∧ cap < len + m.toNat ∧ off + len * z.length ≤ cs.length ∧ (len + m.toNat) * bytes < 2 ^ 40 ∧ len + m.toNat < 2 ^ 40 then
            some (.rs id 0 (len + m.toNat) z.length, h.at id (.cells (rowsOf cs off z.length len ++ List.replicate m.toNat z).flatten))
          else none
      | _ => none
    else none
  | _ => none
theorem aeff_appendZ {ρ : Env} {id bytes : Nat} {z : List AV} {h : AHeap} {x n : Opd} : aeff (.appendZ bytes z x n) ρ id h = appZF bytes z id h (x.ev ρ) (n.ev ρ) := by
  simp only [aeff, appZF]
  generalize x.ev ρ = v
  generalize n.ev ρ = u
  cases u <;> try rfl
  cases v <;> try rfl
  case rk b off len sz' cap => simp only []; cases cellsOf h b <;> rfl

def copyKF (sz : Nat) (h : AHeap) (x y : AV) : Option (AV × AHeap) :=
  match x with
  | .rk b off len sz' _ => (lenA y).bind fun m => (rowsN sz (min m len) h y).bind fun ys => (cellsOf h b).bind fun cs =>
      if sz' = sz ∧ off ≤ cs.length then some (.int .i64 (min m len : Nat), h.set b (some (.cells (setAt cs off ys.flatten)))) else none
  | _ => none
theorem aeff_copyK {ρ : Env} {id sz : Nat} {h : AHeap} {x y : Opd} : aeff (.copyK sz x y) ρ id h = copyKF sz h (x.ev ρ) (y.ev ρ) := by
  simp only [aeff, copyKF]
  cases x.ev ρ <;> try rfl
  rename_i b off len sz' cap
  cases lenA (y.ev ρ) with
  | none => rfl
  | some m =>
    simp only [Option.bind_some]
    cases rowsN sz (min m len) h (y.ev ρ) with
    | none => rfl
    | some ys => cases cellsOf h b <;> rfl

def copyF (sz : Nat) (h : AHeap) (x y : AV) : Option (AV × AHeap) :=
  match x with
  | .rs b off len sz' => (rowsA sz h y).bind fun ys => (cellsOf h b).bind fun cs =>
      if sz' = sz ∧ off + len * sz ≤ cs.length then some (.int .i64 (min ys.length len : Nat), h.set b (some (.cells (setAt cs off (ys.take (min ys.length len)).flatten)))) else none
  | .vs [] _ => (rowsA sz h y).bind fun _ => some (.int .i64 0, h)
  | .nils => (rowsA sz h y).bind fun _ => some (.int .i64 0, h)
  | _ => none
theorem aeff_copy {ρ : Env} {id sz : Nat} {h : AHeap} {x y : Opd} : aeff (.copy sz x y) ρ id h = copyF sz h (x.ev ρ) (y.ev ρ) := by
  simp only [aeff, copyF]
  generalize x.ev ρ = v
  generalize rowsA sz h (y.ev ρ) = r
  cases v <;> try rfl
  case vs xs t => cases xs <;> cases r <;> rfl
  case rs b off len sz' => simp only []; cases r <;> cases cellsOf h b <;> rfl
  case nils => cases r <;> rfl

def markF (h : AHeap) (x : AV) : Option (AV × AHeap) :=
  match x with
  | .rs b off len sz => (cellsOf h b).bind fun cs => if off + len * sz ≤ cs.length then some (.vs (rowsOf cs off sz len) .unk, h.set b none) else none
  | _ => none
theorem aeff_mark {ρ : Env} {id : Nat} {h : AHeap} {x : Opd} : aeff (.mark x) ρ id h = markF h (x.ev ρ) := by
  simp only [aeff, markF]
  generalize x.ev ρ = v
  cases v <;> try rfl
  case rs b off len sz => simp only []; cases cellsOf h b <;> rfl

def clearKF (z : List AV) (h : AHeap) (x : AV) : Option (AV × AHeap) :=
  match x with
  | .rk b off len sz' _ => (cellsOf h b).bind fun cs => if sz' = z.length ∧ off + len * z.length ≤ cs.length then some (.tup [], h.set b (some (.cells (setAt cs off (List.replicate len z).flatten)))) else none
  | .vs [] _ => some (.tup [], h)
  | .nils => some (.tup [], h)
  | _ => none
theorem aeff_clearK {ρ : Env} {id : Nat} {z : List AV} {h : AHeap} {x : Opd} : aeff (.clearK z x) ρ id h = clearKF z h (x.ev ρ) := by
  simp only [aeff, clearKF]
  generalize x.ev ρ = v
  cases v <;> try rfl
  case vs xs t => cases xs <;> rfl
  case rk b off len sz' cap => simp only []; cases cellsOf h b <;> rfl

theorem aslice_rk {ρ : Env} {sz b off len sz' cap : Nat} {lo hi mx : Option Opd} : aslice ρ sz (.rk b off len sz' cap) lo hi mx = (boundA ρ len hi).bind fun h => (boundA ρ 0 lo).bind fun l => (boundA ρ cap mx).bind fun m =>
    if l ≤ h ∧ h ≤ m ∧ m ≤ cap ∧ sz' = sz ∧ (mx.isSome → hi.isSome) then (if m = l then some (.vs [] .full) else some (.rk b (off + l * sz) (h - l) sz (m - l))) else none := rfl
theorem aslice_rs {ρ : Env} {sz b off len sz' : Nat} {lo hi : Option Opd} : aslice ρ sz (.rs b off len sz') lo hi none = (boundA ρ len hi).bind fun h => (boundA ρ 0 lo).bind fun l =>
    if l ≤ h ∧ h ≤ len ∧ sz' = sz then (if l = h then (if lo.isNone then some (.rs b off 0 sz) else some (.vs [] .unk)) else some (.rs b (off + l * sz) (h - l) sz)) else none := by
  simp [aslice]
theorem rowsA_rk {sz b off len sz' cap : Nat} {h : AHeap} : rowsA sz h (.rk b off len sz' cap) = if sz' = sz then (cellsOf h b).bind fun cs => if off + len * sz ≤ cs.length then some (rowsOf cs off sz len) else none else none := by
  simp only [rowsA]
  split
  · cases cellsOf h b <;> rfl
  · rfl
theorem rowsN_rk {sz n b off len sz' cap : Nat} {h : AHeap} : rowsN sz n h (.rk b off len sz' cap) = if sz' = sz ∧ n ≤ len then (cellsOf h b).bind fun cs => if off + n * sz ≤ cs.length then some (rowsOf cs off sz n) else none else none := by
  simp only [rowsN]
  split
  · cases cellsOf h b <;> rfl
  · rfl
end Go.Proofs.YtjkllffbjeajhaaGreat.Am

/- The equations for stepping, as one. -/
namespace Go.Proofs.YtjkllffbjeajhaaGreat.Am
open Go
theorem st : ((∀ {P : Program} {K : AExit → Env → AHeap → Prop} {ρ : Env} {h : AHeap}, WP P .skip K ρ h ↔ K .normal ρ h)
 ∧ (∀ {P : Program} {K : AExit → Env → AHeap → Prop} {ρ : Env} {h : AHeap} {l : Nat}, WP P (.label l) K ρ h ↔ K .normal ρ h)
 ∧ (∀ {P : Program} {K : AExit → Env → AHeap → Prop} {ρ : Env} {h : AHeap} {l : Nat}, WP P (.exit l) K ρ h ↔ K (.exit l) ρ h)
 ∧ (∀ {P : Program} {K : AExit → Env → AHeap → Prop} {ρ : Env} {h : AHeap} {l : Nat}, WP P (.goto l) K ρ h ↔ K (.goto l) ρ h)
 ∧ (∀ {P : Program} {K : AExit → Env → AHeap → Prop} {ρ : Env} {h : AHeap}, WP P .ret K ρ h ↔ K .ret ρ h)
 ∧ (∀ {P : Program} {K : AExit → Env → AHeap → Prop} {ρ : Env} {h : AHeap} {ros : List RO}, WP P (.reg ros) K ρ h ↔ exec P ros ρ h (K .normal))
 ∧ (∀ {P : Program} {K : AExit → Env → AHeap → Prop} {ρ : Env} {h : AHeap} {a b : RCode}, WP P (.seq a b) K ρ h ↔ WP P a (thenK (WP P b K) K) ρ h)
 ∧ (∀ {P : Program} {K : AExit → Env → AHeap → Prop} {ρ : Env} {h : AHeap} {c : Opd} {a b : RCode}, WP P (.cond c a b) K ρ h ↔ WPc P a b K ρ h (c.ev ρ))
 ∧ (∀ {P : Program} {K : AExit → Env → AHeap → Prop} {ρ : Env} {h : AHeap} {a b : RCode}, WPc P a b K ρ h (.bool true) ↔ WP P a K ρ h)
 ∧ (∀ {P : Program} {K : AExit → Env → AHeap → Prop} {ρ : Env} {h : AHeap} {a b : RCode}, WPc P a b K ρ h (.bool false) ↔ WP P b K ρ h)
 ∧ (∀ {P : Program} {K : AExit → Env → AHeap → Prop} {ρ : Env} {h : AHeap} {id : Nat} {c : RCode}, WP P (.block id c) K ρ h ↔ WP P c (blockK id K) ρ h)
 ∧ (∀ {k : Env → AHeap → Prop} {K : AExit → Env → AHeap → Prop} {ρ : Env} {h : AHeap}, thenK k K .normal ρ h = k ρ h)
 ∧ (∀ {k : Env → AHeap → Prop} {K : AExit → Env → AHeap → Prop} {ρ : Env} {h : AHeap}, thenK k K .ret ρ h = K .ret ρ h)
 ∧ (∀ {k : Env → AHeap → Prop} {K : AExit → Env → AHeap → Prop} {ρ : Env} {h : AHeap} {i : Nat}, thenK k K (.exit i) ρ h = K (.exit i) ρ h)
 ∧ (∀ {k : Env → AHeap → Prop} {K : AExit → Env → AHeap → Prop} {ρ : Env} {h : AHeap} {i : Nat}, thenK k K (.goto i) ρ h = K (.goto i) ρ h)
 ∧ (∀ {id : Nat} {K : AExit → Env → AHeap → Prop} {ρ : Env} {h : AHeap}, blockK id K .normal ρ h = K .normal ρ h)
 ∧ (∀ {id : Nat} {K : AExit → Env → AHeap → Prop} {ρ : Env} {h : AHeap}, blockK id K .ret ρ h = K .ret ρ h)
 ∧ (∀ {id i : Nat} {K : AExit → Env → AHeap → Prop} {ρ : Env} {h : AHeap}, blockK id K (.exit i) ρ h = if i = id then K .normal ρ h else K (.exit i) ρ h))
 ∧ ((∀ {id i : Nat} {K : AExit → Env → AHeap → Prop} {ρ : Env} {h : AHeap}, blockK id K (.goto i) ρ h = K (.goto i) ρ h)
 ∧ (∀ {l : Nat} {J : Env → AHeap → Prop} {K : AExit → Env → AHeap → Prop} {ρ : Env} {h : AHeap}, jumpK l J K .normal ρ h = K .normal ρ h)
 ∧ (∀ {l : Nat} {J : Env → AHeap → Prop} {K : AExit → Env → AHeap → Prop} {ρ : Env} {h : AHeap}, jumpK l J K .ret ρ h = K .ret ρ h)
 ∧ (∀ {l i : Nat} {J : Env → AHeap → Prop} {K : AExit → Env → AHeap → Prop} {ρ : Env} {h : AHeap}, jumpK l J K (.exit i) ρ h = K (.exit i) ρ h)
 ∧ (∀ {l i : Nat} {J : Env → AHeap → Prop} {K : AExit → Env → AHeap → Prop} {ρ : Env} {h : AHeap}, jumpK l J K (.goto i) ρ h = if i = l then J ρ h else K (.goto i) ρ h)
 ∧ (∀ {P : Program} {K : Env → AHeap → Prop} {ρ : Env} {h : AHeap}, exec P [] ρ h K ↔ K ρ h)
 ∧ (∀ {P : Program} {K : Env → AHeap → Prop} {ρ : Env} {h : AHeap} {d : Option Nat} {os : List RO} {q : POp}, exec P (⟨d, none, .p q⟩ :: os) ρ h K ↔ execV P d os ρ h K (apure q ρ h))
 ∧ (∀ {P : Program} {K : Env → AHeap → Prop} {ρ : Env} {h : AHeap} {d : Option Nat} {os : List RO} {v : AV}, execV P d os ρ h K (some v) ↔ exec P os (put ρ d v) h K)
 ∧ (∀ {P : Program} {K : Env → AHeap → Prop} {ρ : Env} {h : AHeap} {d : Option Nat} {os : List RO} {q : AOp}, exec P (⟨d, none, .a q⟩ :: os) ρ h K ↔ execA P d os ρ h K (aalloc q ρ h.next))
 ∧ (∀ {P : Program} {K : Env → AHeap → Prop} {ρ : Env} {h : AHeap} {d : Option Nat} {os : List RO} {b : Blk} {v : AV}, execA P d os ρ h K (some (b, v)) ↔ exec P os (put ρ d v) (h.at h.next b) K)
 ∧ (∀ {P : Program} {K : Env → AHeap → Prop} {ρ : Env} {h : AHeap} {d : Option Nat} {os : List RO} {q : EOp}, exec P (⟨d, none, .e q⟩ :: os) ρ h K ↔ execE P d os ρ K (aeff q ρ h.next h))
 ∧ (∀ {P : Program} {K : Env → AHeap → Prop} {ρ : Env} {d : Option Nat} {os : List RO} {v : AV} {h' : AHeap}, execE P d os ρ K (some (v, h')) ↔ exec P os (put ρ d v) h' K)
 ∧ (∀ {P : Program} {K : Env → AHeap → Prop} {ρ : Env} {h : AHeap} {d : Option Nat} {os : List RO} {f : Nat} {as : List Opd}, exec P (⟨d, none, .call f as⟩ :: os) ρ h K ↔ execC P d os ρ h K f (as.map (Opd.ev ρ)))
 ∧ (∀ {P : Program} {K : Env → AHeap → Prop} {ρ : Env} {h : AHeap} {d : Option Nat} {os : List RO} {g : Nat} {b : Bool} {op : ROp}, exec P (⟨d, some (g, b), op⟩ :: os) ρ h K ↔ execG P d op os ρ h K b (ρ g))
 ∧ (∀ {P : Program} {K : Env → AHeap → Prop} {ρ : Env} {h : AHeap} {d : Option Nat} {os : List RO} {op : ROp}, execG P d op os ρ h K true (.bool true) ↔ exec P (⟨d, none, op⟩ :: os) ρ h K)
 ∧ (∀ {P : Program} {K : Env → AHeap → Prop} {ρ : Env} {h : AHeap} {d : Option Nat} {os : List RO} {op : ROp}, execG P d op os ρ h K false (.bool false) ↔ exec P (⟨d, none, op⟩ :: os) ρ h K)
 ∧ (∀ {P : Program} {K : Env → AHeap → Prop} {ρ : Env} {h : AHeap} {d : Option Nat} {os : List RO} {op : ROp}, execG P d op os ρ h K true (.bool false) ↔ exec P os (put ρ d (.tup [])) h K)
 ∧ (∀ {P : Program} {K : Env → AHeap → Prop} {ρ : Env} {h : AHeap} {d : Option Nat} {os : List RO} {op : ROp}, execG P d op os ρ h K false (.bool true) ↔ exec P os (put ρ d (.tup [])) h K))
 ∧ ((∀ {P : Program} {K : Env → AHeap → Prop} {ρ : Env} {h : AHeap} {d : Option Nat} {os : List RO} {op : ROp} {b : Bool}, execG P d op os ρ h K b (.tup []) ↔ exec P os (put ρ d (.tup [])) h K)
 ∧ (∀ {P : Program} {n base i : Nat} {ρ : Env} {h : AHeap} {K : Env → AHeap → Prop}, execD0 P n base [] i ρ h K ↔ K ρ h)
 ∧ (∀ {P : Program} {n base i : Nat} {ρ : Env} {h : AHeap} {K : Env → AHeap → Prop} {d : Option Nat} {os : List RO} {q : POp}, execD0 P n base (⟨d, none, .p q⟩ :: os) i ρ h K ↔ eDV P n base os i d ρ h K (apure q ρ h))
 ∧ (∀ {P : Program} {n base i : Nat} {ρ : Env} {h : AHeap} {K : Env → AHeap → Prop} {d : Option Nat} {os : List RO} {q : AOp}, execD0 P n base (⟨d, none, .a q⟩ :: os) i ρ h K ↔ eDA P n base os i d ρ h K (aalloc q ρ (base + i)))
 ∧ (∀ {P : Program} {n base i : Nat} {ρ : Env} {h : AHeap} {K : Env → AHeap → Prop} {d : Option Nat} {os : List RO} {q : EOp}, execD0 P n base (⟨d, none, .e q⟩ :: os) i ρ h K ↔ eDE P n base os i d ρ K (aeff q ρ (base + i) h))
 ∧ (∀ {P : Program} {n base i : Nat} {ρ : Env} {h : AHeap} {K : Env → AHeap → Prop} {d : Option Nat} {os : List RO} {f : Nat} {as : List Opd}, execD0 P n base (⟨d, none, .call f as⟩ :: os) i ρ h K ↔ eDC P n base os i d ρ h K f (as.map (Opd.ev ρ)))
 ∧ (∀ {P : Program} {n base i : Nat} {ρ : Env} {h : AHeap} {K : Env → AHeap → Prop} {d : Option Nat} {os : List RO} {g : Nat} {b : Bool} {q : POp}, execD0 P n base (⟨d, some (g, b), .p q⟩ :: os) i ρ h K ↔ eDH P n base q os i d ρ h K b (ρ g))
 ∧ (∀ {P : Program} {n base i : Nat} {ρ : Env} {h : AHeap} {K : Env → AHeap → Prop} {d : Option Nat} {os : List RO} {g : Nat} {b : Bool} {f : Nat} {as : List Opd}, execD0 P n base (⟨d, some (g, b), .call f as⟩ :: os) i ρ h K ↔ eDG P n base (.call f as) os i d ρ h K b (ρ g))
 ∧ (∀ {P : Program} {n base i : Nat} {ρ : Env} {h : AHeap} {K : Env → AHeap → Prop} {d : Option Nat} {os : List RO} {q : POp}, eDH P n base q os i d ρ h K true (.bool true) ↔ execD0 P n base (⟨d, none, .p q⟩ :: os) i ρ h K)
 ∧ (∀ {P : Program} {n base i : Nat} {ρ : Env} {h : AHeap} {K : Env → AHeap → Prop} {d : Option Nat} {os : List RO} {op : ROp}, eDG P n base op os i d ρ h K true (.bool true) ↔ execD0 P n base (⟨d, none, op⟩ :: os) i ρ h K)
 ∧ (∀ {P : Program} {n base i : Nat} {ρ : Env} {h : AHeap} {K : Env → AHeap → Prop} {d : Option Nat} {os : List RO} {q : POp}, eDH P n base q os i d ρ h K false (.bool false) ↔ execD0 P n base (⟨d, none, .p q⟩ :: os) i ρ h K)
 ∧ (∀ {P : Program} {n base i : Nat} {ρ : Env} {h : AHeap} {K : Env → AHeap → Prop} {d : Option Nat} {os : List RO} {op : ROp}, eDG P n base op os i d ρ h K false (.bool false) ↔ execD0 P n base (⟨d, none, op⟩ :: os) i ρ h K)
 ∧ (∀ {P : Program} {n base i : Nat} {ρ : Env} {h : AHeap} {K : Env → AHeap → Prop} {d : Option Nat} {os : List RO} {q : POp}, eDH P n base q os i d ρ h K true (.bool false) ↔ execD0 P n base os (i + 1) (put ρ d (.tup [])) h K)
 ∧ (∀ {P : Program} {n base i : Nat} {ρ : Env} {h : AHeap} {K : Env → AHeap → Prop} {d : Option Nat} {os : List RO} {op : ROp}, eDG P n base op os i d ρ h K true (.bool false) ↔ freeD n base i h ∧ execD0 P n base os (i + 1) (put ρ d (.tup [])) h K)
 ∧ (∀ {P : Program} {n base i : Nat} {ρ : Env} {h : AHeap} {K : Env → AHeap → Prop} {d : Option Nat} {os : List RO} {q : POp}, eDH P n base q os i d ρ h K false (.bool true) ↔ execD0 P n base os (i + 1) (put ρ d (.tup [])) h K)
 ∧ (∀ {P : Program} {n base i : Nat} {ρ : Env} {h : AHeap} {K : Env → AHeap → Prop} {d : Option Nat} {os : List RO} {op : ROp}, eDG P n base op os i d ρ h K false (.bool true) ↔ freeD n base i h ∧ execD0 P n base os (i + 1) (put ρ d (.tup [])) h K)
 ∧ (∀ {P : Program} {n base i : Nat} {ρ : Env} {h : AHeap} {K : Env → AHeap → Prop} {d : Option Nat} {os : List RO} {q : POp} {b : Bool}, eDH P n base q os i d ρ h K b (.tup []) ↔ execD0 P n base os (i + 1) (put ρ d (.tup [])) h K)
 ∧ (∀ {P : Program} {n base i : Nat} {ρ : Env} {h : AHeap} {K : Env → AHeap → Prop} {d : Option Nat} {os : List RO} {op : ROp} {b : Bool}, eDG P n base op os i d ρ h K b (.tup []) ↔ freeD n base i h ∧ execD0 P n base os (i + 1) (put ρ d (.tup [])) h K))
 ∧ ((∀ {P : Program} {n base i : Nat} {ρ : Env} {h : AHeap} {K : Env → AHeap → Prop} {d : Option Nat} {os : List RO} {v : AV}, eDV P n base os i d ρ h K (some v) ↔ execD0 P n base os (i + 1) (put ρ d v) h K)
 ∧ (∀ {P : Program} {n base i : Nat} {ρ : Env} {h : AHeap} {K : Env → AHeap → Prop} {d : Option Nat} {os : List RO} {b : Blk} {v : AV}, eDA P n base os i d ρ h K (some (b, v)) ↔ execD0 P n base os (i + 1) (put ρ d v) (h.at (base + i) b) K)
 ∧ (∀ {P : Program} {n base i : Nat} {ρ : Env} {K : Env → AHeap → Prop} {d : Option Nat} {os : List RO} {v : AV} {h' : AHeap}, eDE P n base os i d ρ K (some (v, h')) ↔ freeD n base i h' ∧ execD0 P n base os (i + 1) (put ρ d v) h' K)
 ∧ (∀ {P : Program} {un : List (List Nat)} {n base i : Nat} {ρ : Env} {h : AHeap} {K : Env → AHeap → Prop}, execD2 P un n base [] i ρ h K ↔ K ρ h)
 ∧ (∀ {P : Program} {un : List (List Nat)} {n base i : Nat} {ρ : Env} {h : AHeap} {K : Env → AHeap → Prop} {d : Option Nat} {os : List RO} {q : POp}, execD2 P un n base (⟨d, none, .p q⟩ :: os) i ρ h K ↔ (flagD un i = true → keyLt base (q.key ρ)) ∧ e2V P un n base os i d ρ h K (apure q ρ h))
 ∧ (∀ {P : Program} {un : List (List Nat)} {n base i : Nat} {ρ : Env} {h : AHeap} {K : Env → AHeap → Prop} {d : Option Nat} {os : List RO} {q : AOp}, execD2 P un n base (⟨d, none, .a q⟩ :: os) i ρ h K ↔ e2A P un n base os i d ρ h K (aalloc q ρ (base + i)))
 ∧ (∀ {P : Program} {un : List (List Nat)} {n base i : Nat} {ρ : Env} {h : AHeap} {K : Env → AHeap → Prop} {d : Option Nat} {os : List RO} {f : Nat} {as : List Opd}, execD2 P un n base (⟨d, none, .call f as⟩ :: os) i ρ h K ↔ e2C P un n base os i d ρ h K f (as.map (Opd.ev ρ)))
 ∧ (∀ {P : Program} {un : List (List Nat)} {n base i : Nat} {ρ : Env} {h : AHeap} {K : Env → AHeap → Prop} {d : Option Nat} {os : List RO} {g : Nat} {b : Bool} {q : POp}, execD2 P un n base (⟨d, some (g, b), .p q⟩ :: os) i ρ h K ↔ (flagD un i = true → keyLt base (q.key ρ)) ∧ e3H P un n base q os i d ρ h K b (ρ g))
 ∧ (∀ {P : Program} {un : List (List Nat)} {n base i : Nat} {ρ : Env} {h : AHeap} {K : Env → AHeap → Prop} {d : Option Nat} {os : List RO} {g : Nat} {b : Bool} {f : Nat} {as : List Opd}, execD2 P un n base (⟨d, some (g, b), .call f as⟩ :: os) i ρ h K ↔ e3G P un n base f (as.map (Opd.ev ρ)) os i d ρ h K b (ρ g))
 ∧ (∀ {P : Program} {un : List (List Nat)} {n base i : Nat} {ρ : Env} {h : AHeap} {K : Env → AHeap → Prop} {d : Option Nat} {os : List RO} {q : EOp}, execD2 P un n base (⟨d, none, .e q⟩ :: os) i ρ h K ↔ e2E P un n base os i d ρ h K (aeff q ρ (base + i) h))
 ∧ (∀ {P : Program} {un : List (List Nat)} {n base i : Nat} {ρ : Env} {h : AHeap} {K : Env → AHeap → Prop} {d : Option Nat} {os : List RO} {q : POp}, e3H P un n base q os i d ρ h K true (.bool true) ↔ e2V P un n base os i d ρ h K (apure q ρ h))
 ∧ (∀ {P : Program} {un : List (List Nat)} {n base i : Nat} {ρ : Env} {h : AHeap} {K : Env → AHeap → Prop} {d : Option Nat} {os : List RO} {q : POp}, e3H P un n base q os i d ρ h K true (.bool false) ↔ execD2 P un n base os (i + 1) (put ρ d (.tup [])) h K)
 ∧ (∀ {P : Program} {un : List (List Nat)} {n base i : Nat} {ρ : Env} {h : AHeap} {K : Env → AHeap → Prop} {d : Option Nat} {os : List RO} {f : Nat} {as : List AV}, e3G P un n base f as os i d ρ h K true (.bool true) ↔ e2C P un n base os i d ρ h K f as)
 ∧ (∀ {P : Program} {un : List (List Nat)} {n base i : Nat} {ρ : Env} {h : AHeap} {K : Env → AHeap → Prop} {d : Option Nat} {os : List RO} {f : Nat} {as : List AV}, e3G P un n base f as os i d ρ h K true (.bool false) ↔ freeD n base i h ∧ execD2 P un n base os (i + 1) (put ρ d (.tup [])) h K)
 ∧ (∀ {P : Program} {un : List (List Nat)} {n base i : Nat} {ρ : Env} {h : AHeap} {K : Env → AHeap → Prop} {d : Option Nat} {os : List RO} {q : POp}, e3H P un n base q os i d ρ h K false (.bool false) ↔ e2V P un n base os i d ρ h K (apure q ρ h))
 ∧ (∀ {P : Program} {un : List (List Nat)} {n base i : Nat} {ρ : Env} {h : AHeap} {K : Env → AHeap → Prop} {d : Option Nat} {os : List RO} {q : POp}, e3H P un n base q os i d ρ h K false (.bool true) ↔ execD2 P un n base os (i + 1) (put ρ d (.tup [])) h K)
 ∧ (∀ {P : Program} {un : List (List Nat)} {n base i : Nat} {ρ : Env} {h : AHeap} {K : Env → AHeap → Prop} {d : Option Nat} {os : List RO} {f : Nat} {as : List AV}, e3G P un n base f as os i d ρ h K false (.bool false) ↔ e2C P un n base os i d ρ h K f as)
 ∧ (∀ {P : Program} {un : List (List Nat)} {n base i : Nat} {ρ : Env} {h : AHeap} {K : Env → AHeap → Prop} {d : Option Nat} {os : List RO} {f : Nat} {as : List AV}, e3G P un n base f as os i d ρ h K false (.bool true) ↔ freeD n base i h ∧ execD2 P un n base os (i + 1) (put ρ d (.tup [])) h K))
 ∧ ((∀ {P : Program} {un : List (List Nat)} {n base i : Nat} {ρ : Env} {h : AHeap} {K : Env → AHeap → Prop} {d : Option Nat} {os : List RO} {q : POp} {b : Bool}, e3H P un n base q os i d ρ h K b (.tup []) ↔ execD2 P un n base os (i + 1) (put ρ d (.tup [])) h K)
 ∧ (∀ {P : Program} {un : List (List Nat)} {n base i : Nat} {ρ : Env} {h : AHeap} {K : Env → AHeap → Prop} {d : Option Nat} {os : List RO} {f : Nat} {as : List AV} {b : Bool}, e3G P un n base f as os i d ρ h K b (.tup []) ↔ freeD n base i h ∧ execD2 P un n base os (i + 1) (put ρ d (.tup [])) h K)
 ∧ (∀ {P : Program} {un : List (List Nat)} {n base i : Nat} {ρ : Env} {h : AHeap} {K : Env → AHeap → Prop} {d : Option Nat} {os : List RO} {v : AV} {h' : AHeap}, e2E P un n base os i d ρ h K (some (v, h')) ↔ freeD n base i h' ∧ keepsB base h h' ∧ execD2 P un n base os (i + 1) (put ρ d v) h' K)
 ∧ (∀ {ρ : Env} {ag : Bool} {sz : Nat} {x : Opd}, (POp.load ag sz x).key ρ = kv (x.ev ρ))
 ∧ (∀ {b o : Nat}, kv (.ptr b o) = some b)
 ∧ (∀ {l : List AV} {o : Nat}, kv (.vp l o) = none)
 ∧ (∀ {P : Program} {un : List (List Nat)} {n base i : Nat} {ρ : Env} {h : AHeap} {K : Env → AHeap → Prop} {d : Option Nat} {os : List RO} {v : AV}, e2V P un n base os i d ρ h K (some v) ↔ execD2 P un n base os (i + 1) (put ρ d v) h K)
 ∧ (∀ {P : Program} {un : List (List Nat)} {n base i : Nat} {ρ : Env} {h : AHeap} {K : Env → AHeap → Prop} {d : Option Nat} {os : List RO} {b : Blk} {v : AV}, e2A P un n base os i d ρ h K (some (b, v)) ↔ execD2 P un n base os (i + 1) (put ρ d v) (h.at (base + i) b) K)
 ∧ (∀ {base : Nat}, keyLt base none ↔ True)
 ∧ (∀ {base b : Nat}, keyLt base (some b) ↔ b < base)
 ∧ (∀ {ρ : Env} {ag : Bool} {sz : Nat} {x : Opd}, POp.key (.load ag sz x) ρ = (match x.ev ρ with | .ptr b _ => some b | _ => none))
 ∧ (∀ {n m i : Nat} {h : AHeap}, freeD n h.next i (h.clean m) ↔ True)
 ∧ (∀ {h : AHeap} {n b : Nat}, (h.clean n).get b = if b < h.next then h.get b else none)
 ∧ (∀ {h : AHeap} {n : Nat}, (h.clean n).next = h.next + n)
 ∧ (∀ {h : AHeap} {n b : Nat}, cellsOf (h.clean n) b = if b < h.next then cellsOf h b else none)
 ∧ (∀ {t : Nat} {ρ : Env}, Opd.ev ρ (.tmp t) = ρ t)
 ∧ (∀ {v : AV} {ρ : Env}, Opd.ev ρ (.const v) = v)
 ∧ (∀ {ρ : Env} {d i : Nat} {v : AV}, put ρ (some d) v i = if i = d then v else ρ i))
 ∧ ((∀ {ρ : Env} {v : AV}, put ρ none v = ρ)
 ∧ (∀ {ρ : Env}, List.map (Opd.ev ρ) [] = [])
 ∧ (∀ {ρ : Env} {x : Opd} {xs : List Opd}, List.map (Opd.ev ρ) (x :: xs) = x.ev ρ :: List.map (Opd.ev ρ) xs)
 ∧ (∀ {ρ : Env} {h : AHeap} {x : Opd}, apure (.mov x) ρ h = some (x.ev ρ))
 ∧ (∀ {ρ : Env} {h : AHeap} {c a b : Opd}, apure (.pick c a b) ρ h = pickA (c.ev ρ) (a.ev ρ) (b.ev ρ))
 ∧ (∀ {ρ : Env} {h : AHeap} {z : List AV} {ps : List (Nat × Nat × Opd)}, apure (.build z ps) ρ h = (fillA ρ z ps).map .agg)
 ∧ (∀ {ρ : Env} {h : AHeap} {n : Nat} {z : List AV} {ps : List (Nat × Opd)}, apure (.bslice n z ps) ρ h = (fillR ρ z.length (List.replicate n z) ps).map (.vs · .full))
 ∧ (∀ {ρ : Env} {h : AHeap} {ag : Bool} {sz : Nat} {x : Opd}, apure (.load ag sz x) ρ h = aload ag sz h (x.ev ρ))
 ∧ (∀ {ρ : Env} {h : AHeap} {x : Opd}, apure (.nilchk x) ρ h = notNil (x.ev ρ))
 ∧ (∀ {ρ : Env} {h : AHeap} {tb : Bool} {op : BinOp} {x y : Opd}, apure (.bin tb op x y) ρ h = abin tb op (x.ev ρ) (y.ev ρ))
 ∧ (∀ {ρ : Env} {h : AHeap} {kd : Nat} {neg : Bool} {x : Opd}, apure (.eqNil kd neg x) ρ h = (isNilA kd (x.ev ρ)).map fun b => .bool (if neg then !b else b))
 ∧ (∀ {ρ : Env} {h : AHeap} {neg : Bool} {os : List Nat} {x y : Opd}, apure (.eqAgg neg os x y) ρ h = eqAggA neg os (x.ev ρ) (y.ev ρ))
 ∧ (∀ {ρ : Env} {h : AHeap} {op : UnOp} {x : Opd}, apure (.un op x) ρ h = aun op (x.ev ρ))
 ∧ (∀ {ρ : Env} {h : AHeap} {k : IntKind} {x : Opd}, apure (.toInt k x) ρ h = toIntA k (x.ev ρ))
 ∧ (∀ {ρ : Env} {h : AHeap} {x : Opd}, apure (.bytesStr x) ρ h = ((rowsA 1 h (x.ev ρ)).bind bytesRows).map fun bs => .str ⟨bs.toArray⟩)
 ∧ (∀ {ρ : Env} {h : AHeap} {x : Opd}, apure (.strBytes x) ρ h = strBytesA (x.ev ρ))
 ∧ (∀ {ρ : Env} {h : AHeap} {off : Nat} {x : Opd}, apure (.faddr off x) ρ h = faddrA off (x.ev ρ))
 ∧ (∀ {ρ : Env} {h : AHeap} {ag : Bool} {sz off : Nat} {x : Opd}, apure (.fld ag sz off x) ρ h = fldA ag sz off (x.ev ρ)))
 ∧ ((∀ {ρ : Env} {h : AHeap} {sz : Nat} {x i : Opd}, apure (.iaddrS sz x i) ρ h = iaddrSA sz (x.ev ρ) (i.ev ρ))
 ∧ (∀ {ρ : Env} {h : AHeap} {sz len : Nat} {x i : Opd}, apure (.iaddrA sz len x i) ρ h = iaddrAA sz len (x.ev ρ) (i.ev ρ))
 ∧ (∀ {ρ : Env} {h : AHeap} {ag : Bool} {sz len : Nat} {x i : Opd}, apure (.idxA ag sz len x i) ρ h = idxAA ag sz len (x.ev ρ) (i.ev ρ))
 ∧ (∀ {ρ : Env} {h : AHeap} {sz : Nat} {x : Opd} {lo hi mx : Option Opd}, apure (.slc sz x lo hi mx) ρ h = aslice ρ sz (x.ev ρ) lo hi mx)
 ∧ (∀ {ρ : Env} {h : AHeap} {i : Nat} {x : Opd}, apure (.ext i x) ρ h = extA i (x.ev ρ))
 ∧ (∀ {ρ : Env} {h : AHeap} {x : Opd}, apure (.lenS x) ρ h = (lenA (x.ev ρ)).map fun (n : Nat) => AV.int .i64 n)
 ∧ (∀ {ρ : Env} {h : AHeap} {x : Opd}, apure (.lenStr x) ρ h = lenStrA (x.ev ρ))
 ∧ (∀ {ρ : Env} {h : AHeap} {n : Nat}, apure (.lenC n) ρ h = some (.int .i64 n))
 ∧ (∀ {ρ : Env} {h : AHeap} {z : AV} {ok : Bool} {m k : Opd}, apure (.lookup z ok m k) ρ h = lookupM z ok h (m.ev ρ) (k.ev ρ))
 ∧ (∀ {ρ : Env} {h : AHeap} {f : Nat} {a b : List Opd}, apure (.mkfn f a b) ρ h = some (.fn f (a.map (Opd.ev ρ)) (b.map (Opd.ev ρ))))
 ∧ (∀ {ρ : Env} {h : AHeap} {mx : Bool} {x : Opd} {r : List Opd}, apure (.minmax mx x r) ρ h = minmaxL mx ρ (x.ev ρ) r)
 ∧ (∀ {ρ : Env} {h : AHeap} {im : Bool} {x : Opd}, apure (.part im x) ρ h = partA im (x.ev ρ))
 ∧ (∀ {ρ : Env} {h : AHeap} {z : List AV} {b : Nat} {l c : Opd}, apure (.mkslice z b l c) ρ h = (makeLen b (l.ev ρ) (c.ev ρ)).map fun n => .vs (List.replicate n z) .full)
 ∧ (∀ {a : RCode} {l : List RCode}, List.foldr RCode.seq .skip (a :: l) = .seq a (List.foldr RCode.seq .skip l))
 ∧ (List.foldr RCode.seq .skip [] = .skip)
 ∧ (∀ {ρ : Env} {d : Nat}, boundA ρ d none = some d)
 ∧ (∀ {ρ : Env} {d : Nat} {x : Opd}, boundA ρ d (some x) = bndV (x.ev ρ))
 ∧ (∀ {k : IntKind} {i : Int}, bndV (.int k i) = if 0 ≤ i then some i.toNat else none))
 ∧ ((∀ {ρ : Env} {sz : Nat} {xs : List (List AV)} {t : Tail} {lo hi : Option Opd}, aslice ρ sz (.vs xs t) lo hi none = (boundA ρ xs.length hi).bind fun h => (boundA ρ 0 lo).bind fun l => if l ≤ h ∧ h ≤ xs.length ∧ headOk sz xs = true then some (.vs ((xs.drop l).take (h - l)) (sliceTail t xs.length l h)) else none)
 ∧ (∀ {n l h : Nat}, sliceTail .unk n l h = .unk)
 ∧ (∀ {ρ : Env} {id : Nat} {x : Opd}, aalloc (.box x) ρ id = if (x.ev ρ).cells.all AV.one then some (.cells (x.ev ρ).cells, .ptr id 0) else none)
 ∧ (∀ {ρ : Env} {id : Nat} {z : List AV}, aalloc (.alloc z) ρ id = some (.cells z, .ptr id 0))
 ∧ (∀ {ρ : Env} {id : Nat} {z : List AV} {b : Nat} {l c : Opd}, aalloc (.mksliceR z b l c) ρ id = (makeLen b (l.ev ρ) (c.ev ρ)).map fun n => (.cells (List.replicate n z).flatten, .rs id 0 n z.length))
 ∧ (∀ {ρ : Env} {id n : Nat} {z : List AV} {ps : List (Nat × Opd)}, aalloc (.bsliceR n z ps) ρ id = (fillR ρ z.length (List.replicate n z) ps).map fun rows => (.cells rows.flatten, .rs id 0 n z.length))
 ∧ (∀ {ρ : Env} {id : Nat}, aalloc .mkmap ρ id = some (.map [], .map (some id)))
 ∧ (∀ {ρ : Env} {id sz : Nat} {h : AHeap} {a v : Opd}, aeff (.store sz a v) ρ id h = storeA sz h (a.ev ρ) (v.ev ρ))
 ∧ (∀ {ρ : Env} {id : Nat} {h : AHeap} {m k v : Opd}, aeff (.mapupd m k v) ρ id h = mapUpdF h (m.ev ρ) (k.ev ρ) (v.ev ρ))
 ∧ (∀ {ρ : Env} {id : Nat} {h : AHeap} {m k : Opd}, aeff (.mapdel m k) ρ id h = mapDelF h (m.ev ρ) (k.ev ρ))
 ∧ (∀ {h : AHeap} {b : Nat} {kd : IntKind} {n : Int} {v : AV}, mapUpdF h (.map (some b)) (.int kd n) v = (mapOf h b).bind fun es => (mapSet (.int kd n) v.strip es).map fun es' => (.undef, h.set b (some (.map es'))))
 ∧ (∀ {h : AHeap} {b : Nat} {kd : IntKind} {n : Int}, mapDelF h (.map (some b)) (.int kd n) = (mapOf h b).bind fun es => (mapDel (.int kd n) es).map fun es' => (.tup [], h.set b (some (.map es'))))
 ∧ (∀ {ρ : Env} {id bytes sz : Nat} {h : AHeap} {x y : Opd}, aeff (.append bytes sz x y) ρ id h = appF bytes sz id h (x.ev ρ) (rowsA sz h (y.ev ρ)))
 ∧ (∀ {sz : Nat} {h : AHeap} {xs : List (List AV)} {t : Tail}, rowsA sz h (.vs xs t) = if headOk sz xs = true then some xs else none)
 ∧ (∀ {sz : Nat}, headOk sz [] = true)
 ∧ (∀ {sz : Nat} {r : List AV} {rs : List (List AV)}, (headOk sz (r :: rs) = true) ↔ r.length = sz)
 ∧ (∀ {h : AHeap} {id j : Nat} {cs : List AV}, mapOf (h.at id (.cells cs)) j = if j = id then none else mapOf h j)
 ∧ (∀ {h : AHeap} {id j : Nat} {cs : List AV}, mapOf (h.set id (some (.cells cs))) j = if j = id then none else mapOf h j))
 ∧ ((∀ {h : AHeap} {id j : Nat} {es : List (AV × AV)}, mapOf (h.at id (.map es)) j = if j = id then some es else mapOf h j)
 ∧ (∀ {h : AHeap} {id j : Nat} {es : List (AV × AV)}, mapOf (h.set id (some (.map es))) j = if j = id then some es else mapOf h j)
 ∧ (∀ {h : AHeap} {n b : Nat}, mapOf (h.clean n) b = if b < h.next then mapOf h b else none)
 ∧ (∀ {ρ : Env} {h : AHeap} {x : Opd}, apure (.capS x) ρ h = (capA (x.ev ρ)).map fun (n : Nat) => AV.int .i64 n)
 ∧ (∀ {ρ : Env} {h : AHeap} {x i : Opd}, apure (.idxStr x i) ρ h = idxStrA (x.ev ρ) (i.ev ρ))
 ∧ (∀ {ρ : Env} {h : AHeap} {sz : Nat} {x y : Opd}, apure (.ovl sz x y) ρ h = ovlA sz h (x.ev ρ) (y.ev ρ))
 ∧ (capA .nils = some 0)
 ∧ (∀ {xs : List (List AV)}, capA (.vs xs .full) = some xs.length)
 ∧ (∀ {b o n s c : Nat}, capA (.rk b o n s c) = some c)
 ∧ (∀ {b o n s c : Nat}, lenA (.rk b o n s c) = some n)
 ∧ (∀ {b o n s c : Nat}, AV.one (.rk b o n s c) = true)
 ∧ (∀ {b o n s c : Nat}, AV.cells (.rk b o n s c) = [.rk b o n s c])
 ∧ (∀ {s : ByteArray} {k : IntKind} {i : Int}, idxStrA (.str s) (.int k i) = if 0 ≤ i then (s[i.toNat]?).map fun b => AV.int .u8 b.toNat else none)
 ∧ (∀ {ρ : Env} {sz b off len sz' cap : Nat} {lo hi mx : Option Opd}, aslice ρ sz (.rk b off len sz' cap) lo hi mx = (boundA ρ len hi).bind fun h => (boundA ρ 0 lo).bind fun l => (boundA ρ cap mx).bind fun m => if l ≤ h ∧ h ≤ m ∧ m ≤ cap ∧ sz' = sz ∧ (mx.isSome → hi.isSome) then (if m = l then some (.vs [] .full) else some (.rk b (off + l * sz) (h - l) sz (m - l))) else none)
 ∧ (∀ {sz b off len sz' cap : Nat} {h : AHeap}, rowsA sz h (.rk b off len sz' cap) = if sz' = sz then (cellsOf h b).bind fun cs => if off + len * sz ≤ cs.length then some (rowsOf cs off sz len) else none else none)
 ∧ (∀ {sz n b off len sz' cap : Nat} {h : AHeap}, rowsN sz n h (.rk b off len sz' cap) = if sz' = sz ∧ n ≤ len then (cellsOf h b).bind fun cs => if off + n * sz ≤ cs.length then some (rowsOf cs off sz n) else none else none)
 ∧ (∀ {sz n : Nat} {h : AHeap} {xs : List (List AV)} {t : Tail}, rowsN sz n h (.vs xs t) = if headOk sz xs = true then some (xs.take n) else none)
 ∧ (∀ {ρ : Env} {id bytes sz : Nat} {h : AHeap} {x y : Opd}, aeff (.appendR bytes sz x y) ρ id h = appRF bytes sz id h (x.ev ρ) (rowsA sz h (y.ev ρ))))
 ∧ ((∀ {ρ : Env} {id bytes : Nat} {z : List AV} {h : AHeap} {x n : Opd}, aeff (.appendZ bytes z x n) ρ id h = appZF bytes z id h (x.ev ρ) (n.ev ρ))
 ∧ (∀ {ρ : Env} {id sz : Nat} {h : AHeap} {x y : Opd}, aeff (.copyK sz x y) ρ id h = copyKF sz h (x.ev ρ) (y.ev ρ))
 ∧ (∀ {ρ : Env} {id : Nat} {h : AHeap} {x : Opd}, aeff (.mark x) ρ id h = markF h (x.ev ρ))
 ∧ (∀ {ρ : Env} {id : Nat} {z : List AV} {h : AHeap} {x : Opd}, aeff (.clearK z x) ρ id h = clearKF z h (x.ev ρ))
 ∧ (lenA .vz = some 0)
 ∧ (∀ {sz : Nat} {h : AHeap}, rowsA sz h .vz = some [])
 ∧ (∀ {sz : Nat} {h : AHeap}, rowsA sz h .nils = some [])
 ∧ (isNilA 1 .vz = some false)
 ∧ (∀ {b o n s c : Nat}, isNilA 1 (.rk b o n s c) = some false)
 ∧ (∀ {tb : Bool} {k : IntKind} {a b : Int}, abin tb .add (.int k a) (.int k b) = some (.int k (k.wrap (a + b))))
 ∧ (∀ {tb : Bool} {k : IntKind} {a b : Int}, abin tb .sub (.int k a) (.int k b) = some (.int k (k.wrap (a - b))))
 ∧ (∀ {tb : Bool} {k : IntKind} {a b : Int}, abin tb .mul (.int k a) (.int k b) = some (.int k (k.wrap (a * b))))
 ∧ (∀ {tb : Bool} {k : IntKind} {a b : Int}, abin tb .quo (.int k a) (.int k b) = if b = 0 then none else some (.int k (k.wrap (a.tdiv b))))
 ∧ (∀ {tb : Bool} {k : IntKind} {a b : Int}, abin tb .rem (.int k a) (.int k b) = if b = 0 then none else some (.int k (a.tmod b)))
 ∧ (∀ {tb : Bool} {k : IntKind} {a b : Int}, abin tb .eql (.int k a) (.int k b) = some (.bool (decide (a = b))))
 ∧ (∀ {tb : Bool} {k : IntKind} {a b : Int}, abin tb .lss (.int k a) (.int k b) = some (.bool (decide (a < b))))
 ∧ (∀ {tb : Bool} {k : IntKind} {a b : Int}, abin tb .leq (.int k a) (.int k b) = some (.bool (decide (a ≤ b))))
 ∧ (∀ {tb : Bool} {k : IntKind} {a b : Int}, abin tb .gtr (.int k a) (.int k b) = some (.bool (decide (b < a)))))
 ∧ ((∀ {tb : Bool} {k : IntKind} {a b : Int}, abin tb .geq (.int k a) (.int k b) = some (.bool (decide (b ≤ a))))
 ∧ (∀ {tb : Bool} {k : IntKind} {a b : Int}, abin tb .neq (.int k a) (.int k b) = some (.bool (decide (¬ a = b))))
 ∧ (∀ {a b : Bool}, abin true .eql (.bool a) (.bool b) = some (.bool (a == b)))
 ∧ (∀ {a b : Bool}, abin true .neq (.bool a) (.bool b) = some (.bool (!(a == b))))
 ∧ (∀ {tb : Bool} {k k' : IntKind} {a b : Int}, abin tb .shl (.int k a) (.int k' b) = if b < 0 then none else some (.int k (k.wrap (a * 2 ^ (min b.toNat k.bits)))))
 ∧ (∀ {tb : Bool} {k k' : IntKind} {a b : Int}, abin tb .shr (.int k a) (.int k' b) = if b < 0 then none else some (.int k (a.fdiv (2 ^ (min b.toNat k.bits)))))
 ∧ (∀ {b : Bool}, aun .not (.bool b) = some (.bool !b))
 ∧ (∀ {k : IntKind} {n : Int}, aun .neg (.int k n) = some (.int k (k.wrap (0 - n))))
 ∧ (∀ {k k' : IntKind} {n : Int}, toIntA k (.int k' n) = some (.int k (k.wrap n)))
 ∧ (∀ {c : Bool} {a b : AV}, pickA (.bool c) a b = some (if c = true then a else b))
 ∧ (∀ {xs : List (List AV)} {t : Tail}, lenA (.vs xs t) = some xs.length)
 ∧ (lenA .nils = some 0)
 ∧ (∀ {b o n s : Nat}, lenA (.rs b o n s) = some n)
 ∧ (∀ {sz : Nat} {xs : List (List AV)} {t : Tail} {k : IntKind} {i : Int}, iaddrSA sz (.vs xs t) (.int k i) = if 0 ≤ i then (xs[i.toNat]?).bind (fun row => if row.length = sz then some (.vp row 0) else none) else none)
 ∧ (∀ {sz b off len sz' : Nat} {k : IntKind} {i : Int}, iaddrSA sz (.rs b off len sz') (.int k i) = if 0 ≤ i then (if sz' = sz ∧ i < len then some (.ptr b (off + i.toNat * sz)) else none) else none)
 ∧ (∀ {sz len b o : Nat} {k : IntKind} {i : Int}, iaddrAA sz len (.ptr b o) (.int k i) = if 0 ≤ i ∧ i < len then some (.ptr b (o + i.toNat * sz)) else none)
 ∧ (∀ {sz len o : Nat} {xs : List AV} {k : IntKind} {i : Int}, iaddrAA sz len (.vp xs o) (.int k i) = if 0 ≤ i ∧ i < len then some (.vp xs (o + i.toNat * sz)) else none)
 ∧ (∀ {ag : Bool} {sz len : Nat} {cs : List AV} {k : IntKind} {i : Int}, idxAA ag sz len (.agg cs) (.int k i) = if 0 ≤ i ∧ i < len then cut ag sz (i.toNat * sz) cs else none))
 ∧ ((∀ {off b o : Nat}, faddrA off (.ptr b o) = some (.ptr b (o + off)))
 ∧ (∀ {off o : Nat} {xs : List AV}, faddrA off (.vp xs o) = some (.vp xs (o + off)))
 ∧ (∀ {ag : Bool} {sz off : Nat} {cs : List AV}, fldA ag sz off (.agg cs) = cut ag sz off cs)
 ∧ (∀ {sz off : Nat} {cs : List AV}, cut false sz off cs = cs[off]?)
 ∧ (∀ {sz off : Nat} {cs : List AV}, cut true sz off cs = if off + sz ≤ cs.length then some (.agg ((cs.drop off).take sz)) else none)
 ∧ (∀ {ag : Bool} {sz : Nat} {h : AHeap} {b o : Nat}, aload ag sz h (.ptr b o) = (cellsOf h b).bind (cut ag sz o))
 ∧ (∀ {ag : Bool} {sz : Nat} {h : AHeap} {xs : List AV} {o : Nat}, aload ag sz h (.vp xs o) = cut ag sz o xs)
 ∧ (∀ {sz : Nat} {h : AHeap} {b o : Nat} {v : AV}, storeA sz h (.ptr b o) v = (cellsOf h b).bind fun cs => if v.cells.length = sz ∧ o + sz ≤ cs.length ∧ v.cells.all AV.one = true then some (.undef, h.set b (some (.cells (setAt cs o v.cells)))) else none)
 ∧ (∀ {i : Nat} {vs : List AV}, extA i (.tup vs) = vs[i]?)
 ∧ (∀ {b o : Nat}, notNil (.ptr b o) = some (.ptr b o))
 ∧ (∀ {xs : List AV} {o : Nat}, notNil (.vp xs o) = some (.vp xs o))
 ∧ (∀ {f : Nat} {a b : List AV}, notNil (.fn f a b) = some (.fn f a b))
 ∧ (∀ {cs : List AV}, AV.cells (.agg cs) = cs)
 ∧ (∀ {k : IntKind} {n : Int}, AV.cells (.int k n) = [.int k n])
 ∧ (∀ {b : Bool}, AV.cells (.bool b) = [.bool b])
 ∧ (∀ {b o : Nat}, AV.cells (.ptr b o) = [.ptr b o])
 ∧ (∀ {xs : List (List AV)} {t : Tail}, AV.cells (.vs xs t) = [.vs xs t])
 ∧ (∀ {b o n s : Nat}, AV.cells (.rs b o n s) = [.rs b o n s]))
 ∧ ((∀ {m : Option Nat}, AV.cells (.map m) = [.map m])
 ∧ (∀ {f : Nat} {a b : List AV}, AV.cells (.fn f a b) = [.fn f a b])
 ∧ (AV.cells .nil = [.nil])
 ∧ (AV.cells .nils = [.nils])
 ∧ (AV.cells .any1 = [.any1])
 ∧ (∀ {k : IntKind} {n : Int}, AV.one (.int k n) = true)
 ∧ (∀ {b : Bool}, AV.one (.bool b) = true)
 ∧ (∀ {b o : Nat}, AV.one (.ptr b o) = true)
 ∧ (∀ {xs : List (List AV)} {t : Tail}, AV.one (.vs xs t) = true)
 ∧ (∀ {b o n s : Nat}, AV.one (.rs b o n s) = true)
 ∧ (∀ {m : Option Nat}, AV.one (.map m) = true)
 ∧ (∀ {f : Nat} {a b : List AV}, AV.one (.fn f a b) = true)
 ∧ (AV.one .nil = true)
 ∧ (AV.one .nils = true)
 ∧ (AV.one .any1 = true)
 ∧ (∀ {h : AHeap} {b : Nat} {cs : List AV}, h.get b = some (.cells cs) → cellsOf h b = some cs)
 ∧ (∀ {h : AHeap} {id j : Nat} {cs : List AV}, cellsOf (h.at id (.cells cs)) j = if j = id then some cs else cellsOf h j)
 ∧ (∀ {h : AHeap} {id j : Nat} {cs : List AV}, cellsOf (h.set id (some (.cells cs))) j = if j = id then some cs else cellsOf h j))
 ∧ ((∀ {h : AHeap} {id j : Nat}, cellsOf (h.at id .tail) j = if j = id then none else cellsOf h j)
 ∧ (∀ {h : AHeap} {id j : Nat} {es : List (AV × AV)}, cellsOf (h.at id (.map es)) j = if j = id then none else cellsOf h j)
 ∧ (∀ {h : AHeap} {id j : Nat} {es : List (AV × AV)}, cellsOf (h.set id (some (.map es))) j = if j = id then none else cellsOf h j)
 ∧ (∀ {h : AHeap} {id j : Nat}, cellsOf (h.set id none) j = if j = id then none else cellsOf h j)
 ∧ (∀ {h : AHeap} {id j : Nat} {b : Blk}, (h.at id b).get j = if j = id then some b else h.get j)
 ∧ (∀ {h : AHeap} {id j : Nat} {b : Option Blk}, (h.set id b).get j = if j = id then b else h.get j)
 ∧ (∀ {h : AHeap} {id : Nat} {b : Blk}, (h.at id b).next = max h.next (id + 1))
 ∧ (∀ {h : AHeap} {id : Nat} {b : Option Blk}, (h.set id b).next = h.next)
 ∧ (∀ {ρ : Env} {x : AV} {mx : Bool}, minmaxL mx ρ x [] = some x)
 ∧ (∀ {ρ : Env} {x : AV} {mx : Bool} {y : Opd} {ys : List Opd}, minmaxL mx ρ x (y :: ys) = (minmaxA mx x (y.ev ρ)).bind fun z => minmaxL mx ρ z ys)
 ∧ (∀ {k : IntKind} {a b : Int}, minmaxA true (.int k a) (.int k b) = some (.int k (max a b)))
 ∧ (∀ {k : IntKind} {a b : Int}, minmaxA false (.int k a) (.int k b) = some (.int k (min a b)))
 ∧ (∀ {ρ : Env} {z : List AV}, fillA ρ z [] = some z)
 ∧ (∀ {ρ : Env} {z : List AV} {off sz : Nat} {x : Opd} {ps : List (Nat × Nat × Opd)}, fillA ρ z ((off, sz, x) :: ps) = if (x.ev ρ).cells.length = sz ∧ off + sz ≤ z.length ∧ (x.ev ρ).cells.all AV.one = true then fillA ρ (setAt z off (x.ev ρ).cells) ps else none)
 ∧ (∀ {ρ : Env} {sz : Nat} {z : List (List AV)}, fillR ρ sz z [] = some z)
 ∧ (∀ {ρ : Env} {sz i : Nat} {z : List (List AV)} {x : Opd} {ps : List (Nat × Opd)}, fillR ρ sz z ((i, x) :: ps) = if (x.ev ρ).cells.length = sz ∧ i < z.length ∧ (x.ev ρ).cells.all AV.one = true then fillR ρ sz (z.set i (x.ev ρ).cells) ps else none)
 ∧ (∀ {rs : List RRes} {r : AV} {h1 : AHeap} {ρ : Env} {h : AHeap}, doneK rs r h1 .normal ρ h ↔ (resL ρ h rs).map tupOf = some r ∧ h = h1)
 ∧ (∀ {rs : List RRes} {r : AV} {h1 : AHeap} {ρ : Env} {h : AHeap}, doneK rs r h1 .ret ρ h ↔ (resL ρ h rs).map tupOf = some r ∧ h = h1))
 ∧ ((∀ {rs : List RRes} {r : AV} {h1 : AHeap} {ρ : Env} {h : AHeap}, keepK rs r h1 .normal ρ h ↔ (resL ρ h rs).map tupOf = some r ∧ ∀ b, b < h1.next → h.get b = h1.get b)
 ∧ (∀ {rs : List RRes} {r : AV} {h1 : AHeap} {ρ : Env} {h : AHeap}, keepK rs r h1 .ret ρ h ↔ (resL ρ h rs).map tupOf = some r ∧ ∀ b, b < h1.next → h.get b = h1.get b)
 ∧ (isNilA 0 .nil = some true)
 ∧ (∀ {b o : Nat} , isNilA 0 (.ptr b o) = some false)
 ∧ (∀ {o : Nat} {xs : List AV}, isNilA 0 (.vp xs o) = some false)
 ∧ (isNilA 1 .nils = some true)
 ∧ (∀ {b o n s : Nat} , isNilA 1 (.rs b o n s) = some false)
 ∧ (isNilA 2 .nilfn = some true)
 ∧ (∀ {f : Nat} {a c : List AV}, isNilA 2 (.fn f a c) = some false)
 ∧ (isNilA 3 (.map none) = some true)
 ∧ (∀ {b : Nat} , isNilA 3 (.map (some b)) = some false)
 ∧ (∀ {ρ : Env} {h : AHeap}, resL ρ h [] = some [])
 ∧ (∀ {ρ : Env} {h : AHeap} {t : Nat} {rs : List RRes}, resL ρ h (.tmp t :: rs) = (resL ρ h rs).map (ρ t :: ·))
 ∧ (∀ {ρ : Env} {h : AHeap} {t sz : Nat} {ag : Bool} {rs : List RRes}, resL ρ h (.cell t ag sz :: rs) = (aload ag sz h (ρ t)).bind fun v => (resL ρ h rs).map (v :: ·))
 ∧ (tupOf [] = .tup [])
 ∧ (∀ {v : AV}, tupOf [v] = v)
 ∧ (∀ {v u : AV} {l : List AV}, tupOf (v :: u :: l) = .tup (v :: u :: l))
 ∧ (∀ {as : List AV} {i : Nat}, args0 as i = as.getD i (.tup [])))
 ∧ ((∀ {a : AV} {l : List AV} {d : AV}, (a :: l).getD 0 d = a)
 ∧ (∀ {a : AV} {l : List AV} {d : AV} {i : Nat}, (a :: l).getD (i + 1) d = l.getD i d)
 ∧ (∀ {α β : Type} {f : α → Option β} {a : α}, (some a).bind f = f a)
 ∧ (∀ {α β : Type} {f : α → β} {a : α}, (some a).map f = some (f a))
 ∧ (∀ {α : Type} {a b : α}, (some a = some b) ↔ a = b)
 ∧ (∀ {α : Type} {a : α}, (some a = none) ↔ False)
 ∧ (∀ {α : Type} {a : α}, (none = some a) ↔ False)
 ∧ (∀ {α β : Type} {a c : α} {b d : β}, ((a, b) = (c, d)) ↔ a = c ∧ b = d)
 ∧ (∀ {α : Type} {p : α → Prop} {a : α}, (∃ x, a = x ∧ p x) ↔ p a)
 ∧ (∀ {α β : Type} {p : α → β → Prop} {a : α} {b : β}, (∃ x y, (a = x ∧ b = y) ∧ p x y) ↔ p a b)
 ∧ (∀ {n : Nat}, (0 ≤ (n : Int)) ↔ True)
 ∧ (∀ {n : Nat}, (n : Int).toNat = n)
 ∧ (∀ {n : Nat}, ((n : Int) < 0) ↔ False)
 ∧ (∀ {a b : Nat}, ((a : Int) < (b : Int)) ↔ a < b)
 ∧ (∀ {a b : Nat}, ((a : Int) ≤ (b : Int)) ↔ a ≤ b)
 ∧ (∀ {a b : Nat}, ((a : Int) = (b : Int)) ↔ a = b)
 ∧ (∀ {α : Type} {a : α} {l : List α}, (a :: l)[0]? = some a)
 ∧ (∀ {α : Type} {a : α} {l : List α} {i : Nat}, (a :: l)[i + 1]? = l[i]?))
 ∧ ((∀ {α : Type} {a : α} {l : List α}, (a :: l).length = l.length + 1)
 ∧ (∀ {α : Type}, ([] : List α).length = 0)
 ∧ (∀ {p : AV → Bool} {a : AV} {l : List AV}, (a :: l).all p = (p a && l.all p))
 ∧ (∀ {p : AV → Bool}, ([] : List AV).all p = true)
 ∧ (∀ {α : Type} {l : List α}, List.take 0 l = [])
 ∧ (∀ {α : Type} {a : α} {l : List α} {n : Nat}, List.take (n + 1) (a :: l) = a :: List.take n l)
 ∧ (∀ {α : Type} {l : List α}, List.drop 0 l = l)
 ∧ (∀ {α : Type} {a : α} {l : List α} {n : Nat}, List.drop (n + 1) (a :: l) = List.drop n l)
 ∧ (∀ {α : Type} {l : List α}, l ++ [] = l)
 ∧ (∀ {α : Type} {l : List α}, [] ++ l = l)
 ∧ (∀ {α : Type} {a : α} {l m : List α}, (a :: l) ++ m = a :: (l ++ m))
 ∧ (∀ {cs vs : List AV} {off : Nat}, setAt cs off vs = cs.take off ++ vs ++ cs.drop (off + vs.length))
 ∧ (∀ {p : Prop}, (p ∧ True) ↔ p)
 ∧ (∀ {p : Prop}, (True ∧ p) ↔ p)
 ∧ (∀ {p : Prop}, (p ∧ False) ↔ False)
 ∧ (∀ {p : Prop}, (False ∧ p) ↔ False)
 ∧ (∀ {p q r : Prop}, ((p ∧ q) ∧ r) ↔ p ∧ q ∧ r)
 ∧ (∀ {p : Prop} [Decidable p], (decide p = true) ↔ p))
 ∧ ((∀ {p : Prop} [Decidable p], (decide p = false) ↔ ¬ p)
 ∧ (∀ {α : Sort 1} {p : Prop} [Decidable p] {a b : α}, (if ¬ p then a else b) = if p then b else a)
 ∧ (∀ {α : Sort 1} {a b : α}, (if True then a else b) = a)
 ∧ (∀ {α : Sort 1} {a b : α}, (if False then a else b) = b)
 ∧ (∀ {p : Prop}, ¬ ¬ p ↔ p)
 ∧ ((¬ True) ↔ False)
 ∧ ((¬ False) ↔ True)
 ∧ ((false = true) ↔ False)
 ∧ ((true = false) ↔ False)
 ∧ ((!true) = false)
 ∧ ((!false) = true)
 ∧ (∀ {b : Bool}, (true && b) = b)
 ∧ (∀ {b : Bool}, (b && true) = b)
 ∧ (∀ {b : Bool}, ((!b) = true) ↔ b = false)
 ∧ (∀ {b : Bool}, ((!b) = false) ↔ b = true)
 ∧ (∀ {a b : Bool}, ((a && b) = true) ↔ a = true ∧ b = true)
 ∧ (∀ {α : Type} {a : α}, (a = a) ↔ True)
 ∧ (((0 : Nat) : Int) = 0))
 ∧ ((((1 : Nat) : Int) = 1)
 ∧ (∀ {n : Nat}, max n (n + 1) = n + 1)
 ∧ (∀ {n : Nat}, 0 + n = n)
 ∧ (∀ {n : Nat}, n + 0 = n)
 ∧ (∀ {n : Nat}, (n ≤ n) ↔ True)
 ∧ (∀ {p q r : Prop}, (p ∧ q → r) ↔ (p → q → r))
 ∧ (∀ {p : Prop}, (False → p) ↔ True)
 ∧ (∀ {p : Prop}, (True → p) ↔ p)
 ∧ (∀ {p : Prop}, (p → True) ↔ True)
 ∧ (∀ {α : Type}, (α → True) ↔ True)
 ∧ (decide True = true)
 ∧ (decide False = false)) := ⟨⟨WP_skip,
  WP_label,
  WP_exit,
  WP_goto,
  WP_ret,
  WP_reg,
  WP_seq,
  WP_cond,
  WPc_t,
  WPc_f,
  WP_block,
  by intros; rfl,
  by intros; rfl,
  by intros; rfl,
  by intros; rfl,
  by intros; rfl,
  by intros; rfl,
  by intros; rfl⟩,
  ⟨by intros; rfl,
  by intros; rfl,
  by intros; rfl,
  by intros; rfl,
  by intros; rfl,
  Iff.rfl,
  exec_p,
  execV_some,
  exec_a,
  execA_some,
  exec_e,
  execE_some,
  exec_call_iff,
  exec_guard,
  execG_tt,
  execG_ff,
  execG_tf,
  execG_ft⟩,
  ⟨execG_tup,
  Iff.rfl,
  eD_p,
  eD_a,
  eD_e,
  eD_c,
  eD_h,
  eD_gc,
  eDH_tt,
  eDG_tt,
  eDH_ff,
  eDG_ff,
  eDH_tf,
  eDG_tf,
  eDH_ft,
  eDG_ft,
  eDH_tup,
  eDG_tup⟩,
  ⟨eDV_some,
  eDA_some,
  eDE_some,
  Iff.rfl,
  e2_p,
  e2_a',
  e2_c,
  e3_h,
  e3_g,
  e2_e,
  by intros; simp [e3H, gK],
  by intros; simp [e3H, gK],
  by intros; simp [e3G, gK],
  by intros; simp [e3G, gK],
  by intros; simp [e3H, gK],
  by intros; simp [e3H, gK],
  by intros; simp [e3G, gK],
  by intros; simp [e3G, gK]⟩,
  ⟨by intros; simp [e3H, gK],
  by intros; simp [e3G, gK],
  e2E_some,
  key_load,
  by intros; rfl,
  by intros; rfl,
  e2V_some,
  e2A_some,
  Iff.rfl,
  Iff.rfl,
  by intros; rfl,
  freeD_clean,
  by intros; rfl,
  by intros; rfl,
  by intro h n b; unfold cellsOf AHeap.clean; by_cases e : b < h.next <;> simp [e],
  by intros; rfl,
  by intros; rfl,
  by intros; rfl⟩,
  ⟨by intros; rfl,
  by intros; rfl,
  by intros; rfl,
  by intros; rfl,
  by intros; rfl,
  by intros; rfl,
  by intros; rfl,
  by intros; rfl,
  by intros; rfl,
  by intros; rfl,
  by intros; rfl,
  by intros; rfl,
  by intros; rfl,
  by intros; rfl,
  by intros; rfl,
  by intros; rfl,
  by intros; rfl,
  by intros; rfl⟩,
  ⟨by intros; rfl,
  by intros; rfl,
  by intros; rfl,
  by intros; rfl,
  by intros; rfl,
  by intros; rfl,
  by intros; rfl,
  by intros; rfl,
  by intros; rfl,
  by intros; rfl,
  by intros; rfl,
  by intros; rfl,
  by intros; rfl,
  by intros; rfl,
  by intros; rfl,
  by intros; rfl,
  boundA_some,
  by intros; rfl⟩,
  ⟨aslice_vs,
  by intros; rfl,
  by intros; rfl,
  by intros; rfl,
  by intros; rfl,
  by intros; rfl,
  by intros; rfl,
  by intros; rfl,
  by intros; rfl,
  by intros; rfl,
  mapUpdF_some,
  mapDelF_some,
  aeff_append,
  by intros; rfl,
  by intros; rfl,
  by simp [headOk],
  by intro h id j cs; unfold mapOf AHeap.at; by_cases e : j = id <;> simp [e],
  by intro h id j cs; unfold mapOf AHeap.set; by_cases e : j = id <;> simp [e]⟩,
  ⟨by intro h id j es; unfold mapOf AHeap.at; by_cases e : j = id <;> simp [e],
  by intro h id j es; unfold mapOf AHeap.set; by_cases e : j = id <;> simp [e],
  by intro h n b; unfold mapOf AHeap.clean; by_cases e : b < h.next <;> simp [e],
  by intros; rfl,
  by intros; rfl,
  by intros; rfl,
  by intros; rfl,
  by intros; rfl,
  by intros; rfl,
  by intros; rfl,
  by intros; rfl,
  by intros; rfl,
  by intros; rfl,
  aslice_rk,
  rowsA_rk,
  rowsN_rk,
  by intros; rfl,
  aeff_appendR⟩,
  ⟨aeff_appendZ,
  aeff_copyK,
  aeff_mark,
  aeff_clearK,
  by intros; rfl,
  by intros; rfl,
  by intros; rfl,
  by intros; rfl,
  by intros; rfl,
  by intros; simp [abin, aint],
  by intros; simp [abin, aint],
  by intros; simp [abin, aint],
  by intros; simp [abin, aint],
  by intros; simp [abin, aint],
  by intros; simp [abin, aint] <;> rfl,
  by intros; simp [abin, aint] <;> rfl,
  by intros; simp [abin, aint] <;> rfl,
  by intros; simp [abin, aint] <;> rfl⟩,
  ⟨by intros; simp [abin, aint] <;> rfl,
  by intros tb k a b; simp only [abin, aint, if_true]; by_cases h : a = b <;> simp [h],
  by intros; rfl,
  by intros; rfl,
  by intros; rfl,
  by intros; rfl,
  by intros; rfl,
  by intros; rfl,
  by intros; rfl,
  by intros; rfl,
  by intros; rfl,
  by intros; rfl,
  by intros; rfl,
  by intros sz xs t k i; simp only [iaddrSA]; by_cases hi : 0 ≤ i <;> simp only [hi, if_true, if_false] <;> cases xs[i.toNat]? <;> rfl,
  by intros; rfl,
  by intros; rfl,
  by intros; rfl,
  by intros; rfl⟩,
  ⟨by intros; rfl,
  by intros; rfl,
  by intros; rfl,
  by intros; rfl,
  by intros; rfl,
  by intros; rfl,
  by intros; rfl,
  by intros sz h b o v; simp only [storeA]; cases cellsOf h b <;> rfl,
  by intros; rfl,
  by intros; rfl,
  by intros; rfl,
  by intros; rfl,
  by intros; rfl,
  by intros; rfl,
  by intros; rfl,
  by intros; rfl,
  by intros; rfl,
  by intros; rfl⟩,
  ⟨by intros; rfl,
  by intros; rfl,
  by intros; rfl,
  by intros; rfl,
  by intros; rfl,
  by intros; rfl,
  by intros; rfl,
  by intros; rfl,
  by intros; rfl,
  by intros; rfl,
  by intros; rfl,
  by intros; rfl,
  by intros; rfl,
  by intros; rfl,
  by intros; rfl,
  by intros h b cs e; simp [cellsOf, e],
  by intro h id j cs; unfold cellsOf AHeap.at; by_cases e : j = id <;> simp [e],
  by intro h id j cs; unfold cellsOf AHeap.set; by_cases e : j = id <;> simp [e]⟩,
  ⟨by intro h id j; unfold cellsOf AHeap.at; by_cases e : j = id <;> simp [e],
  by intro h id j es; unfold cellsOf AHeap.at; by_cases e : j = id <;> simp [e],
  by intro h id j es; unfold cellsOf AHeap.set; by_cases e : j = id <;> simp [e],
  by intro h id j; unfold cellsOf AHeap.set; by_cases e : j = id <;> simp [e],
  by intros; rfl,
  by intros; rfl,
  by intros; rfl,
  by intros; rfl,
  by intros; rfl,
  by intros; rfl,
  by intros k a b; simp only [minmaxA, if_true]; congr 2; simp only [Int.max_def, gt_iff_lt]; split <;> split <;> omega,
  by intros k a b; simp only [minmaxA, if_true, Bool.false_eq_true, if_false]; congr 2; simp only [Int.min_def]; split <;> split <;> omega,
  by intros; rfl,
  by intros; rfl,
  by intros; rfl,
  by intros; rfl,
  Iff.rfl,
  Iff.rfl⟩,
  ⟨Iff.rfl,
  Iff.rfl,
  by intros; rfl,
  by intros; rfl,
  by intros; rfl,
  by intros; rfl,
  by intros; rfl,
  by intros; rfl,
  by intros; rfl,
  by intros; rfl,
  by intros; rfl,
  by intros; rfl,
  by intro ρ h t rs; simp only [resL, resOne]; cases resL ρ h rs <;> rfl,
  by intro ρ h t sz ag rs; simp only [resL, resOne]; cases aload ag sz h (ρ t) <;> cases resL ρ h rs <;> rfl,
  by intros; rfl,
  by intros; rfl,
  by intros; rfl,
  by intros; rfl⟩,
  ⟨by intros; rfl,
  by intros; rfl,
  by intros; rfl,
  by intros; rfl,
  by intros; exact Option.some_inj,
  by intros; simp,
  by intros; simp,
  by intros; simp,
  by intros; simp,
  by intro α β p a b; exact ⟨fun ⟨_, _, ⟨e1, e2⟩, h⟩ => by subst e1; subst e2; exact h, fun h => ⟨_, _, ⟨rfl, rfl⟩, h⟩⟩,
  by intros; simp,
  by intros; simp,
  by intros; simp,
  by intros; omega,
  by intros; omega,
  by intros; omega,
  by intros; rfl,
  by intros; rfl⟩,
  ⟨by intros; simp,
  by intros; rfl,
  by intros; simp,
  by intros; rfl,
  by intros; simp,
  by intros; simp,
  by intros; simp,
  by intros; simp,
  by intros; simp,
  by intros; simp,
  by intros; simp,
  by intros; rfl,
  by intros; simp,
  by intros; simp,
  by intros; simp,
  by intros; simp,
  by intros; exact and_assoc,
  by intros; exact decide_eq_true_iff⟩,
  ⟨by intros; exact decide_eq_false_iff_not,
  by intros; simp,
  by intros; exact if_pos trivial,
  by intros; exact if_neg id,
  by intros; exact Classical.not_not,
  by intros; exact not_true,
  by intros; exact not_false_iff,
  by intros; simp,
  by intros; simp,
  by intros; rfl,
  by intros; rfl,
  by intros; simp,
  by intros; simp,
  by intros; simp,
  by intros; simp,
  by intros; simp,
  by intros; simp,
  by intros; rfl⟩,
  ⟨by intros; rfl,
  by intros; omega,
  by intros; exact Nat.zero_add _,
  by intros; exact Nat.add_zero _,
  by intros; simp,
  by intros; exact and_imp,
  by intros; simp,
  by intros; simp,
  by intros; simp,
  by intros; simp,
  by intros; rfl,
  by intros; rfl⟩⟩
end Go.Proofs.YtjkllffbjeajhaaGreat.Am

/- Rows that lie one behind the other; the table of codes; calls by the table. -/
namespace Go.Proofs.YtjkllffbjeajhaaGreat.Am
open Go

section
variable {α : Type}

theorem flat_len {sz : Nat} : ∀ {rows : List (List α)}, (∀ r ∈ rows, r.length = sz) → rows.flatten.length = rows.length * sz
  | [], _ => by simp
  | r :: rs, h => by
    have h0 := h r (by simp)
    have := flat_len (rows := rs) (fun x hx => h x (List.mem_cons_of_mem _ hx))
    simp [h0, this, Nat.succ_mul, Nat.add_comm]

theorem flat_at {sz : Nat} : ∀ {rows : List (List α)} {i j : Nat} {row : List α}, (∀ r ∈ rows, r.length = sz) → rows[i]? = some row → j < sz → rows.flatten[i * sz + j]? = row[j]?
  | [], i, j, row, _, h, _ => by simp at h
  | r :: rs, 0, j, row, hl, h, hj => by
    have h0 := hl r (by simp)
    simp at h; subst h
    simp only [List.flatten_cons, Nat.zero_mul, Nat.zero_add]
    rw [List.getElem?_append_left (by omega)]
  | r :: rs, i + 1, j, row, hl, h, hj => by
    have h0 := hl r (by simp)
    have ih := flat_at (rows := rs) (i := i) (j := j) (row := row) (fun x hx => hl x (List.mem_cons_of_mem _ hx)) (by simpa using h) hj
    simp only [List.flatten_cons]
    rw [List.getElem?_append_right (by rw [Nat.succ_mul]; omega)]
    rw [show (i + 1) * sz + j - r.length = i * sz + j by rw [Nat.succ_mul]; omega]
    exact ih

theorem flat_row {sz : Nat} : ∀ {rows : List (List α)} {i : Nat} {row : List α}, (∀ r ∈ rows, r.length = sz) → rows[i]? = some row → (rows.flatten.drop (i * sz)).take sz = row
  | [], i, row, _, h => by simp at h
  | r :: rs, 0, row, hl, h => by
    have h0 := hl r (by simp)
    simp at h; subst h
    simp only [List.flatten_cons, Nat.zero_mul, List.drop_zero]
    rw [List.take_append_of_le_length (by omega), List.take_of_length_le (by omega)]
  | r :: rs, i + 1, row, hl, h => by
    have h0 := hl r (by simp)
    have ih := flat_row (rows := rs) (i := i) (row := row) (fun x hx => hl x (List.mem_cons_of_mem _ hx)) (by simpa using h)
    simp only [List.flatten_cons]
    rw [show (i + 1) * sz = r.length + i * sz by rw [Nat.succ_mul]; omega, List.drop_append, List.drop_eq_nil_of_le (by omega), Nat.add_sub_cancel_left, List.nil_append]
    exact ih

theorem flat_put {sz : Nat} : ∀ {rows : List (List α)} {i j : Nat} {row v : List α}, (∀ r ∈ rows, r.length = sz) → rows[i]? = some row → j + v.length ≤ sz →
    rows.flatten.take (i * sz + j) ++ v ++ rows.flatten.drop (i * sz + j + v.length) = (rows.set i (row.take j ++ v ++ row.drop (j + v.length))).flatten
  | [], i, j, row, v, _, h, _ => by simp at h
  | r :: rs, 0, j, row, v, hl, h, hj => by
    have h0 := hl r (by simp)
    simp at h; subst h
    simp only [List.flatten_cons, Nat.zero_mul, Nat.zero_add, List.set_cons_zero]
    rw [List.take_append_of_le_length (by omega), List.drop_append_of_le_length (by omega)]
    simp [List.append_assoc]
  | r :: rs, i + 1, j, row, v, hl, h, hj => by
    have h0 := hl r (by simp)
    have ih := flat_put (rows := rs) (i := i) (j := j) (row := row) (v := v) (fun x hx => hl x (List.mem_cons_of_mem _ hx)) (by simpa using h) hj
    simp only [List.flatten_cons, List.set_cons_succ]
    rw [← ih]
    have e1 : (i + 1) * sz + j = r.length + (i * sz + j) := by rw [Nat.succ_mul]; omega
    rw [e1, List.take_append, List.take_of_length_le (by omega), Nat.add_sub_cancel_left]
    rw [show r.length + (i * sz + j) + v.length = r.length + (i * sz + j + v.length) by omega, List.drop_append, List.drop_eq_nil_of_le (by omega), Nat.add_sub_cancel_left]
    simp [List.append_assoc]

end

section
variable {P : Program}

/-- Calls by the table of codes. -/
theorem TblOK.calls {T : Tbl} (ok : TblOK P T) {f : Nat} {rf : RFunc} (hf : T.fn f = some rf) {args : List AV} (hargs : args.length ≤ rf.ntmps)
    {h h1 : AHeap} {r : AV} (hw : WP P rf.code (doneK rf.results r h1) (args0 args) h) : ACalls P f args h r h1 := by
  obtain ⟨fn, md, h2, h3⟩ := ok.fn f rf hf
  exact acalls_of_wp ok.follow h2 h3 hargs hw

theorem TblOK.keeps {T : Tbl} (ok : TblOK P T) {f : Nat} {rf : RFunc} (hf : T.fn f = some rf) {args : List AV} (hargs : args.length ≤ rf.ntmps)
    {h : AHeap} {r : AV} (hr : r.allR (fun b => decide (b < h.next)) = true) (hw : WP P rf.code (keepK rf.results r h) (args0 args) h) : ACalls P f args h r h := by
  obtain ⟨fn, md, h2, h3⟩ := ok.fn f rf hf
  exact acalls_keep ok.follow h2 h3 hargs hr hw

theorem cellsOf_of {h : AHeap} {b : Nat} {cs : List AV} (e : h.get b = some (.cells cs)) : cellsOf h b = some cs := by simp [cellsOf, e]

theorem AHeap.set_same {h : AHeap} {b : Nat} {x : Option Blk} (e : h.get b = x) : h.set b x = h := by
  unfold AHeap.set
  have : (fun i => if i = b then x else h.get i) = h.get := by funext i; by_cases hi : i = b <;> simp [hi, e]
  rw [this]

theorem exec_cut {ros : List RO} {ρ : Env} {h : AHeap} {K : Env → AHeap → Prop} (Q : Env → Prop) (h1 : exec P ros ρ h (fun ρ' h' => Q ρ' ∧ h' = h)) (h2 : ∀ ρ', Q ρ' → K ρ' h) : exec P ros ρ h K :=
  exec_mono (fun ρ' h' ⟨e1, e2⟩ => by rw [e2]; exact h2 ρ' e1) h1

/-- The value as it is, but for the room behind it. -/
def keepS (rs : List RRes) (r : AV) (h0 : AHeap) : AExit → Env → AHeap → Prop
  | .normal, ρ, h => ∃ r0, (resL ρ h rs).map tupOf = some r0 ∧ r0.strip = r ∧ ∀ b, b < h0.next → h.get b = h0.get b
  | .ret, ρ, h => ∃ r0, (resL ρ h rs).map tupOf = some r0 ∧ r0.strip = r ∧ ∀ b, b < h0.next → h.get b = h0.get b
  | _, _, _ => False
theorem keepS_ret {rs : List RRes} {r : AV} {h0 : AHeap} {ρ : Env} {h : AHeap} : keepS rs r h0 .ret ρ h ↔ ∃ r0, (resL ρ h rs).map tupOf = some r0 ∧ r0.strip = r ∧ ∀ b, b < h0.next → h.get b = h0.get b := Iff.rfl

/-- The value with a new block's slices by value. -/
def keepF (rs : List RRes) (r : AV) (h0 : AHeap) : AExit → Env → AHeap → Prop
  | .ret, ρ, h => ∃ r0 b cs, (resL ρ h rs).map tupOf = some r0 ∧ h.get b = some (.cells cs) ∧ h0.next ≤ b ∧ AV.frz b cs r0 = r ∧ ∀ b, b < h0.next → h.get b = h0.get b
  | _, _, _ => False
theorem keepF_ret {rs : List RRes} {r : AV} {h0 : AHeap} {ρ : Env} {h : AHeap} : keepF rs r h0 .ret ρ h ↔ ∃ r0 b cs, (resL ρ h rs).map tupOf = some r0 ∧ h.get b = some (.cells cs) ∧ h0.next ≤ b ∧ AV.frz b cs r0 = r ∧ ∀ b, b < h0.next → h.get b = h0.get b := Iff.rfl

mutual
theorem allR_mono {p q : Nat → Bool} (hpq : ∀ b, p b = true → q b = true) : ∀ v : AV, v.allR p = true → v.allR q = true
  | .ptr b _, h => hpq b h
  | .rs b _ _ _, h => hpq b h
  | .rk b _ _ _ _, h => hpq b h
  | .map (some b), h => hpq b h
  | .map none, _ => rfl
  | .vs xs t, h => by
    simp only [AV.allR, Bool.and_eq_true] at h ⊢
    refine ⟨allLL_mono hpq xs h.1, ?_⟩
    cases t with
    | own t => exact hpq t h.2
    | unk => rfl
    | full => rfl
  | .vp xs _, h => by simp only [AV.allR] at h ⊢; exact allL_mono hpq xs h
  | .agg xs, h => by simp only [AV.allR] at h ⊢; exact allL_mono hpq xs h
  | .tup xs, h => by simp only [AV.allR] at h ⊢; exact allL_mono hpq xs h
  | .fn _ a b, h => by simp only [AV.allR, Bool.and_eq_true] at h ⊢; exact ⟨allL_mono hpq a h.1, allL_mono hpq b h.2⟩
  | .undef, _ => rfl
  | .int _ _, _ => rfl
  | .bool _, _ => rfl
  | .flt _ _, _ => rfl
  | .cpx _ _ _, _ => rfl
  | .str _, _ => rfl
  | .nil, _ => rfl
  | .nils, _ => rfl
  | .vz, _ => rfl
  | .nilfn, _ => rfl
  | .any1, _ => rfl
theorem allL_mono {p q : Nat → Bool} (hpq : ∀ b, p b = true → q b = true) : ∀ l : List AV, AV.allL p l = true → AV.allL q l = true
  | [], _ => rfl
  | x :: xs, h => by simp only [AV.allL, Bool.and_eq_true] at h ⊢; exact ⟨allR_mono hpq x h.1, allL_mono hpq xs h.2⟩
theorem allLL_mono {p q : Nat → Bool} (hpq : ∀ b, p b = true → q b = true) : ∀ l : List (List AV), AV.allLL p l = true → AV.allLL q l = true
  | [], _ => rfl
  | x :: xs, h => by simp only [AV.allLL, Bool.and_eq_true] at h ⊢; exact ⟨allL_mono hpq x h.1, allLL_mono hpq xs h.2⟩
end

theorem TblOK.keepsS {T : Tbl} (ok : TblOK P T) {f : Nat} {rf : RFunc} (hf : T.fn f = some rf) {args : List AV} (hargs : args.length ≤ rf.ntmps)
    {h : AHeap} {r : AV} (hr : r.allR (fun b => decide (b < h.next)) = true) (hw : WP P rf.code (keepS rf.results r h) (args0 args) h) : ACalls P f args h r h := by
  obtain ⟨fn, md, h2, h3⟩ := ok.fn f rf hf
  obtain ⟨e, ρ', h', hb, hk⟩ := hw
  cases e with
  | normal =>
    obtain ⟨r0, hv, hs, hh⟩ := hk
    obtain ⟨vs, hv, ht⟩ := Option.map_eq_some_iff.1 hv
    have := (acalls_of_big ok.follow h2 h3 hargs hb (.inl rfl) hv).strip
    rw [ht, hs] at this
    exact this.restore hh hr
  | ret =>
    obtain ⟨r0, hv, hs, hh⟩ := hk
    obtain ⟨vs, hv, ht⟩ := Option.map_eq_some_iff.1 hv
    have := (acalls_of_big ok.follow h2 h3 hargs hb (.inr rfl) hv).strip
    rw [ht, hs] at this
    exact this.restore hh hr
  | exit id => exact hk.elim
  | goto l => exact hk.elim

theorem TblOK.keepsF {T : Tbl} (ok : TblOK P T) {f : Nat} {rf : RFunc} (hf : T.fn f = some rf) {args : List AV} (hargs : args.length ≤ rf.ntmps)
    {h : AHeap} {r : AV} (hr : r.allR (fun b => decide (b < h.next)) = true) (hw : WP P rf.code (keepF rf.results r h) (args0 args) h) : ACalls P f args h r h := by
  obtain ⟨fn, md, h2, h3⟩ := ok.fn f rf hf
  obtain ⟨e, ρ', h', hb, hk⟩ := hw
  cases e with
  | ret =>
    obtain ⟨r0, b, cs, hv, hg, hlt, hs, hh⟩ := hk
    obtain ⟨vs, hv, ht⟩ := Option.map_eq_some_iff.1 hv
    have := acalls_of_big ok.follow h2 h3 hargs hb (.inr rfl) hv
    rw [ht] at this
    have := this.freeze hg hlt (by rw [hs]; exact allR_mono (fun i hi => by simp at hi ⊢; omega) r hr)
    rw [hs] at this
    refine this.restore (fun i hi => ?_) hr
    simp only [AHeap.set]
    rw [if_neg (by omega)]
    exact hh i hi
  | normal => exact hk.elim
  | exit id => exact hk.elim
  | goto l => exact hk.elim

/-- The value, and what holds of the heap. -/
def doneX (rs : List RRes) (r : AV) (Q : AHeap → Prop) : AExit → Env → AHeap → Prop
  | .ret, ρ, h => (resL ρ h rs).map tupOf = some r ∧ Q h
  | .normal, ρ, h => (resL ρ h rs).map tupOf = some r ∧ Q h
  | _, _, _ => False
theorem doneX_ret {rs : List RRes} {r : AV} {Q : AHeap → Prop} {ρ : Env} {h : AHeap} : doneX rs r Q .ret ρ h ↔ (resL ρ h rs).map tupOf = some r ∧ Q h := Iff.rfl
theorem doneX_normal {rs : List RRes} {r : AV} {Q : AHeap → Prop} {ρ : Env} {h : AHeap} : doneX rs r Q .normal ρ h ↔ (resL ρ h rs).map tupOf = some r ∧ Q h := Iff.rfl

theorem TblOK.callsX {T : Tbl} (ok : TblOK P T) {f : Nat} {rf : RFunc} (hf : T.fn f = some rf) {args : List AV} (hargs : args.length ≤ rf.ntmps) {h : AHeap} {r : AV} {Q : AHeap → Prop}
    (hw : WP P rf.code (doneX rf.results r Q) (args0 args) h) : ∃ h', ACalls P f args h r h' ∧ Q h' := by
  obtain ⟨fn, md, h2, h3⟩ := ok.fn f rf hf
  obtain ⟨e, ρ', h', hb, hk⟩ := hw
  cases e with
  | normal =>
    obtain ⟨hv, hq⟩ := hk
    obtain ⟨vs, hvs, rfl⟩ := Option.map_eq_some_iff.1 hv
    exact ⟨h', acalls_of_big ok.follow h2 h3 hargs hb (.inl rfl) hvs, hq⟩
  | ret =>
    obtain ⟨hv, hq⟩ := hk
    obtain ⟨vs, hvs, rfl⟩ := Option.map_eq_some_iff.1 hv
    exact ⟨h', acalls_of_big ok.follow h2 h3 hargs hb (.inr rfl) hvs, hq⟩
  | exit id => exact hk.elim
  | goto l => exact hk.elim

def onlyN (k : Env → AHeap → Prop) : AExit → Env → AHeap → Prop := thenK k (fun _ _ _ => False)

theorem wp_goto_in {c body : RCode} {K : AExit → Env → AHeap → Prop} (l : Nat) (hf : findLabelR c l = some (.seq .skip body)) (J : Nat → Env → AHeap → Prop) (hno : ∀ l' ρ h, K (.goto l') ρ h → False)
    (pass : ∀ n ρ h, J n ρ h → WP P body (jumpK l (fun ρ' h' => ∃ m, m < n ∧ J m ρ' h') K) ρ h) {n : Nat} {ρ : Env} {h : AHeap} (hJ : J n ρ h) : WP P body (jumpK l (fun ρ' h' => ∃ m, J m ρ' h') K) ρ h :=
  (pass n ρ h hJ).mono (fun e ρ h hk => by
    cases e with
    | goto l' =>
      simp only [jumpK] at hk ⊢
      split at hk
      · rename_i hl; rw [if_pos hl]; obtain ⟨m, _, hm⟩ := hk; exact ⟨m, hm⟩
      · rename_i hl; rw [if_neg hl]; exact hk
    | normal => exact hk
    | exit id => exact hk
    | ret => exact hk)

theorem wp_pass {body : RCode} {K : AExit → Env → AHeap → Prop} {l : Nat} {J : Nat → Env → AHeap → Prop} (pass : ∀ n ρ h, J n ρ h → WP P body (jumpK l (fun ρ' h' => ∃ m, m < n ∧ J m ρ' h') K) ρ h) :
    ∀ n ρ h, J n ρ h → WP P (.seq .skip body) (jumpK l (fun ρ' h' => ∃ m, m < n ∧ J m ρ' h') K) ρ h := fun n ρ h hJ => wp_seq' (wp_skip' (pass n ρ h hJ))

/-- A loop by goto: what goes ahead of the label, then the body. -/
theorem wp_goto0 {body : RCode} {K : AExit → Env → AHeap → Prop} {ρ : Env} {h : AHeap} (l : Nat) (J : Nat → Env → AHeap → Prop) (hno : ∀ l' ρ h, K (.goto l') ρ h → False)
    (first : ∃ n, J n ρ h) (pass : ∀ n ρ h, J n ρ h → WP P body (jumpK l (fun ρ' h' => ∃ m, m < n ∧ J m ρ' h') K) ρ h) : WP P (.scope (.seq (.label l) body)) K ρ h := by
  have hf : findLabelR (.seq (.label l) body) l = some (.seq .skip body) := by simp [findLabelR]
  obtain ⟨n, hJ⟩ := first
  exact wp_scope_one l hf J hno (wp_seq' (wp_label' (wp_goto_in l hf J hno pass hJ))) (wp_pass pass)

theorem wp_goto1 {init body : RCode} {K : AExit → Env → AHeap → Prop} {ρ : Env} {h : AHeap} (l : Nat) (hi : findLabelR init l = none) (J : Nat → Env → AHeap → Prop) (hno : ∀ l' ρ h, K (.goto l') ρ h → False)
    (first : WP P init (onlyN (fun ρ' h' => ∃ n, J n ρ' h')) ρ h) (pass : ∀ n ρ h, J n ρ h → WP P body (jumpK l (fun ρ' h' => ∃ m, m < n ∧ J m ρ' h') K) ρ h) : WP P (.scope (.seq init (.seq (.label l) body))) K ρ h := by
  have hf : findLabelR (.seq init (.seq (.label l) body)) l = some (.seq .skip body) := by simp [findLabelR, hi]
  refine wp_scope_one l hf J hno (wp_seq' (first.mono (fun e ρ h hk => ?_))) (wp_pass pass)
  cases e with
  | normal => obtain ⟨n, hJ⟩ := hk; exact wp_seq' (wp_label' (wp_goto_in l hf J hno pass hJ))
  | _ => exact hk.elim

theorem wp_goto2 {init init2 body : RCode} {K : AExit → Env → AHeap → Prop} {ρ : Env} {h : AHeap} (l : Nat) (hi : findLabelR init l = none) (hi2 : findLabelR init2 l = none) (J : Nat → Env → AHeap → Prop) (hno : ∀ l' ρ h, K (.goto l') ρ h → False)
    (first : WP P (.seq init init2) (onlyN (fun ρ' h' => ∃ n, J n ρ' h')) ρ h) (pass : ∀ n ρ h, J n ρ h → WP P body (jumpK l (fun ρ' h' => ∃ m, m < n ∧ J m ρ' h') K) ρ h) : WP P (.scope (.seq init (.seq init2 (.seq (.label l) body)))) K ρ h := by
  have hf : findLabelR (.seq init (.seq init2 (.seq (.label l) body))) l = some (.seq .skip body) := by simp [findLabelR, hi, hi2]
  rw [WP_seq] at first
  refine wp_scope_one l hf J hno (wp_seq' (first.mono (fun e ρ h hk => ?_))) (wp_pass pass)
  cases e with
  | normal =>
    refine wp_seq' (WP.mono hk (fun e ρ h hk => ?_))
    cases e with
    | normal => obtain ⟨n, hJ⟩ := hk; exact wp_seq' (wp_label' (wp_goto_in l hf J hno pass hJ))
    | _ => exact hk.elim
  | _ => exact hk.elim

/-- What goes ahead of a label, and what comes behind it. -/
def splitLabel : RCode → Nat → Option (List RCode × RCode)
  | .seq a b, l => match a with
    | .label l' => match Nat.beq l' l with
      | true => some ([], b)
      | false => none
    | a => match splitLabel b l with
      | some (i, c) => some (a :: i, c)
      | none => none
  | _, _ => none
def noLabel (l : Nat) (inits : List RCode) : Bool := inits.all fun c => (findLabelR c l).isNone
def seqs (inits : List RCode) : RCode := inits.foldr .seq .skip

theorem splitLabel_find {l : Nat} {body : RCode} : ∀ {inits : List RCode} {c : RCode}, splitLabel c l = some (inits, body) → noLabel l inits = true → findLabelR c l = some (.seq .skip body) ∧ c = inits.foldr .seq (.seq (.label l) body)
  | inits, .seq a b, hs, hn => by
    unfold splitLabel at hs
    split at hs
    · split at hs
      · rename_i l' hb
        cases hs
        have := Nat.eq_of_beq_eq_true hb
        subst this
        exact ⟨by simp [findLabelR], rfl⟩
      · cases hs
    · rename_i hne
      split at hs
      · rename_i i c hsp
        cases hs
        simp only [noLabel, List.all_cons, Bool.and_eq_true] at hn
        obtain ⟨h1, h2⟩ := splitLabel_find (inits := i) (c := b) hsp hn.2
        refine ⟨?_, by rw [h2]; rfl⟩
        simp only [findLabelR]
        rw [Option.isNone_iff_eq_none.1 hn.1, h1]
      · cases hs

/-- A loop by goto. -/
theorem wp_gotoS {c body : RCode} {inits : List RCode} {K : AExit → Env → AHeap → Prop} {ρ : Env} {h : AHeap} (l : Nat) (hs : splitLabel c l = some (inits, body)) (hn : noLabel l inits = true) (J : Nat → Env → AHeap → Prop) (hno : ∀ l' ρ h, K (.goto l') ρ h → False)
    (first : WP P (seqs inits) (thenK (fun ρ' h' => ∃ n, J n ρ' h') K) ρ h) (pass : ∀ n ρ h, J n ρ h → WP P body (jumpK l (fun ρ' h' => ∃ m, m < n ∧ J m ρ' h') K) ρ h) : WP P (.scope c) K ρ h := by
  obtain ⟨hf, hc⟩ := splitLabel_find hs hn
  refine wp_scope_one l hf J hno ?_ (wp_pass pass)
  rw [hc]
  clear hs hn hc
  induction inits generalizing ρ h with
  | nil =>
    obtain ⟨n, hJ⟩ := (WP_skip.1 first : ∃ n, J n ρ h)
    exact wp_seq' (wp_label' (wp_goto_in l hf J hno pass hJ))
  | cons a i ih =>
    have first' : WP P a (thenK (WP P (seqs i) (thenK (fun ρ' h' => ∃ n, J n ρ' h') K)) (thenK (fun ρ' h' => ∃ n, J n ρ' h') K)) ρ h := WP_seq.1 first
    refine wp_seq' (first'.mono (fun e ρ h hk => ?_))
    cases e with
    | normal => exact ih hk
    | goto l' => exact (hno l' ρ h hk).elim
    | exit id => exact hk
    | ret => exact hk

theorem onlyN_normal {k : Env → AHeap → Prop} {ρ : Env} {h : AHeap} : onlyN k .normal ρ h = k ρ h := rfl

/-- A law's end: it says true. -/
def lawK (rs : List RRes) : AExit → Env → AHeap → Prop
  | .normal, ρ, h => (resL ρ h rs).map tupOf = some (.bool true)
  | .ret, ρ, h => (resL ρ h rs).map tupOf = some (.bool true)
  | _, _, _ => False

theorem lawK_ret {rs : List RRes} {ρ : Env} {h : AHeap} : lawK rs .ret ρ h ↔ (resL ρ h rs).map tupOf = some (.bool true) := Iff.rfl

theorem TblOK.law {T : Tbl} (ok : TblOK P T) {f : Nat} {rf : RFunc} (hf : T.fn f = some rf) {args : List AV} (hargs : args.length ≤ rf.ntmps) {h : AHeap} (hw : WP P rf.code (lawK rf.results) (args0 args) h) :
    ∃ h', ACalls P f args h (.bool true) h' := by
  obtain ⟨fn, md, h2, h3⟩ := ok.fn f rf hf
  obtain ⟨e, ρ', h', hb, hk⟩ := hw
  cases e with
  | normal => obtain ⟨vs, hv, ht⟩ := Option.map_eq_some_iff.1 hk; exact ⟨h', ht ▸ acalls_of_big ok.follow h2 h3 hargs hb (.inl rfl) hv⟩
  | ret => obtain ⟨vs, hv, ht⟩ := Option.map_eq_some_iff.1 hk; exact ⟨h', ht ▸ acalls_of_big ok.follow h2 h3 hargs hb (.inr rfl) hv⟩
  | exit id => exact hk.elim
  | goto l => exact hk.elim

/-- What a run in the kernel says: true. -/
def beganK (v : AV) (H : CH) : Option Unit := match v with
  | .bool true => some ()
  | _ => none

theorem beganK_eq {v : AV} {H : CH} (h : beganK v H = some ()) : v = .bool true := by
  unfold beganK at h
  split at h
  · rfl
  · cases h

theorem begun_of {T : Tbl} (ok : TblOK P T) {f n : Nat} (hr : callOf T (runK T n) f [] ⟨.leaf, 0⟩ beganK = some ()) (h : AHeap) : ACalls P f [] h (.bool true) h := by
  obtain ⟨v, H', h1, h2⟩ := eval_calls ok hr
  obtain rfl := beganK_eq h2
  exact h1.frame rfl rfl h

theorem wrapS {n : Int} (h0 : -(2 ^ 62) ≤ n) (h1 : n < 2 ^ 62) : IntKind.wrap .i64 n = n := by
  rw [IntKind.wrap_i64]; omega
theorem wrapN {n : Nat} (h1 : n < 2 ^ 62) : IntKind.wrap .i64 (n : Int) = n := wrapS (by omega) (by omega)
theorem wrapN1 {n : Nat} (h1 : n < 2 ^ 61) : IntKind.wrap .i64 ((n : Int) + 1) = ((n + 1 : Nat) : Int) := by rw [wrapS] <;> omega
theorem wrapU {n : Nat} (h1 : n < 2 ^ 64) : IntKind.wrap .u64 (n : Int) = n := by
  rw [IntKind.wrap]; simp [IntKind.signed, IntKind.bits]; omega
theorem tmodN {n k : Nat} : (n : Int).tmod (k : Int) = ((n % k : Nat) : Int) := by rw [Int.tmod_eq_emod_of_nonneg (by omega)]; rfl
end
end Go.Proofs.YtjkllffbjeajhaaGreat.Am
