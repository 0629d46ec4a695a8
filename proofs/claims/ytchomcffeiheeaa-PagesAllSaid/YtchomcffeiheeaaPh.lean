/- Memory by pages: the layer's functions on lists of bytes. Conditions: none. -/
import Derived.Test.YtchomcffeiheeaaPg
set_option maxRecDepth 100000
set_option linter.unusedSimpArgs false
set_option linter.unusedVariables false
set_option linter.unnecessarySimpa false
/- Memory by pages, plainly: what is written is what is read. -/
namespace Go.Proofs.Ytchomcffeiheeaa.Am
open Go
variable {fs : List Fr} {ts : Tabs}

/-- Frames that are taken. -/
def Valid (fs : List Fr) (l : List Nat) : Prop := ∀ f ∈ l, ∃ x, fs[f]? = some x ∧ x.taken = true ∧ x.b.length = 16

/-- A cell of a frame. -/
def fcell (fs : List Fr) (f j : Nat) : Int := ((fs[f]?).bind fun x => x.b[j]?).getD 0

theorem rdB_eq {t : Tb} {j : Nat} (hv : Valid fs t.l) (hj : j < 16 * t.l.length) : ∃ f, t.l[j / 16]? = some f ∧ rdB fs t j = fcell fs f (j % 16) := by
  have hlt : j / 16 < t.l.length := by omega
  have hg := List.getElem?_eq_getElem hlt
  obtain ⟨x, h1, h2, h3⟩ := hv _ (List.getElem_mem hlt)
  refine ⟨_, hg, ?_⟩
  have ha : frAt fs (t.l[j / 16] : Int) = some t.l[j / 16] := by
    simp only [frAt, Int.toNat_natCast, h1, h2]
    rw [if_pos (by omega)]
    simp
  have hb : frByte fs (t.l[j / 16] : Int) ((j % 16 : Nat) : Int) = (some (t.l[j / 16], j % 16), 0) := by
    simp only [frByte, ha]
    rw [if_neg (by omega), Int.toNat_natCast]
  simp only [rdB, hg, Option.getD_some, frLoad, hb, fcell]

theorem wrB_eq {t : Tb} {a : Nat} {v : Int} (hv : Valid fs t.l) (ha : a < 16 * t.l.length) : ∃ f x, t.l[a / 16]? = some f ∧ fs[f]? = some x ∧ x.taken = true ∧ x.b.length = 16 ∧ wrB fs t a v = fs.set f { x with b := x.b.set (a % 16) v } := by
  have hlt : a / 16 < t.l.length := by omega
  have hg := List.getElem?_eq_getElem hlt
  obtain ⟨x, h1, h2, h3⟩ := hv _ (List.getElem_mem hlt)
  refine ⟨_, x, hg, h1, h2, h3, ?_⟩
  have hA : frAt fs (t.l[a / 16] : Int) = some t.l[a / 16] := by
    simp only [frAt, Int.toNat_natCast, h1, h2]
    rw [if_pos (by omega)]
    simp
  have hb : frByte fs (t.l[a / 16] : Int) ((a % 16 : Nat) : Int) = (some (t.l[a / 16], a % 16), 0) := by
    simp only [frByte, hA]
    rw [if_neg (by omega), Int.toNat_natCast]
  simp only [wrB, hg, Option.getD_some, frStore, hb, h1]

theorem valid_set {l : List Nat} {f : Nat} {x : Fr} {b : List Int} (hv : Valid fs l) (hx : fs[f]? = some x) (ht : x.taken = true) (hb : b.length = 16) : Valid (fs.set f { x with b := b }) l := by
  intro g hg
  obtain ⟨y, h1, h2, h3⟩ := hv g hg
  by_cases h : f = g
  · subst h
    have hlt := (List.getElem?_eq_some_iff.1 hx).1
    exact ⟨_, List.getElem?_set_self hlt, ht, hb⟩
  · exact ⟨y, by rw [List.getElem?_set_ne h]; exact h1, h2, h3⟩

theorem wrB_valid {t : Tb} {a : Nat} {v : Int} (hv : Valid fs t.l) (ha : a < 16 * t.l.length) {l : List Nat} (hl : Valid fs l) : Valid (wrB fs t a v) l := by
  obtain ⟨f, x, _, h1, h2, h3, he⟩ := wrB_eq (v := v) hv ha
  rw [he]
  exact valid_set hl h1 h2 (by simp [h3])

theorem wrB_used {t : Tb} {a : Nat} {v : Int} (hv : Valid fs t.l) (ha : a < 16 * t.l.length) : frUsed (wrB fs t a v) = frUsed fs := by
  obtain ⟨f, x, _, h1, h2, h3, he⟩ := wrB_eq (v := v) hv ha
  obtain ⟨hlt, hxe⟩ := List.getElem?_eq_some_iff.1 h1
  rw [he]
  unfold frUsed
  rw [List.countP_set hlt, hxe]
  have : 0 < List.countP (fun x => x.taken) fs := List.countP_pos_iff.2 ⟨x, List.mem_of_getElem? h1, h2⟩
  simp [h2]
  omega

theorem nodup_inj {α : Type} {l : List α} (hn : l.Nodup) {i j : Nat} (hi : i < l.length) (hj : j < l.length) (h : l[i] = l[j]) : i = j := by
  rw [List.nodup_iff_pairwise_ne, List.pairwise_iff_getElem] at hn
  rcases Nat.lt_trichotomy i j with h1 | h1 | h1
  · exact absurd h (hn i j hi hj h1)
  · exact h1
  · exact absurd h.symm (hn j i hj hi h1)

/-- What is written is read, and nothing else has turned. -/
theorem rd_wr {t : Tb} {a j : Nat} {v : Int} (hv : Valid fs t.l) (hn : t.l.Nodup) (ha : a < 16 * t.l.length) (hj : j < 16 * t.l.length) : rdB (wrB fs t a v) t j = if j = a then v else rdB fs t j := by
  obtain ⟨f, x, hf, h1, h2, h3, he⟩ := wrB_eq (v := v) hv ha
  obtain ⟨g, hg, e1⟩ := rdB_eq hv hj
  obtain ⟨g', hg', e2⟩ := rdB_eq (wrB_valid (v := v) hv ha hv) hj
  rw [hg] at hg'; cases hg'
  rw [e1, e2, he]
  have hlt := (List.getElem?_eq_some_iff.1 h1).1
  unfold fcell
  by_cases hfg : f = g
  · subst hfg
    have hdiv : a / 16 = j / 16 := by
      have h5 := (List.getElem?_eq_some_iff.1 hf)
      have h6 := (List.getElem?_eq_some_iff.1 hg)
      exact nodup_inj hn h5.1 h6.1 (h5.2.trans h6.2.symm)
    rw [List.getElem?_set_self hlt, h1]
    simp only [Option.bind_some, List.getElem?_set]
    by_cases hja : j = a
    · subst hja
      rw [if_pos rfl, if_pos rfl, if_pos (by omega)]
      rfl
    · rw [if_neg hja, if_neg (by omega)]
  · rw [List.getElem?_set_ne hfg]
    have : j ≠ a := by
      intro h
      subst h
      rw [hf] at hg; cases hg; exact hfg rfl
    rw [if_neg this]

theorem rd_wr_other {t t' : Tb} {a j : Nat} {v : Int} (hv : Valid fs t.l) (hv' : Valid fs t'.l) (hd : ∀ f ∈ t.l, f ∉ t'.l) (ha : a < 16 * t.l.length) (hj : j < 16 * t'.l.length) : rdB (wrB fs t a v) t' j = rdB fs t' j := by
  obtain ⟨f, x, hf, h1, h2, h3, he⟩ := wrB_eq (v := v) hv ha
  obtain ⟨g, hg, e1⟩ := rdB_eq hv' hj
  obtain ⟨g', hg', e2⟩ := rdB_eq (wrB_valid (v := v) hv ha hv') hj
  rw [hg] at hg'; cases hg'
  rw [e1, e2, he]
  have hfg : f ≠ g := fun h => hd f (List.mem_of_getElem? hf) (by rw [h]; exact List.mem_of_getElem? hg)
  unfold fcell
  rw [List.getElem?_set_ne hfg]

section
variable {t : Tb} {off : Nat} {bs : List Int}

theorem wrN_valid (hv : Valid fs t.l) {l : List Nat} (hl : Valid fs l) : ∀ {i : Nat}, off + i ≤ 16 * t.l.length → Valid (wrN fs t off bs i) t.l ∧ Valid (wrN fs t off bs i) l
  | 0, _ => ⟨hv, hl⟩
  | i + 1, hi => by
    obtain ⟨h1, h2⟩ := wrN_valid hv hl (i := i) (by omega)
    exact ⟨wrB_valid h1 (by omega) h1, wrB_valid h1 (by omega) h2⟩

theorem wrN_used (hv : Valid fs t.l) : ∀ {i : Nat}, off + i ≤ 16 * t.l.length → frUsed (wrN fs t off bs i) = frUsed fs
  | 0, _ => rfl
  | i + 1, hi => by
    have h1 := (wrN_valid (bs := bs) hv hv (i := i) (off := off) (by omega)).1
    simp only [wrN]
    rw [wrB_used h1 (by omega), wrN_used hv (by omega)]

theorem rd_wrN (hv : Valid fs t.l) (hn : t.l.Nodup) {j : Nat} (hj : j < 16 * t.l.length) : ∀ {i : Nat}, off + i ≤ 16 * t.l.length → rdB (wrN fs t off bs i) t j = if off ≤ j ∧ j < off + i then bs[j - off]?.getD 0 else rdB fs t j
  | 0, _ => by rw [if_neg (by omega)]; rfl
  | i + 1, hi => by
    have h1 := (wrN_valid (bs := bs) hv hv (i := i) (off := off) (by omega)).1
    simp only [wrN]
    rw [rd_wr h1 hn (by omega) hj, rd_wrN hv hn hj (by omega)]
    by_cases h : j = off + i
    · subst h
      rw [if_pos rfl, if_pos (by omega)]
      congr 2; omega
    · rw [if_neg h]
      by_cases h2 : off ≤ j ∧ j < off + i
      · rw [if_pos h2, if_pos (by omega)]
      · rw [if_neg h2, if_neg (by omega)]

theorem rd_wrN_other (hv : Valid fs t.l) {t' : Tb} (hv' : Valid fs t'.l) (hd : ∀ f ∈ t.l, f ∉ t'.l) {j : Nat} (hj : j < 16 * t'.l.length) : ∀ {i : Nat}, off + i ≤ 16 * t.l.length → rdB (wrN fs t off bs i) t' j = rdB fs t' j
  | 0, _ => rfl
  | i + 1, hi => by
    obtain ⟨h1, h2⟩ := wrN_valid (bs := bs) hv hv' (i := i) (off := off) (by omega)
    simp only [wrN]
    rw [rd_wr_other h1 h2 hd (by omega) hj, rd_wrN_other hv hv' hd hj (by omega)]
end

/-- Frames that are newly taken: none was taken, all are noughts. -/
theorem takeN_spec (hl : ∀ f ∈ fs, f.b.length = 16) : ∀ {k : Nat}, k ≤ fs.length - frUsed fs → Valid (takeN fs k).1 (takeN fs k).2 ∧ (takeN fs k).2.Nodup ∧
    (∀ f ∈ (takeN fs k).2, ∃ x, fs[f]? = some x ∧ x.taken = false) ∧ (∀ f ∈ (takeN fs k).2, ∀ j, fcell (takeN fs k).1 f j = 0) ∧ ∀ f, f ∉ (takeN fs k).2 → (takeN fs k).1[f]? = fs[f]?
  | 0, _ => ⟨fun f hf => (by cases hf), List.nodup_nil, fun f hf => (by cases hf), fun f hf => (by cases hf), fun _ _ => rfl⟩
  | k + 1, hk => by
    obtain ⟨h1, h2, h3, h4, h5⟩ := takeN_spec hl (k := k) (by omega)
    have hus := takeN_used (fs := fs) (k := k) (by omega)
    have hln := takeN_len (fs := fs) (k := k)
    obtain ⟨i, hi, _⟩ := least_of_used (fs := (takeN fs k).1) (by omega)
    have hi' := hi
    unfold frLeast at hi'
    rw [List.findIdx?_eq_some_iff_getElem] at hi'
    obtain ⟨hlt, hft, _⟩ := hi'
    have hft : (takeN fs k).1[i].taken = false := by simpa using hft
    have hni : i ∉ (takeN fs k).2 := fun h => by
      obtain ⟨x, e1, e2, _⟩ := h1 i h
      rw [List.getElem?_eq_getElem hlt] at e1; cases e1
      rw [hft] at e2; cases e2
    have hT : frTake (takeN fs k).1 = (takeN fs k).1.set i ⟨List.replicate 16 0, true⟩ := by simp only [frTake, hi]
    have hget : ∀ f, f ≠ i → (frTake (takeN fs k).1)[f]? = (takeN fs k).1[f]? := fun f hf => by rw [hT, List.getElem?_set_ne (Ne.symm hf)]
    have hself : (frTake (takeN fs k).1)[i]? = some ⟨List.replicate 16 0, true⟩ := by rw [hT, List.getElem?_set_self hlt]
    simp only [takeN, hi, Option.getD_some]
    refine ⟨?_, ?_, ?_, ?_, ?_⟩
    · intro f hf
      by_cases hfi : f = i
      · subst hfi; exact ⟨_, hself, rfl, by simp⟩
      · have hf' : f ∈ (takeN fs k).2 := by simpa [hfi] using hf
        rw [hget f hfi]; exact h1 f hf'
    · rw [List.nodup_append]
      refine ⟨h2, by simp, fun a ha b hb => ?_⟩
      simp at hb; subst hb
      exact fun h => hni (h ▸ ha)
    · intro f hf
      by_cases hfi : f = i
      · subst hfi
        refine ⟨_, ?_, hft⟩
        rw [← h5 f hni]; exact List.getElem?_eq_getElem hlt
      · exact h3 f (by simpa [hfi] using hf)
    · intro f hf j
      unfold fcell
      by_cases hfi : f = i
      · subst hfi
        rw [hself]
        simp only [Option.bind_some, List.getElem?_replicate]
        split <;> rfl
      · rw [hget f hfi]; exact h4 f (by simpa [hfi] using hf) j
    · intro f hf
      have : f ≠ i ∧ f ∉ (takeN fs k).2 := by simpa [not_or, and_comm] using hf
      rw [hget f this.1]; exact h5 f this.2

end Go.Proofs.Ytchomcffeiheeaa.Am

/- Memory by pages as lists of bytes by names. -/
namespace Go.Proofs.Ytchomcffeiheeaa.Am
open Go
variable {fs : List Fr} {ts : Tabs}

abbrev Mem := List (Int × List Int)
def aneed (n : Nat) : Nat := (n + 15) / 16
def aused (A : Mem) : Nat := (A.map fun e => aneed e.2.length).sum
def aget (A : Mem) (id : Int) : Option (List Int) := (A.find? fun e => id == e.1).map (·.2)

def allF (ts : Tabs) : List Nat := (ts.map (·.2.l)).flatten
def datT (fs : List Fr) (t : Tb) : List Int := rdN fs t 0 t.n

structure PgRel (N : Nat) (A : Mem) (fs : List Fr) (ts : Tabs) : Prop where
  len : fs.length = N
  dat : A = ts.map fun e => (e.1, datT fs e.2)
  tn : ∀ e ∈ ts, e.2.n ≤ 64 ∧ e.2.l.length = (e.2.n + 15) / 16
  keys : (ts.map (·.1)).Nodup
  valid : Valid fs (allF ts)
  nodup : (allF ts).Nodup
  used : frUsed fs = (allF ts).length
  b : ∀ f ∈ fs, f.b.length = 16

variable {N : Nat} {A : Mem}

theorem mem_allF {e : Int × Tb} (he : e ∈ ts) {f : Nat} (hf : f ∈ e.2.l) : f ∈ allF ts := List.mem_flatten.2 ⟨_, List.mem_map.2 ⟨e, he, rfl⟩, hf⟩

theorem PgRel.val (R : PgRel N A fs ts) {e : Int × Tb} (he : e ∈ ts) : Valid fs e.2.l := fun f hf => R.valid f (mem_allF he hf)

theorem aget_map {g : Int × Tb → List Int} {id : Int} : ∀ {ts : Tabs}, aget (ts.map fun e => (e.1, g e)) id = (ts.find? fun e => id == e.1).map g
  | [] => rfl
  | e :: ts => by
    have ih := aget_map (g := g) (id := id) (ts := ts)
    simp only [aget, List.map_cons, List.find?_cons] at ih ⊢
    cases id == e.1
    · exact ih
    · rfl

theorem PgRel.get (R : PgRel N A fs ts) (id : Int) : aget A id = (tfind ts id).map (datT fs) := by
  rw [R.dat, aget_map]
  simp only [tfind, Option.map_map]
  rfl

theorem datT_len {t : Tb} : (datT fs t).length = t.n := rdN_len

theorem PgRel.aused (R : PgRel N A fs ts) : aused A = frUsed fs := by
  rw [R.used, R.dat]
  have h := R.tn
  clear R
  unfold Am.aused allF
  induction ts with
  | nil => rfl
  | cons e ts ih =>
    have h1 := (h e (by simp)).2
    simp only [List.map_cons, List.sum_cons, List.flatten_cons, List.length_append, datT_len, aneed, h1]
    have := ih (fun x hx => h x (List.mem_cons_of_mem _ hx))
    simp only [aneed, datT_len] at this
    omega

theorem datT_congr {fs' : List Fr} {t : Tb} (hv : Valid fs t.l) (hl : t.n ≤ 16 * t.l.length) (h : ∀ f ∈ t.l, fs'[f]? = fs[f]?) : datT fs' t = datT fs t := by
  unfold datT rdN
  refine List.map_congr_left (fun j hj => ?_)
  have hj' : j < t.n := by simpa using hj
  rw [Nat.zero_add]
  have hv' : Valid fs' t.l := fun f hf => by rw [h f hf]; exact hv f hf
  obtain ⟨f, h1, h2⟩ := rdB_eq hv (j := j) (by omega)
  obtain ⟨g, h3, h4⟩ := rdB_eq hv' (j := j) (by omega)
  rw [h1] at h3; cases h3
  rw [h2, h4]
  unfold fcell
  rw [h f (List.mem_of_getElem? h1)]

theorem map_new {f : Int × Tb → Int × List Int} {g : Int × Tb → Int × List Int} (h : ∀ e ∈ ts, f e = g e) : ts.map f = ts.map g := List.map_congr_left h

/-- What Map does. -/
def absMap (N : Nat) (A : Mem) (id n : Int) : Int × Mem :=
  if n < 0 ∨ 64 < n then (1, A) else if (aget A id).isSome then (1, A) else if N - aused A < aneed n.toNat then (9, A) else (0, A ++ [(id, List.replicate n.toNat 0)])

theorem tfind_none {id : Int} (h : tfind ts id = none) : id ∉ ts.map (·.1) := by
  unfold tfind at h
  intro hm
  obtain ⟨e, he, h2⟩ := List.mem_map.1 hm
  have := List.find?_eq_none.1 (Option.map_eq_none_iff.1 h) e he
  simp [h2] at this

theorem PgRel.map (R : PgRel N A fs ts) (id n : Int) : (mapR fs ts id n).1 = (absMap N A id n).1 ∧ PgRel N (absMap N A id n).2 (mapR fs ts id n).2.1 (mapR fs ts id n).2.2 := by
  unfold mapR absMap
  by_cases h1 : n < 0 ∨ 64 < n
  · simp only [if_pos h1]; exact ⟨trivial, R⟩
  rw [if_neg h1, if_neg h1]
  obtain ⟨n, rfl⟩ : ∃ k : Nat, n = k := ⟨n.toNat, by omega⟩
  rw [R.get id, Option.isSome_map]
  cases htf : tfind ts id with
  | some t => simp only [Option.isSome, if_true]; exact ⟨trivial, R⟩
  | none =>
    simp only [Option.isSome, Bool.false_eq_true, if_false]
    have hn : needOf n = aneed n := by unfold needOf aneed; omega
    rw [R.aused, hn, Int.toNat_natCast, ← R.len]
    by_cases h2 : fs.length - frUsed fs < aneed n
    · simp only [if_pos h2]; exact ⟨trivial, R.len ▸ R⟩
    · simp only [if_neg h2]
      refine ⟨trivial, ?_⟩
      obtain ⟨g1, g2, g3, g4, g5⟩ := takeN_spec R.b (k := aneed n) (by omega)
      have hln := takeN_len (fs := fs) (k := aneed n)
      have hdis : ∀ f ∈ allF ts, f ∉ (takeN fs (aneed n)).2 := fun f hf hf2 => by
        obtain ⟨x, e1, e2, _⟩ := R.valid f hf
        obtain ⟨y, e3, e4⟩ := g3 f hf2
        rw [e1] at e3; cases e3
        rw [e2] at e4; cases e4
      have hall : allF (ts ++ [(id, ⟨(takeN fs (aneed n)).2, n⟩)]) = allF ts ++ (takeN fs (aneed n)).2 := by simp [allF]
      have hdat : ∀ e ∈ ts, datT (takeN fs (aneed n)).1 e.2 = datT fs e.2 := fun e he =>
        datT_congr (R.val he) (by have := (R.tn e he).2; omega) (fun f hf => g5 f (hdis f (mem_allF he hf)))
      exact
      { len := hln.1
        dat := by
          rw [List.map_append, List.map_cons, List.map_nil, R.dat]
          congr 1
          · exact List.map_congr_left (fun e he => by rw [hdat e he])
          · congr 2
            refine List.ext_getElem (by rw [datT_len]; simp) (fun j hj1 hj2 => ?_)
            have hjn : j < n := by simpa using hj1
            simp only [List.getElem_replicate, datT, rdN, List.getElem_map, List.getElem_range, Nat.zero_add]
            obtain ⟨f, e1, e2⟩ := rdB_eq (t := ⟨(takeN fs (aneed n)).2, n⟩) g1 (j := j) (by show j < 16 * (takeN fs (aneed n)).2.length; rw [hln.2]; unfold aneed; omega)
            rw [e2, g4 f (List.mem_of_getElem? e1)]
        tn := fun e he => by
          rcases List.mem_append.1 he with he | he
          · exact R.tn e he
          · simp at he; subst he; exact ⟨by show n ≤ 64; omega, hln.2⟩
        keys := by
          rw [List.map_append, List.nodup_append]
          refine ⟨R.keys, by simp, fun a ha b hb => ?_⟩
          simp at hb; subst hb
          exact fun h => tfind_none htf (h ▸ ha)
        valid := by
          rw [hall]
          intro f hf
          rcases List.mem_append.1 hf with hf | hf
          · rw [g5 f (hdis f hf)]; exact R.valid f hf
          · exact g1 f hf
        nodup := by
          rw [hall, List.nodup_append]
          exact ⟨R.nodup, g2, fun a ha b hb h => hdis a ha (h ▸ hb)⟩
        used := by
          rw [hall, List.length_append, takeN_used (by omega), R.used, hln.2]
        b := takeN_b R.b }

/-- What Write does. -/
def absWr (A : Mem) (id : Int) (off : Nat) (vs : List Int) : Mem := A.map fun e => if id == e.1 then (e.1, e.2.take off ++ vs ++ e.2.drop (off + vs.length)) else e

theorem inR_some {id off n : Int} {t : Tb} {e : Int} (h : inR ts id off n = (some t, e)) : tfind ts id = some t ∧ 0 ≤ off ∧ 0 ≤ n ∧ off + n ≤ t.n ∧ e = 0 := by
  unfold inR at h
  split at h
  · cases h
  · rename_i t' ht
    split at h
    · cases h
    · cases h; exact ⟨ht, by omega, by omega, by omega, rfl⟩

theorem keys_eq {e e' : Int × Tb} (hk : (ts.map (·.1)).Nodup) (he : e ∈ ts) (he' : e' ∈ ts) (h : e.1 = e'.1) : e = e' := by
  obtain ⟨i, hi⟩ := List.mem_iff_getElem.1 he
  obtain ⟨j, hj⟩ := List.mem_iff_getElem.1 he'
  obtain ⟨hi, rfl⟩ := hi
  obtain ⟨hj, rfl⟩ := hj
  have := nodup_inj hk (i := i) (j := j) (by simpa using hi) (by simpa using hj) (by simpa using h)
  subst this
  rfl

theorem flat_disj {α : Type} {ls : List (List α)} (hn : ls.flatten.Nodup) {i j : Nat} {a b : List α} (hij : i ≠ j) (ha : ls[i]? = some a) (hb : ls[j]? = some b) : ∀ x ∈ a, x ∉ b := by
  have hp : ls.Pairwise (fun a b => ∀ x ∈ a, x ∉ b) := by
    rw [List.nodup_iff_pairwise_ne, List.pairwise_flatten] at hn
    exact hn.2.imp (fun h x hx hx' => h x hx x hx' rfl)
  rw [List.pairwise_iff_getElem] at hp
  obtain ⟨hi, rfl⟩ := List.getElem?_eq_some_iff.1 ha
  obtain ⟨hj, rfl⟩ := List.getElem?_eq_some_iff.1 hb
  intro x hx hx'
  rcases Nat.lt_or_gt_of_ne hij with h | h
  · exact hp i j hi hj h x hx hx'
  · exact hp j i hj hi h x hx' hx

theorem PgRel.disj (R : PgRel N A fs ts) {e e' : Int × Tb} (he : e ∈ ts) (he' : e' ∈ ts) (h : e ≠ e') : ∀ f ∈ e.2.l, f ∉ e'.2.l := by
  obtain ⟨i, hi⟩ := List.mem_iff_getElem?.1 he
  obtain ⟨j, hj⟩ := List.mem_iff_getElem?.1 he'
  refine flat_disj R.nodup (i := i) (j := j) (fun hij => ?_) (by simp [hi]) (by simp [hj])
  subst hij; rw [hi] at hj; cases hj; exact h rfl

theorem PgRel.lnodup (R : PgRel N A fs ts) {e : Int × Tb} (he : e ∈ ts) : e.2.l.Nodup := by
  have := R.nodup
  unfold allF at this
  rw [List.nodup_iff_pairwise_ne, List.pairwise_flatten] at this
  exact List.nodup_iff_pairwise_ne.2 (this.1 _ (List.mem_map.2 ⟨e, he, rfl⟩))

theorem PgRel.write (R : PgRel N A fs ts) {id : Int} {off : Nat} {vs : List Int} {t : Tb} {e : Int} (hin : inR ts id off vs.length = (some t, e)) : PgRel N (absWr A id off vs) (wrN fs t off vs vs.length) ts := by
  obtain ⟨htf, _, _, hle, _⟩ := inR_some hin
  obtain ⟨x, hx, hx1, rfl⟩ := tfind_mem htf
  have htn := R.tn x hx
  have hv := R.val hx
  have hlim : off + vs.length ≤ 16 * x.2.l.length := by omega
  have hvalid : ∀ l, Valid fs l → Valid (wrN fs x.2 off vs vs.length) l := fun l hl => (wrN_valid hv hl hlim).2
  exact
  { len := by rw [wrN_len, R.len]
    dat := by
      unfold absWr
      conv => lhs; rw [R.dat]
      rw [List.map_map]
      refine List.map_congr_left (fun y hy => ?_)
      simp only [Function.comp]
      by_cases hid : id = y.1
      · have hxy : y = x := keys_eq R.keys hy hx (by rw [← hid, hx1])
        subst hxy
        simp only [hid, beq_self_eq_true, if_true]
        congr 1
        refine List.ext_getElem (by simp [datT_len]; omega) (fun j hj1 hj2 => ?_)
        have hjn : j < y.2.n := by rw [datT_len] at hj2; exact hj2
        simp only [datT, rdN, List.getElem_map, List.getElem_range, Nat.zero_add]
        rw [rd_wrN hv (R.lnodup hx) (by omega) hlim]
        have hdl : (datT fs y.2).length = y.2.n := datT_len
        have htake : (List.take off (List.map (fun j => rdB fs y.2 (0 + j)) (List.range y.2.n))).length = off := by simp; omega
        by_cases h1 : j < off
        · rw [if_neg (by omega), List.getElem_append_left (by simp; omega), List.getElem_append_left (by simp; omega)]
          simp
        · by_cases h2 : j < off + vs.length
          · rw [if_pos (by omega), List.getElem_append_left (by simp; omega), List.getElem_append_right (by simp; omega)]
            simp only [List.length_take, List.length_map, List.length_range]
            rw [List.getElem?_eq_getElem (by omega)]
            simp only [Option.getD_some]
            congr 1; omega
          · rw [if_neg (by omega), List.getElem_append_right (by simp; omega)]
            simp only [List.length_append, List.length_take, List.length_map, List.length_range, List.getElem_drop, List.getElem_map, List.getElem_range, Nat.zero_add]
            congr 1; omega
      · have hb : (id == y.1) = false := by simpa using hid
        simp only [hb, Bool.false_eq_true, if_false]
        have hne : x ≠ y := fun h => hid (by rw [← h, hx1])
        congr 1
        unfold datT rdN
        refine List.map_congr_left (fun j hj => ?_)
        have hjn : j < y.2.n := by simpa using hj
        rw [rd_wrN_other hv (R.val hy) (R.disj hx hy hne) (by have := (R.tn y hy).2; omega) hlim]
    tn := R.tn
    keys := R.keys
    valid := hvalid _ R.valid
    nodup := R.nodup
    used := by rw [wrN_used hv hlim, R.used]
    b := wrN_b R.b }

/-- What is read. -/
theorem PgRel.read (R : PgRel N A fs ts) {id : Int} {off n : Nat} {t : Tb} {e : Int} (hin : inR ts id off n = (some t, e)) : rdN fs t off n = ((datT fs t).drop off).take n := by
  obtain ⟨htf, _, _, hle, _⟩ := inR_some hin
  refine List.ext_getElem (by simp [rdN_len, datT_len]; omega) (fun j h1 h2 => ?_)
  simp [rdN, datT]

end Go.Proofs.Ytchomcffeiheeaa.Am

/- Memory by pages: the layer's functions, on lists of bytes by names. -/
namespace Go.Proofs.Ytchomcffeiheeaa.Am
open Go
variable {fs : List Fr} {ts : Tabs} {N : Nat} {A : Mem}

def adel (A : Mem) (id : Int) : Mem := A.eraseP fun e => id == e.1

theorem tdel_eq {id : Int} : ∀ {ts : Tabs}, tdel ts id = ts.eraseP fun e => id == e.1
  | [] => rfl
  | e :: ts => by
    have ih := tdel_eq (id := id) (ts := ts)
    simp only [tdel, tidx, List.findIdx?_cons, List.eraseP_cons] at ih ⊢
    cases h : id == e.1
    · simp only [Bool.false_eq_true, if_false]
      rw [← ih]
      cases h2 : List.findIdx? (fun e => id == e.1) ts with
      | none => rfl
      | some i => simp [h2]
    · rfl

theorem frFree_get {f g : Nat} (h : g ≠ f) : (frFree fs (f : Int))[g]? = fs[g]? := by
  unfold frFree
  split
  · rfl
  · rename_i i hi
    obtain ⟨x, _, _, e⟩ := frAt_some hi
    have : i = f := by omega
    subst this
    split
    · rfl
    · rw [List.getElem?_set_ne (Ne.symm h)]

theorem freeAll_get : ∀ {l : List Nat} {fs : List Fr} {g : Nat}, g ∉ l → (freeAll fs l)[g]? = fs[g]?
  | [], _, _, _ => rfl
  | f :: l, fs, g, h => by
    have h1 := freeAll_get (l := l) (fs := frFree fs f) (g := g) (fun hm => h (List.mem_cons_of_mem _ hm))
    simp only [freeAll, List.foldl_cons] at h1 ⊢
    rw [h1, frFree_get (fun e => h (by rw [e]; simp))]

theorem frFree_used {f : Nat} {x : Fr} (hx : fs[f]? = some x) (ht : x.taken = true) : frUsed (frFree fs (f : Int)) + 1 = frUsed fs := by
  have ha : frAt fs (f : Int) = some f := by
    simp only [frAt, Int.toNat_natCast, hx, ht]
    rw [if_pos (by omega)]
    simp
  obtain ⟨hlt, hxe⟩ := List.getElem?_eq_some_iff.1 hx
  simp only [frFree, ha, hx]
  unfold frUsed
  rw [List.countP_set hlt, hxe]
  have : 0 < List.countP (fun x => x.taken) fs := List.countP_pos_iff.2 ⟨x, List.mem_of_getElem? hx, ht⟩
  simp [ht]
  omega

theorem freeAll_used : ∀ {l : List Nat} {fs : List Fr}, l.Nodup → Valid fs l → frUsed (freeAll fs l) + l.length = frUsed fs
  | [], _, _, _ => rfl
  | f :: l, fs, hn, hv => by
    obtain ⟨x, h1, h2, _⟩ := hv f (by simp)
    have hn' := List.nodup_cons.1 hn
    have := freeAll_used (l := l) (fs := frFree fs f) hn'.2 (fun g hg => by
      have hgf : g ≠ f := fun e => hn'.1 (by rw [← e]; exact hg)
      rw [frFree_get hgf]
      exact hv g (List.mem_cons_of_mem _ hg))
    have h3 := frFree_used h1 h2
    simp only [freeAll, List.foldl_cons, List.length_cons] at this ⊢
    omega

/-- What Unmap does. -/
def absUnmap (A : Mem) (id : Int) : Int × Mem := match aget A id with
  | none => (7, A)
  | some _ => (0, adel A id)

theorem eraseP_map {α β : Type} {p : β → Bool} {f : α → β} : ∀ {l : List α}, (l.map f).eraseP p = (l.eraseP (p ∘ f)).map f
  | [] => rfl
  | a :: l => by
    simp only [List.map_cons, List.eraseP_cons, Function.comp]
    cases p (f a)
    · simp [eraseP_map (l := l)]
    · rfl

theorem PgRel.unmap (R : PgRel N A fs ts) (id : Int) : (unmapR fs ts id).1 = (absUnmap A id).1 ∧ PgRel N (absUnmap A id).2 (unmapR fs ts id).2.1 (unmapR fs ts id).2.2 := by
  unfold unmapR absUnmap
  rw [R.get id]
  cases htf : tfind ts id with
  | none => exact ⟨rfl, R⟩
  | some t =>
    simp only [Option.map_some]
    refine ⟨trivial, ?_⟩
    obtain ⟨x, hx, hx1, rfl⟩ := tfind_mem htf
    obtain ⟨a, l1, l2, h1, h2, h3, h4⟩ := List.exists_of_eraseP hx (p := fun e => id == e.1) (by simp [hx1])
    have hax : a = x := keys_eq R.keys (by rw [h3]; simp) hx (by simp at h2; rw [hx1, ← h2])
    subst hax
    rw [tdel_eq, h4]
    have hsub : ∀ e ∈ l1 ++ l2, e ∈ ts := fun e he => by
      rw [h3]
      rcases List.mem_append.1 he with h | h
      · exact List.mem_append_left _ h
      · exact List.mem_append_right _ (List.mem_cons_of_mem _ h)
    have hkey := R.keys
    rw [h3, List.map_append, List.map_cons] at hkey
    have hk1 : ∀ e ∈ l1 ++ l2, e ≠ a := fun e he h => by
      subst h
      rw [List.nodup_append, List.nodup_cons] at hkey
      rcases List.mem_append.1 he with h | h
      · exact hkey.2.2 _ (List.mem_map.2 ⟨e, h, rfl⟩) _ (by simp) rfl
      · exact hkey.2.1.1 (List.mem_map.2 ⟨e, h, rfl⟩)
    have hdis : ∀ e ∈ l1 ++ l2, ∀ f ∈ e.2.l, f ∉ a.2.l := fun e he => R.disj (hsub e he) hx (hk1 e he)
    have hget : ∀ e ∈ l1 ++ l2, ∀ f ∈ e.2.l, (freeAll fs a.2.l)[f]? = fs[f]? := fun e he f hf => freeAll_get (hdis e he f hf)
    have hnod := R.nodup
    have hus := R.used
    have hfu := freeAll_used (R.lnodup hx) (R.val hx)
    have hallA : allF ts = allF l1 ++ (a.2.l ++ allF l2) := by rw [h3]; simp [allF]
    have hallB : allF (l1 ++ l2) = allF l1 ++ allF l2 := by simp [allF]
    rw [hallA] at hnod hus
    exact
    { len := by rw [freeAll_len, R.len]
      dat := by
        unfold adel
        conv => lhs; rw [R.dat]
        rw [eraseP_map]
        have : (fun e => id == e.1) ∘ (fun e : Int × Tb => (e.1, datT fs e.2)) = fun e => id == e.1 := rfl
        rw [this, h4]
        refine List.map_congr_left (fun e he => ?_)
        congr 1
        exact (datT_congr (R.val (hsub e he)) (by have := (R.tn e (hsub e he)).2; omega) (hget e he)).symm
      tn := fun e he => R.tn e (hsub e he)
      keys := by
        rw [List.map_append]
        rw [List.nodup_append, List.nodup_cons] at hkey
        rw [List.nodup_append]
        exact ⟨hkey.1, hkey.2.1.2, fun u hu v hv => hkey.2.2 u hu v (List.mem_cons_of_mem _ hv)⟩
      valid := fun f hf => by
        obtain ⟨l, hl, hfl⟩ := List.mem_flatten.1 hf
        obtain ⟨e, he, rfl⟩ := List.mem_map.1 hl
        rw [hget e he f hfl]
        exact R.val (hsub e he) f hfl
      nodup := by
        rw [hallB]
        rw [List.nodup_append, List.nodup_append] at hnod
        rw [List.nodup_append]
        exact ⟨hnod.1, hnod.2.1.2.1, fun u hu v hv => hnod.2.2 u hu v (List.mem_append_right _ hv)⟩
      used := by
        rw [hallB, List.length_append]
        simp only [List.length_append] at hus
        omega
      b := freeAll_b R.b }

variable {P : Program} {h : AHeap} {bs bm bl bp : Nat}

/-- Memory, as the heap has it. -/
def SpA (h : AHeap) (bs bm bl bp N : Nat) (A : Mem) : Prop := ∃ fs ts, SpAt h bs bm bl bp fs ts ∧ PgRel N A fs ts

theorem SpA.more (S : SpA h bs bm bl bp N A) {h' : AHeap} (hn : h.next ≤ h'.next) (hk : ∀ b, b < h.next → h'.get b = h.get b) : SpA h' bs bm bl bp N A := by
  obtain ⟨fs, ts, S, R⟩ := S
  exact ⟨fs, ts, S.more hn hk, R⟩
theorem SpA.clean (S : SpA h bs bm bl bp N A) (n : Nat) : SpA (h.clean n) bs bm bl bp N A := by
  obtain ⟨fs, ts, S, R⟩ := S
  exact ⟨fs, ts, S.clean n, R⟩
theorem SpA.lt (S : SpA h bs bm bl bp N A) : bs < h.next ∧ bm < h.next ∧ bl < h.next ∧ bp < h.next := by
  obtain ⟨fs, ts, S, R⟩ := S
  exact ⟨S.l1, S.l2, S.l3, S.l4⟩

theorem A_new (ok : TblOK P tb) (h : AHeap) (n : Int) : ∃ bs bm bl bp h', ACalls P 27 [.int .i64 n] h (.ptr bs 0) h' ∧ SpA h' bs bm bl bp (frNew n) [] ∧
    h.next ≤ bs ∧ h.next ≤ bm ∧ h.next ≤ bl ∧ h.next ≤ bp ∧ h.next ≤ h'.next ∧ ∀ b, b < h.next → h'.get b = h.get b := by
  obtain ⟨bs, bm, bl, bp, h', h1, h2, h3⟩ := sp_new ok h n
  refine ⟨bs, bm, bl, bp, h', h1, ⟨_, _, h2, ?_⟩, h3⟩
  exact { len := by simp, dat := rfl, tn := fun e he => (by cases he), keys := List.nodup_nil, valid := fun f hf => (by cases hf), nodup := List.nodup_nil
          used := by unfold frUsed; rw [List.countP_replicate]; rfl
          b := fun f hf => by simp [List.mem_replicate] at hf; simp [hf.2, F0] }

theorem A_map (ok : TblOK P tb) (S : SpA h bs bm bl bp N A) (id n : Int) : ∃ h', ACalls P 28 [.ptr bs 0, .int .u64 id, .int .i64 n] h (.int .i64 (absMap N A id n).1) h' ∧
    (SpA h' bs bm bl bp N (absMap N A id n).2 ∧ h.next ≤ h'.next ∧ ∀ b, b < h.next → b ≠ bl → b ≠ bp → h'.get b = h.get b) := by
  obtain ⟨fs, ts, S, R⟩ := S
  obtain ⟨h', h1, h2, h3⟩ := map_calls ok S id n
  obtain ⟨e1, e2⟩ := R.map id n
  rw [e1] at h1
  exact ⟨h', h1, ⟨_, _, h2, e2⟩, h3⟩

theorem A_unmap (ok : TblOK P tb) (S : SpA h bs bm bl bp N A) (id : Int) : ∃ h', ACalls P 31 [.ptr bs 0, .int .u64 id] h (.int .i64 (absUnmap A id).1) h' ∧
    (SpA h' bs bm bl bp N (absUnmap A id).2 ∧ h.next ≤ h'.next ∧ ∀ b, b < h.next → b ≠ bl → b ≠ bp → h'.get b = h.get b) := by
  obtain ⟨fs, ts, S, R⟩ := S
  obtain ⟨h', h1, h2, h3⟩ := unmap_calls ok S id
  obtain ⟨e1, e2⟩ := R.unmap id
  rw [e1] at h1
  exact ⟨h', h1, ⟨_, _, h2, e2⟩, h3⟩

theorem A_free (ok : TblOK P tb) (S : SpA h bs bm bl bp N A) : ACalls P 35 [.ptr bs 0] h (.int .i64 ((N - aused A : Nat) : Int)) h := by
  obtain ⟨fs, ts, S, R⟩ := S
  rw [R.aused, ← R.len]
  exact spfree_calls ok S

theorem A_len (ok : TblOK P tb) (S : SpA h bs bm bl bp N A) (id : Int) : ACalls P 34 [.ptr bs 0, .int .u64 id] h (match aget A id with | some d => .tup [.int .i64 d.length, .int .i64 0] | none => .tup [.int .i64 0, .int .i64 7]) h := by
  obtain ⟨fs, ts, S, R⟩ := S
  have := len_calls' ok S id
  rw [R.get id]
  cases htf : tfind ts id with
  | none => rw [htf] at this; exact this
  | some t => rw [htf] at this; simp only [Option.map_some, datT_len]; exact this

/-- Are so many bytes there? -/
def absIn (A : Mem) (id off n : Int) : Option (List Int) × Int := match aget A id with
  | none => (none, 7)
  | some d => if off < 0 ∨ n < 0 ∨ (d.length : Int) < off ∨ (d.length : Int) - off < n then (none, 11) else (some d, 0)

theorem PgRel.inA (R : PgRel N A fs ts) (id off n : Int) : absIn A id off n = ((inR ts id off n).1.map (datT fs), (inR ts id off n).2) := by
  unfold absIn inR
  rw [R.get id]
  cases tfind ts id with
  | none => rfl
  | some t =>
    simp only [Option.map_some, datT_len]
    split <;> rfl

theorem A_read (ok : TblOK P tb) (S : SpA h bs bm bl bp N A) {id : Int} {off n : Nat} {d : List Int} (hin : absIn A id off n = (some d, 0)) : ACalls P 30 [.ptr bs 0, .int .u64 id, .int .i64 off, .int .i64 n] h (.tup [.vs (brow ((d.drop off).take n)) .unk, .int .i64 0]) h := by
  obtain ⟨fs, ts, S, R⟩ := S
  rw [R.inA] at hin
  cases hr : inR ts id off n with
  | mk o e =>
    rw [hr] at hin
    cases o with
    | none => cases hin
    | some t =>
      cases hin
      have := read_val ok S hr
      rw [R.read hr] at this
      exact this

theorem A_read_rs (ok : TblOK P tb) (S : SpA h bs bm bl bp N A) {id : Int} {off n : Nat} {d : List Int} (hin : absIn A id off n = (some d, 0)) : ∃ bo h', ACalls P 30 [.ptr bs 0, .int .u64 id, .int .i64 off, .int .i64 n] h (.tup [.rs bo 0 n 1, .int .i64 0]) h' ∧
    (h'.get bo = some (.cells (((d.drop off).take n).map (.int .u8))) ∧ h.next ≤ bo ∧ bo < h'.next ∧ ∀ b, b < h.next → h'.get b = h.get b) := by
  obtain ⟨fs, ts, S, R⟩ := S
  rw [R.inA] at hin
  cases hr : inR ts id off n with
  | mk o e =>
    rw [hr] at hin
    cases o with
    | none => cases hin
    | some t =>
      cases hin
      obtain ⟨bo, h', h1, h2⟩ := read_calls ok S hr
      rw [R.read hr] at h2
      exact ⟨bo, h', h1, h2⟩

theorem A_read_none (ok : TblOK P tb) (S : SpA h bs bm bl bp N A) {id off n e : Int} (hin : absIn A id off n = (none, e)) (he : e ≠ 0) : ACalls P 30 [.ptr bs 0, .int .u64 id, .int .i64 off, .int .i64 n] h (.tup [.vs [] .full, .int .i64 e]) h := by
  obtain ⟨fs, ts, S, R⟩ := S
  rw [R.inA] at hin
  cases hr : inR ts id off n with
  | mk o e' =>
    rw [hr] at hin
    cases o with
    | none => cases hin; exact read_none ok S hr he
    | some t => cases hin

theorem A_write (ok : TblOK P tb) (S : SpA h bs bm bl bp N A) {id : Int} {off : Nat} {vs d : List Int} {tl : Tail} (hin : absIn A id off vs.length = (some d, 0)) : ∃ h', ACalls P 29 [.ptr bs 0, .int .u64 id, .int .i64 off, .vs (brow vs) tl] h (.int .i64 0) h' ∧
    (SpA h' bs bm bl bp N (absWr A id off vs) ∧ h.next ≤ h'.next ∧ ∀ b, b < h.next → b ≠ bl → h'.get b = h.get b) := by
  obtain ⟨fs, ts, S, R⟩ := S
  rw [R.inA] at hin
  cases hr : inR ts id off vs.length with
  | mk o e =>
    rw [hr] at hin
    cases o with
    | none => cases hin
    | some t =>
      cases hin
      obtain ⟨h', h1, h2, h3⟩ := write_calls ok S (tl := tl) hr
      exact ⟨h', h1, ⟨_, _, h2, R.write hr⟩, h3⟩

theorem A_write_none (ok : TblOK P tb) (S : SpA h bs bm bl bp N A) {id off e : Int} {xs : List (List AV)} {tl : Tail} (hin : absIn A id off xs.length = (none, e)) (he : e ≠ 0) : ACalls P 29 [.ptr bs 0, .int .u64 id, .int .i64 off, .vs xs tl] h (.int .i64 e) h := by
  obtain ⟨fs, ts, S, R⟩ := S
  rw [R.inA] at hin
  cases hr : inR ts id off xs.length with
  | mk o e' =>
    rw [hr] at hin
    cases o with
    | none => cases hin; exact write_none ok S hr he
    | some t => cases hin

end Go.Proofs.Ytchomcffeiheeaa.Am
