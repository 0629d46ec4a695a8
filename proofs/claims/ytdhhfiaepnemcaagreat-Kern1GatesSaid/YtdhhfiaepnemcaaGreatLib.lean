/- Functions of the library as the abstract machine knows them, an evaluator's own functions, runs in pieces. Conditions: none. -/
import Derived.Test.YtdhhfiaepnemcaaGreatAmE
set_option maxRecDepth 100000
set_option linter.unusedSimpArgs false
set_option linter.unusedVariables false
set_option linter.unnecessarySimpa false
namespace Go.Proofs.YtdhhfiaepnemcaaGreat.Am
open Go
variable {P : Program} {T : Tbl} {h : AHeap}

/- slices.Clone, at rows of one length. -/
def lcClone (z : List AV) (by_ sz : Nat) : RFunc := ⟨(.seq (.reg [p 2 (.mov (.const (.vs [] .full)))]) (.seq (.seq (.reg [m 3 0, p 4 (.eqNil 1 false (t 3))]) (.cond (t 4) (.seq (.reg [p 2 (.mov (.const (.vs [] .full)))]) .ret) .skip)) (.seq (.reg [p 5 (.bslice 0 z []), m 6 0, e 7 (.append by_ sz (t 5) (t 6)), m 2 7]) .ret))), 8, [.tmp 2]⟩

theorem clone_nils (ok : TblOK P T) {f by_ sz : Nat} {z : List AV} (hf : T.fn f = some (lcClone z by_ sz)) : ACalls P f [.nils] h (.vs [] .full) h := by
  refine ok.calls hf (by simp [lcClone]) ?_
  simp (decide := true) only [st, lcClone]

theorem clone_vz (ok : TblOK P T) {f by_ sz : Nat} {z : List AV} (hf : T.fn f = some (lcClone z by_ sz)) : ACalls P f [.vz] h (.vs [] .full) h := by
  refine ok.calls hf (by simp [lcClone]) ?_
  have h0 : fillR (put (put (put (put (args0 [AV.vz]) (some 2) (.vs [] .full)) (some 3) .vz) (some 4) (.bool false)) none .undef) z.length (List.replicate 0 z) [] = some [] := rfl
  simp (decide := true) only [st, lcClone, fillR, List.replicate_zero, appF]

theorem ACalls.vs0 {f : Nat} {as : List AV} {r : AV} {h' : AHeap} (t : Tail) (h1 : ACalls P f (.nils :: as) h r h') (h2 : ACalls P f (.vz :: as) h r h') : ACalls P f (.vs [] t :: as) h r h' := by
  intro ι I w cargs H hl
  have h0 : 0 < cargs.toList.length := by rw [← hl.1]; simp
  obtain ⟨c, cs, hcs⟩ : ∃ c cs, cargs.toList = c :: cs := by
    cases hq : cargs.toList with
    | nil => rw [hq] at h0; simp at h0
    | cons c cs => exact ⟨c, cs, rfl⟩
  have hv : VR ι I w (.vs [] t) c := hl.2 0 _ _ rfl (by rw [hcs]; rfl)
  have go : ∀ a, VR ι I w a c → LR ι I w (a :: as) cargs.toList := fun a ha => ⟨by rw [← hl.1]; rfl, fun i v u hi hu => by
    cases i with
    | zero => simp at hi; subst hi; rw [hcs] at hu; simp at hu; subst hu; exact ha
    | succ i => exact hl.2 (i + 1) v u (by simpa using hi) hu⟩
  generalize hx : AV.vs [] t = x at hv
  cases hv <;> first | (cases hx; done) | skip
  case vsNil t' ht => exact h1 ι I w cargs H (go _ .nils)
  case vsZ t' a cap ht => exact h2 ι I w cargs H (go _ (.vz a cap))
  case vs xs t' cb o s cap g hs hI hc hv' hone hcap ht =>
    cases hx
    exact h2 ι I w cargs H (go _ (.vz _ cap))

theorem clone_empty (ok : TblOK P T) {f by_ sz : Nat} {z : List AV} (hf : T.fn f = some (lcClone z by_ sz)) {t : Tail} : ACalls P f [.vs [] t] h (.vs [] .full) h :=
  .vs0 t (clone_nils ok hf) (clone_vz ok hf)

/-- What Clone does with a slice that is not nil for sure. -/
theorem clone_rows (ok : TblOK P T) {f by_ sz : Nat} {z : List AV} (hf : T.fn f = some (lcClone z by_ sz)) {x : AV} {rows : List (List AV)} (hx : isNilA 1 x = some false) (hr : rowsA sz h x = some rows) (hne : rows ≠ [])
    (h1 : rows.length * by_ < 2 ^ 40) (h2 : rows.length < 2 ^ 40) : ACalls P f [x] h (.vs rows (.own h.next)) (h.at h.next .tail) := by
  refine ok.calls hf (by simp [lcClone]) ?_
  have ha : appF by_ sz h.next h (.vs [] .full) (some rows) = some (.vs rows (.own h.next), h.at h.next .tail) := by
    simp only [appF, List.nil_append, List.length_nil, Nat.zero_add]
    rw [if_neg hne, if_pos ⟨rfl, h1, h2⟩]
  simp (decide := true) only [st, lcClone, fillR, List.replicate_zero, hx, hr, ha]
theorem clone_rows0 (ok : TblOK P T) {f by_ sz : Nat} {z : List AV} (hf : T.fn f = some (lcClone z by_ sz)) {x : AV} (hx : isNilA 1 x = some false) (hr : rowsA sz h x = some []) : ACalls P f [x] h (.vs [] .full) h := by
  refine ok.calls hf (by simp [lcClone]) ?_
  have ha : appF by_ sz h.next h (.vs [] .full) (some []) = some (.vs [] .full, h) := rfl
  simp (decide := true) only [st, lcClone, fillR, List.replicate_zero, hx, hr, ha]

/-- A slice whose room is not known has some room. -/
theorem ACalls.ofRk {f b off n sz : Nat} {as : List AV} {r : AV} {h' : AHeap} (hc : ∀ cap, n ≤ cap → ACalls P f (.rk b off n sz cap :: as) h r h') : ACalls P f (.rs b off n sz :: as) h r h' := by
  intro ι I w cargs H hl
  have h0 : 0 < cargs.toList.length := by rw [← hl.1]; simp
  obtain ⟨c, cs, hcs⟩ : ∃ c cs, cargs.toList = c :: cs := by
    cases hq : cargs.toList with
    | nil => rw [hq] at h0; simp at h0
    | cons c cs => exact ⟨c, cs, rfl⟩
  have hv : VR ι I w (.rs b off n sz) c := hl.2 0 _ _ rfl (by rw [hcs]; rfl)
  have go : ∀ a, VR ι I w a c → LR ι I w (a :: as) cargs.toList := fun a ha => ⟨by rw [← hl.1]; rfl, fun i v u hi hu => by
    cases i with
    | zero => simp at hi; subst hi; rw [hcs] at hu; simp at hu; subst hu; exact ha
    | succ i => exact hl.2 (i + 1) v u (by simpa using hi) hu⟩
  cases hv
  rename_i cb o room cap h1 h2 h3
  exact hc cap h2 ι I w cargs H (go _ (.rk b off n sz cap cb o room h1 h2 h3))

def bufH (h : AHeap) (b : Nat) (cs : List AV) : AHeap := ((h.set b none).clean 19).at (h.next + 19) (.cells cs)

/-- A call that hands back a slice that was handed in, or a new one: the block gets a number of its own. -/
theorem ACalls.fin {f b o0 n m c sz sz0 : Nat} {a0 r0 : AV} {as : List AV} {cs : List AV} {h1 : AHeap} (j : Nat) (hc : ACalls P f (a0 :: as) h r0 h1) (ha : a0 = .rs b o0 n sz0 ∨ ∃ cap, a0 = .rk b o0 n sz0 cap) (hr : r0 = .rs c 0 m sz ∨ ∃ cap, r0 = .rk c 0 m sz cap)
    (hg : h1.get c = some (.cells cs)) (hcb : c = b ∨ h.next ≤ c) (hn : h1.next ≤ h.next + 19) (hk : ∀ x, x < h.next → x ≠ b → h1.get x = h.get x) :
    ACalls P f (a0 :: as) h (.rs (h.next + 19) 0 m sz) (bufH h b (cs.take j)) := by
  intro ι I w cargs H hl
  have h0 : 0 < cargs.toList.length := by rw [← hl.1]; simp
  have hv0 : VR ι I w a0 cargs.toList[0] := hl.2 0 _ _ rfl (List.getElem?_eq_getElem h0)
  have hbs : ∃ l, ι b = some l := by
    generalize cargs.toList[0] = c at hv0
    rcases ha with rfl | ⟨cap, rfl⟩ <;> (cases hv0; exact ⟨_, by assumption⟩)
  obtain ⟨l0, hb0⟩ := hbs
  refine (hc ι I w cargs H hl).mono ?_
  rintro e w' ⟨v, ι', I', rfl, hv, H', E⟩
  have hloc : ∃ cb o room cap, ι' c = some (.cells cb o room) ∧ m ≤ cap ∧ 0 + cap * sz ≤ room ∧ v = .slice (some ⟨cb, o + 0, none⟩) m cap := by
    rcases hr with rfl | ⟨cap, rfl⟩ <;> (cases hv; exact ⟨_, _, _, _, by assumption, by assumption, by assumption, rfl⟩)
  obtain ⟨cb, o, room, cap, e1, e2, e3, rfl⟩ := hloc
  obtain ⟨_, _, _, hloc, hroom, hone, hcell⟩ := H'.cells c cs _ hg e1
  cases hloc
  have hKn : ι' (h.next + 19) = none := by
    cases hq : ι' (h.next + 19) with
    | none => rfl
    | some l => have := H'.dom _ l hq; omega
  have hget : ∀ x y, ((h.set b none).clean 19).get x = some y → x < h.next ∧ x ≠ b ∧ h1.get x = some y := fun x y hx => by
    by_cases hlt : x < h.next
    · by_cases hne : x = b
      · simp [AHeap.clean, AHeap.set, hne] at hx
      · have hx' : h.get x = some y := by simpa [AHeap.clean, AHeap.set, hlt, hne] using hx
        exact ⟨hlt, hne, by rw [hk x hlt hne]; exact hx'⟩
    · have hlt' : ¬ x < (h.set b none).next := hlt
      simp [AHeap.clean, hlt'] at hx
  have hnx : ((h.set b none).clean 19).next = h.next + 19 := rfl
  have HB : HR ι' I' ((h.set b none).clean 19) w' := H'.onDom (fun i l hi => by have := H'.dom i l hi; omega) (fun i l x hi hx => (hget i x hx).2.2)
  have hin : cb < w'.heap.size := H'.inside c _ e1
  have H3 := HB.claim (id := h.next + 19) (l := .cells cb o room) (x := .cells (cs.take j)) (fun l' hl' => by rw [hKn] at hl'; cases hl') hin
    ⟨by simp; omega, fun v hv => hone v (List.mem_of_mem_take hv), fun j' hj => (by
      obtain ⟨u, g1, g2, g3⟩ := hcell j' hj
      refine ⟨u, g1, g2, fun v hv => g3 v ?_⟩
      rw [List.getElem?_take] at hv
      split at hv
      · exact hv
      · cases hv), H'.pl c cs cb o room hg e1⟩
    (fun k' j' hl' => ⟨fun ⟨i, l', y, hi, hgi, hli⟩ => by
        obtain ⟨q1, q2, q3⟩ := hget i y hgi
        exact H'.disj i c l' _ y _ k' j' (by omega) hi e1 q3 hg hli hl', H'.imm c _ _ k' j' e1 hg hl'⟩)
  refine ⟨_, _, I', rfl, ?_, H3, ?_⟩
  · exact .rs (h.next + 19) 0 m sz cb o room cap (Inj.set_same _ _ _) e2 e3
  · refine { keep := fun i hi => ?_, more := fun i l hi => ?_, next := by simp [bufH, AHeap.at, AHeap.set, AHeap.clean]; omega, imm := E.imm, os := E.os, tape := E.tape, output := E.output, size := E.size, block := E.block, cell := E.cell, frozen := E.frozen, own := ?_, inew := E.inew, lost := ?_ }
    · rw [Inj.set_other _ _ (by omega)]; exact E.keep i hi
    · have := E.more i l hi
      rw [Inj.set_other _ _ (fun he => by rw [he, hKn] at this; cases this)]; exact this
    · rintro k' j' ⟨i, l, x, hi, hgi, hl'⟩
      by_cases hii : i = h.next + 19
      · subst hii; rw [Inj.set_same] at hi; cases hi
        exact E.own k' j' ⟨c, _, _, e1, hg, hl'⟩
      · rw [Inj.set_other _ _ hii] at hi
        have hgi' : ((h.set b none).clean 19).get i = some x := by simpa [bufH, AHeap.at, hii] using hgi
        exact E.own k' j' ⟨i, l, x, hi, (hget i x hgi').2.2, hl'⟩
    · intro i hi hin'
      have hib : i ≠ b := fun he => by rw [he, hb0] at hin'; cases hin'
      have hih : ¬ i = h.next + 19 := by omega
      have hlt : i < h.next := by omega
      simp [bufH, AHeap.at, AHeap.clean, AHeap.set, hih, hib, hlt]

theorem WP_regD0n {ros : List RO} {un : List (List Nat)} {K : AExit → Env → AHeap → Prop} {ρ : Env} (n : Nat) (hn : ros.length = n) (hu : un.all (·.isEmpty) = true) (he : execD0 P n h.next ros 0 ρ (h.clean n) (K .normal)) : WP P (.regD ros un) K ρ h := by
  subst hn
  exact WP_regD0 hu he
end Go.Proofs.YtdhhfiaepnemcaaGreat.Am

namespace Go.Proofs.YtdhhfiaepnemcaaGreat.Am
open Go
variable {P : Program} {T : Tbl} {h : AHeap}

def ins0 : List RO := [p 6 (.mov (.const (.vs [] .full)))]
def ins1 : List RO := [m 10 0, m 11 1, p 12 (.slc 2 (t 10) (some (t 11)) none none)]
def ins2 : List RO := [m 13 2, ln 14 13, m 7 14]
def ins3 : List RO := [m 15 7, b 16 .eql (t 15) (z 0)]
def ins4 : List RO := [m 17 0, m 6 17]
def ins5 : List RO := [m 18 0, ln 19 18, m 8 19]
def ins6 : List RO := [m 20 1, m 21 8, b 22 .eql (t 20) (t 21)]
def ins7 : List RO := [m 23 0, m 24 2, e 25 (.appendR 4 2 (t 23) (t 24)), m 6 25]
def ins8 : List RO := [m 26 8, m 27 7, b 28 .add (t 26) (t 27), m 29 0, p 30 (.capS (t 29)), b 31 .gtr (t 28) (t 30)]
def ins9 : List RO := [m 32 0, m 33 1, p 34 (.slc 2 (t 32) none (some (t 33)) none), m 35 8, m 36 7, b 37 .add (t 35) (t 36), m 38 1, b 39 .sub (t 37) (t 38), e 40 (.appendZ 4 [(.int .u16 0), (.int .u8 0)] (t 34) (t 39)), m 9 40]
def ins10 : List RO := [m 41 9, m 42 1, p 43 (.slc 2 (t 41) (some (t 42)) none none), m 44 2, e 45 (.copy 2 (t 43) (t 44))]
def ins11 : List RO := [m 46 9, m 47 1, m 48 7, b 49 .add (t 47) (t 48), p 50 (.slc 2 (t 46) (some (t 49)) none none), m 51 0, m 52 1, p 53 (.slc 2 (t 51) (some (t 52)) none none), e 54 (.copy 2 (t 50) (t 53))]
def ins12 : List RO := [m 55 9, m 6 55]
def ins13 : List RO := [m 56 0, m 57 8, m 58 7, b 59 .add (t 57) (t 58), p 60 (.slc 2 (t 56) none (some (t 59)) none), m 0 60]
def ins14 : List RO := [m 61 2, m 62 0, m 63 1, m 64 7, b 65 .add (t 63) (t 64), p 66 (.slc 2 (t 62) (some (t 65)) none none), p 67 (.ovl 2 (t 61) (t 66)), p 68 (.un .not (t 67))]
def ins15 : List RO := [m 69 0, m 70 1, m 71 7, b 72 .add (t 70) (t 71), p 73 (.slc 2 (t 69) (some (t 72)) none none), m 74 0, m 75 1, p 76 (.slc 2 (t 74) (some (t 75)) none none), e 77 (.copyK 2 (t 73) (t 76))]
def ins16 : List RO := [m 78 0, m 79 1, p 80 (.slc 2 (t 78) (some (t 79)) none none), m 81 2, e 82 (.copyK 2 (t 80) (t 81))]
def ins17 : List RO := [m 83 0, m 6 83]
def insT : RCode := (.seq (.reg [m 84 0, m 85 8, p 86 (.slc 2 (t 84) (some (t 85)) none none), m 87 2, e 88 (.copy 2 (t 86) (t 87))]) (.seq (.reg [m 89 0, m 90 1, p 91 (.slc 2 (t 89) (some (t 90)) none none), m 92 7, c 93 280 [(t 91), (t 92)]]) (.seq (.reg [m 94 0, m 6 94]) .ret)))
/-- slices.Insert at pairs; rot: the function that is called where the two overlap (never). -/
def lcIns (rest : RCode) : RFunc := ⟨(.seq (.reg ins0) (.seq (.reg ins1) (.seq (.reg ins2) (.seq (.seq (.reg ins3) (.cond (t 16) (.seq (.reg ins4) .ret) .skip)) (.seq (.reg ins5) (.seq (.seq (.reg ins6) (.cond (t 22) (.seq (.reg ins7) .ret) .skip)) (.seq (.seq (.reg ins8) (.cond (t 31) (.seq (.reg ins9) (.seq (.reg ins10) (.seq (.regD ins11 [[], [], [], [], [], [], [], [], []]) (.seq (.reg ins12) .ret)))) .skip)) (.seq (.reg ins13) (.seq (.seq (.reg ins14) (.cond (t 68) (.seq (.regD ins15 [[], [], [], [], [], [], [], [], []]) (.seq (.reg ins16) (.seq (.reg ins17) .ret))) .skip)) rest))))))))), 95, [.tmp 6]⟩

def insC (cs row : List AV) (i : Nat) : List AV := cs.take (i * 2) ++ row ++ cs.drop (i * 2)

theorem ins_end (ok : TblOK P T) {f : Nat} {rest : RCode} (hf : T.fn f = some (lcIns rest)) {b n : Nat} {row cs : List AV} {tl : Tail} (hg : h.get b = some (.cells cs)) (hl : cs.length = n * 2) (hr : row.length = 2) (hn : n < 2 ^ 30) :
    ACalls P f [.rs b 0 n 2, .int .i64 n, .vs [row] tl] h (.rs h.next 0 (n + 1) 2) ((h.set b none).at h.next (.cells (insC cs row n))) := by
  refine ok.calls hf (by simp [lcIns]) ?_
  have hc := cellsOf_of hg
  have hins : insC cs row n = cs.take (n * 2) ++ [row].flatten := by simp [insC, List.drop_of_length_le (show cs.length ≤ n * 2 by omega)]
  have ha : appRF 4 2 h.next h (.rs b 0 n 2) (some [row]) = some (.rs h.next 0 (n + 1) 2, (h.set b none).at h.next (.cells (insC cs row n))) := by
    simp only [appRF, hc, Option.bind_some, hins, List.length_singleton]
    rw [if_neg (by simp), if_pos ⟨trivial, trivial, by omega, by omega, by omega⟩]
  have h0 : (0 : Int) ≤ n := by omega
  simp (decide := true) only [st, lcIns, ins0, ins1, ins2, ins3, ins4, ins5, ins6, ins7, aslice_rs, h0, Int.toNat_natCast, Nat.le_refl, hr, ha]

theorem rowsOf_flat {cs : List AV} {off sz n : Nat} (h : off + n * sz ≤ cs.length) : (rowsOf cs off sz n).length = n ∧ (∀ r ∈ rowsOf cs off sz n, r.length = sz) ∧ (rowsOf cs off sz n).flatten = (cs.drop off).take (n * sz) := by
  obtain ⟨e1, e2, e3⟩ := rowsOf_spec cs sz n off h
  exact ⟨e1, fun r hr => (e2 r hr).1, e3⟩

theorem ins_grow (ok : TblOK P T) {f : Nat} {rest : RCode} (hf : T.fn f = some (lcIns rest)) {b i k cap : Nat} {row cs : List AV} {tl : Tail} (hb : b < h.next) (hg : h.get b = some (.cells cs)) (hl : cs.length = (i + k + 1) * 2) (hr : row.length = 2) (hn : i + k + 1 < 2 ^ 30)
    (hc1 : i + k + 1 ≤ cap) (hc2 : cap < i + k + 2) :
    ∃ h1, ACalls P f [.rk b 0 (i + k + 1) 2 cap, .int .i64 i, .vs [row] tl] h (.rs h.next 0 (i + k + 2) 2) h1 ∧ h1.get h.next = some (.cells (insC cs row i)) ∧ h1.next ≤ h.next + 19 ∧ ∀ x, x < h.next → h1.get x = h.get x := by
  have hc := cellsOf_of hg
  have h0 : (0 : Int) ≤ i := by omega
  have h1 : (0 : Int) ≤ ((i + 1 : Nat) : Int) := by omega
  have hine : ¬ ((i : Int) = ((i + k + 1 : Nat) : Int)) := by omega
  have hw1 : IntKind.wrap .i64 (((i + k + 1 : Nat) : Int) + 1) = ((i + k + 2 : Nat) : Int) := by rw [wrapS] <;> omega
  have hw2 : IntKind.wrap .i64 (((i + k + 2 : Nat) : Int) - i) = ((k + 2 : Nat) : Int) := by rw [wrapS] <;> omega
  have hw3 := wrapN1 (show i < 2 ^ 61 by omega)
  have hgt : ((cap : Int) < ((i + k + 2 : Nat) : Int)) := by omega
  have hci : ¬ cap = i := by omega
  have hc0 : ¬ cap = 0 := by omega
  have hile : i ≤ i + k + 1 := by omega
  have hile2 : i ≤ i + k + 2 := by omega
  have hile3 : i + 1 ≤ i + k + 2 := by omega
  have hicap : i ≤ cap := by omega
  have hnb : ¬ b = h.next := by omega
  have hne2 : ¬ i = i + k + 2 := by omega
  have hne3 : ¬ i + 1 = i + k + 2 := by omega
  have hsub : i + k + 2 - i = k + 2 := by omega
  have hsub2 : i + k + 2 - (i + 1) = k + 1 := by omega
  have hsub3 : i + k + 1 - i = k + 1 := by omega
  obtain ⟨rl, ru, rf⟩ := rowsOf_flat (cs := cs) (off := 0) (sz := 2) (n := i) (by omega)
  obtain ⟨rl2, ru2, rf2⟩ := rowsOf_flat (cs := cs) (off := i * 2) (sz := 2) (n := k + 1) (by omega)
  have rf2' : (rowsOf cs (i * 2) 2 (k + 1)).flatten = cs.drop (i * 2) := by rw [rf2, List.take_of_length_le (by simp; omega)]
  let z : List AV := [.int .u16 0, .int .u8 0]
  let X0 : List AV := cs.take (i * 2) ++ (List.replicate (k + 2) z).flatten
  have hzl : (List.replicate (k + 2) z).flatten.length = (k + 2) * 2 := by
    have := flat_len (rows := List.replicate (k + 2) z) (sz := 2) (fun r hr => by rw [List.eq_of_mem_replicate hr]; rfl)
    simpa using this
  have hX0 : X0.length = (i + k + 2) * 2 := by simp only [X0, List.length_append, hzl, List.length_take]; omega
  let X1 := setAt X0 (i * 2) row
  have hX1 : X1.length = (i + k + 2) * 2 := by simp only [X1]; rw [setAt_length _ _ _ (by omega)]; exact hX0
  let X2 := setAt X1 ((i + 1) * 2) (cs.drop (i * 2))
  have hX2 : X2 = insC cs row i := by
    have e0 : X0.take (i * 2) = cs.take (i * 2) := List.take_left' (by simp; omega)
    have e1 : (cs.take (i * 2) ++ row).length = (i + 1) * 2 := by simp [hr]; omega
    have e2 : X1 = (cs.take (i * 2) ++ row) ++ X0.drop (i * 2 + row.length) := by simp only [X1, setAt, e0]
    have e3 : X1.take ((i + 1) * 2) = cs.take (i * 2) ++ row := by rw [e2]; exact List.take_left' e1
    have e4 : X1.drop ((i + 1) * 2 + (cs.drop (i * 2)).length) = [] := List.drop_eq_nil_of_le (by rw [hX1]; simp; omega)
    simp only [X2, setAt, insC, e3, e4, List.append_nil]
  have hz : appZF 4 z h.next h (.rk b 0 i 2 cap) (.int .i64 ((k + 2 : Nat) : Int)) = some (.rs h.next 0 (i + (k + 2)) 2, h.at h.next (.cells X0)) := by
    simp only [appZF]
    rw [if_pos (by omega)]
    simp only [hc, Option.bind_some, Int.toNat_natCast]
    rw [if_pos ⟨rfl, by omega, by show 0 + i * 2 ≤ cs.length; omega, by omega, by omega⟩]
    have : (rowsOf cs 0 z.length i ++ List.replicate (k + 2) z).flatten = X0 := by
      rw [List.flatten_append]
      simp only [X0]
      congr 1
    rw [this]; rfl
  have hz' : appZF 4 [.int .u16 0, .int .u8 0] h.next h (.rk b 0 i 2 cap) (.int .i64 ((k + 2 : Nat) : Int)) = some (.rs h.next 0 (i + k + 2) 2, h.at h.next (.cells X0)) := hz
  have hat : ∀ X : List AV, (h.at h.next (.cells X)).get h.next = some (.cells X) := fun X => by simp [AHeap.at]
  have hcp1 : copyF 2 (h.at h.next (.cells X0)) (.rs h.next (i * 2) (k + 2) 2) (.vs [row] tl) = some (.int .i64 1, h.at h.next (.cells X1)) := by
    have hm : min 1 (k + 2) = 1 := by omega
    have e : (h.at h.next (.cells X0)).set h.next (some (.cells X1)) = h.at h.next (.cells X1) := by
      unfold AHeap.at AHeap.set
      congr 1
      funext x; by_cases hx : x = h.next <;> simp [hx]
    simp only [copyF, rowsA, cellsOf_of (hat X0), headOk, hr, beq_self_eq_true, if_true, Option.bind_some, List.length_singleton, hm]
    rw [if_pos ⟨trivial, by rw [hX0]; omega⟩]
    simp only [List.take_succ_cons, List.take_zero, List.flatten_cons, List.flatten_nil, List.append_nil]
    rw [← e]; rfl
  obtain ⟨H1, hH1⟩ : ∃ H, H = h.at h.next (.cells X1) := ⟨_, rfl⟩
  have H1n : H1.next = h.next + 1 := by rw [hH1]; simp [AHeap.at]
  have H1g : H1.get h.next = some (.cells X1) := by rw [hH1]; exact hat X1
  have H1o : ∀ x, x < h.next → H1.get x = h.get x := fun x hx => by rw [hH1]; simp [AHeap.at, show ¬ x = h.next by omega]
  have hcl : ∀ x, x < h.next + 1 → (H1.clean 9).get x = H1.get x := fun x hx => by simp [AHeap.clean, H1n, hx]
  have hcb : cellsOf (H1.clean 9) b = some cs := cellsOf_of (by rw [hcl b (by omega), H1o b hb]; exact hg)
  have hcn : cellsOf (H1.clean 9) h.next = some X1 := cellsOf_of (by rw [hcl _ (by omega)]; exact H1g)
  let H2 := (H1.clean 9).set h.next (some (.cells X2))
  have hcp2 : copyF 2 (H1.clean 9) (.rs h.next ((i + 1) * 2) (k + 1) 2) (.rk b (i * 2) (k + 1) 2 (cap - i)) = some (.int .i64 ((k + 1 : Nat) : Int), H2) := by
    have hm : min (k + 1) (k + 1) = k + 1 := by omega
    simp only [copyF, rowsA, hcb, hcn, if_true]
    rw [if_pos (by omega)]
    simp only [Option.bind_some, rl2, hm]
    rw [if_pos ⟨trivial, by rw [hX1]; omega⟩, List.take_of_length_le (by rw [rl2]; exact Nat.le_refl _), rf2']
  have hfr : freeD 9 (h.next + 1) 8 H2 := fun j j1 j2 => by omega
  refine ⟨H2, ?_, ?_, ?_, ?_⟩
  · refine ok.calls hf (by simp [lcIns]) ?_
    simp (decide := true) only [st, lcIns, ins0, ins1, ins2, ins3, ins5, ins6, ins8, h0, Int.toNat_natCast, hine, hw1, hgt, hile, hc1, hci, hicap, Nat.le_refl, hr]
    simp (decide := true) only [st, ins9, ins10, h0, Int.toNat_natCast, hc0, hw1, hw2, hile, hicap, Nat.zero_le, Nat.zero_mul, Nat.mul_zero, Nat.add_zero, Nat.zero_add, Nat.sub_zero, Nat.le_refl, hz', aslice_rs, aeff_copy, hile2, hne2, hsub, hcp1]
    rw [← hH1]
    refine WP_regD0n 9 rfl rfl ?_
    rw [H1n]
    simp (decide := true) only [st, ins11, ins12, h0, h1, hw3, Int.toNat_natCast, aslice_rs, aeff_copy, hile, hile3, hne3, hsub2, hsub3, hci, hicap, hc1, hcp2, Nat.zero_add, Nat.le_refl]
    exact hfr
  · rw [← hX2]; simp [H2, AHeap.set]
  · simp [H2, AHeap.set, AHeap.clean, H1n]
  · intro x hx
    have : ¬ x = h.next := by omega
    simp only [H2, AHeap.set, if_neg this]
    rw [hcl x (by omega), H1o x hx]

theorem ins_place (ok : TblOK P T) {f : Nat} {rest : RCode} (hf : T.fn f = some (lcIns rest)) {b i k cap : Nat} {row cs : List AV} {tl : Tail} (hb : b < h.next) (hg : h.get b = some (.cells cs)) (hl : cs.length = (i + k + 1) * 2) (hr : row.length = 2) (hn : i + k + 1 < 2 ^ 30)
    (hc2 : i + k + 2 ≤ cap) :
    ∃ h1, ACalls P f [.rk b 0 (i + k + 1) 2 cap, .int .i64 i, .vs [row] tl] h (.rk b 0 (i + k + 2) 2 cap) h1 ∧ h1.get b = some (.cells (insC cs row i)) ∧ h1.next ≤ h.next + 19 ∧ ∀ x, x < h.next → x ≠ b → h1.get x = h.get x := by
  have hc := cellsOf_of hg
  have h0 : (0 : Int) ≤ i := by omega
  have h1 : (0 : Int) ≤ ((i + 1 : Nat) : Int) := by omega
  have h2 : (0 : Int) ≤ ((i + k + 2 : Nat) : Int) := by omega
  have hine : ¬ ((i : Int) = ((i + k + 1 : Nat) : Int)) := by omega
  have hw1 : IntKind.wrap .i64 (((i + k + 1 : Nat) : Int) + 1) = ((i + k + 2 : Nat) : Int) := by rw [wrapS] <;> omega
  have hw3 := wrapN1 (show i < 2 ^ 61 by omega)
  have hgt : ¬ ((cap : Int) < ((i + k + 2 : Nat) : Int)) := by omega
  have hci : ¬ cap = i := by omega
  have hci1 : ¬ cap = i + 1 := by omega
  have hc0 : ¬ cap = 0 := by omega
  have hile : i ≤ i + k + 1 := by omega
  have hile2 : i ≤ i + k + 2 := by omega
  have hile3 : i + 1 ≤ i + k + 2 := by omega
  have hc1 : i + k + 1 ≤ cap := by omega
  have hicap : i ≤ cap := by omega
  have hsub : i + k + 2 - i = k + 2 := by omega
  have hsub2 : i + k + 2 - (i + 1) = k + 1 := by omega
  have hm1 : min (k + 2) (k + 1) = k + 1 := by omega
  have hm2 : min 1 (k + 2) = 1 := by omega
  obtain ⟨rl2, ru2, rf2⟩ := rowsOf_flat (cs := cs) (off := i * 2) (sz := 2) (n := k + 1) (by omega)
  have rf2' : (rowsOf cs (i * 2) 2 (k + 1)).flatten = cs.drop (i * 2) := by rw [rf2, List.take_of_length_le (by simp; omega)]
  let Y1 := setAt cs ((i + 1) * 2) (cs.drop (i * 2))
  let Y2 := setAt Y1 (i * 2) row
  have hY1 : Y1 = cs.take ((i + 1) * 2) ++ cs.drop (i * 2) := by
    have e : cs.drop ((i + 1) * 2 + (cs.drop (i * 2)).length) = [] := List.drop_eq_nil_of_le (by simp; omega)
    simp only [Y1, setAt, e, List.append_nil]
  have hY1l : Y1.length = (i + k + 2) * 2 := by rw [hY1]; simp; omega
  have hY2 : Y2 = insC cs row i := by
    simp only [Y2, setAt, insC, hr, hY1]
    have e1 : (cs.take ((i + 1) * 2) ++ cs.drop (i * 2)).take (i * 2) = cs.take (i * 2) := by
      rw [List.take_append_of_le_length (by simp; omega), List.take_take, Nat.min_eq_left (by omega)]
    have e2 : (cs.take ((i + 1) * 2) ++ cs.drop (i * 2)).drop (i * 2 + 2) = cs.drop (i * 2) := List.drop_left' (by simp; omega)
    rw [e1, e2]
  have hov : ovlA 2 h (.vs [row] tl) (.rk b ((i + 1) * 2) (k + 1) 2 (cap - (i + 1))) = some (.bool false) := by simp [ovlA, hr, hc]
  have hcl : ∀ x, x < h.next → (h.clean 9).get x = h.get x := fun x hx => by simp [AHeap.clean, hx]
  have hcb : cellsOf (h.clean 9) b = some cs := cellsOf_of (by rw [hcl b hb]; exact hg)
  let H1 := (h.clean 9).set b (some (.cells Y1))
  have hcp1 : copyKF 2 (h.clean 9) (.rk b ((i + 1) * 2) (k + 1) 2 (cap - (i + 1))) (.rk b (i * 2) (k + 2) 2 (cap - i)) = some (.int .i64 ((k + 1 : Nat) : Int), H1) := by
    have hle : k + 1 ≤ k + 2 := by omega
    simp only [copyKF, lenA, Option.bind_some, hm1, rowsN, hcb]
    rw [if_pos ⟨trivial, hle⟩, if_pos (by omega)]
    simp only [Option.bind_some]
    rw [if_pos ⟨trivial, by omega⟩, rf2']
  have hg1 : cellsOf H1 b = some Y1 := cellsOf_of (by simp [H1, AHeap.set])
  let H2 := H1.set b (some (.cells Y2))
  have hcp2 : copyKF 2 H1 (.rk b (i * 2) (k + 2) 2 (cap - i)) (.vs [row] tl) = some (.int .i64 1, H2) := by
    simp only [copyKF, lenA, Option.bind_some, List.length_singleton, hm2, rowsN, headOk, hr, beq_self_eq_true, if_true, hg1]
    rw [if_pos ⟨trivial, by rw [hY1l]; omega⟩]
    simp only [List.take_succ_cons, List.take_zero, List.flatten_cons, List.flatten_nil, List.append_nil]
    rfl
  have hfr : freeD 9 h.next 8 H1 := fun j j1 j2 => by omega
  obtain ⟨H1', hH1'⟩ : ∃ H, H = H1 := ⟨_, rfl⟩
  refine ⟨H2, ?_, ?_, ?_, ?_⟩
  · refine ok.calls hf (by simp [lcIns]) ?_
    simp (decide := true) only [st, lcIns, ins0, ins1, ins2, ins3, ins5, ins6, ins8, h0, Int.toNat_natCast, hine, hw1, hgt, hile, hc1, hci, hicap, Nat.le_refl, hr]
    simp (decide := true) only [st, ins13, ins14, h0, h1, h2, hw1, hw3, Int.toNat_natCast, hc0, hci1, hile3, hc2, hsub2, hov, Nat.zero_le, Nat.zero_mul, Nat.add_zero, Nat.zero_add, Nat.sub_zero, Nat.le_refl]
    refine WP_regD0n 9 rfl rfl ?_
    simp (decide := true) only [st, ins15, h0, h1, hw3, Int.toNat_natCast, hile2, hile3, hci, hci1, hc2, hsub, hsub2, hcp1, Nat.zero_add, Nat.le_refl]
    refine ⟨hfr, ?_⟩
    simp (decide := true) only [st, ins16, ins17, h0, Int.toNat_natCast, hile2, hci, hc2, hsub, hcp2, Nat.zero_add, Nat.le_refl]
  · rw [← hY2]; simp [H2, AHeap.set]
  · simp [H2, H1, AHeap.set, AHeap.clean]
  · intro x hx hxb
    simp only [H2, H1, AHeap.set, if_neg hxb]
    exact hcl x hx

end Go.Proofs.YtdhhfiaepnemcaaGreat.Am

namespace Go.Proofs.YtdhhfiaepnemcaaGreat.Am
open Go
variable {P : Program} {T : Tbl} {h : AHeap}

/-- slices.Insert of one pair. -/
theorem ins_calls (ok : TblOK P T) {f : Nat} {rest : RCode} (hf : T.fn f = some (lcIns rest)) {b n i : Nat} {row cs : List AV} {tl : Tail} (hb : b < h.next) (hg : h.get b = some (.cells cs)) (hl : cs.length = n * 2) (hr : row.length = 2) (hn : n < 2 ^ 30) (hi : i ≤ n) :
    ACalls P f [.rs b 0 n 2, .int .i64 i, .vs [row] tl] h (.rs (h.next + 19) 0 (n + 1) 2) (bufH h b (insC cs row i)) := by
  have hlen : (insC cs row i).length = (n + 1) * 2 := by simp [insC, hr]; omega
  have htk : (insC cs row i).take ((n + 1) * 2) = insC cs row i := List.take_of_length_le (by omega)
  rw [← htk]
  by_cases hin : i = n
  · subst hin
    have := ins_end ok hf (tl := tl) hg hl hr hn
    refine this.fin (c := h.next) ((i + 1) * 2) (.inl rfl) (.inl rfl) (by simp [AHeap.at]) (.inr (Nat.le_refl _)) (by simp [AHeap.at, AHeap.set]) (fun x hx hxb => ?_)
    have : ¬ x = h.next := by omega
    simp [AHeap.at, AHeap.set, this, hxb]
  · obtain ⟨k, rfl⟩ : ∃ k, n = i + k + 1 := ⟨n - i - 1, by omega⟩
    refine .ofRk (fun cap hcap => ?_)
    by_cases hc : cap < i + k + 2
    · obtain ⟨h1, q1, q2, q3, q4⟩ := ins_grow ok hf (tl := tl) hb hg hl hr hn hcap hc
      exact q1.fin (c := h.next) ((i + k + 1 + 1) * 2) (.inr ⟨cap, rfl⟩) (.inl rfl) q2 (.inr (Nat.le_refl _)) q3 (fun x hx _ => q4 x hx)
    · obtain ⟨h1, q1, q2, q3, q4⟩ := ins_place ok hf (tl := tl) hb hg hl hr hn (by omega : i + k + 2 ≤ cap)
      exact q1.fin (c := b) ((i + k + 1 + 1) * 2) (.inr ⟨cap, rfl⟩) (.inr ⟨cap, rfl⟩) q2 (.inl rfl) q3 q4

theorem ins_nil (ok : TblOK P T) {f : Nat} {rest : RCode} (hf : T.fn f = some (lcIns rest)) {row : List AV} {tl : Tail} (hr : row.length = 2) :
    ACalls P f [.vs [] .full, .int .i64 0, .vs [row] tl] h (.rs h.next 0 1 2) (h.at h.next (.cells row)) := by
  refine ok.calls hf (by simp [lcIns]) ?_
  have ha : appRF 4 2 h.next h (.vs [] .full) (some [row]) = some (.rs h.next 0 1 2, h.at h.next (.cells row)) := by
    simp only [appRF, List.length_singleton]
    rw [if_neg (by simp), if_pos ⟨by omega, by omega⟩]
    simp
  have h0 : (0 : Int) ≤ 0 := by omega
  simp (decide := true) only [st, lcIns, ins0, ins1, ins2, ins3, ins4, ins5, ins6, ins7, h0, Nat.le_refl, hr, ha]

def del0 : List RO := [p 6 (.mov (.const (.vs [] .full)))]
def del1 : List RO := [m 8 0, m 9 1, m 10 2, m 11 0, ln 12 11, p 13 (.slc 2 (t 8) (some (t 9)) (some (t 10)) (some (t 12)))]
def del2 : List RO := [m 14 1, m 15 2, b 16 .eql (t 14) (t 15)]
def del3 : List RO := [m 17 0, m 6 17]
def del4 : List RO := [m 18 0, ln 19 18, m 7 19]
def del5 : List RO := [m 20 0, m 21 1, p 22 (.slc 2 (t 20) none (some (t 21)) none), m 23 0, m 24 2, p 25 (.slc 2 (t 23) (some (t 24)) none none), e 26 (.appendR 4 2 (t 22) (t 25)), m 0 26]
def del6 : List RO := [m 27 0, m 28 0, ln 29 28, m 30 7, p 31 (.slc 2 (t 27) (some (t 29)) (some (t 30)) none), ⟨none, none, (.e (.clearK [(.int .u16 0), (.int .u8 0)] (t 31)))⟩]
def del7 : List RO := [m 32 0, m 6 32]
/-- slices.Delete at pairs. -/
def lcDel : RFunc := ⟨(.seq (.reg del0) (.seq (.reg del1) (.seq (.seq (.reg del2) (.cond (t 16) (.seq (.reg del3) .ret) .skip)) (.seq (.reg del4) (.seq (.regD del5 [[], [], [], [], [], [], [], []]) (.seq (.reg del6) (.seq (.reg del7) .ret))))))), 33, [.tmp 6]⟩

def delC (cs : List AV) (i : Nat) : List AV := cs.take (i * 2) ++ cs.drop ((i + 1) * 2)

theorem del_rk (ok : TblOK P T) {f : Nat} (hf : T.fn f = some lcDel) {b i k cap : Nat} {cs : List AV} (hb : b < h.next) (hg : h.get b = some (.cells cs)) (hl : cs.length = (i + k + 1) * 2) (hn : i + k + 1 < 2 ^ 30) (hc1 : i + k + 1 ≤ cap) :
    ∃ h1 X, ACalls P f [.rk b 0 (i + k + 1) 2 cap, .int .i64 i, .int .i64 ((i + 1 : Nat) : Int)] h (.rk b 0 (i + k) 2 cap) h1 ∧ h1.get b = some (.cells X) ∧ X.take ((i + k) * 2) = delC cs i ∧ h1.next ≤ h.next + 19 ∧ ∀ x, x < h.next → x ≠ b → h1.get x = h.get x := by
  have hc := cellsOf_of hg
  have h0 : (0 : Int) ≤ i := by omega
  have h1 : (0 : Int) ≤ ((i + 1 : Nat) : Int) := by omega
  have h2 : (0 : Int) ≤ ((i + k : Nat) : Int) := by omega
  have h3 : (0 : Int) ≤ ((i + k + 1 : Nat) : Int) := by omega
  have hine : ¬ ((i : Int) = ((i + 1 : Nat) : Int)) := by omega
  have hne1 : ¬ i + k + 1 = i := by omega
  have hc0 : ¬ cap = 0 := by omega
  have hci : ¬ cap = i + k := by omega
  have hile : i ≤ i + 1 := by omega
  have hile1 : i + 1 ≤ i + k + 1 := by omega
  have hile2 : i + k ≤ i + k + 1 := by omega
  have hicap : i ≤ cap := by omega
  have hsub : i + k + 1 - (i + 1) = k := by omega
  have hsub2 : i + k + 1 - (i + k) = 1 := by omega
  let Z1 := setAt cs (i * 2) (cs.drop ((i + 1) * 2))
  have hZ1 : Z1.length = (i + k + 1) * 2 := by simp only [Z1]; rw [setAt_length _ _ _ (by simp; omega)]; exact hl
  let Z2 := setAt Z1 ((i + k) * 2) [.int .u16 0, .int .u8 0]
  have hZ2 : Z2.take ((i + k) * 2) = delC cs i := by
    have e1 : Z1 = delC cs i ++ cs.drop (i * 2 + (cs.drop ((i + 1) * 2)).length) := by simp only [Z1, setAt, delC]
    have e2 : (delC cs i).length = (i + k) * 2 := by simp [delC]; omega
    have e3 : Z1.take ((i + k) * 2) = delC cs i := by rw [e1]; exact List.take_left' e2
    simp only [Z2, setAt, e3, List.append_assoc]
    exact List.take_left' e2
  have hcl : ∀ x, x < h.next → (h.clean 8).get x = h.get x := fun x hx => by simp [AHeap.clean, hx]
  have hcb : cellsOf (h.clean 8) b = some cs := cellsOf_of (by rw [hcl b hb]; exact hg)
  let H1 := (h.clean 8).set b (some (.cells Z1))
  have hg1 : cellsOf H1 b = some Z1 := cellsOf_of (by simp [H1, AHeap.set])
  let H2 := H1.set b (some (.cells Z2))
  have hcl2 : clearKF [.int .u16 0, .int .u8 0] H1 (.rk b ((i + k) * 2) 1 2 (cap - (i + k))) = some (.tup [], H2) := by
    simp only [clearKF, hg1, Option.bind_some]
    rw [if_pos ⟨rfl, by show (i + k) * 2 + 1 * 2 ≤ Z1.length; omega⟩]
    rfl
  have hfr : freeD 8 h.next 6 H1 := fun j j1 j2 => by
    have : ¬ h.next + j = b := by omega
    simp [H1, AHeap.set, AHeap.clean, this]
    intro hh; omega
  refine ⟨H2, Z2, ?_, by simp [H2, AHeap.set], hZ2, by simp [H2, H1, AHeap.set, AHeap.clean], ?_⟩
  · refine ok.calls hf (by simp [lcDel]) ?_
    simp (decide := true) only [st, lcDel, del0, del1, del2, del4, h0, h1, h3, Int.toNat_natCast, hine, hne1, hile, hile1, hc1, Nat.le_refl]
    refine WP_regD0n 8 rfl rfl ?_
    by_cases hcap : cap = i + 1
    · subst hcap
      have hk : k = 0 := by omega
      have hdr : cs.drop ((i + 1) * 2) = [] := List.drop_eq_nil_of_le (by omega)
      have ha : appRF 4 2 (h.next + (1 + 1 + 1 + 1 + 1 + 1)) (h.clean 8) (.rk b 0 i 2 (i + 1)) (some []) = some (.rk b 0 (i + k) 2 (i + 1), H1) := by
        simp only [appRF, hcb, Option.bind_some, List.length_nil, List.flatten_nil]
        rw [if_pos ⟨trivial, by omega, by omega⟩]
        simp only [H1, Z1, hdr, hk, Nat.zero_add]
      simp (decide := true) only [st, del5, h0, h1, Int.toNat_natCast, hc0, hicap, hile1, hc1, Nat.zero_le, Nat.zero_mul, Nat.zero_add, Nat.sub_zero, Nat.le_refl, ha]
      refine ⟨hfr, ?_⟩
      simp (decide := true) only [st, del6, del7, h2, h3, Int.toNat_natCast, hci, hile2, hc1, hsub2, hcl2, Nat.zero_add, Nat.le_refl]
    · obtain ⟨rl, ru, rf⟩ := rowsOf_flat (cs := cs) (off := (i + 1) * 2) (sz := 2) (n := k) (by omega)
      have rf' : (rowsOf cs ((i + 1) * 2) 2 k).flatten = cs.drop ((i + 1) * 2) := by rw [rf, List.take_of_length_le (by simp; omega)]
      have hra : rowsA 2 (h.clean 8) (.rk b ((i + 1) * 2) k 2 (cap - (i + 1))) = some (rowsOf cs ((i + 1) * 2) 2 k) := by
        simp only [rowsA, hcb, if_true]
        rw [if_pos (by omega)]
      have ha : appRF 4 2 (h.next + (1 + 1 + 1 + 1 + 1 + 1)) (h.clean 8) (.rk b 0 i 2 cap) (some (rowsOf cs ((i + 1) * 2) 2 k)) = some (.rk b 0 (i + k) 2 cap, H1) := by
        simp only [appRF, hcb, Option.bind_some, rl, rf']
        rw [if_pos ⟨trivial, by omega, by omega⟩]
        simp only [H1, Z1, Nat.zero_add]
      simp (decide := true) only [st, del5, h0, h1, Int.toNat_natCast, hc0, hcap, hicap, hile1, hc1, hsub, Nat.zero_le, Nat.zero_mul, Nat.zero_add, Nat.sub_zero, Nat.le_refl, hra, ha]
      refine ⟨hfr, ?_⟩
      simp (decide := true) only [st, del6, del7, h2, h3, Int.toNat_natCast, hci, hile2, hc1, hsub2, hcl2, Nat.zero_add, Nat.le_refl]
  · intro x hx hxb
    simp only [H2, H1, AHeap.set, if_neg hxb]
    exact hcl x hx

end Go.Proofs.YtdhhfiaepnemcaaGreat.Am

namespace Go.Proofs.YtdhhfiaepnemcaaGreat.Am
open Go
variable {P : Program} {T : Tbl} {h : AHeap}

theorem del_calls (ok : TblOK P T) {f : Nat} (hf : T.fn f = some lcDel) {b n i : Nat} {cs : List AV} (hb : b < h.next) (hg : h.get b = some (.cells cs)) (hl : cs.length = n * 2) (hn : n < 2 ^ 30) (hi : i < n) :
    ACalls P f [.rs b 0 n 2, .int .i64 i, .int .i64 ((i + 1 : Nat) : Int)] h (.rs (h.next + 19) 0 (n - 1) 2) (bufH h b (delC cs i)) := by
  obtain ⟨k, rfl⟩ : ∃ k, n = i + k + 1 := ⟨n - i - 1, by omega⟩
  refine .ofRk (fun cap hcap => ?_)
  obtain ⟨h1, X, q1, q2, q3, q4, q5⟩ := del_rk ok hf hb hg hl hn hcap
  rw [← q3]
  exact q1.fin (c := b) ((i + k) * 2) (.inr ⟨cap, rfl⟩) (.inr ⟨cap, rfl⟩) q2 (.inl rfl) q4 q5

theorem ACalls.den {f : Nat} {args : List AV} {r : AV} {h' h2 : AHeap} (hc : ACalls P f args h r h') (hn : h2.next = h'.next) (hnx : h.next ≤ h'.next) (hg : ∀ x, x < h'.next → h2.get x = h'.get x) : ACalls P f args h r h2 := by
  intro ι I w cargs H hl
  refine (hc ι I w cargs H hl).mono ?_
  rintro e w' ⟨v, ι', I', rfl, hv, H', E⟩
  refine ⟨v, ι', I', rfl, hv, H'.onDom (fun i l hi => by have := H'.dom i l hi; omega) (fun i l x hi hx => by rw [← hg i (H'.dom i l hi)]; exact hx), { E with next := by omega, own := ?_, lost := ?_ }⟩
  · rintro k j ⟨i, l, x, hi, hx, hl'⟩
    exact E.own k j ⟨i, l, x, hi, by rw [← hg i (H'.dom i l hi)]; exact hx, hl'⟩
  · intro i hi hin
    have hi' : i < h.next := by omega
    rw [hg i (by omega)]
    exact E.lost i hi hin

/-- Clone, for the evaluator. -/
def cloneN (by_ sz : Nat) (args : List AV) (H : CH) : Option (AV × CH) :=
  match args with
  | [x] => match x with
    | .nils => some (.vs [] .full, H)
    | .vs [] _ => some (.vs [] .full, H)
    | x => match isNilA 1 x with
      | some false => match rowsA sz H.den x with
        | some [] => some (.vs [] .full, H)
        | some (r :: rs) => match Nat.blt ((r :: rs).length * by_) (2 ^ 40) && Nat.blt (r :: rs).length (2 ^ 40) with
          | true => H.setK H.next (some .tail) fun H1 => some (.vs (r :: rs) (.own H.next), { t := H1.t, next := H.next + 1 })
          | false => none
        | none => none
      | _ => none
  | _ => none

theorem cloneN_ok (ok : TblOK P T) {f by_ sz : Nat} {z : List AV} (hf : T.fn f = some (lcClone z by_ sz)) (args : List AV) (H : CH) (v : AV) (H' : CH) (he : cloneN by_ sz args H = some (v, H')) : ACalls P f args H.den v H'.den := by
  unfold cloneN at he
  split at he
  · rename_i x
    split at he
    · cases he; exact clone_nils ok hf
    · cases he; exact clone_empty ok hf
    · rename_i x h1 h2
      split at he
      · rename_i hx
        split at he
        · rename_i hr
          cases he
          exact clone_rows0 ok hf hx hr
        · rename_i r rs hr
          split at he
          · rename_i hb
            simp only [Bool.and_eq_true, Nat.blt_eq] at hb
            obtain ⟨H1, g1, g2, g3⟩ := CH.setK_sound he
            cases g3
            refine (clone_rows ok hf hx hr (by simp) hb.1 hb.2).den (by simp [CH.den, AHeap.at]) (by simp [AHeap.at]) (fun y hy => ?_)
            show H1.den.get y = _
            rw [g1]
            by_cases hy2 : y = H.next <;> simp [hy2, AHeap.at, CH.den]
          · cases he
        · cases he
      · cases he
  · cases he

def insN (args : List AV) (H : CH) : Option (AV × CH) :=
  match args with
  | [.rs b 0 n 2, .int .i64 (.ofNat i), .vs [row] _] =>
    match cellsOf H.den b with
    | some cs => match Nat.blt b H.next && Nat.beq cs.length (n * 2) && Nat.beq row.length 2 && Nat.blt n (2 ^ 30) && Nat.ble i n && freeB H H.next 0 20 with
      | true => H.setK b none fun H1 => H1.setK (H.next + 19) (some (.cells (insC cs row i))) fun H2 => some (.rs (H.next + 19) 0 (n + 1) 2, { t := H2.t, next := H.next + 20 })
      | false => none
    | none => none
  | [.vs [] .full, .int .i64 (.ofNat 0), .vs [row] _] =>
    match Nat.beq row.length 2 with
    | true => H.setK H.next (some (.cells row)) fun H1 => some (.rs H.next 0 1 2, { t := H1.t, next := H.next + 1 })
    | false => none
  | _ => none

theorem freeB_get {H : CH} {base : Nat} : ∀ {n i : Nat}, freeB H base i n = true → ∀ j, i ≤ j → j < i + n → H.den.get (base + j) = none
  | 0, i, _, j, h1, h2 => by omega
  | n + 1, i, hf, j, h1, h2 => by
    unfold freeB at hf
    split at hf
    · rename_i hg
      by_cases hj : j = i
      · subst hj; exact hg
      · exact freeB_get hf j (by omega) (by omega)
    · cases hf

theorem bufH_den {H H2 : CH} {b : Nat} {cs : List AV} (hb : b < H.next) (hf : freeB H H.next 0 20 = true) (hg : ∀ y, H2.den.get y = if y = H.next + 19 then some (.cells cs) else if y = b then none else H.den.get y) :
    ∀ y, y < (bufH H.den b cs).next → ({ t := H2.t, next := H.next + 20 } : CH).den.get y = (bufH H.den b cs).get y := by
  intro y hy
  have hy' : y < H.next + 20 := by simp [bufH, AHeap.at, AHeap.clean, AHeap.set, CH.den] at hy; omega
  show H2.den.get y = _
  rw [hg]
  have e : H.den.next = H.next := rfl
  by_cases h1 : y = H.next + 19
  · rw [if_pos h1]; simp [bufH, AHeap.at, h1, e]
  · rw [if_neg h1]
    simp only [bufH, AHeap.at, e, if_neg h1, AHeap.clean]
    by_cases h2 : y < H.next
    · have : y < (H.den.set b none).next := h2
      rw [if_pos this]; rfl
    · have : ¬ y < (H.den.set b none).next := h2
      rw [if_neg this, if_neg (by omega)]
      have := freeB_get hf (y - H.next) (by omega) (by omega)
      rwa [show H.next + (y - H.next) = y by omega] at this

theorem insN_ok (ok : TblOK P T) {f : Nat} {rest : RCode} (hf : T.fn f = some (lcIns rest)) (args : List AV) (H : CH) (v : AV) (H' : CH) (he : insN args H = some (v, H')) : ACalls P f args H.den v H'.den := by
  unfold insN at he
  split at he
  · rename_i b n i row tl
    split at he
    · rename_i cs hcs
      split at he
      · rename_i hb
        simp only [Bool.and_eq_true, Nat.blt_eq, Nat.ble_eq] at hb
        obtain ⟨⟨⟨⟨⟨h1, h2⟩, h3⟩, h4⟩, h5⟩, h6⟩ := hb
        obtain ⟨H1, g1, g2, g3⟩ := CH.setK_sound he
        obtain ⟨H2, g4, g5, g6⟩ := CH.setK_sound g3
        cases g6
        refine (ins_calls ok hf (h := H.den) h1 (cellsOf_some hcs) (Nat.eq_of_beq_eq_true h2) (Nat.eq_of_beq_eq_true h3) h4 h5).den (by simp [CH.den, bufH, AHeap.at, AHeap.clean, AHeap.set]) (by simp [CH.den, bufH, AHeap.at, AHeap.clean, AHeap.set]; omega) (bufH_den h1 h6 (fun y => by rw [g4, g1]))
      · cases he
    · cases he
  · rename_i row tl
    split at he
    · rename_i hb
      obtain ⟨H1, g1, g2, g3⟩ := CH.setK_sound he
      cases g3
      refine (ins_nil ok hf (Nat.eq_of_beq_eq_true hb)).den (by simp [CH.den, AHeap.at]) (by simp [AHeap.at]) (fun y hy => ?_)
      show H1.den.get y = _
      rw [g1]
      by_cases hy2 : y = H.next <;> simp [hy2, AHeap.at, CH.den]
    · cases he
  · cases he

def delN (args : List AV) (H : CH) : Option (AV × CH) :=
  match args with
  | [.rs b 0 n 2, .int .i64 (.ofNat i), .int .i64 (.ofNat j)] =>
    match cellsOf H.den b with
    | some cs => match Nat.blt b H.next && Nat.beq cs.length (n * 2) && Nat.blt n (2 ^ 30) && Nat.blt i n && Nat.beq j (i + 1) && freeB H H.next 0 20 with
      | true => H.setK b none fun H1 => H1.setK (H.next + 19) (some (.cells (delC cs i))) fun H2 => some (.rs (H.next + 19) 0 (n - 1) 2, { t := H2.t, next := H.next + 20 })
      | false => none
    | none => none
  | _ => none

theorem delN_ok (ok : TblOK P T) {f : Nat} (hf : T.fn f = some lcDel) (args : List AV) (H : CH) (v : AV) (H' : CH) (he : delN args H = some (v, H')) : ACalls P f args H.den v H'.den := by
  unfold delN at he
  split at he
  · rename_i b n i j
    split at he
    · rename_i cs hcs
      split at he
      · rename_i hb
        simp only [Bool.and_eq_true, Nat.blt_eq, Nat.ble_eq] at hb
        obtain ⟨⟨⟨⟨⟨h1, h2⟩, h4⟩, h5⟩, h7⟩, h6⟩ := hb
        have h7 := Nat.eq_of_beq_eq_true h7
        subst h7
        obtain ⟨H1, g1, g2, g3⟩ := CH.setK_sound he
        obtain ⟨H2, g4, g5, g6⟩ := CH.setK_sound g3
        cases g6
        refine (del_calls ok hf (h := H.den) h1 (cellsOf_some hcs) (Nat.eq_of_beq_eq_true h2) h4 h5).den (by simp [CH.den, bufH, AHeap.at, AHeap.clean, AHeap.set]) (by simp [CH.den, bufH, AHeap.at, AHeap.clean, AHeap.set]; omega) (bufH_den h1 h6 (fun y => by rw [g4, g1]))
      · cases he
    · cases he
  · cases he

end Go.Proofs.YtdhhfiaepnemcaaGreat.Am

/- A run in pieces: between two pieces, what nobody reads any more is forgotten. -/
namespace Go.Proofs.YtdhhfiaepnemcaaGreat.Am
open Go
variable {P : Program}

/-- From here on the code comes to this value. -/
def Good (P : Program) (rs : List RRes) (r : AV) (c : RCode) (ρ : Env) (h : AHeap) : Prop :=
  ∀ (md : Mode) (n : Nat) (ι0 : Inj) (I0 : Imm) (w0 : World) (ι : Inj) (I : Imm) (w : World) (a : Act), HR ι I h w → AR ι I w n ρ a → Ext (0 ≤ ·) ι0 I0 AHeap.empty w0 ι I h w → ∀ cc, cCode P md n cc = some c →
    cc.wp P (fun x a' w' => (x = .normal ∨ x = .ret) ∧ ∃ ι' I' h' ρ', AR ι' I' w' n ρ' a' ∧ HR ι' I' h' w' ∧ Ext (0 ≤ ·) ι0 I0 AHeap.empty w0 ι' I' h' w' ∧ ∃ vs, resL ρ' h' rs = some vs ∧ tupOf vs = r) a w

theorem Ext.trans0 {ι₁ ι₂ ι₃ : Inj} {I₁ I₂ I₃ : Imm} {h₁ h₂ h₃ : AHeap} {w₁ w₂ w₃ : World} (E : Ext (0 ≤ ·) ι₁ I₁ h₁ w₁ ι₂ I₂ h₂ w₂) (F : Ext (h₂.next ≤ ·) ι₂ I₂ h₂ w₂ ι₃ I₃ h₃ w₃) : Ext (0 ≤ ·) ι₁ I₁ h₁ w₁ ι₃ I₃ h₃ w₃ :=
  E.trans F (fun b _ => Nat.zero_le b)

theorem good_end (hm : P.follows .mixedOrders = true) {rs : List RRes} {c : RCode} {ρ ρ' : Env} {h h' : AHeap} {e : AExit} {vs : List AV} (hb : Big P c ρ h e ρ' h') (he : e = .normal ∨ e = .ret) (hr : resL ρ' h' rs = some vs) : Good P rs (tupOf vs) c ρ h := by
  intro md n ι0 I0 w0 ι I w a H A E cc hc
  refine wp_mono ((big_sound (md := md) hm hb).wp H A hc) ?_
  rintro _ a' w' ⟨rfl, ι', I', A', H', E'⟩
  refine ⟨by rcases he with rfl | rfl; exact .inl rfl; exact .inr rfl, ι', I', h', ρ', A', H', E.trans0 E', vs, hr, rfl⟩

theorem good_seq (hm : P.follows .mixedOrders = true) {rs : List RRes} {r : AV} {a b : RCode} {ρ ρ1 : Env} {h h1 : AHeap} (ha : Big P a ρ h .normal ρ1 h1) (hg : Good P rs r b ρ1 h1) : Good P rs r (.seq a b) ρ h := by
  intro md n ι0 I0 w0 ι I w act H A E cc hc
  obtain ⟨cx, cy, rfl, hx, hy⟩ := cCode_inv hc
  refine wp_seq (wp_mono ((big_sound (md := md) hm ha).wp H A hx) ?_)
  rintro _ a1 w1 ⟨rfl, ι1, I1, A1, H1, E1⟩
  exact hg md n ι0 I0 w0 ι1 I1 w1 a1 H1 A1 (E.trans0 E1) cy hy

theorem good_sub {rs : List RRes} {r : AV} {c : RCode} {ρ ρ0 : Env} {h h0 : AHeap} (hg : Good P rs r c ρ0 h0) (hρ : ∀ i, ρ0 i = .undef ∨ ρ0 i = ρ i) (hn : h.next ≤ h0.next) (hs : ∀ b x, h0.get b = some x → h.get b = some x) : Good P rs r c ρ h := by
  intro md n ι0 I0 w0 ι I w act H A E cc hc
  refine hg md n ι0 I0 w0 ι I w act (H.onDom (fun b l hb => Nat.lt_of_lt_of_le (H.dom b l hb) hn) (fun b l x _ hx => hs b x hx)) ⟨A.defers, A.size, fun i => ?_⟩ { E with next := Nat.zero_le _, own := ?_, lost := fun b hb => (hb (Nat.zero_le b)).elim } cc hc
  · rcases hρ i with h1 | h1
    · rw [h1]; exact .undef _
    · rw [h1]; exact A.get i
  · rintro k j ⟨b, l, x, hb, hx, hl⟩
    exact E.own k j ⟨b, l, x, hb, hs b x hx, hl⟩

theorem good_list (hm : P.follows .mixedOrders = true) {rs : List RRes} {r : AV} {rest : RCode} {ρ1 : Env} {h1 : AHeap} (hg : Good P rs r rest ρ1 h1) : ∀ (L : List RCode) {ρ : Env} {h : AHeap}, Big P (L.foldr .seq .skip) ρ h .normal ρ1 h1 → Good P rs r (L.foldr .seq rest) ρ h
  | [], ρ, h, hb => by
    simp only [List.foldr_nil] at hb ⊢
    cases hb
    exact hg
  | c :: L, ρ, h, hb => by
    simp only [List.foldr_cons] at hb ⊢
    cases hb with
    | seq b1 b2 => exact good_seq hm b1 (good_list hm hg L b2)
    | seqX b1 he => exact (he rfl).elim

/- States as lists. -/
def lkp : List (Nat × Blk) → Nat → Option Blk
  | [], _ => none
  | (c, x) :: es, b => match lkp es b with
    | some y => some y
    | none => if b = c then some x else none

theorem lkp_mem : ∀ {es : List (Nat × Blk)} {b : Nat} {x : Blk}, lkp es b = some x → (b, x) ∈ es
  | [], b, x, h => by cases h
  | (c, y) :: es, b, x, h => by
    unfold lkp at h
    split at h
    · rename_i z hz
      cases h
      exact List.mem_cons_of_mem _ (lkp_mem hz)
    · split at h
      · rename_i hbc
        cases h
        subst hbc
        exact List.mem_cons_self
      · cases h

def heapOf (es : List (Nat × Blk)) (nx : Nat) : AHeap := { get := lkp es, next := nx }

section
variable {R : Type}
def bld : List (Nat × Blk) → Tr Blk → (Tr Blk → Option R) → Option R
  | [], t, k => k t
  | (b, x) :: es, t, k => fB x fun x => Tr.setK 24 t b (some x) fun t => bld es t k

theorem bld_sound : ∀ {es : List (Nat × Blk)} {t : Tr Blk} {k : Tr Blk → Option R} {r : R}, bld es t k = some r → ∃ t', (∀ b, t'.get b = match lkp es b with | some y => some y | none => t.get b) ∧ k t' = some r
  | [], t, k, r, h => ⟨t, fun b => rfl, h⟩
  | (c, x) :: es, t, k, r, h => by
    simp only [bld, fB_eq] at h
    obtain ⟨t1, h1, h2⟩ := Tr.setK_sound _ _ _ _ _ _ h
    obtain ⟨t2, h3, h4⟩ := bld_sound h2
    refine ⟨t2, fun b => ?_, h4⟩
    rw [h3]
    simp only [lkp]
    cases hl : lkp es b with
    | some y => rfl
    | none =>
      simp only [h1]
      by_cases hb : b = c <;> simp [hb]
end

def undefB : AV → Bool
  | .undef => true
  | _ => false
theorem undefB_eq {v : AV} (h : undefB v = true) : v = .undef := by cases v <;> first | rfl | cases h

def blkEq : Blk → Blk → Bool
  | .cells l, .cells l' => zipEq (eqV 9) l l'
  | .map l, .map l' => zipEq (fun p q => eqV 9 p.1 q.1 && eqV 9 p.2 q.2) l l'
  | .tail, .tail => true
  | _, _ => false
theorem blkEq_sound {x y : Blk} (h : blkEq x y = true) : x = y := by
  cases x <;> cases y <;> first | rfl | (cases h; done) | skip
  · rename_i l l'
    have h' : zipEq (eqV 9) l l' = true := h
    rw [zipEq_sound (eqV_sound 9) _ _ h']
  · rename_i l l'
    have h' : zipEq (fun (p q : AV × AV) => eqV 9 p.1 q.1 && eqV 9 p.2 q.2) l l' = true := h
    rw [zipEq_sound (fun a b hab => by
      simp only [Bool.and_eq_true] at hab
      exact Prod.ext (eqV_sound 9 _ _ hab.1) (eqV_sound 9 _ _ hab.2)) _ _ h']

def covE (tC t : Tr AV) : Bool :=
  (t.ents.all fun p => match tC.get p.1 with | some u => undefB u || eqV 9 u p.2 | none => false) &&
  (tC.ents.all fun p => match t.get p.1 with | some v => undefB p.2 || eqV 9 p.2 v | none => undefB p.2)

theorem covE_sound {tC t : Tr AV} (h : covE tC t = true) (i : Nat) : tC.env i = .undef ∨ tC.env i = t.env i := by
  simp only [covE, Bool.and_eq_true] at h
  obtain ⟨h1, h2⟩ := h
  unfold Tr.env
  cases hc : tC.get i with
  | some u =>
    have := List.all_eq_true.1 h2 _ (Tr.get_ents hc)
    simp only at this
    cases ht : t.get i with
    | some v =>
      rw [ht] at this
      simp only [Bool.or_eq_true] at this
      rcases this with h | h
      · exact .inl (undefB_eq h)
      · exact .inr (eqV_sound _ _ _ h)
    | none =>
      rw [ht] at this
      exact .inl (undefB_eq this)
  | none =>
    cases ht : t.get i with
    | some v =>
      have := List.all_eq_true.1 h1 _ (Tr.get_ents ht)
      simp only [hc] at this
      cases this
    | none => exact .inr rfl

def covH (es : List (Nat × Blk)) (H : CH) : Bool := es.all fun p => match H.t.get p.1 with | some y => blkEq p.2 y | none => false

theorem covH_sound {es : List (Nat × Blk)} {H : CH} (h : covH es H = true) (b : Nat) (x : Blk) (hx : lkp es b = some x) : H.den.get b = some x := by
  have := List.all_eq_true.1 h _ (lkp_mem hx)
  simp only at this
  show H.t.get b = some x
  cases hg : H.t.get b with
  | some y => rw [hg] at this; rw [blkEq_sound this]
  | none => rw [hg] at this; cases this

def covK (tC : Tr AV) (es : List (Nat × Blk)) (nx : Nat) (e : AExit) (t : Tr AV) (H : CH) : Option Unit :=
  match e with
  | .normal => match covE tC t && covH es H && Nat.ble H.next nx with
    | true => some ()
    | false => none
  | _ => none

def endK (rs : List RRes) (e : AExit) (t : Tr AV) (H : CH) : Option Unit :=
  match e with
  | .normal => match resL t.env H.den rs with | some [.bool true] => some () | _ => none
  | .ret => match resL t.env H.den rs with | some [.bool true] => some () | _ => none
  | _ => none

theorem heapOf_den {es : List (Nat × Blk)} {nx : Nat} {t : Tr Blk} (h : ∀ b, t.get b = match lkp es b with | some y => some y | none => (Tr.leaf : Tr Blk).get b) : (⟨t, nx⟩ : CH).den = heapOf es nx := by
  unfold CH.den heapOf
  congr 1
  funext b
  show t.get b = _
  rw [h b]
  cases lkp es b <;> rfl

/-- A piece of the run. -/
theorem seg_good {tb : Tbl} (hT : TblOK P tb) {rs : List RRes} {r : AV} {fuel : Nat} (L : List RCode) {rest : RCode} {tC tC' : Tr AV} {es es' : List (Nat × Blk)} {nx nx' : Nat}
    (h : bld es .leaf (fun T => runK tb fuel (L.foldr .seq .skip) tC ⟨T, nx⟩ (covK tC' es' nx')) = some ()) (hg : Good P rs r rest tC'.env (heapOf es' nx')) : Good P rs r (L.foldr .seq rest) tC.env (heapOf es nx) := by
  obtain ⟨t0, h0, hr⟩ := bld_sound h
  obtain ⟨e, t', H', hb, hk⟩ := runK_sound hT fuel _ _ _ _ _ hr
  rw [heapOf_den h0] at hb
  unfold covK at hk
  split at hk
  · split at hk
    · rename_i hc
      simp only [Bool.and_eq_true] at hc
      obtain ⟨⟨h1, h2⟩, h3⟩ := hc
      exact good_list hT.follow (good_sub hg (covE_sound h1) (Nat.le_of_ble_eq_true h3) (covH_sound h2)) L hb
    · cases hk
  · cases hk

/-- The last piece. -/
theorem seg_end {tb : Tbl} (hT : TblOK P tb) {rs : List RRes} {fuel : Nat} {c : RCode} {tC : Tr AV} {es : List (Nat × Blk)} {nx : Nat}
    (h : bld es .leaf (fun T => runK tb fuel c tC ⟨T, nx⟩ (endK rs)) = some ()) : Good P rs (.bool true) c tC.env (heapOf es nx) := by
  obtain ⟨t0, h0, hr⟩ := bld_sound h
  obtain ⟨e, t', H', hb, hk⟩ := runK_sound hT fuel _ _ _ _ _ hr
  rw [heapOf_den h0] at hb
  unfold endK at hk
  have key : ∀ vs, resL t'.env H'.den rs = some vs → vs = [.bool true] → (e = .normal ∨ e = .ret) → Good P rs (.bool true) c tC.env (heapOf es nx) := by
    rintro vs h1 rfl h2
    exact good_end hT.follow hb h2 h1
  split at hk
  · split at hk
    · rename_i hq; exact key _ hq rfl (.inl rfl)
    · cases hk
  · split at hk
    · rename_i hq; exact key _ hq rfl (.inr rfl)
    · cases hk
  · cases hk

theorem calls_of_good0 {tb : Tbl} (hT : TblOK P tb) {f : Nat} {rf : RFunc} (hf : tb.fn f = some rf) (hg : Good P rf.results (.bool true) rf.code (Tr.leaf : Tr AV).env (heapOf [] 0)) (I : Imm) (w : World) (hI : ∀ k j, I k j → k < w.heap.size) :
    Calls P f #[] w fun e w' => ∃ ι' I' h', e = .returned (.bool true) ∧ HR ι' I' h' w' ∧ Ext (0 ≤ ·) (fun _ => none) I AHeap.empty w ι' I' h' w' := by
  obtain ⟨fn, md, h2, h3⟩ := hT.fn f rf hf
  unfold cFunc at h3
  simp only [Option.bind_eq_bind, Option.bind_eq_some_iff] at h3
  obtain ⟨c, hbody, code, hcode, rs, hrs, hc⟩ := h3
  cases hc
  simp only at *
  refine calls_of_wp h2 hbody ?_
  have H : HR (fun _ => none) I (heapOf [] 0) w := empty_HR (w := w) I hI
  have A : AR (fun _ => none) I w fn.ntmps (Tr.leaf : Tr AV).env { tmps := #[] ++ Array.replicate (fn.ntmps - (#[] : Array Value).size) undef, defers := [] } := by
    refine ⟨rfl, by simp, fun t => ?_⟩
    have e1 : (Tr.leaf : Tr AV).env t = .tup [] := rfl
    have e2 : ((#[] : Array Value) ++ Array.replicate (fn.ntmps - (#[] : Array Value).size) undef).getD t undef = undef := by
      rw [Array.getD_eq_getD_getElem?, Array.getElem?_append_right (by simp), Array.getElem?_replicate]
      split <;> rfl
    rw [e1, e2]; exact undef_VR
  refine wp_mono (hg md fn.ntmps (fun _ => none) I w (fun _ => none) I w _ H A (Ext.refl _ _ _ _ _) c hcode) ?_
  rintro x a' w' ⟨hx, ι', I', h', ρ', A', H', E, vs, hr, hv⟩
  obtain ⟨u, hu, hvu⟩ := results_sim H' A' hrs hr
  rw [hv] at hvu
  cases hvu
  have : bodyPost P fn (fun e w' => ∃ ι' I' h', e = .returned (.bool true) ∧ HR ι' I' h' w' ∧ Ext (0 ≤ ·) (fun _ => none) I AHeap.empty w ι' I' h' w') .normal a' w' := ⟨A'.defers, _, hu, ι', I', h', rfl, H', E⟩
  rcases hx with rfl | rfl
  · exact this
  · exact this

/-- A closed law that comes to true. -/
theorem calls_of_good {tb : Tbl} (hT : TblOK P tb) {f : Nat} {rf : RFunc} (hf : tb.fn f = some rf) (hg : Good P rf.results (.bool true) rf.code (Tr.leaf : Tr AV).env (heapOf [] 0)) (w : World) :
    Calls P f #[] w fun e w' => e = .returned (.bool true) ∧ Kept w w' := by
  refine (calls_of_good0 hT hf hg (fun _ _ => False) w (fun _ _ h => h.elim)).mono ?_
  rintro e w' ⟨ι', I', h', rfl, H', E⟩
  exact ⟨rfl, E.os, E.output, E.size, fun k hk => E.block k hk (fun j ⟨b, l, x, hb, _⟩ => by cases hb)⟩

/-- .. and a closed function, wherever it is called. -/
theorem acalls_of_good {tb : Tbl} (hT : TblOK P tb) {f : Nat} {rf : RFunc} (hf : tb.fn f = some rf) (hg : Good P rf.results (.bool true) rf.code (Tr.leaf : Tr AV).env (heapOf [] 0)) (h : AHeap) : ACalls P f [] h (.bool true) h := by
  intro ι I w cargs H hl
  have hc0 : cargs = #[] := by
    have := hl.1
    apply Array.ext'
    cases hq : cargs.toList with
    | nil => rfl
    | cons a b => rw [hq] at this; simp at this
  subst hc0
  refine (calls_of_good0 hT hf hg I w H.Iin).mono ?_
  rintro e w' ⟨ι', I', h', rfl, H', E⟩
  have hno : ∀ k j, ¬ Owned (fun _ => none) AHeap.empty k j := fun k j ⟨b, l, x, hb, _⟩ => by cases hb
  have hcell : ∀ k j, k < w.heap.size → w'.cell? ⟨k, j, none⟩ = w.cell? ⟨k, j, none⟩ := fun k j hk => E.cell k j hk (hno k j)
  have hI' : ∀ k j, I' k j → I k j ∨ w.heap.size ≤ k := fun k j hk => by
    rcases E.inew k j hk with h | h | h
    · exact .inl h
    · exact (hno k j h).elim
    · exact .inr h
  have hlt : ∀ b l k j, ι b = some l → l.has k j → k < w.heap.size := fun b l k j hb hl => by rw [Loc.has_block hl]; exact H.inside b l hb
  have hmono : ∀ a c, VR ι I w a c → VR ι I' w' a c := fun a c hx => hx.mono (fun _ _ h => h) E.imm (fun k j hk => hcell k j (H.Iin k j hk))
  refine ⟨_, ι, I', rfl, .bool true, ?_, ?_⟩
  · exact
    { dom := H.dom, inside := fun b l hb => Nat.lt_of_lt_of_le (H.inside b l hb) E.size
      cells := fun b cs l hg hb => by
        obtain ⟨cb, o, room, rfl, h1, h2, h3⟩ := H.cells b cs l hg hb
        refine ⟨cb, o, room, rfl, h1, h2, fun j hj => ?_⟩
        obtain ⟨c, e1, e2, e3⟩ := h3 j hj
        have hin : cb < w.heap.size := H.inside b _ hb
        exact ⟨c, by rw [hcell _ _ hin]; exact e1, by rw [E.frozen _ _ hin (hno _ _)]; exact e2, fun v hv => hmono _ _ (e3 v hv)⟩
      maps := fun b es l hg hb => by
        obtain ⟨cb, es', clock, rfl, h1, h2, h3⟩ := H.maps b es l hg hb
        have hin : cb < w.heap.size := H.inside b _ hb
        exact ⟨cb, es', clock, rfl, by rw [E.block cb hin (fun j => hno cb j)]; exact h1, h2, fun i k v e e1 e2 => ⟨hmono _ _ (h3 i k v e e1 e2).1, hmono _ _ (h3 i k v e e1 e2).2⟩⟩
      tails := fun b l hg hb => by
        obtain ⟨cb, lo, hi, rfl, h1⟩ := H.tails b l hg hb
        have hin : cb < w.heap.size := H.inside b _ hb
        refine ⟨cb, lo, hi, rfl, fun j e1 e2 => ?_⟩
        obtain ⟨c, e3, e4⟩ := h1 j e1 e2
        exact ⟨c, by rw [hcell _ _ hin]; exact e3, by rw [E.frozen _ _ hin (hno _ _)]; exact e4⟩
      disj := H.disj
      imm := fun b l x k j hb hg hl hk => by
        rcases hI' k j hk with h1 | h1
        · exact H.imm b l x k j hb hg hl h1
        · have := hlt b l k j hb hl; omega
      Iin := H'.Iin
      pl := fun b cs cb o room hg hb n => by rw [E.frozen cb n (H.inside b _ hb) (hno _ _)]; exact H.pl b cs cb o room hg hb n }
  · exact
    { keep := fun _ _ => rfl, more := fun _ _ h => h, next := Nat.le_refl _, imm := E.imm, os := E.os, tape := E.tape, output := E.output, size := E.size
      block := fun k hk _ => E.block k hk (fun j => hno k j)
      cell := fun k j hk _ => hcell k j hk
      frozen := fun k j hk _ => E.frozen k j hk (hno k j)
      own := fun k j h => .inl h
      inew := fun k j hk => by rcases hI' k j hk with h1 | h1; exact .inl h1; exact .inr (.inr h1)
      lost := fun _ _ _ => rfl }

def trueN (args : List AV) (H : CH) : Option (AV × CH) := match args with
  | [] => some (.bool true, H)
  | _ => none
theorem trueN_ok {f : Nat} (hc : ∀ h, ACalls P f [] h (.bool true) h) (args : List AV) (H : CH) (v : AV) (H' : CH) (he : trueN args H = some (v, H')) : ACalls P f args H.den v H'.den := by
  unfold trueN at he
  split at he
  · cases he; exact hc _
  · cases he

def rp : Nat → List AV → List AV → List AV
  | 0, _, tl => tl
  | n + 1, r, tl => r ++ rp n r tl

/-- A table with some functions done by hand. -/
def Tbl.with (T : Tbl) (nt : Tr (List AV → CH → Option (AV × CH))) : Tbl := { T with nat := fun n => nt.get n }
theorem TblOK.with {T : Tbl} (ok : TblOK P T) {nt : Tr (List AV → CH → Option (AV × CH))} (hn : ∀ e ∈ nt.ents, ∀ args H v H', e.2 args H = some (v, H') → ACalls P e.1 args H.den v H'.den) : TblOK P (T.with nt) where
  follow := ok.follow
  fn := ok.fn
  nat f g h := hn (f, g) (Tr.get_ents h)
  callable := ok.callable
end Go.Proofs.YtdhhfiaepnemcaaGreat.Am

namespace Go.Proofs.YtdhhfiaepnemcaaGreat.Am
open Go
variable {P : Program} {T : Tbl} {h : AHeap}

structure Fr where
  b : List Int
  taken : Bool

def Fr.enc (f : Fr) : List AV := f.b.map (.int .u8) ++ [.bool f.taken]

structure MemAt (h : AHeap) (bm bl : Nat) (fs : List Fr) : Prop where
  top : h.get bm = some (.cells [.rs bl 0 fs.length 17])
  row : h.get bl = some (.cells (fs.map Fr.enc).flatten)
  ne : bm ≠ bl
  len : ∀ f ∈ fs, f.b.length = 16
  small : fs.length < 2 ^ 40

variable {bm bl : Nat} {fs : List Fr}

theorem Fr.enc_len {f : Fr} (hf : f.b.length = 16) : f.enc.length = 17 := by simp [Fr.enc, hf]
theorem Fr.enc_taken {f : Fr} (hf : f.b.length = 16) : f.enc[16]? = some (.bool f.taken) := by simp [Fr.enc, hf]

theorem MemAt.rows (M : MemAt h bm bl fs) : ∀ r ∈ fs.map Fr.enc, r.length = 17 := by
  intro r hr
  obtain ⟨f, hf, rfl⟩ := List.mem_map.1 hr
  exact Fr.enc_len (M.len f hf)

theorem MemAt.taken (M : MemAt h bm bl fs) {i : Nat} {f : Fr} (hi : fs[i]? = some f) : (fs.map Fr.enc).flatten[i * 17 + 16]? = some (.bool f.taken) := by
  rw [flat_at M.rows (row := f.enc) (by simp [hi]) (by omega)]
  exact Fr.enc_taken (M.len f (List.mem_of_getElem? hi))

def frUsed (fs : List Fr) : Nat := fs.countP (·.taken)
def usd0 : List RO := [p 2 (.mov (z 0))]
def usd1 : List RO := [p 3 (.mov (z 0))]
def usd2 : List RO := [m 6 0, p 7 (.eqNil 0 true (t 6))]
def usd3 : List RO := [m 8 0, p 9 (.nilchk (t 8)), fa 10 0 9, ld 11 10, ln 12 11, p 13 (.mov (z 0))]
def usd4 : List RO := [b 14 .lss (t 13) (t 12)]
def usd5 : List RO := [ia 15 17 11 13, la 16 17 15, a 5 (.alloc [(.int .u8 0), (.int .u8 0), (.int .u8 0), (.int .u8 0), (.int .u8 0), (.int .u8 0), (.int .u8 0), (.int .u8 0), (.int .u8 0), (.int .u8 0), (.int .u8 0), (.int .u8 0), (.int .u8 0), (.int .u8 0), (.int .u8 0), (.int .u8 0), (.bool false)]), sn 17 (t 5) (t 16)]
def usd6 : List RO := [fa 17 16 5, ld 18 17]
def usd7 : List RO := [m 19 3, b 20 .add (t 19) (z 1), m 3 20]
def usd8 : List RO := [b 21 .add (t 13) (z 1), m 13 21]
def usd9 : List RO := [m 22 3, m 2 22]
def lcUsed : RFunc := ⟨(.seq (.reg usd0) (.seq (.reg usd1) (.seq (.seq (.reg usd2) (.cond (t 7) (.seq (.reg usd3) (.block 0 (.loop (.seq (.reg usd4) (.seq (.cond (t 14) .skip (.exit 0)) (.seq (.block 1 (.seq (.reg usd5) (.seq (.reg usd6) (.cond (t 18) (.reg usd7) .skip)))) (.reg usd8))))))) .skip)) (.seq (.reg usd9) .ret)))), 23, [.tmp 2]⟩

theorem used_calls (ok : TblOK P T) {f : Nat} (hf : T.fn f = some lcUsed) (M : MemAt h bm bl fs) (hlt : bm < h.next ∧ bl < h.next) : ACalls P f [.ptr bm 0] h (.int .i64 (frUsed fs)) h := by
  have hc := cellsOf_of M.top
  have hsm := M.small
  refine ok.keeps hf (by simp [lcUsed]) rfl ?_
  simp (decide := true) only [st, lcUsed, usd0, usd1, usd2, usd3, usd4, usd5, usd6, usd7, usd8, usd9, hc]
  let I : Nat → Env → AHeap → Prop := fun n ρ h' => (∀ b, b < h.next → h'.get b = h.get b) ∧ h.next ≤ h'.next ∧ ∃ i : Nat, fs.length = i + n ∧ ρ 11 = .rs bl 0 fs.length 17 ∧ ρ 12 = .int .i64 fs.length ∧ ρ 13 = .int .i64 i ∧ ρ 3 = .int .i64 (frUsed (fs.take i))
  refine wp_loop_n I ?_ fs.length ⟨fun _ _ => rfl, Nat.le_refl _, 0, by omega, rfl, rfl, rfl, rfl⟩
  rintro n ρ h' ⟨hold, hnx, i, hin, r11, r12, r13, r3⟩
  by_cases hi : i < fs.length
  · have hx : fs[i]? = some fs[i] := List.getElem?_eq_getElem hi
    have hxl := M.len _ (List.mem_of_getElem? hx)
    have hc2 : cellsOf h' bl = some (fs.map Fr.enc).flatten := cellsOf_of (by rw [hold _ hlt.2]; exact M.row)
    have hlen := flat_len M.rows
    have hle : i * 17 + 17 ≤ (fs.map Fr.enc).flatten.length := by rw [hlen]; simp; omega
    have hrow := flat_row M.rows (i := i) (row := fs[i].enc) (by simp [hx])
    have hel := Fr.enc_len hxl
    have hone : fs[i].enc.all AV.one = true := by simp [Fr.enc, AV.one]
    have htk := Fr.enc_taken hxl
    have hd : fs[i].enc.drop 17 = [] := List.drop_eq_nil_of_le (by omega)
    have hw : IntKind.wrap .i64 ((i : Int) + 1) = ((i + 1 : Nat) : Int) := by rw [wrapS] <;> omega
    have hu : frUsed (fs.take i) ≤ i := Nat.le_trans (List.countP_le_length) (by simp; omega)
    have hw2 : IntKind.wrap .i64 ((frUsed (fs.take i) : Int) + 1) = ((frUsed (fs.take i) + 1 : Nat) : Int) := by rw [wrapS] <;> omega
    have hs : frUsed (fs.take (i + 1)) = frUsed (fs.take i) + (if fs[i].taken then 1 else 0) := by
      have e : fs.take (i + 1) = fs.take i ++ [fs[i]] := (List.take_append_getElem hi).symm
      unfold frUsed
      rw [e, List.countP_append, List.countP_singleton]
    simp (decide := true) only [st, lcUsed, usd0, usd1, usd2, usd3, usd4, usd5, usd6, usd7, usd8, usd9, r11, r12, r13, hi, hc2, hle, hrow]
    cases htk2 : fs[i].taken
    all_goals
      rw [htk2] at htk hs
      have hne : ∀ b, b < h.next → b ≠ h'.next := fun b hb => by omega
      simp (decide := true) only [st, r13, hel, hone, hd, htk, r3, hw, hw2, Nat.reduceAdd]
      refine ⟨n - 1, by omega, fun b hb => ?_, ?_, i + 1, by omega, ?_, ?_, ?_, ?_⟩
      · simp (decide := true) only [st, hne b hb, hold b hb]
      · simp (decide := true) only [st]
        omega
      · simp (decide := true) only [st, r11]
      · simp (decide := true) only [st, r12]
      · simp (decide := true) only [st]
      · simp (decide := true) only [st, r3, hs]
  · have hie : i = fs.length := by omega
    rw [hie, List.take_length] at r3
    simp (decide := true) only [st, lcUsed, usd0, usd1, usd2, usd3, usd4, usd5, usd6, usd7, usd8, usd9, r11, r12, r13, hi, r3]
    exact fun b hb => hold b hb

/-- How many frames are taken: the cells are looked through once. -/
def ckU8 : AV → Bool
  | .int .u8 _ => true
  | _ => false
def ckFr : Nat → List AV → Option Nat
  | 0, [] => some 0
  | 0, _ => none
  | n + 1, cs => match (cs.take 16).all ckU8, cs.drop 16 with
    | true, .bool t :: rest => match ckFr n rest with
      | some u => match t with
        | true => some (u + 1)
        | false => some u
      | none => none
    | _, _ => none

theorem ckU8_list : ∀ (l : List AV), l.all ckU8 = true → ∃ b : List Int, l = b.map (.int .u8)
  | [], _ => ⟨[], rfl⟩
  | a :: l, h => by
    simp only [List.all_cons, Bool.and_eq_true] at h
    obtain ⟨b, rfl⟩ := ckU8_list l h.2
    cases a <;> simp [ckU8] at h
    rename_i k n
    cases k <;> simp [ckU8] at h
    exact ⟨n :: b, rfl⟩

theorem ckFr_spec : ∀ {n : Nat} {cs : List AV} {u : Nat}, ckFr n cs = some u → ∃ fs : List Fr, fs.length = n ∧ cs = (fs.map Fr.enc).flatten ∧ (∀ f ∈ fs, f.b.length = 16) ∧ frUsed fs = u
  | 0, [], u, h => by
    simp only [ckFr, Option.some.injEq] at h
    subst h
    exact ⟨[], rfl, rfl, by simp, rfl⟩
  | 0, _ :: _, u, h => by simp [ckFr] at h
  | n + 1, cs, u, h => by
    unfold ckFr at h
    split at h
    · rename_i t rest h1 h2
      split at h
      · rename_i v hv
        obtain ⟨fs, e1, e2, e3, e4⟩ := ckFr_spec hv
        obtain ⟨b, hb⟩ := ckU8_list _ h1
        have hl : 16 < cs.length := by
          have := congrArg List.length h2
          simp at this; omega
        have hbl : b.length = 16 := by
          have := congrArg List.length hb
          simp at this; omega
        refine ⟨⟨b, t⟩ :: fs, by simp [e1], ?_, ?_, ?_⟩
        · rw [← List.take_append_drop 16 cs, hb, h2, e2]
          simp [Fr.enc]
        · intro f hf
          rcases List.mem_cons.1 hf with rfl | hf
          · exact hbl
          · exact e3 f hf
        · cases t
          · cases h; simp [frUsed, ← e4, List.countP_cons]
          · cases h; simp [frUsed, ← e4, List.countP_cons]
      · cases h
    · cases h

def usedN (args : List AV) (H : CH) : Option (AV × CH) :=
  match args with
  | [.ptr bm 0] => match cellsOf H.den bm with
    | some [.rs bl 0 n 17] => match Nat.blt bm H.next && Nat.blt bl H.next && !Nat.beq bm bl && Nat.blt n (2 ^ 40), cellsOf H.den bl with
      | true, some cs => match ckFr n cs with
        | some u => fNat u fun u => some (.int .i64 (.ofNat u), H)
        | none => none
      | _, _ => none
    | _ => none
  | _ => none

theorem usedN_ok (ok : TblOK P T) {f : Nat} (hf : T.fn f = some lcUsed) (args : List AV) (H : CH) (v : AV) (H' : CH) (he : usedN args H = some (v, H')) : ACalls P f args H.den v H'.den := by
  unfold usedN at he
  split at he
  · rename_i bm
    split at he
    · rename_i bl n h1
      split at he
      · rename_i cs hb h2
        split at he
        · rename_i u hu
          rw [fNat_eq] at he
          cases he
          simp only [Bool.and_eq_true, Nat.blt_eq, Bool.not_eq_true'] at hb
          obtain ⟨⟨⟨g1, g2⟩, g3⟩, g4⟩ := hb
          obtain ⟨fs, e1, e2, e3, e4⟩ := ckFr_spec hu
          subst e1
          have M : MemAt H.den bm bl fs := ⟨cellsOf_some h1, by rw [← e2]; exact cellsOf_some h2, fun h => by subst h; simp at g3, e3, g4⟩
          have := used_calls ok hf M ⟨g1, g2⟩
          rw [e4] at this
          exact this
        · cases he
      · cases he
    · cases he
  · cases he

end Go.Proofs.YtdhhfiaepnemcaaGreat.Am
