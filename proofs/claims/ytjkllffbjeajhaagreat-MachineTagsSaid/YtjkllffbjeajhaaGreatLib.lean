/- Functions of the library and of the program that the evaluator takes as one step: each with its contract; runs in pieces. Conditions: none. -/
import Derived.Test.YtjkllffbjeajhaaGreatAmE
set_option maxRecDepth 100000
set_option linter.unusedSimpArgs false
set_option linter.unusedVariables false
set_option linter.unnecessarySimpa false
namespace Go.Proofs.YtjkllffbjeajhaaGreat.Am
open Go
variable {P : Program} {T : Tbl} {h : AHeap}

/- slices.Clone, at rows of one length. -/
def lcClone (z : List AV) (by_ sz : Nat) : RFunc := ⟨(.seq (.reg [p 2 (.mov (.const (.vs [] .full)))]) (.seq (.seq (.reg [m 3 0, p 4 (.eqNil 1 false (t 3))]) (.cond (t 4) (.seq (.reg [p 2 (.mov (.const (.vs [] .full)))]) .ret) .skip)) (.seq (.reg [p 5 (.bslice 0 z []), m 6 0, e 7 (.append by_ sz (t 5) (t 6)), m 2 7]) .ret))), 8, [.tmp 2]⟩

theorem clone_nils (ok : TblOK P T) {f by_ sz : Nat} {z : List AV} (hf : T.fn f = some (lcClone z by_ sz)) : ACalls P f [.nils] h (.vs [] .full) h := by
  refine ok.calls hf (by simp [lcClone]) ?_
  simp (decide := true) only [st, lcClone]

theorem clone_vz (ok : TblOK P T) {f by_ sz : Nat} {z : List AV} (hf : T.fn f = some (lcClone z by_ sz)) : ACalls P f [.vz] h (.vs [] .full) h := by
  refine ok.calls hf (by simp [lcClone]) ?_
  have h0 : fillR (put (put (put (put (args0 [AV.vz]) (some 2) (.vs [] .full)) (some 3) .vz) (some 4) (.bool false)) none .undef) z.length (List.replicate 0 z) [] = some [] := rfl
  simp (decide := true) only [st, lcClone, fillR, List.replicate_zero, appF]

theorem ACalls.vs0 {f : Nat} {as : List AV} {r : AV} {h' : AHeap} (t : Tail) (h1 : ACalls P f (.nils :: as) h r h') (h2 : ACalls P f (.vz :: as) h r h') : ACalls P f (.vs [] t :: as) h r h' := by
  intro ι I w cargs H hl
  have h0 : 0 < cargs.toList.length := by rw [← hl.1]; simp
  obtain ⟨c, cs, hcs⟩ : ∃ c cs, cargs.toList = c :: cs := by
    cases hq : cargs.toList with
    | nil => rw [hq] at h0; simp at h0
    | cons c cs => exact ⟨c, cs, rfl⟩
  have hv : VR ι I w (.vs [] t) c := hl.2 0 _ _ rfl (by rw [hcs]; rfl)
  have go : ∀ a, VR ι I w a c → LR ι I w (a :: as) cargs.toList := fun a ha => ⟨by rw [← hl.1]; rfl, fun i v u hi hu => by
    cases i with
    | zero => simp at hi; subst hi; rw [hcs] at hu; simp at hu; subst hu; exact ha
    | succ i => exact hl.2 (i + 1) v u (by simpa using hi) hu⟩
  generalize hx : AV.vs [] t = x at hv
  cases hv <;> first | (cases hx; done) | skip
  case vsNil t' ht => exact h1 ι I w cargs H (go _ .nils)
  case vsZ t' a cap ht => exact h2 ι I w cargs H (go _ (.vz a cap))
  case vs xs t' cb o s cap g hs hI hc hv' hone hcap ht =>
    cases hx
    exact h2 ι I w cargs H (go _ (.vz _ cap))

theorem clone_empty (ok : TblOK P T) {f by_ sz : Nat} {z : List AV} (hf : T.fn f = some (lcClone z by_ sz)) {t : Tail} : ACalls P f [.vs [] t] h (.vs [] .full) h :=
  .vs0 t (clone_nils ok hf) (clone_vz ok hf)

/-- What Clone does with a slice that is not nil for sure. -/
theorem clone_rows (ok : TblOK P T) {f by_ sz : Nat} {z : List AV} (hf : T.fn f = some (lcClone z by_ sz)) {x : AV} {rows : List (List AV)} (hx : isNilA 1 x = some false) (hr : rowsA sz h x = some rows) (hne : rows ≠ [])
    (h1 : rows.length * by_ < 2 ^ 40) (h2 : rows.length < 2 ^ 40) : ACalls P f [x] h (.vs rows (.own h.next)) (h.at h.next .tail) := by
  refine ok.calls hf (by simp [lcClone]) ?_
  have ha : appF by_ sz h.next h (.vs [] .full) (some rows) = some (.vs rows (.own h.next), h.at h.next .tail) := by
    simp only [appF, List.nil_append, List.length_nil, Nat.zero_add]
    rw [if_neg hne, if_pos ⟨rfl, h1, h2⟩]
  simp (decide := true) only [st, lcClone, fillR, List.replicate_zero, hx, hr, ha]
theorem clone_rows0 (ok : TblOK P T) {f by_ sz : Nat} {z : List AV} (hf : T.fn f = some (lcClone z by_ sz)) {x : AV} (hx : isNilA 1 x = some false) (hr : rowsA sz h x = some []) : ACalls P f [x] h (.vs [] .full) h := by
  refine ok.calls hf (by simp [lcClone]) ?_
  have ha : appF by_ sz h.next h (.vs [] .full) (some []) = some (.vs [] .full, h) := rfl
  simp (decide := true) only [st, lcClone, fillR, List.replicate_zero, hx, hr, ha]

/-- A slice whose room is not known has some room. -/
theorem ACalls.ofRk {f b off n sz : Nat} {as : List AV} {r : AV} {h' : AHeap} (hc : ∀ cap, n ≤ cap → ACalls P f (.rk b off n sz cap :: as) h r h') : ACalls P f (.rs b off n sz :: as) h r h' := by
  intro ι I w cargs H hl
  have h0 : 0 < cargs.toList.length := by rw [← hl.1]; simp
  obtain ⟨c, cs, hcs⟩ : ∃ c cs, cargs.toList = c :: cs := by
    cases hq : cargs.toList with
    | nil => rw [hq] at h0; simp at h0
    | cons c cs => exact ⟨c, cs, rfl⟩
  have hv : VR ι I w (.rs b off n sz) c := hl.2 0 _ _ rfl (by rw [hcs]; rfl)
  have go : ∀ a, VR ι I w a c → LR ι I w (a :: as) cargs.toList := fun a ha => ⟨by rw [← hl.1]; rfl, fun i v u hi hu => by
    cases i with
    | zero => simp at hi; subst hi; rw [hcs] at hu; simp at hu; subst hu; exact ha
    | succ i => exact hl.2 (i + 1) v u (by simpa using hi) hu⟩
  cases hv
  rename_i cb o room cap h1 h2 h3
  exact hc cap h2 ι I w cargs H (go _ (.rk b off n sz cap cb o room h1 h2 h3))

def bufH (h : AHeap) (b : Nat) (cs : List AV) : AHeap := ((h.set b none).clean 19).at (h.next + 19) (.cells cs)

/-- A call that hands back a slice that was handed in, or a new one: the block gets a number of its own. -/
theorem ACalls.fin {f b o0 n m c sz sz0 : Nat} {a0 r0 : AV} {as : List AV} {cs : List AV} {h1 : AHeap} (j : Nat) (hc : ACalls P f (a0 :: as) h r0 h1) (ha : a0 = .rs b o0 n sz0 ∨ ∃ cap, a0 = .rk b o0 n sz0 cap) (hr : r0 = .rs c 0 m sz ∨ ∃ cap, r0 = .rk c 0 m sz cap)
    (hg : h1.get c = some (.cells cs)) (hcb : c = b ∨ h.next ≤ c) (hn : h1.next ≤ h.next + 19) (hk : ∀ x, x < h.next → x ≠ b → h1.get x = h.get x) :
    ACalls P f (a0 :: as) h (.rs (h.next + 19) 0 m sz) (bufH h b (cs.take j)) := by
  intro ι I w cargs H hl
  have h0 : 0 < cargs.toList.length := by rw [← hl.1]; simp
  have hv0 : VR ι I w a0 cargs.toList[0] := hl.2 0 _ _ rfl (List.getElem?_eq_getElem h0)
  have hbs : ∃ l, ι b = some l := by
    generalize cargs.toList[0] = c at hv0
    rcases ha with rfl | ⟨cap, rfl⟩ <;> (cases hv0; exact ⟨_, by assumption⟩)
  obtain ⟨l0, hb0⟩ := hbs
  refine (hc ι I w cargs H hl).mono ?_
  rintro e w' ⟨v, ι', I', rfl, hv, H', E⟩
  have hloc : ∃ cb o room cap, ι' c = some (.cells cb o room) ∧ m ≤ cap ∧ 0 + cap * sz ≤ room ∧ v = .slice (some ⟨cb, o + 0, none⟩) m cap := by
    rcases hr with rfl | ⟨cap, rfl⟩ <;> (cases hv; exact ⟨_, _, _, _, by assumption, by assumption, by assumption, rfl⟩)
  obtain ⟨cb, o, room, cap, e1, e2, e3, rfl⟩ := hloc
  obtain ⟨_, _, _, hloc, hroom, hone, hcell⟩ := H'.cells c cs _ hg e1
  cases hloc
  have hKn : ι' (h.next + 19) = none := by
    cases hq : ι' (h.next + 19) with
    | none => rfl
    | some l => have := H'.dom _ l hq; omega
  have hget : ∀ x y, ((h.set b none).clean 19).get x = some y → x < h.next ∧ x ≠ b ∧ h1.get x = some y := fun x y hx => by
    by_cases hlt : x < h.next
    · by_cases hne : x = b
      · simp [AHeap.clean, AHeap.set, hne] at hx
      · have hx' : h.get x = some y := by simpa [AHeap.clean, AHeap.set, hlt, hne] using hx
        exact ⟨hlt, hne, by rw [hk x hlt hne]; exact hx'⟩
    · have hlt' : ¬ x < (h.set b none).next := hlt
      simp [AHeap.clean, hlt'] at hx
  have hnx : ((h.set b none).clean 19).next = h.next + 19 := rfl
  have HB : HR ι' I' ((h.set b none).clean 19) w' := H'.onDom (fun i l hi => by have := H'.dom i l hi; omega) (fun i l x hi hx => (hget i x hx).2.2)
  have hin : cb < w'.heap.size := H'.inside c _ e1
  have H3 := HB.claim (id := h.next + 19) (l := .cells cb o room) (x := .cells (cs.take j)) (fun l' hl' => by rw [hKn] at hl'; cases hl') hin
    ⟨by simp; omega, fun v hv => hone v (List.mem_of_mem_take hv), fun j' hj => (by
      obtain ⟨u, g1, g2, g3⟩ := hcell j' hj
      refine ⟨u, g1, g2, fun v hv => g3 v ?_⟩
      rw [List.getElem?_take] at hv
      split at hv
      · exact hv
      · cases hv), H'.pl c cs cb o room hg e1⟩
    (fun k' j' hl' => ⟨fun ⟨i, l', y, hi, hgi, hli⟩ => by
        obtain ⟨q1, q2, q3⟩ := hget i y hgi
        exact H'.disj i c l' _ y _ k' j' (by omega) hi e1 q3 hg hli hl', H'.imm c _ _ k' j' e1 hg hl'⟩)
  refine ⟨_, _, I', rfl, ?_, H3, ?_⟩
  · exact .rs (h.next + 19) 0 m sz cb o room cap (Inj.set_same _ _ _) e2 e3
  · refine { keep := fun i hi => ?_, more := fun i l hi => ?_, next := by simp [bufH, AHeap.at, AHeap.set, AHeap.clean]; omega, imm := E.imm, os := E.os, tape := E.tape, output := E.output, size := E.size, block := E.block, cell := E.cell, frozen := E.frozen, own := ?_, inew := E.inew, lost := ?_ }
    · rw [Inj.set_other _ _ (by omega)]; exact E.keep i hi
    · have := E.more i l hi
      rw [Inj.set_other _ _ (fun he => by rw [he, hKn] at this; cases this)]; exact this
    · rintro k' j' ⟨i, l, x, hi, hgi, hl'⟩
      by_cases hii : i = h.next + 19
      · subst hii; rw [Inj.set_same] at hi; cases hi
        exact E.own k' j' ⟨c, _, _, e1, hg, hl'⟩
      · rw [Inj.set_other _ _ hii] at hi
        have hgi' : ((h.set b none).clean 19).get i = some x := by simpa [bufH, AHeap.at, hii] using hgi
        exact E.own k' j' ⟨i, l, x, hi, (hget i x hgi').2.2, hl'⟩
    · intro i hi hin'
      have hib : i ≠ b := fun he => by rw [he, hb0] at hin'; cases hin'
      have hih : ¬ i = h.next + 19 := by omega
      have hlt : i < h.next := by omega
      simp [bufH, AHeap.at, AHeap.clean, AHeap.set, hih, hib, hlt]

theorem WP_regD0n {ros : List RO} {un : List (List Nat)} {K : AExit → Env → AHeap → Prop} {ρ : Env} (n : Nat) (hn : ros.length = n) (hu : un.all (·.isEmpty) = true) (he : execD0 P n h.next ros 0 ρ (h.clean n) (K .normal)) : WP P (.regD ros un) K ρ h := by
  subst hn
  exact WP_regD0 hu he
end Go.Proofs.YtjkllffbjeajhaaGreat.Am

namespace Go.Proofs.YtjkllffbjeajhaaGreat.Am
open Go
variable {P : Program} {T : Tbl} {h : AHeap}

def ins0 : List RO := [p 6 (.mov (.const (.vs [] .full)))]
def ins1 : List RO := [m 10 0, m 11 1, p 12 (.slc 2 (t 10) (some (t 11)) none none)]
def ins2 : List RO := [m 13 2, ln 14 13, m 7 14]
def ins3 : List RO := [m 15 7, b 16 .eql (t 15) (z 0)]
def ins4 : List RO := [m 17 0, m 6 17]
def ins5 : List RO := [m 18 0, ln 19 18, m 8 19]
def ins6 : List RO := [m 20 1, m 21 8, b 22 .eql (t 20) (t 21)]
def ins7 : List RO := [m 23 0, m 24 2, e 25 (.appendR 4 2 (t 23) (t 24)), m 6 25]
def ins8 : List RO := [m 26 8, m 27 7, b 28 .add (t 26) (t 27), m 29 0, p 30 (.capS (t 29)), b 31 .gtr (t 28) (t 30)]
def ins9 : List RO := [m 32 0, m 33 1, p 34 (.slc 2 (t 32) none (some (t 33)) none), m 35 8, m 36 7, b 37 .add (t 35) (t 36), m 38 1, b 39 .sub (t 37) (t 38), e 40 (.appendZ 4 [(.int .u16 0), (.int .u8 0)] (t 34) (t 39)), m 9 40]
def ins10 : List RO := [m 41 9, m 42 1, p 43 (.slc 2 (t 41) (some (t 42)) none none), m 44 2, e 45 (.copy 2 (t 43) (t 44))]
def ins11 : List RO := [m 46 9, m 47 1, m 48 7, b 49 .add (t 47) (t 48), p 50 (.slc 2 (t 46) (some (t 49)) none none), m 51 0, m 52 1, p 53 (.slc 2 (t 51) (some (t 52)) none none), e 54 (.copy 2 (t 50) (t 53))]
def ins12 : List RO := [m 55 9, m 6 55]
def ins13 : List RO := [m 56 0, m 57 8, m 58 7, b 59 .add (t 57) (t 58), p 60 (.slc 2 (t 56) none (some (t 59)) none), m 0 60]
def ins14 : List RO := [m 61 2, m 62 0, m 63 1, m 64 7, b 65 .add (t 63) (t 64), p 66 (.slc 2 (t 62) (some (t 65)) none none), p 67 (.ovl 2 (t 61) (t 66)), p 68 (.un .not (t 67))]
def ins15 : List RO := [m 69 0, m 70 1, m 71 7, b 72 .add (t 70) (t 71), p 73 (.slc 2 (t 69) (some (t 72)) none none), m 74 0, m 75 1, p 76 (.slc 2 (t 74) (some (t 75)) none none), e 77 (.copyK 2 (t 73) (t 76))]
def ins16 : List RO := [m 78 0, m 79 1, p 80 (.slc 2 (t 78) (some (t 79)) none none), m 81 2, e 82 (.copyK 2 (t 80) (t 81))]
def ins17 : List RO := [m 83 0, m 6 83]
def insT : RCode := (.seq (.reg [m 84 0, m 85 8, p 86 (.slc 2 (t 84) (some (t 85)) none none), m 87 2, e 88 (.copy 2 (t 86) (t 87))]) (.seq (.reg [m 89 0, m 90 1, p 91 (.slc 2 (t 89) (some (t 90)) none none), m 92 7, c 93 280 [(t 91), (t 92)]]) (.seq (.reg [m 94 0, m 6 94]) .ret)))
/-- slices.Insert at pairs; rot: the function that is called where the two overlap (never). -/
def lcIns (rest : RCode) : RFunc := ⟨(.seq (.reg ins0) (.seq (.reg ins1) (.seq (.reg ins2) (.seq (.seq (.reg ins3) (.cond (t 16) (.seq (.reg ins4) .ret) .skip)) (.seq (.reg ins5) (.seq (.seq (.reg ins6) (.cond (t 22) (.seq (.reg ins7) .ret) .skip)) (.seq (.seq (.reg ins8) (.cond (t 31) (.seq (.reg ins9) (.seq (.reg ins10) (.seq (.regD ins11 [[], [], [], [], [], [], [], [], []]) (.seq (.reg ins12) .ret)))) .skip)) (.seq (.reg ins13) (.seq (.seq (.reg ins14) (.cond (t 68) (.seq (.regD ins15 [[], [], [], [], [], [], [], [], []]) (.seq (.reg ins16) (.seq (.reg ins17) .ret))) .skip)) rest))))))))), 95, [.tmp 6]⟩

def insC (cs row : List AV) (i : Nat) : List AV := cs.take (i * 2) ++ row ++ cs.drop (i * 2)

theorem ins_end (ok : TblOK P T) {f : Nat} {rest : RCode} (hf : T.fn f = some (lcIns rest)) {b n : Nat} {row cs : List AV} {tl : Tail} (hg : h.get b = some (.cells cs)) (hl : cs.length = n * 2) (hr : row.length = 2) (hn : n < 2 ^ 30) :
    ACalls P f [.rs b 0 n 2, .int .i64 n, .vs [row] tl] h (.rs h.next 0 (n + 1) 2) ((h.set b none).at h.next (.cells (insC cs row n))) := by
  refine ok.calls hf (by simp [lcIns]) ?_
  have hc := cellsOf_of hg
  have hins : insC cs row n = cs.take (n * 2) ++ [row].flatten := by simp [insC, List.drop_of_length_le (show cs.length ≤ n * 2 by omega)]
  have ha : appRF 4 2 h.next h (.rs b 0 n 2) (some [row]) = some (.rs h.next 0 (n + 1) 2, (h.set b none).at h.next (.cells (insC cs row n))) := by
    simp only [appRF, hc, Option.bind_some, hins, List.length_singleton]
    rw [if_neg (by simp), if_pos ⟨trivial, trivial, by omega, by omega, by omega⟩]
  have h0 : (0 : Int) ≤ n := by omega
  simp (decide := true) only [st, lcIns, ins0, ins1, ins2, ins3, ins4, ins5, ins6, ins7, aslice_rs, h0, Int.toNat_natCast, Nat.le_refl, hr, ha]

theorem rowsOf_flat {cs : List AV} {off sz n : Nat} (h : off + n * sz ≤ cs.length) : (rowsOf cs off sz n).length = n ∧ (∀ r ∈ rowsOf cs off sz n, r.length = sz) ∧ (rowsOf cs off sz n).flatten = (cs.drop off).take (n * sz) := by
  obtain ⟨e1, e2, e3⟩ := rowsOf_spec cs sz n off h
  exact ⟨e1, fun r hr => (e2 r hr).1, e3⟩

theorem ins_grow (ok : TblOK P T) {f : Nat} {rest : RCode} (hf : T.fn f = some (lcIns rest)) {b i k cap : Nat} {row cs : List AV} {tl : Tail} (hb : b < h.next) (hg : h.get b = some (.cells cs)) (hl : cs.length = (i + k + 1) * 2) (hr : row.length = 2) (hn : i + k + 1 < 2 ^ 30)
    (hc1 : i + k + 1 ≤ cap) (hc2 : cap < i + k + 2) :
    ∃ h1, ACalls P f [.rk b 0 (i + k + 1) 2 cap, .int .i64 i, .vs [row] tl] h (.rs h.next 0 (i + k + 2) 2) h1 ∧ h1.get h.next = some (.cells (insC cs row i)) ∧ h1.next ≤ h.next + 19 ∧ ∀ x, x < h.next → h1.get x = h.get x := by
  have hc := cellsOf_of hg
  have h0 : (0 : Int) ≤ i := by omega
  have h1 : (0 : Int) ≤ ((i + 1 : Nat) : Int) := by omega
  have hine : ¬ ((i : Int) = ((i + k + 1 : Nat) : Int)) := by omega
  have hw1 : IntKind.wrap .i64 (((i + k + 1 : Nat) : Int) + 1) = ((i + k + 2 : Nat) : Int) := by rw [wrapS] <;> omega
  have hw2 : IntKind.wrap .i64 (((i + k + 2 : Nat) : Int) - i) = ((k + 2 : Nat) : Int) := by rw [wrapS] <;> omega
  have hw3 := wrapN1 (show i < 2 ^ 61 by omega)
  have hgt : ((cap : Int) < ((i + k + 2 : Nat) : Int)) := by omega
  have hci : ¬ cap = i := by omega
  have hc0 : ¬ cap = 0 := by omega
  have hile : i ≤ i + k + 1 := by omega
  have hile2 : i ≤ i + k + 2 := by omega
  have hile3 : i + 1 ≤ i + k + 2 := by omega
  have hicap : i ≤ cap := by omega
  have hnb : ¬ b = h.next := by omega
  have hne2 : ¬ i = i + k + 2 := by omega
  have hne3 : ¬ i + 1 = i + k + 2 := by omega
  have hsub : i + k + 2 - i = k + 2 := by omega
  have hsub2 : i + k + 2 - (i + 1) = k + 1 := by omega
  have hsub3 : i + k + 1 - i = k + 1 := by omega
  obtain ⟨rl, ru, rf⟩ := rowsOf_flat (cs := cs) (off := 0) (sz := 2) (n := i) (by omega)
  obtain ⟨rl2, ru2, rf2⟩ := rowsOf_flat (cs := cs) (off := i * 2) (sz := 2) (n := k + 1) (by omega)
  have rf2' : (rowsOf cs (i * 2) 2 (k + 1)).flatten = cs.drop (i * 2) := by rw [rf2, List.take_of_length_le (by simp; omega)]
  let z : List AV := [.int .u16 0, .int .u8 0]
  let X0 : List AV := cs.take (i * 2) ++ (List.replicate (k + 2) z).flatten
  have hzl : (List.replicate (k + 2) z).flatten.length = (k + 2) * 2 := by
    have := flat_len (rows := List.replicate (k + 2) z) (sz := 2) (fun r hr => by rw [List.eq_of_mem_replicate hr]; rfl)
    simpa using this
  have hX0 : X0.length = (i + k + 2) * 2 := by simp only [X0, List.length_append, hzl, List.length_take]; omega
  let X1 := setAt X0 (i * 2) row
  have hX1 : X1.length = (i + k + 2) * 2 := by simp only [X1]; rw [setAt_length _ _ _ (by omega)]; exact hX0
  let X2 := setAt X1 ((i + 1) * 2) (cs.drop (i * 2))
  have hX2 : X2 = insC cs row i := by
    have e0 : X0.take (i * 2) = cs.take (i * 2) := List.take_left' (by simp; omega)
    have e1 : (cs.take (i * 2) ++ row).length = (i + 1) * 2 := by simp [hr]; omega
    have e2 : X1 = (cs.take (i * 2) ++ row) ++ X0.drop (i * 2 + row.length) := by simp only [X1, setAt, e0]
    have e3 : X1.take ((i + 1) * 2) = cs.take (i * 2) ++ row := by rw [e2]; exact List.take_left' e1
    have e4 : X1.drop ((i + 1) * 2 + (cs.drop (i * 2)).length) = [] := List.drop_eq_nil_of_le (by rw [hX1]; simp; omega)
    simp only [X2, setAt, insC, e3, e4, List.append_nil]
  have hz : appZF 4 z h.next h (.rk b 0 i 2 cap) (.int .i64 ((k + 2 : Nat) : Int)) = some (.rs h.next 0 (i + (k + 2)) 2, h.at h.next (.cells X0)) := by
    simp only [appZF]
    rw [if_pos (by omega)]
    simp only [hc, Option.bind_some, Int.toNat_natCast]
    rw [if_pos ⟨rfl, by omega, by show 0 + i * 2 ≤ cs.length; omega, by omega, by omega⟩]
    have : (rowsOf cs 0 z.length i ++ List.replicate (k + 2) z).flatten = X0 := by
      rw [List.flatten_append]
      simp only [X0]
      congr 1
    rw [this]; rfl
  have hz' : appZF 4 [.int .u16 0, .int .u8 0] h.next h (.rk b 0 i 2 cap) (.int .i64 ((k + 2 : Nat) : Int)) = some (.rs h.next 0 (i + k + 2) 2, h.at h.next (.cells X0)) := hz
  have hat : ∀ X : List AV, (h.at h.next (.cells X)).get h.next = some (.cells X) := fun X => by simp [AHeap.at]
  have hcp1 : copyF 2 (h.at h.next (.cells X0)) (.rs h.next (i * 2) (k + 2) 2) (.vs [row] tl) = some (.int .i64 1, h.at h.next (.cells X1)) := by
    have hm : min 1 (k + 2) = 1 := by omega
    have e : (h.at h.next (.cells X0)).set h.next (some (.cells X1)) = h.at h.next (.cells X1) := by
      unfold AHeap.at AHeap.set
      congr 1
      funext x; by_cases hx : x = h.next <;> simp [hx]
    simp only [copyF, rowsA, cellsOf_of (hat X0), headOk, hr, beq_self_eq_true, if_true, Option.bind_some, List.length_singleton, hm]
    rw [if_pos ⟨trivial, by rw [hX0]; omega⟩]
    simp only [List.take_succ_cons, List.take_zero, List.flatten_cons, List.flatten_nil, List.append_nil]
    rw [← e]; rfl
  obtain ⟨H1, hH1⟩ : ∃ H, H = h.at h.next (.cells X1) := ⟨_, rfl⟩
  have H1n : H1.next = h.next + 1 := by rw [hH1]; simp [AHeap.at]
  have H1g : H1.get h.next = some (.cells X1) := by rw [hH1]; exact hat X1
  have H1o : ∀ x, x < h.next → H1.get x = h.get x := fun x hx => by rw [hH1]; simp [AHeap.at, show ¬ x = h.next by omega]
  have hcl : ∀ x, x < h.next + 1 → (H1.clean 9).get x = H1.get x := fun x hx => by simp [AHeap.clean, H1n, hx]
  have hcb : cellsOf (H1.clean 9) b = some cs := cellsOf_of (by rw [hcl b (by omega), H1o b hb]; exact hg)
  have hcn : cellsOf (H1.clean 9) h.next = some X1 := cellsOf_of (by rw [hcl _ (by omega)]; exact H1g)
  let H2 := (H1.clean 9).set h.next (some (.cells X2))
  have hcp2 : copyF 2 (H1.clean 9) (.rs h.next ((i + 1) * 2) (k + 1) 2) (.rk b (i * 2) (k + 1) 2 (cap - i)) = some (.int .i64 ((k + 1 : Nat) : Int), H2) := by
    have hm : min (k + 1) (k + 1) = k + 1 := by omega
    simp only [copyF, rowsA, hcb, hcn, if_true]
    rw [if_pos (by omega)]
    simp only [Option.bind_some, rl2, hm]
    rw [if_pos ⟨trivial, by rw [hX1]; omega⟩, List.take_of_length_le (by rw [rl2]; exact Nat.le_refl _), rf2']
  have hfr : freeD 9 (h.next + 1) 8 H2 := fun j j1 j2 => by omega
  refine ⟨H2, ?_, ?_, ?_, ?_⟩
  · refine ok.calls hf (by simp [lcIns]) ?_
    simp (decide := true) only [st, lcIns, ins0, ins1, ins2, ins3, ins5, ins6, ins8, h0, Int.toNat_natCast, hine, hw1, hgt, hile, hc1, hci, hicap, Nat.le_refl, hr]
    simp (decide := true) only [st, ins9, ins10, h0, Int.toNat_natCast, hc0, hw1, hw2, hile, hicap, Nat.zero_le, Nat.zero_mul, Nat.mul_zero, Nat.add_zero, Nat.zero_add, Nat.sub_zero, Nat.le_refl, hz', aslice_rs, aeff_copy, hile2, hne2, hsub, hcp1]
    rw [← hH1]
    refine WP_regD0n 9 rfl rfl ?_
    rw [H1n]
    simp (decide := true) only [st, ins11, ins12, h0, h1, hw3, Int.toNat_natCast, aslice_rs, aeff_copy, hile, hile3, hne3, hsub2, hsub3, hci, hicap, hc1, hcp2, Nat.zero_add, Nat.le_refl]
    exact hfr
  · rw [← hX2]; simp [H2, AHeap.set]
  · simp [H2, AHeap.set, AHeap.clean, H1n]
  · intro x hx
    have : ¬ x = h.next := by omega
    simp only [H2, AHeap.set, if_neg this]
    rw [hcl x (by omega), H1o x hx]

theorem ins_place (ok : TblOK P T) {f : Nat} {rest : RCode} (hf : T.fn f = some (lcIns rest)) {b i k cap : Nat} {row cs : List AV} {tl : Tail} (hb : b < h.next) (hg : h.get b = some (.cells cs)) (hl : cs.length = (i + k + 1) * 2) (hr : row.length = 2) (hn : i + k + 1 < 2 ^ 30)
    (hc2 : i + k + 2 ≤ cap) :
    ∃ h1, ACalls P f [.rk b 0 (i + k + 1) 2 cap, .int .i64 i, .vs [row] tl] h (.rk b 0 (i + k + 2) 2 cap) h1 ∧ h1.get b = some (.cells (insC cs row i)) ∧ h1.next ≤ h.next + 19 ∧ ∀ x, x < h.next → x ≠ b → h1.get x = h.get x := by
  have hc := cellsOf_of hg
  have h0 : (0 : Int) ≤ i := by omega
  have h1 : (0 : Int) ≤ ((i + 1 : Nat) : Int) := by omega
  have h2 : (0 : Int) ≤ ((i + k + 2 : Nat) : Int) := by omega
  have hine : ¬ ((i : Int) = ((i + k + 1 : Nat) : Int)) := by omega
  have hw1 : IntKind.wrap .i64 (((i + k + 1 : Nat) : Int) + 1) = ((i + k + 2 : Nat) : Int) := by rw [wrapS] <;> omega
  have hw3 := wrapN1 (show i < 2 ^ 61 by omega)
  have hgt : ¬ ((cap : Int) < ((i + k + 2 : Nat) : Int)) := by omega
  have hci : ¬ cap = i := by omega
  have hci1 : ¬ cap = i + 1 := by omega
  have hc0 : ¬ cap = 0 := by omega
  have hile : i ≤ i + k + 1 := by omega
  have hile2 : i ≤ i + k + 2 := by omega
  have hile3 : i + 1 ≤ i + k + 2 := by omega
  have hc1 : i + k + 1 ≤ cap := by omega
  have hicap : i ≤ cap := by omega
  have hsub : i + k + 2 - i = k + 2 := by omega
  have hsub2 : i + k + 2 - (i + 1) = k + 1 := by omega
  have hm1 : min (k + 2) (k + 1) = k + 1 := by omega
  have hm2 : min 1 (k + 2) = 1 := by omega
  obtain ⟨rl2, ru2, rf2⟩ := rowsOf_flat (cs := cs) (off := i * 2) (sz := 2) (n := k + 1) (by omega)
  have rf2' : (rowsOf cs (i * 2) 2 (k + 1)).flatten = cs.drop (i * 2) := by rw [rf2, List.take_of_length_le (by simp; omega)]
  let Y1 := setAt cs ((i + 1) * 2) (cs.drop (i * 2))
  let Y2 := setAt Y1 (i * 2) row
  have hY1 : Y1 = cs.take ((i + 1) * 2) ++ cs.drop (i * 2) := by
    have e : cs.drop ((i + 1) * 2 + (cs.drop (i * 2)).length) = [] := List.drop_eq_nil_of_le (by simp; omega)
    simp only [Y1, setAt, e, List.append_nil]
  have hY1l : Y1.length = (i + k + 2) * 2 := by rw [hY1]; simp; omega
  have hY2 : Y2 = insC cs row i := by
    simp only [Y2, setAt, insC, hr, hY1]
    have e1 : (cs.take ((i + 1) * 2) ++ cs.drop (i * 2)).take (i * 2) = cs.take (i * 2) := by
      rw [List.take_append_of_le_length (by simp; omega), List.take_take, Nat.min_eq_left (by omega)]
    have e2 : (cs.take ((i + 1) * 2) ++ cs.drop (i * 2)).drop (i * 2 + 2) = cs.drop (i * 2) := List.drop_left' (by simp; omega)
    rw [e1, e2]
  have hov : ovlA 2 h (.vs [row] tl) (.rk b ((i + 1) * 2) (k + 1) 2 (cap - (i + 1))) = some (.bool false) := by simp [ovlA, hr, hc]
  have hcl : ∀ x, x < h.next → (h.clean 9).get x = h.get x := fun x hx => by simp [AHeap.clean, hx]
  have hcb : cellsOf (h.clean 9) b = some cs := cellsOf_of (by rw [hcl b hb]; exact hg)
  let H1 := (h.clean 9).set b (some (.cells Y1))
  have hcp1 : copyKF 2 (h.clean 9) (.rk b ((i + 1) * 2) (k + 1) 2 (cap - (i + 1))) (.rk b (i * 2) (k + 2) 2 (cap - i)) = some (.int .i64 ((k + 1 : Nat) : Int), H1) := by
    have hle : k + 1 ≤ k + 2 := by omega
    simp only [copyKF, lenA, Option.bind_some, hm1, rowsN, hcb]
    rw [if_pos ⟨trivial, hle⟩, if_pos (by omega)]
    simp only [Option.bind_some]
    rw [if_pos ⟨trivial, by omega⟩, rf2']
  have hg1 : cellsOf H1 b = some Y1 := cellsOf_of (by simp [H1, AHeap.set])
  let H2 := H1.set b (some (.cells Y2))
  have hcp2 : copyKF 2 H1 (.rk b (i * 2) (k + 2) 2 (cap - i)) (.vs [row] tl) = some (.int .i64 1, H2) := by
    simp only [copyKF, lenA, Option.bind_some, List.length_singleton, hm2, rowsN, headOk, hr, beq_self_eq_true, if_true, hg1]
    rw [if_pos ⟨trivial, by rw [hY1l]; omega⟩]
    simp only [List.take_succ_cons, List.take_zero, List.flatten_cons, List.flatten_nil, List.append_nil]
    rfl
  have hfr : freeD 9 h.next 8 H1 := fun j j1 j2 => by omega
  obtain ⟨H1', hH1'⟩ : ∃ H, H = H1 := ⟨_, rfl⟩
  refine ⟨H2, ?_, ?_, ?_, ?_⟩
  · refine ok.calls hf (by simp [lcIns]) ?_
    simp (decide := true) only [st, lcIns, ins0, ins1, ins2, ins3, ins5, ins6, ins8, h0, Int.toNat_natCast, hine, hw1, hgt, hile, hc1, hci, hicap, Nat.le_refl, hr]
    simp (decide := true) only [st, ins13, ins14, h0, h1, h2, hw1, hw3, Int.toNat_natCast, hc0, hci1, hile3, hc2, hsub2, hov, Nat.zero_le, Nat.zero_mul, Nat.add_zero, Nat.zero_add, Nat.sub_zero, Nat.le_refl]
    refine WP_regD0n 9 rfl rfl ?_
    simp (decide := true) only [st, ins15, h0, h1, hw3, Int.toNat_natCast, hile2, hile3, hci, hci1, hc2, hsub, hsub2, hcp1, Nat.zero_add, Nat.le_refl]
    refine ⟨hfr, ?_⟩
    simp (decide := true) only [st, ins16, ins17, h0, Int.toNat_natCast, hile2, hci, hc2, hsub, hcp2, Nat.zero_add, Nat.le_refl]
  · rw [← hY2]; simp [H2, AHeap.set]
  · simp [H2, H1, AHeap.set, AHeap.clean]
  · intro x hx hxb
    simp only [H2, H1, AHeap.set, if_neg hxb]
    exact hcl x hx

end Go.Proofs.YtjkllffbjeajhaaGreat.Am

namespace Go.Proofs.YtjkllffbjeajhaaGreat.Am
open Go
variable {P : Program} {T : Tbl} {h : AHeap}

/-- slices.Insert of one pair. -/
theorem ins_calls (ok : TblOK P T) {f : Nat} {rest : RCode} (hf : T.fn f = some (lcIns rest)) {b n i : Nat} {row cs : List AV} {tl : Tail} (hb : b < h.next) (hg : h.get b = some (.cells cs)) (hl : cs.length = n * 2) (hr : row.length = 2) (hn : n < 2 ^ 30) (hi : i ≤ n) :
    ACalls P f [.rs b 0 n 2, .int .i64 i, .vs [row] tl] h (.rs (h.next + 19) 0 (n + 1) 2) (bufH h b (insC cs row i)) := by
  have hlen : (insC cs row i).length = (n + 1) * 2 := by simp [insC, hr]; omega
  have htk : (insC cs row i).take ((n + 1) * 2) = insC cs row i := List.take_of_length_le (by omega)
  rw [← htk]
  by_cases hin : i = n
  · subst hin
    have := ins_end ok hf (tl := tl) hg hl hr hn
    refine this.fin (c := h.next) ((i + 1) * 2) (.inl rfl) (.inl rfl) (by simp [AHeap.at]) (.inr (Nat.le_refl _)) (by simp [AHeap.at, AHeap.set]) (fun x hx hxb => ?_)
    have : ¬ x = h.next := by omega
    simp [AHeap.at, AHeap.set, this, hxb]
  · obtain ⟨k, rfl⟩ : ∃ k, n = i + k + 1 := ⟨n - i - 1, by omega⟩
    refine .ofRk (fun cap hcap => ?_)
    by_cases hc : cap < i + k + 2
    · obtain ⟨h1, q1, q2, q3, q4⟩ := ins_grow ok hf (tl := tl) hb hg hl hr hn hcap hc
      exact q1.fin (c := h.next) ((i + k + 1 + 1) * 2) (.inr ⟨cap, rfl⟩) (.inl rfl) q2 (.inr (Nat.le_refl _)) q3 (fun x hx _ => q4 x hx)
    · obtain ⟨h1, q1, q2, q3, q4⟩ := ins_place ok hf (tl := tl) hb hg hl hr hn (by omega : i + k + 2 ≤ cap)
      exact q1.fin (c := b) ((i + k + 1 + 1) * 2) (.inr ⟨cap, rfl⟩) (.inr ⟨cap, rfl⟩) q2 (.inl rfl) q3 q4

theorem ins_nil (ok : TblOK P T) {f : Nat} {rest : RCode} (hf : T.fn f = some (lcIns rest)) {row : List AV} {tl : Tail} (hr : row.length = 2) :
    ACalls P f [.vs [] .full, .int .i64 0, .vs [row] tl] h (.rs h.next 0 1 2) (h.at h.next (.cells row)) := by
  refine ok.calls hf (by simp [lcIns]) ?_
  have ha : appRF 4 2 h.next h (.vs [] .full) (some [row]) = some (.rs h.next 0 1 2, h.at h.next (.cells row)) := by
    simp only [appRF, List.length_singleton]
    rw [if_neg (by simp), if_pos ⟨by omega, by omega⟩]
    simp
  have h0 : (0 : Int) ≤ 0 := by omega
  simp (decide := true) only [st, lcIns, ins0, ins1, ins2, ins3, ins4, ins5, ins6, ins7, h0, Nat.le_refl, hr, ha]

def del0 : List RO := [p 6 (.mov (.const (.vs [] .full)))]
def del1 : List RO := [m 8 0, m 9 1, m 10 2, m 11 0, ln 12 11, p 13 (.slc 2 (t 8) (some (t 9)) (some (t 10)) (some (t 12)))]
def del2 : List RO := [m 14 1, m 15 2, b 16 .eql (t 14) (t 15)]
def del3 : List RO := [m 17 0, m 6 17]
def del4 : List RO := [m 18 0, ln 19 18, m 7 19]
def del5 : List RO := [m 20 0, m 21 1, p 22 (.slc 2 (t 20) none (some (t 21)) none), m 23 0, m 24 2, p 25 (.slc 2 (t 23) (some (t 24)) none none), e 26 (.appendR 4 2 (t 22) (t 25)), m 0 26]
def del6 : List RO := [m 27 0, m 28 0, ln 29 28, m 30 7, p 31 (.slc 2 (t 27) (some (t 29)) (some (t 30)) none), ⟨none, none, (.e (.clearK [(.int .u16 0), (.int .u8 0)] (t 31)))⟩]
def del7 : List RO := [m 32 0, m 6 32]
/-- slices.Delete at pairs. -/
def lcDel : RFunc := ⟨(.seq (.reg del0) (.seq (.reg del1) (.seq (.seq (.reg del2) (.cond (t 16) (.seq (.reg del3) .ret) .skip)) (.seq (.reg del4) (.seq (.regD del5 [[], [], [], [], [], [], [], []]) (.seq (.reg del6) (.seq (.reg del7) .ret))))))), 33, [.tmp 6]⟩

def delC (cs : List AV) (i : Nat) : List AV := cs.take (i * 2) ++ cs.drop ((i + 1) * 2)

theorem del_rk (ok : TblOK P T) {f : Nat} (hf : T.fn f = some lcDel) {b i k cap : Nat} {cs : List AV} (hb : b < h.next) (hg : h.get b = some (.cells cs)) (hl : cs.length = (i + k + 1) * 2) (hn : i + k + 1 < 2 ^ 30) (hc1 : i + k + 1 ≤ cap) :
    ∃ h1 X, ACalls P f [.rk b 0 (i + k + 1) 2 cap, .int .i64 i, .int .i64 ((i + 1 : Nat) : Int)] h (.rk b 0 (i + k) 2 cap) h1 ∧ h1.get b = some (.cells X) ∧ X.take ((i + k) * 2) = delC cs i ∧ h1.next ≤ h.next + 19 ∧ ∀ x, x < h.next → x ≠ b → h1.get x = h.get x := by
  have hc := cellsOf_of hg
  have h0 : (0 : Int) ≤ i := by omega
  have h1 : (0 : Int) ≤ ((i + 1 : Nat) : Int) := by omega
  have h2 : (0 : Int) ≤ ((i + k : Nat) : Int) := by omega
  have h3 : (0 : Int) ≤ ((i + k + 1 : Nat) : Int) := by omega
  have hine : ¬ ((i : Int) = ((i + 1 : Nat) : Int)) := by omega
  have hne1 : ¬ i + k + 1 = i := by omega
  have hc0 : ¬ cap = 0 := by omega
  have hci : ¬ cap = i + k := by omega
  have hile : i ≤ i + 1 := by omega
  have hile1 : i + 1 ≤ i + k + 1 := by omega
  have hile2 : i + k ≤ i + k + 1 := by omega
  have hicap : i ≤ cap := by omega
  have hsub : i + k + 1 - (i + 1) = k := by omega
  have hsub2 : i + k + 1 - (i + k) = 1 := by omega
  let Z1 := setAt cs (i * 2) (cs.drop ((i + 1) * 2))
  have hZ1 : Z1.length = (i + k + 1) * 2 := by simp only [Z1]; rw [setAt_length _ _ _ (by simp; omega)]; exact hl
  let Z2 := setAt Z1 ((i + k) * 2) [.int .u16 0, .int .u8 0]
  have hZ2 : Z2.take ((i + k) * 2) = delC cs i := by
    have e1 : Z1 = delC cs i ++ cs.drop (i * 2 + (cs.drop ((i + 1) * 2)).length) := by simp only [Z1, setAt, delC]
    have e2 : (delC cs i).length = (i + k) * 2 := by simp [delC]; omega
    have e3 : Z1.take ((i + k) * 2) = delC cs i := by rw [e1]; exact List.take_left' e2
    simp only [Z2, setAt, e3, List.append_assoc]
    exact List.take_left' e2
  have hcl : ∀ x, x < h.next → (h.clean 8).get x = h.get x := fun x hx => by simp [AHeap.clean, hx]
  have hcb : cellsOf (h.clean 8) b = some cs := cellsOf_of (by rw [hcl b hb]; exact hg)
  let H1 := (h.clean 8).set b (some (.cells Z1))
  have hg1 : cellsOf H1 b = some Z1 := cellsOf_of (by simp [H1, AHeap.set])
  let H2 := H1.set b (some (.cells Z2))
  have hcl2 : clearKF [.int .u16 0, .int .u8 0] H1 (.rk b ((i + k) * 2) 1 2 (cap - (i + k))) = some (.tup [], H2) := by
    simp only [clearKF, hg1, Option.bind_some]
    rw [if_pos ⟨rfl, by show (i + k) * 2 + 1 * 2 ≤ Z1.length; omega⟩]
    rfl
  have hfr : freeD 8 h.next 6 H1 := fun j j1 j2 => by
    have : ¬ h.next + j = b := by omega
    simp [H1, AHeap.set, AHeap.clean, this]
    intro hh; omega
  refine ⟨H2, Z2, ?_, by simp [H2, AHeap.set], hZ2, by simp [H2, H1, AHeap.set, AHeap.clean], ?_⟩
  · refine ok.calls hf (by simp [lcDel]) ?_
    simp (decide := true) only [st, lcDel, del0, del1, del2, del4, h0, h1, h3, Int.toNat_natCast, hine, hne1, hile, hile1, hc1, Nat.le_refl]
    refine WP_regD0n 8 rfl rfl ?_
    by_cases hcap : cap = i + 1
    · subst hcap
      have hk : k = 0 := by omega
      have hdr : cs.drop ((i + 1) * 2) = [] := List.drop_eq_nil_of_le (by omega)
      have ha : appRF 4 2 (h.next + (1 + 1 + 1 + 1 + 1 + 1)) (h.clean 8) (.rk b 0 i 2 (i + 1)) (some []) = some (.rk b 0 (i + k) 2 (i + 1), H1) := by
        simp only [appRF, hcb, Option.bind_some, List.length_nil, List.flatten_nil]
        rw [if_pos ⟨trivial, by omega, by omega⟩]
        simp only [H1, Z1, hdr, hk, Nat.zero_add]
      simp (decide := true) only [st, del5, h0, h1, Int.toNat_natCast, hc0, hicap, hile1, hc1, Nat.zero_le, Nat.zero_mul, Nat.zero_add, Nat.sub_zero, Nat.le_refl, ha]
      refine ⟨hfr, ?_⟩
      simp (decide := true) only [st, del6, del7, h2, h3, Int.toNat_natCast, hci, hile2, hc1, hsub2, hcl2, Nat.zero_add, Nat.le_refl]
    · obtain ⟨rl, ru, rf⟩ := rowsOf_flat (cs := cs) (off := (i + 1) * 2) (sz := 2) (n := k) (by omega)
      have rf' : (rowsOf cs ((i + 1) * 2) 2 k).flatten = cs.drop ((i + 1) * 2) := by rw [rf, List.take_of_length_le (by simp; omega)]
      have hra : rowsA 2 (h.clean 8) (.rk b ((i + 1) * 2) k 2 (cap - (i + 1))) = some (rowsOf cs ((i + 1) * 2) 2 k) := by
        simp only [rowsA, hcb, if_true]
        rw [if_pos (by omega)]
      have ha : appRF 4 2 (h.next + (1 + 1 + 1 + 1 + 1 + 1)) (h.clean 8) (.rk b 0 i 2 cap) (some (rowsOf cs ((i + 1) * 2) 2 k)) = some (.rk b 0 (i + k) 2 cap, H1) := by
        simp only [appRF, hcb, Option.bind_some, rl, rf']
        rw [if_pos ⟨trivial, by omega, by omega⟩]
        simp only [H1, Z1, Nat.zero_add]
      simp (decide := true) only [st, del5, h0, h1, Int.toNat_natCast, hc0, hcap, hicap, hile1, hc1, hsub, Nat.zero_le, Nat.zero_mul, Nat.zero_add, Nat.sub_zero, Nat.le_refl, hra, ha]
      refine ⟨hfr, ?_⟩
      simp (decide := true) only [st, del6, del7, h2, h3, Int.toNat_natCast, hci, hile2, hc1, hsub2, hcl2, Nat.zero_add, Nat.le_refl]
  · intro x hx hxb
    simp only [H2, H1, AHeap.set, if_neg hxb]
    exact hcl x hx

end Go.Proofs.YtjkllffbjeajhaaGreat.Am

namespace Go.Proofs.YtjkllffbjeajhaaGreat.Am
open Go
variable {P : Program} {T : Tbl} {h : AHeap}

theorem del_calls (ok : TblOK P T) {f : Nat} (hf : T.fn f = some lcDel) {b n i : Nat} {cs : List AV} (hb : b < h.next) (hg : h.get b = some (.cells cs)) (hl : cs.length = n * 2) (hn : n < 2 ^ 30) (hi : i < n) :
    ACalls P f [.rs b 0 n 2, .int .i64 i, .int .i64 ((i + 1 : Nat) : Int)] h (.rs (h.next + 19) 0 (n - 1) 2) (bufH h b (delC cs i)) := by
  obtain ⟨k, rfl⟩ : ∃ k, n = i + k + 1 := ⟨n - i - 1, by omega⟩
  refine .ofRk (fun cap hcap => ?_)
  obtain ⟨h1, X, q1, q2, q3, q4, q5⟩ := del_rk ok hf hb hg hl hn hcap
  rw [← q3]
  exact q1.fin (c := b) ((i + k) * 2) (.inr ⟨cap, rfl⟩) (.inr ⟨cap, rfl⟩) q2 (.inl rfl) q4 q5

theorem ACalls.den {f : Nat} {args : List AV} {r : AV} {h' h2 : AHeap} (hc : ACalls P f args h r h') (hn : h2.next = h'.next) (hnx : h.next ≤ h'.next) (hg : ∀ x, x < h'.next → h2.get x = h'.get x) : ACalls P f args h r h2 := by
  intro ι I w cargs H hl
  refine (hc ι I w cargs H hl).mono ?_
  rintro e w' ⟨v, ι', I', rfl, hv, H', E⟩
  refine ⟨v, ι', I', rfl, hv, H'.onDom (fun i l hi => by have := H'.dom i l hi; omega) (fun i l x hi hx => by rw [← hg i (H'.dom i l hi)]; exact hx), { E with next := by omega, own := ?_, lost := ?_ }⟩
  · rintro k j ⟨i, l, x, hi, hx, hl'⟩
    exact E.own k j ⟨i, l, x, hi, by rw [← hg i (H'.dom i l hi)]; exact hx, hl'⟩
  · intro i hi hin
    have hi' : i < h.next := by omega
    rw [hg i (by omega)]
    exact E.lost i hi hin

/-- Clone, for the evaluator. -/
def cloneN (by_ sz : Nat) (args : List AV) (H : CH) : Option (AV × CH) :=
  match args with
  | [x] => match x with
    | .nils => some (.vs [] .full, H)
    | .vs [] _ => some (.vs [] .full, H)
    | x => match isNilA 1 x with
      | some false => match rowsA sz H.den x with
        | some [] => some (.vs [] .full, H)
        | some (r :: rs) => match Nat.blt ((r :: rs).length * by_) (2 ^ 40) && Nat.blt (r :: rs).length (2 ^ 40) with
          | true => H.setK H.next (some .tail) fun H1 => some (.vs (r :: rs) (.own H.next), { t := H1.t, next := H.next + 1 })
          | false => none
        | none => none
      | _ => none
  | _ => none

theorem cloneN_ok (ok : TblOK P T) {f by_ sz : Nat} {z : List AV} (hf : T.fn f = some (lcClone z by_ sz)) (args : List AV) (H : CH) (v : AV) (H' : CH) (he : cloneN by_ sz args H = some (v, H')) : ACalls P f args H.den v H'.den := by
  unfold cloneN at he
  split at he
  · rename_i x
    split at he
    · cases he; exact clone_nils ok hf
    · cases he; exact clone_empty ok hf
    · rename_i x h1 h2
      split at he
      · rename_i hx
        split at he
        · rename_i hr
          cases he
          exact clone_rows0 ok hf hx hr
        · rename_i r rs hr
          split at he
          · rename_i hb
            simp only [Bool.and_eq_true, Nat.blt_eq] at hb
            obtain ⟨H1, g1, g2, g3⟩ := CH.setK_sound he
            cases g3
            refine (clone_rows ok hf hx hr (by simp) hb.1 hb.2).den (by simp [CH.den, AHeap.at]) (by simp [AHeap.at]) (fun y hy => ?_)
            show H1.den.get y = _
            rw [g1]
            by_cases hy2 : y = H.next <;> simp [hy2, AHeap.at, CH.den]
          · cases he
        · cases he
      · cases he
  · cases he

def insN (args : List AV) (H : CH) : Option (AV × CH) :=
  match args with
  | [.rs b 0 n 2, .int .i64 (.ofNat i), .vs [row] _] =>
    match cellsOf H.den b with
    | some cs => match Nat.blt b H.next && Nat.beq cs.length (n * 2) && Nat.beq row.length 2 && Nat.blt n (2 ^ 30) && Nat.ble i n && freeB H H.next 0 20 with
      | true => H.setK b none fun H1 => H1.setK (H.next + 19) (some (.cells (insC cs row i))) fun H2 => some (.rs (H.next + 19) 0 (n + 1) 2, { t := H2.t, next := H.next + 20 })
      | false => none
    | none => none
  | [.vs [] .full, .int .i64 (.ofNat 0), .vs [row] _] =>
    match Nat.beq row.length 2 with
    | true => H.setK H.next (some (.cells row)) fun H1 => some (.rs H.next 0 1 2, { t := H1.t, next := H.next + 1 })
    | false => none
  | _ => none

theorem freeB_get {H : CH} {base : Nat} : ∀ {n i : Nat}, freeB H base i n = true → ∀ j, i ≤ j → j < i + n → H.den.get (base + j) = none
  | 0, i, _, j, h1, h2 => by omega
  | n + 1, i, hf, j, h1, h2 => by
    unfold freeB at hf
    split at hf
    · rename_i hg
      by_cases hj : j = i
      · subst hj; exact hg
      · exact freeB_get hf j (by omega) (by omega)
    · cases hf

theorem bufH_den {H H2 : CH} {b : Nat} {cs : List AV} (hb : b < H.next) (hf : freeB H H.next 0 20 = true) (hg : ∀ y, H2.den.get y = if y = H.next + 19 then some (.cells cs) else if y = b then none else H.den.get y) :
    ∀ y, y < (bufH H.den b cs).next → ({ t := H2.t, next := H.next + 20 } : CH).den.get y = (bufH H.den b cs).get y := by
  intro y hy
  have hy' : y < H.next + 20 := by simp [bufH, AHeap.at, AHeap.clean, AHeap.set, CH.den] at hy; omega
  show H2.den.get y = _
  rw [hg]
  have e : H.den.next = H.next := rfl
  by_cases h1 : y = H.next + 19
  · rw [if_pos h1]; simp [bufH, AHeap.at, h1, e]
  · rw [if_neg h1]
    simp only [bufH, AHeap.at, e, if_neg h1, AHeap.clean]
    by_cases h2 : y < H.next
    · have : y < (H.den.set b none).next := h2
      rw [if_pos this]; rfl
    · have : ¬ y < (H.den.set b none).next := h2
      rw [if_neg this, if_neg (by omega)]
      have := freeB_get hf (y - H.next) (by omega) (by omega)
      rwa [show H.next + (y - H.next) = y by omega] at this

theorem insN_ok (ok : TblOK P T) {f : Nat} {rest : RCode} (hf : T.fn f = some (lcIns rest)) (args : List AV) (H : CH) (v : AV) (H' : CH) (he : insN args H = some (v, H')) : ACalls P f args H.den v H'.den := by
  unfold insN at he
  split at he
  · rename_i b n i row tl
    split at he
    · rename_i cs hcs
      split at he
      · rename_i hb
        simp only [Bool.and_eq_true, Nat.blt_eq, Nat.ble_eq] at hb
        obtain ⟨⟨⟨⟨⟨h1, h2⟩, h3⟩, h4⟩, h5⟩, h6⟩ := hb
        obtain ⟨H1, g1, g2, g3⟩ := CH.setK_sound he
        obtain ⟨H2, g4, g5, g6⟩ := CH.setK_sound g3
        cases g6
        refine (ins_calls ok hf (h := H.den) h1 (cellsOf_some hcs) (Nat.eq_of_beq_eq_true h2) (Nat.eq_of_beq_eq_true h3) h4 h5).den (by simp [CH.den, bufH, AHeap.at, AHeap.clean, AHeap.set]) (by simp [CH.den, bufH, AHeap.at, AHeap.clean, AHeap.set]; omega) (bufH_den h1 h6 (fun y => by rw [g4, g1]))
      · cases he
    · cases he
  · rename_i row tl
    split at he
    · rename_i hb
      obtain ⟨H1, g1, g2, g3⟩ := CH.setK_sound he
      cases g3
      refine (ins_nil ok hf (Nat.eq_of_beq_eq_true hb)).den (by simp [CH.den, AHeap.at]) (by simp [AHeap.at]) (fun y hy => ?_)
      show H1.den.get y = _
      rw [g1]
      by_cases hy2 : y = H.next <;> simp [hy2, AHeap.at, CH.den]
    · cases he
  · cases he

def delN (args : List AV) (H : CH) : Option (AV × CH) :=
  match args with
  | [.rs b 0 n 2, .int .i64 (.ofNat i), .int .i64 (.ofNat j)] =>
    match cellsOf H.den b with
    | some cs => match Nat.blt b H.next && Nat.beq cs.length (n * 2) && Nat.blt n (2 ^ 30) && Nat.blt i n && Nat.beq j (i + 1) && freeB H H.next 0 20 with
      | true => H.setK b none fun H1 => H1.setK (H.next + 19) (some (.cells (delC cs i))) fun H2 => some (.rs (H.next + 19) 0 (n - 1) 2, { t := H2.t, next := H.next + 20 })
      | false => none
    | none => none
  | _ => none

theorem delN_ok (ok : TblOK P T) {f : Nat} (hf : T.fn f = some lcDel) (args : List AV) (H : CH) (v : AV) (H' : CH) (he : delN args H = some (v, H')) : ACalls P f args H.den v H'.den := by
  unfold delN at he
  split at he
  · rename_i b n i j
    split at he
    · rename_i cs hcs
      split at he
      · rename_i hb
        simp only [Bool.and_eq_true, Nat.blt_eq, Nat.ble_eq] at hb
        obtain ⟨⟨⟨⟨⟨h1, h2⟩, h4⟩, h5⟩, h7⟩, h6⟩ := hb
        have h7 := Nat.eq_of_beq_eq_true h7
        subst h7
        obtain ⟨H1, g1, g2, g3⟩ := CH.setK_sound he
        obtain ⟨H2, g4, g5, g6⟩ := CH.setK_sound g3
        cases g6
        refine (del_calls ok hf (h := H.den) h1 (cellsOf_some hcs) (Nat.eq_of_beq_eq_true h2) h4 h5).den (by simp [CH.den, bufH, AHeap.at, AHeap.clean, AHeap.set]) (by simp [CH.den, bufH, AHeap.at, AHeap.clean, AHeap.set]; omega) (bufH_den h1 h6 (fun y => by rw [g4, g1]))
      · cases he
    · cases he
  · cases he

end Go.Proofs.YtjkllffbjeajhaaGreat.Am

/- A run in pieces: between two pieces, what nobody reads any more is forgotten. -/
namespace Go.Proofs.YtjkllffbjeajhaaGreat.Am
open Go
variable {P : Program}

/-- From here on the code comes to this value. -/
def Good (P : Program) (rs : List RRes) (r : AV) (c : RCode) (ρ : Env) (h : AHeap) : Prop :=
  ∀ (md : Mode) (n : Nat) (ι0 : Inj) (I0 : Imm) (w0 : World) (ι : Inj) (I : Imm) (w : World) (a : Act), HR ι I h w → AR ι I w n ρ a → Ext (0 ≤ ·) ι0 I0 AHeap.empty w0 ι I h w → ∀ cc, cCode P md n cc = some c →
    cc.wp P (fun x a' w' => (x = .normal ∨ x = .ret) ∧ ∃ ι' I' h' ρ', AR ι' I' w' n ρ' a' ∧ HR ι' I' h' w' ∧ Ext (0 ≤ ·) ι0 I0 AHeap.empty w0 ι' I' h' w' ∧ ∃ vs, resL ρ' h' rs = some vs ∧ tupOf vs = r) a w

theorem Ext.trans0 {ι₁ ι₂ ι₃ : Inj} {I₁ I₂ I₃ : Imm} {h₁ h₂ h₃ : AHeap} {w₁ w₂ w₃ : World} (E : Ext (0 ≤ ·) ι₁ I₁ h₁ w₁ ι₂ I₂ h₂ w₂) (F : Ext (h₂.next ≤ ·) ι₂ I₂ h₂ w₂ ι₃ I₃ h₃ w₃) : Ext (0 ≤ ·) ι₁ I₁ h₁ w₁ ι₃ I₃ h₃ w₃ :=
  E.trans F (fun b _ => Nat.zero_le b)

theorem good_end (hm : P.follows .mixedOrders = true) {rs : List RRes} {c : RCode} {ρ ρ' : Env} {h h' : AHeap} {e : AExit} {vs : List AV} (hb : Big P c ρ h e ρ' h') (he : e = .normal ∨ e = .ret) (hr : resL ρ' h' rs = some vs) : Good P rs (tupOf vs) c ρ h := by
  intro md n ι0 I0 w0 ι I w a H A E cc hc
  refine wp_mono ((big_sound (md := md) hm hb).wp H A hc) ?_
  rintro _ a' w' ⟨rfl, ι', I', A', H', E'⟩
  refine ⟨by rcases he with rfl | rfl; exact .inl rfl; exact .inr rfl, ι', I', h', ρ', A', H', E.trans0 E', vs, hr, rfl⟩

theorem good_seq (hm : P.follows .mixedOrders = true) {rs : List RRes} {r : AV} {a b : RCode} {ρ ρ1 : Env} {h h1 : AHeap} (ha : Big P a ρ h .normal ρ1 h1) (hg : Good P rs r b ρ1 h1) : Good P rs r (.seq a b) ρ h := by
  intro md n ι0 I0 w0 ι I w act H A E cc hc
  obtain ⟨cx, cy, rfl, hx, hy⟩ := cCode_inv hc
  refine wp_seq (wp_mono ((big_sound (md := md) hm ha).wp H A hx) ?_)
  rintro _ a1 w1 ⟨rfl, ι1, I1, A1, H1, E1⟩
  exact hg md n ι0 I0 w0 ι1 I1 w1 a1 H1 A1 (E.trans0 E1) cy hy

theorem good_sub {rs : List RRes} {r : AV} {c : RCode} {ρ ρ0 : Env} {h h0 : AHeap} (hg : Good P rs r c ρ0 h0) (hρ : ∀ i, ρ0 i = .undef ∨ ρ0 i = ρ i) (hn : h.next ≤ h0.next) (hs : ∀ b x, h0.get b = some x → h.get b = some x) : Good P rs r c ρ h := by
  intro md n ι0 I0 w0 ι I w act H A E cc hc
  refine hg md n ι0 I0 w0 ι I w act (H.onDom (fun b l hb => Nat.lt_of_lt_of_le (H.dom b l hb) hn) (fun b l x _ hx => hs b x hx)) ⟨A.defers, A.size, fun i => ?_⟩ { E with next := Nat.zero_le _, own := ?_, lost := fun b hb => (hb (Nat.zero_le b)).elim } cc hc
  · rcases hρ i with h1 | h1
    · rw [h1]; exact .undef _
    · rw [h1]; exact A.get i
  · rintro k j ⟨b, l, x, hb, hx, hl⟩
    exact E.own k j ⟨b, l, x, hb, hs b x hx, hl⟩

theorem good_list (hm : P.follows .mixedOrders = true) {rs : List RRes} {r : AV} {rest : RCode} {ρ1 : Env} {h1 : AHeap} (hg : Good P rs r rest ρ1 h1) : ∀ (L : List RCode) {ρ : Env} {h : AHeap}, Big P (L.foldr .seq .skip) ρ h .normal ρ1 h1 → Good P rs r (L.foldr .seq rest) ρ h
  | [], ρ, h, hb => by
    simp only [List.foldr_nil] at hb ⊢
    cases hb
    exact hg
  | c :: L, ρ, h, hb => by
    simp only [List.foldr_cons] at hb ⊢
    cases hb with
    | seq b1 b2 => exact good_seq hm b1 (good_list hm hg L b2)
    | seqX b1 he => exact (he rfl).elim

/- States as lists. -/
def lkp : List (Nat × Blk) → Nat → Option Blk
  | [], _ => none
  | (c, x) :: es, b => match lkp es b with
    | some y => some y
    | none => if b = c then some x else none

theorem lkp_mem : ∀ {es : List (Nat × Blk)} {b : Nat} {x : Blk}, lkp es b = some x → (b, x) ∈ es
  | [], b, x, h => by cases h
  | (c, y) :: es, b, x, h => by
    unfold lkp at h
    split at h
    · rename_i z hz
      cases h
      exact List.mem_cons_of_mem _ (lkp_mem hz)
    · split at h
      · rename_i hbc
        cases h
        subst hbc
        exact List.mem_cons_self
      · cases h

def heapOf (es : List (Nat × Blk)) (nx : Nat) : AHeap := { get := lkp es, next := nx }

section
variable {R : Type}
def bld : List (Nat × Blk) → Tr Blk → (Tr Blk → Option R) → Option R
  | [], t, k => k t
  | (b, x) :: es, t, k => fB x fun x => Tr.setK 24 t b (some x) fun t => bld es t k

theorem bld_sound : ∀ {es : List (Nat × Blk)} {t : Tr Blk} {k : Tr Blk → Option R} {r : R}, bld es t k = some r → ∃ t', (∀ b, t'.get b = match lkp es b with | some y => some y | none => t.get b) ∧ k t' = some r
  | [], t, k, r, h => ⟨t, fun b => rfl, h⟩
  | (c, x) :: es, t, k, r, h => by
    simp only [bld, fB_eq] at h
    obtain ⟨t1, h1, h2⟩ := Tr.setK_sound _ _ _ _ _ _ h
    obtain ⟨t2, h3, h4⟩ := bld_sound h2
    refine ⟨t2, fun b => ?_, h4⟩
    rw [h3]
    simp only [lkp]
    cases hl : lkp es b with
    | some y => rfl
    | none =>
      simp only [h1]
      by_cases hb : b = c <;> simp [hb]
end

def undefB : AV → Bool
  | .undef => true
  | _ => false
theorem undefB_eq {v : AV} (h : undefB v = true) : v = .undef := by cases v <;> first | rfl | cases h

def blkEq : Blk → Blk → Bool
  | .cells l, .cells l' => zipEq (eqV 9) l l'
  | .map l, .map l' => zipEq (fun p q => eqV 9 p.1 q.1 && eqV 9 p.2 q.2) l l'
  | .tail, .tail => true
  | _, _ => false
theorem blkEq_sound {x y : Blk} (h : blkEq x y = true) : x = y := by
  cases x <;> cases y <;> first | rfl | (cases h; done) | skip
  · rename_i l l'
    have h' : zipEq (eqV 9) l l' = true := h
    rw [zipEq_sound (eqV_sound 9) _ _ h']
  · rename_i l l'
    have h' : zipEq (fun (p q : AV × AV) => eqV 9 p.1 q.1 && eqV 9 p.2 q.2) l l' = true := h
    rw [zipEq_sound (fun a b hab => by
      simp only [Bool.and_eq_true] at hab
      exact Prod.ext (eqV_sound 9 _ _ hab.1) (eqV_sound 9 _ _ hab.2)) _ _ h']

def covE (tC t : Tr AV) : Bool :=
  (t.ents.all fun p => match tC.get p.1 with | some u => undefB u || eqV 9 u p.2 | none => false) &&
  (tC.ents.all fun p => match t.get p.1 with | some v => undefB p.2 || eqV 9 p.2 v | none => undefB p.2)

theorem covE_sound {tC t : Tr AV} (h : covE tC t = true) (i : Nat) : tC.env i = .undef ∨ tC.env i = t.env i := by
  simp only [covE, Bool.and_eq_true] at h
  obtain ⟨h1, h2⟩ := h
  unfold Tr.env
  cases hc : tC.get i with
  | some u =>
    have := List.all_eq_true.1 h2 _ (Tr.get_ents hc)
    simp only at this
    cases ht : t.get i with
    | some v =>
      rw [ht] at this
      simp only [Bool.or_eq_true] at this
      rcases this with h | h
      · exact .inl (undefB_eq h)
      · exact .inr (eqV_sound _ _ _ h)
    | none =>
      rw [ht] at this
      exact .inl (undefB_eq this)
  | none =>
    cases ht : t.get i with
    | some v =>
      have := List.all_eq_true.1 h1 _ (Tr.get_ents ht)
      simp only [hc] at this
      cases this
    | none => exact .inr rfl

def covH (es : List (Nat × Blk)) (H : CH) : Bool := es.all fun p => match H.t.get p.1 with | some y => blkEq p.2 y | none => false

theorem covH_sound {es : List (Nat × Blk)} {H : CH} (h : covH es H = true) (b : Nat) (x : Blk) (hx : lkp es b = some x) : H.den.get b = some x := by
  have := List.all_eq_true.1 h _ (lkp_mem hx)
  simp only at this
  show H.t.get b = some x
  cases hg : H.t.get b with
  | some y => rw [hg] at this; rw [blkEq_sound this]
  | none => rw [hg] at this; cases this

def covK (tC : Tr AV) (es : List (Nat × Blk)) (nx : Nat) (e : AExit) (t : Tr AV) (H : CH) : Option Unit :=
  match e with
  | .normal => match covE tC t && covH es H && Nat.ble H.next nx with
    | true => some ()
    | false => none
  | _ => none

def endK (rs : List RRes) (e : AExit) (t : Tr AV) (H : CH) : Option Unit :=
  match e with
  | .normal => match resL t.env H.den rs with | some [.bool true] => some () | _ => none
  | .ret => match resL t.env H.den rs with | some [.bool true] => some () | _ => none
  | _ => none

theorem heapOf_den {es : List (Nat × Blk)} {nx : Nat} {t : Tr Blk} (h : ∀ b, t.get b = match lkp es b with | some y => some y | none => (Tr.leaf : Tr Blk).get b) : (⟨t, nx⟩ : CH).den = heapOf es nx := by
  unfold CH.den heapOf
  congr 1
  funext b
  show t.get b = _
  rw [h b]
  cases lkp es b <;> rfl

/-- A piece of the run. -/
theorem seg_good {tb : Tbl} (hT : TblOK P tb) {rs : List RRes} {r : AV} {fuel : Nat} (L : List RCode) {rest : RCode} {tC tC' : Tr AV} {es es' : List (Nat × Blk)} {nx nx' : Nat}
    (h : bld es .leaf (fun T => runK tb fuel (L.foldr .seq .skip) tC ⟨T, nx⟩ (covK tC' es' nx')) = some ()) (hg : Good P rs r rest tC'.env (heapOf es' nx')) : Good P rs r (L.foldr .seq rest) tC.env (heapOf es nx) := by
  obtain ⟨t0, h0, hr⟩ := bld_sound h
  obtain ⟨e, t', H', hb, hk⟩ := runK_sound hT fuel _ _ _ _ _ hr
  rw [heapOf_den h0] at hb
  unfold covK at hk
  split at hk
  · split at hk
    · rename_i hc
      simp only [Bool.and_eq_true] at hc
      obtain ⟨⟨h1, h2⟩, h3⟩ := hc
      exact good_list hT.follow (good_sub hg (covE_sound h1) (Nat.le_of_ble_eq_true h3) (covH_sound h2)) L hb
    · cases hk
  · cases hk

/-- The last piece. -/
theorem seg_end {tb : Tbl} (hT : TblOK P tb) {rs : List RRes} {fuel : Nat} {c : RCode} {tC : Tr AV} {es : List (Nat × Blk)} {nx : Nat}
    (h : bld es .leaf (fun T => runK tb fuel c tC ⟨T, nx⟩ (endK rs)) = some ()) : Good P rs (.bool true) c tC.env (heapOf es nx) := by
  obtain ⟨t0, h0, hr⟩ := bld_sound h
  obtain ⟨e, t', H', hb, hk⟩ := runK_sound hT fuel _ _ _ _ _ hr
  rw [heapOf_den h0] at hb
  unfold endK at hk
  have key : ∀ vs, resL t'.env H'.den rs = some vs → vs = [.bool true] → (e = .normal ∨ e = .ret) → Good P rs (.bool true) c tC.env (heapOf es nx) := by
    rintro vs h1 rfl h2
    exact good_end hT.follow hb h2 h1
  split at hk
  · split at hk
    · rename_i hq; exact key _ hq rfl (.inl rfl)
    · cases hk
  · split at hk
    · rename_i hq; exact key _ hq rfl (.inr rfl)
    · cases hk
  · cases hk

theorem calls_of_good0 {tb : Tbl} (hT : TblOK P tb) {f : Nat} {rf : RFunc} (hf : tb.fn f = some rf) (hg : Good P rf.results (.bool true) rf.code (Tr.leaf : Tr AV).env (heapOf [] 0)) (I : Imm) (w : World) (hI : ∀ k j, I k j → k < w.heap.size) :
    Calls P f #[] w fun e w' => ∃ ι' I' h', e = .returned (.bool true) ∧ HR ι' I' h' w' ∧ Ext (0 ≤ ·) (fun _ => none) I AHeap.empty w ι' I' h' w' := by
  obtain ⟨fn, md, h2, h3⟩ := hT.fn f rf hf
  unfold cFunc at h3
  simp only [Option.bind_eq_bind, Option.bind_eq_some_iff] at h3
  obtain ⟨c, hbody, code, hcode, rs, hrs, hc⟩ := h3
  cases hc
  simp only at *
  refine calls_of_wp h2 hbody ?_
  have H : HR (fun _ => none) I (heapOf [] 0) w := empty_HR (w := w) I hI
  have A : AR (fun _ => none) I w fn.ntmps (Tr.leaf : Tr AV).env { tmps := #[] ++ Array.replicate (fn.ntmps - (#[] : Array Value).size) undef, defers := [] } := by
    refine ⟨rfl, by simp, fun t => ?_⟩
    have e1 : (Tr.leaf : Tr AV).env t = .tup [] := rfl
    have e2 : ((#[] : Array Value) ++ Array.replicate (fn.ntmps - (#[] : Array Value).size) undef).getD t undef = undef := by
      rw [Array.getD_eq_getD_getElem?, Array.getElem?_append_right (by simp), Array.getElem?_replicate]
      split <;> rfl
    rw [e1, e2]; exact undef_VR
  refine wp_mono (hg md fn.ntmps (fun _ => none) I w (fun _ => none) I w _ H A (Ext.refl _ _ _ _ _) c hcode) ?_
  rintro x a' w' ⟨hx, ι', I', h', ρ', A', H', E, vs, hr, hv⟩
  obtain ⟨u, hu, hvu⟩ := results_sim H' A' hrs hr
  rw [hv] at hvu
  cases hvu
  have : bodyPost P fn (fun e w' => ∃ ι' I' h', e = .returned (.bool true) ∧ HR ι' I' h' w' ∧ Ext (0 ≤ ·) (fun _ => none) I AHeap.empty w ι' I' h' w') .normal a' w' := ⟨A'.defers, _, hu, ι', I', h', rfl, H', E⟩
  rcases hx with rfl | rfl
  · exact this
  · exact this

/-- A closed law that comes to true. -/
theorem calls_of_good {tb : Tbl} (hT : TblOK P tb) {f : Nat} {rf : RFunc} (hf : tb.fn f = some rf) (hg : Good P rf.results (.bool true) rf.code (Tr.leaf : Tr AV).env (heapOf [] 0)) (w : World) :
    Calls P f #[] w fun e w' => e = .returned (.bool true) ∧ Kept w w' := by
  refine (calls_of_good0 hT hf hg (fun _ _ => False) w (fun _ _ h => h.elim)).mono ?_
  rintro e w' ⟨ι', I', h', rfl, H', E⟩
  exact ⟨rfl, E.os, E.output, E.size, fun k hk => E.block k hk (fun j ⟨b, l, x, hb, _⟩ => by cases hb)⟩

/-- .. and a closed function, wherever it is called. -/
theorem acalls_of_good {tb : Tbl} (hT : TblOK P tb) {f : Nat} {rf : RFunc} (hf : tb.fn f = some rf) (hg : Good P rf.results (.bool true) rf.code (Tr.leaf : Tr AV).env (heapOf [] 0)) (h : AHeap) : ACalls P f [] h (.bool true) h := by
  intro ι I w cargs H hl
  have hc0 : cargs = #[] := by
    have := hl.1
    apply Array.ext'
    cases hq : cargs.toList with
    | nil => rfl
    | cons a b => rw [hq] at this; simp at this
  subst hc0
  refine (calls_of_good0 hT hf hg I w H.Iin).mono ?_
  rintro e w' ⟨ι', I', h', rfl, H', E⟩
  have hno : ∀ k j, ¬ Owned (fun _ => none) AHeap.empty k j := fun k j ⟨b, l, x, hb, _⟩ => by cases hb
  have hcell : ∀ k j, k < w.heap.size → w'.cell? ⟨k, j, none⟩ = w.cell? ⟨k, j, none⟩ := fun k j hk => E.cell k j hk (hno k j)
  have hI' : ∀ k j, I' k j → I k j ∨ w.heap.size ≤ k := fun k j hk => by
    rcases E.inew k j hk with h | h | h
    · exact .inl h
    · exact (hno k j h).elim
    · exact .inr h
  have hlt : ∀ b l k j, ι b = some l → l.has k j → k < w.heap.size := fun b l k j hb hl => by rw [Loc.has_block hl]; exact H.inside b l hb
  have hmono : ∀ a c, VR ι I w a c → VR ι I' w' a c := fun a c hx => hx.mono (fun _ _ h => h) E.imm (fun k j hk => hcell k j (H.Iin k j hk))
  refine ⟨_, ι, I', rfl, .bool true, ?_, ?_⟩
  · exact
    { dom := H.dom, inside := fun b l hb => Nat.lt_of_lt_of_le (H.inside b l hb) E.size
      cells := fun b cs l hg hb => by
        obtain ⟨cb, o, room, rfl, h1, h2, h3⟩ := H.cells b cs l hg hb
        refine ⟨cb, o, room, rfl, h1, h2, fun j hj => ?_⟩
        obtain ⟨c, e1, e2, e3⟩ := h3 j hj
        have hin : cb < w.heap.size := H.inside b _ hb
        exact ⟨c, by rw [hcell _ _ hin]; exact e1, by rw [E.frozen _ _ hin (hno _ _)]; exact e2, fun v hv => hmono _ _ (e3 v hv)⟩
      maps := fun b es l hg hb => by
        obtain ⟨cb, es', clock, rfl, h1, h2, h3⟩ := H.maps b es l hg hb
        have hin : cb < w.heap.size := H.inside b _ hb
        exact ⟨cb, es', clock, rfl, by rw [E.block cb hin (fun j => hno cb j)]; exact h1, h2, fun i k v e e1 e2 => ⟨hmono _ _ (h3 i k v e e1 e2).1, hmono _ _ (h3 i k v e e1 e2).2⟩⟩
      tails := fun b l hg hb => by
        obtain ⟨cb, lo, hi, rfl, h1⟩ := H.tails b l hg hb
        have hin : cb < w.heap.size := H.inside b _ hb
        refine ⟨cb, lo, hi, rfl, fun j e1 e2 => ?_⟩
        obtain ⟨c, e3, e4⟩ := h1 j e1 e2
        exact ⟨c, by rw [hcell _ _ hin]; exact e3, by rw [E.frozen _ _ hin (hno _ _)]; exact e4⟩
      disj := H.disj
      imm := fun b l x k j hb hg hl hk => by
        rcases hI' k j hk with h1 | h1
        · exact H.imm b l x k j hb hg hl h1
        · have := hlt b l k j hb hl; omega
      Iin := H'.Iin
      pl := fun b cs cb o room hg hb n => by rw [E.frozen cb n (H.inside b _ hb) (hno _ _)]; exact H.pl b cs cb o room hg hb n }
  · exact
    { keep := fun _ _ => rfl, more := fun _ _ h => h, next := Nat.le_refl _, imm := E.imm, os := E.os, tape := E.tape, output := E.output, size := E.size
      block := fun k hk _ => E.block k hk (fun j => hno k j)
      cell := fun k j hk _ => hcell k j hk
      frozen := fun k j hk _ => E.frozen k j hk (hno k j)
      own := fun k j h => .inl h
      inew := fun k j hk => by rcases hI' k j hk with h1 | h1; exact .inl h1; exact .inr (.inr h1)
      lost := fun _ _ _ => rfl }

def trueN (args : List AV) (H : CH) : Option (AV × CH) := match args with
  | [] => some (.bool true, H)
  | _ => none
theorem trueN_ok {f : Nat} (hc : ∀ h, ACalls P f [] h (.bool true) h) (args : List AV) (H : CH) (v : AV) (H' : CH) (he : trueN args H = some (v, H')) : ACalls P f args H.den v H'.den := by
  unfold trueN at he
  split at he
  · cases he; exact hc _
  · cases he

def rp : Nat → List AV → List AV → List AV
  | 0, _, tl => tl
  | n + 1, r, tl => r ++ rp n r tl

/-- A table with some functions done by hand. -/
def Tbl.with (T : Tbl) (nt : Tr (List AV → CH → Option (AV × CH))) : Tbl := { T with nat := fun n => nt.get n }
theorem TblOK.with {T : Tbl} (ok : TblOK P T) {nt : Tr (List AV → CH → Option (AV × CH))} (hn : ∀ e ∈ nt.ents, ∀ args H v H', e.2 args H = some (v, H') → ACalls P e.1 args H.den v H'.den) : TblOK P (T.with nt) where
  follow := ok.follow
  fn := ok.fn
  nat f g h := hn (f, g) (Tr.get_ents h)
  callable := ok.callable
end Go.Proofs.YtjkllffbjeajhaaGreat.Am

namespace Go.Proofs.YtjkllffbjeajhaaGreat.Am
open Go
variable {P : Program} {T : Tbl} {h : AHeap}

structure Fr where
  b : List Int
  taken : Bool

def Fr.enc (f : Fr) : List AV := f.b.map (.int .u8) ++ [.bool f.taken]

structure MemAt (h : AHeap) (bm bl : Nat) (fs : List Fr) : Prop where
  top : h.get bm = some (.cells [.rs bl 0 fs.length 17])
  row : h.get bl = some (.cells (fs.map Fr.enc).flatten)
  ne : bm ≠ bl
  len : ∀ f ∈ fs, f.b.length = 16
  small : fs.length < 2 ^ 40

variable {bm bl : Nat} {fs : List Fr}

theorem Fr.enc_len {f : Fr} (hf : f.b.length = 16) : f.enc.length = 17 := by simp [Fr.enc, hf]
theorem Fr.enc_taken {f : Fr} (hf : f.b.length = 16) : f.enc[16]? = some (.bool f.taken) := by simp [Fr.enc, hf]

theorem MemAt.rows (M : MemAt h bm bl fs) : ∀ r ∈ fs.map Fr.enc, r.length = 17 := by
  intro r hr
  obtain ⟨f, hf, rfl⟩ := List.mem_map.1 hr
  exact Fr.enc_len (M.len f hf)

theorem MemAt.taken (M : MemAt h bm bl fs) {i : Nat} {f : Fr} (hi : fs[i]? = some f) : (fs.map Fr.enc).flatten[i * 17 + 16]? = some (.bool f.taken) := by
  rw [flat_at M.rows (row := f.enc) (by simp [hi]) (by omega)]
  exact Fr.enc_taken (M.len f (List.mem_of_getElem? hi))

def frUsed (fs : List Fr) : Nat := fs.countP (·.taken)
def usd0 : List RO := [p 2 (.mov (z 0))]
def usd1 : List RO := [p 3 (.mov (z 0))]
def usd2 : List RO := [m 6 0, p 7 (.eqNil 0 true (t 6))]
def usd3 : List RO := [m 8 0, p 9 (.nilchk (t 8)), fa 10 0 9, ld 11 10, ln 12 11, p 13 (.mov (z 0))]
def usd4 : List RO := [b 14 .lss (t 13) (t 12)]
def usd5 : List RO := [ia 15 17 11 13, la 16 17 15, a 5 (.alloc [(.int .u8 0), (.int .u8 0), (.int .u8 0), (.int .u8 0), (.int .u8 0), (.int .u8 0), (.int .u8 0), (.int .u8 0), (.int .u8 0), (.int .u8 0), (.int .u8 0), (.int .u8 0), (.int .u8 0), (.int .u8 0), (.int .u8 0), (.int .u8 0), (.bool false)]), sn 17 (t 5) (t 16)]
def usd6 : List RO := [fa 17 16 5, ld 18 17]
def usd7 : List RO := [m 19 3, b 20 .add (t 19) (z 1), m 3 20]
def usd8 : List RO := [b 21 .add (t 13) (z 1), m 13 21]
def usd9 : List RO := [m 22 3, m 2 22]
def lcUsed : RFunc := ⟨(.seq (.reg usd0) (.seq (.reg usd1) (.seq (.seq (.reg usd2) (.cond (t 7) (.seq (.reg usd3) (.block 0 (.loop (.seq (.reg usd4) (.seq (.cond (t 14) .skip (.exit 0)) (.seq (.block 1 (.seq (.reg usd5) (.seq (.reg usd6) (.cond (t 18) (.reg usd7) .skip)))) (.reg usd8))))))) .skip)) (.seq (.reg usd9) .ret)))), 23, [.tmp 2]⟩

theorem used_calls (ok : TblOK P T) {f : Nat} (hf : T.fn f = some lcUsed) (M : MemAt h bm bl fs) (hlt : bm < h.next ∧ bl < h.next) : ACalls P f [.ptr bm 0] h (.int .i64 (frUsed fs)) h := by
  have hc := cellsOf_of M.top
  have hsm := M.small
  refine ok.keeps hf (by simp [lcUsed]) rfl ?_
  simp (decide := true) only [st, lcUsed, usd0, usd1, usd2, usd3, usd4, usd5, usd6, usd7, usd8, usd9, hc]
  let I : Nat → Env → AHeap → Prop := fun n ρ h' => (∀ b, b < h.next → h'.get b = h.get b) ∧ h.next ≤ h'.next ∧ ∃ i : Nat, fs.length = i + n ∧ ρ 11 = .rs bl 0 fs.length 17 ∧ ρ 12 = .int .i64 fs.length ∧ ρ 13 = .int .i64 i ∧ ρ 3 = .int .i64 (frUsed (fs.take i))
  refine wp_loop_n I ?_ fs.length ⟨fun _ _ => rfl, Nat.le_refl _, 0, by omega, rfl, rfl, rfl, rfl⟩
  rintro n ρ h' ⟨hold, hnx, i, hin, r11, r12, r13, r3⟩
  by_cases hi : i < fs.length
  · have hx : fs[i]? = some fs[i] := List.getElem?_eq_getElem hi
    have hxl := M.len _ (List.mem_of_getElem? hx)
    have hc2 : cellsOf h' bl = some (fs.map Fr.enc).flatten := cellsOf_of (by rw [hold _ hlt.2]; exact M.row)
    have hlen := flat_len M.rows
    have hle : i * 17 + 17 ≤ (fs.map Fr.enc).flatten.length := by rw [hlen]; simp; omega
    have hrow := flat_row M.rows (i := i) (row := fs[i].enc) (by simp [hx])
    have hel := Fr.enc_len hxl
    have hone : fs[i].enc.all AV.one = true := by simp [Fr.enc, AV.one]
    have htk := Fr.enc_taken hxl
    have hd : fs[i].enc.drop 17 = [] := List.drop_eq_nil_of_le (by omega)
    have hw : IntKind.wrap .i64 ((i : Int) + 1) = ((i + 1 : Nat) : Int) := by rw [wrapS] <;> omega
    have hu : frUsed (fs.take i) ≤ i := Nat.le_trans (List.countP_le_length) (by simp; omega)
    have hw2 : IntKind.wrap .i64 ((frUsed (fs.take i) : Int) + 1) = ((frUsed (fs.take i) + 1 : Nat) : Int) := by rw [wrapS] <;> omega
    have hs : frUsed (fs.take (i + 1)) = frUsed (fs.take i) + (if fs[i].taken then 1 else 0) := by
      have e : fs.take (i + 1) = fs.take i ++ [fs[i]] := (List.take_append_getElem hi).symm
      unfold frUsed
      rw [e, List.countP_append, List.countP_singleton]
    simp (decide := true) only [st, lcUsed, usd0, usd1, usd2, usd3, usd4, usd5, usd6, usd7, usd8, usd9, r11, r12, r13, hi, hc2, hle, hrow]
    cases htk2 : fs[i].taken
    all_goals
      rw [htk2] at htk hs
      have hne : ∀ b, b < h.next → b ≠ h'.next := fun b hb => by omega
      simp (decide := true) only [st, r13, hel, hone, hd, htk, r3, hw, hw2, Nat.reduceAdd]
      refine ⟨n - 1, by omega, fun b hb => ?_, ?_, i + 1, by omega, ?_, ?_, ?_, ?_⟩
      · simp (decide := true) only [st, hne b hb, hold b hb]
      · simp (decide := true) only [st]
        omega
      · simp (decide := true) only [st, r11]
      · simp (decide := true) only [st, r12]
      · simp (decide := true) only [st]
      · simp (decide := true) only [st, r3, hs]
  · have hie : i = fs.length := by omega
    rw [hie, List.take_length] at r3
    simp (decide := true) only [st, lcUsed, usd0, usd1, usd2, usd3, usd4, usd5, usd6, usd7, usd8, usd9, r11, r12, r13, hi, r3]
    exact fun b hb => hold b hb

/-- How many frames are taken: the cells are looked through once. -/
def ckU8 : AV → Bool
  | .int .u8 _ => true
  | _ => false
def ckFr : Nat → List AV → Option Nat
  | 0, [] => some 0
  | 0, _ => none
  | n + 1, cs => match (cs.take 16).all ckU8, cs.drop 16 with
    | true, .bool t :: rest => match ckFr n rest with
      | some u => match t with
        | true => some (u + 1)
        | false => some u
      | none => none
    | _, _ => none

theorem ckU8_list : ∀ (l : List AV), l.all ckU8 = true → ∃ b : List Int, l = b.map (.int .u8)
  | [], _ => ⟨[], rfl⟩
  | a :: l, h => by
    simp only [List.all_cons, Bool.and_eq_true] at h
    obtain ⟨b, rfl⟩ := ckU8_list l h.2
    cases a <;> simp [ckU8] at h
    rename_i k n
    cases k <;> simp [ckU8] at h
    exact ⟨n :: b, rfl⟩

theorem ckFr_spec : ∀ {n : Nat} {cs : List AV} {u : Nat}, ckFr n cs = some u → ∃ fs : List Fr, fs.length = n ∧ cs = (fs.map Fr.enc).flatten ∧ (∀ f ∈ fs, f.b.length = 16) ∧ frUsed fs = u
  | 0, [], u, h => by
    simp only [ckFr, Option.some.injEq] at h
    subst h
    exact ⟨[], rfl, rfl, by simp, rfl⟩
  | 0, _ :: _, u, h => by simp [ckFr] at h
  | n + 1, cs, u, h => by
    unfold ckFr at h
    split at h
    · rename_i t rest h1 h2
      split at h
      · rename_i v hv
        obtain ⟨fs, e1, e2, e3, e4⟩ := ckFr_spec hv
        obtain ⟨b, hb⟩ := ckU8_list _ h1
        have hl : 16 < cs.length := by
          have := congrArg List.length h2
          simp at this; omega
        have hbl : b.length = 16 := by
          have := congrArg List.length hb
          simp at this; omega
        refine ⟨⟨b, t⟩ :: fs, by simp [e1], ?_, ?_, ?_⟩
        · rw [← List.take_append_drop 16 cs, hb, h2, e2]
          simp [Fr.enc]
        · intro f hf
          rcases List.mem_cons.1 hf with rfl | hf
          · exact hbl
          · exact e3 f hf
        · cases t
          · cases h; simp [frUsed, ← e4, List.countP_cons]
          · cases h; simp [frUsed, ← e4, List.countP_cons]
      · cases h
    · cases h

def usedN (args : List AV) (H : CH) : Option (AV × CH) :=
  match args with
  | [.ptr bm 0] => match cellsOf H.den bm with
    | some [.rs bl 0 n 17] => match Nat.blt bm H.next && Nat.blt bl H.next && !Nat.beq bm bl && Nat.blt n (2 ^ 40), cellsOf H.den bl with
      | true, some cs => match ckFr n cs with
        | some u => fNat u fun u => some (.int .i64 (.ofNat u), H)
        | none => none
      | _, _ => none
    | _ => none
  | _ => none

theorem usedN_ok (ok : TblOK P T) {f : Nat} (hf : T.fn f = some lcUsed) (args : List AV) (H : CH) (v : AV) (H' : CH) (he : usedN args H = some (v, H')) : ACalls P f args H.den v H'.den := by
  unfold usedN at he
  split at he
  · rename_i bm
    split at he
    · rename_i bl n h1
      split at he
      · rename_i cs hb h2
        split at he
        · rename_i u hu
          rw [fNat_eq] at he
          cases he
          simp only [Bool.and_eq_true, Nat.blt_eq, Bool.not_eq_true'] at hb
          obtain ⟨⟨⟨g1, g2⟩, g3⟩, g4⟩ := hb
          obtain ⟨fs, e1, e2, e3, e4⟩ := ckFr_spec hu
          subst e1
          have M : MemAt H.den bm bl fs := ⟨cellsOf_some h1, by rw [← e2]; exact cellsOf_some h2, fun h => by subst h; simp at g3, e3, g4⟩
          have := used_calls ok hf M ⟨g1, g2⟩
          rw [e4] at this
          exact this
        · cases he
      · cases he
    · cases he
  · cases he

end Go.Proofs.YtjkllffbjeajhaaGreat.Am

/- A range over a map of one entry. -/
namespace Go.Proofs.YtjkllffbjeajhaaGreat.Am
open Go

section
variable {P : Program} {md : Mode} {ι : Inj} {I : Imm} {h : AHeap} {w : World}

theorem WCh.setIter (w : World) {r : Nat} {m : Option Nat} {s l : Nat} {seen : Array Nat} (hr : w.heap[r]? = some (.mapIter m s seen l)) (m' : Option Nat) (s' l' : Nat) (seen' : Array Nat) :
    WCh (fun k _ => k = r) w { w with heap := w.heap.setIfInBounds r (.mapIter m' s' seen' l') } := by
  have hother : ∀ k, k ≠ r → (w.heap.setIfInBounds r (.mapIter m' s' seen' l'))[k]? = w.heap[k]? := fun k hk => Array.getElem?_setIfInBounds_ne (Ne.symm hk)
  have hlt : r < w.heap.size := (Array.getElem?_eq_some_iff.1 hr).1
  have hself : (w.heap.setIfInBounds r (.mapIter m' s' seen' l'))[r]? = some (.mapIter m' s' seen' l') := by simp [hlt]
  refine { os := rfl, tape := rfl, output := rfl, size := by simp, block := fun k hk hr => hother k (fun he => hr 0 he), cell := fun k j hk hr => ?_, frozen := fun k j hk => ?_ }
  · simp [World.cell?, hother k hr]
  · by_cases hkc : k = r
    · subst hkc; simp only [World.frozen?, hself, hr]
    · simp [World.frozen?, hother k hkc]

theorem run_next1 (w : World) {r cm since last clock : Nat} {e : MapEntry} (hr : w.heap[r]? = some (.mapIter (some cm) since #[] last)) (hm : w.heap[cm]? = some (.map #[e] clock)) (hb : e.born < since) (ty : TypeId) :
    (Instr.next (.pointer (some ⟨r, 0, none⟩)) false ty).run P w = .ok (.tuple #[.bool true, e.key, e.val]) { w with heap := w.heap.setIfInBounds r (.mapIter (some cm) since #[e.born] clock) } := by
  have h1 : ¬ since ≤ e.born := by omega
  simp [Instr.next, getObj, setObj, Sem.run, hr, hm, hb, h1, choose, Question.forced, Question.cut]

theorem run_next0 (w : World) {r cm since last clock : Nat} {e : MapEntry} (hr : w.heap[r]? = some (.mapIter (some cm) since #[e.born] last)) (hm : w.heap[cm]? = some (.map #[e] clock)) (hb : e.born < last) (ty : TypeId) :
    (Instr.next (.pointer (some ⟨r, 0, none⟩)) false ty).run P w = .ok (.tuple #[.bool false]) w := by
  have h1 : ¬ last ≤ e.born := by omega
  simp [Instr.next, getObj, setObj, Sem.run, hr, hm, hb, h1, choose, Question.forced, Question.cut]

theorem run_entry (w : World) {r cm since clock : Nat} {e : MapEntry} (hr : w.heap[r]? = some (.mapIter (some cm) since #[e.born] clock)) (hm : w.heap[cm]? = some (.map #[e] clock)) :
    (Instr.entry (.pointer (some ⟨r, 0, none⟩))).run P w = .ok (.tuple #[e.key, e.val]) w := by
  simp [Instr.entry, getObj, Sem.run, hr, hm]

theorem run_range (w : World) {cm clock : Nat} {es : Array MapEntry} {t key el : TypeId} (ht : P.underlying t = some (.map key el)) (hm : w.heap[cm]? = some (.map es clock)) :
    (Instr.range t (.map (some cm))).run P w = .ok (.pointer (some ⟨w.heap.size, 0, none⟩)) (w.alloc (.mapIter (some cm) clock #[] clock)) := by
  simp [Instr.range, run_under ht, getObj, newObj, Sem.run, hm]

def ROp.isR : ROp → Bool
  | .p (.rng _) | .p (.nxt _) | .p (.ent _) => true
  | _ => false

theorem cBuiltin_isR {dst : Option Nat} {b : Builtin} {args : List Operand} {ts : List TypeId} {r : ROp} (hc : cBuiltin P md dst b args ts = some r) : r.isR = false := by
  unfold cBuiltin at hc
  split at hc
  all_goals
    repeat' first
      | (cases hc; done)
      | (cases hc; rfl)
      | (cases hc; split <;> rfl)
      | (obtain ⟨_, _, hc⟩ := hc)
      | (simp only [Option.bind_eq_bind, Option.bind_eq_some_iff] at hc; obtain ⟨_, _, hc⟩ := hc)
      | split at hc

theorem cBin_isR {op : BinOp} {tt : TypeId} {x y : Operand} {q : POp} (hc : cBin P md op tt x y = some q) : (ROp.p q).isR = false := by
  unfold cBin at hc
  simp only [Option.bind_eq_bind, Option.bind_eq_some_iff] at hc
  obtain ⟨_, _, _, _, hc⟩ := hc
  repeat' first
      | (cases hc; done)
      | (cases hc; rfl)
      | (obtain ⟨_, _, hc⟩ := hc)
      | (simp only [Option.bind_eq_bind, Option.bind_eq_some_iff] at hc; obtain ⟨_, _, hc⟩ := hc)
      | split at hc

theorem cOp0_isR {dst : Option Nat} {op : Op} {r : ROp} (hc : cOp0 P md dst op = some r) : r.isR = false := by
  unfold cOp0 at hc
  split at hc
  all_goals
    repeat' first
      | (cases hc; done)
      | (cases hc; rfl)
      | (cases hc; split <;> rfl)
      | exact cBuiltin_isR hc
      | (cases hc; exact cBin_isR ‹_›)
      | (obtain ⟨_, _, hc⟩ := hc)
      | (simp only [Option.bind_eq_bind, Option.bind_eq_some_iff] at hc; obtain ⟨_, _, hc⟩ := hc)
      | split at hc

theorem cK_isR {dst : Option Nat} {b : Builtin} {args : List Operand} {ts : List TypeId} {r : ROp} (hc : cK P md dst b args ts = some r) : r.isR = false := by
  rcases cK_cases hc with ⟨_, _, _, _, _, _, _, _, _, _, _, _, _, _, _, _, _, _, _, _, rfl⟩ | ⟨_, _, _, _, _, _, _, _, _, rfl⟩ | ⟨_, _, _, _, _, _, _, _, _, _, _, _, rfl⟩ | ⟨_, _, _, _, _, _, _, _, _, _, _, _, _, _, _, rfl⟩ <;> rfl

/-- What the three operations of a range come of. -/
theorem cOp_isR {dst : Option Nat} {op : Op} {r : ROp} (hc : cOp P md dst op = some r) (hr : r.isR = true) :
    (∃ t x key el o, op = .range t x ∧ P.underlying t = some (.map key el) ∧ cOpd md.pr x = some o ∧ r = .p (.rng o)) ∨
    (∃ x o, op = .next x false ∧ cOpd md.pr x = some o ∧ r = .p (.nxt o)) ∨
    (∃ x o, op = .entry x ∧ cOpd md.pr x = some o ∧ r = .p (.ent o)) := by
  rcases cOp_cases hc with h1 | h1 | h1
  · unfold cX at h1
    split at h1
    · exfalso
      repeat' first
        | (cases h1; done)
        | (cases h1; cases hr; done)
        | (obtain ⟨_, _, h1⟩ := h1)
        | (simp only [Option.bind_eq_bind, Option.bind_eq_some_iff] at h1; obtain ⟨_, _, h1⟩ := h1)
        | split at h1
    · simp only [Option.bind_eq_bind, Option.bind_eq_some_iff] at h1
      obtain ⟨d, hd, h1⟩ := h1
      split at h1
      · simp only [Option.bind_eq_some_iff] at h1
        obtain ⟨o, ho, h1⟩ := h1
        cases h1
        exact .inl ⟨_, _, _, _, o, rfl, hd, ho, rfl⟩
      · cases h1
    · split at h1
      · cases h1
      · rename_i hs
        simp only [Option.map_eq_some_iff] at h1
        obtain ⟨o, ho, h1⟩ := h1
        cases h1
        refine .inr (.inl ⟨_, o, ?_, ho, rfl⟩)
        simp only [Bool.not_eq_true] at hs
        rw [hs]
    · simp only [Option.map_eq_some_iff] at h1
      obtain ⟨o, ho, h1⟩ := h1
      cases h1
      exact .inr (.inr ⟨_, o, rfl, ho, rfl⟩)
    · exfalso
      repeat' first
        | (cases h1; done)
        | (cases h1; cases hr; done)
        | (have := cK_isR h1; rw [hr] at this; cases this; done)
        | (obtain ⟨_, _, h1⟩ := h1)
        | (simp only [Option.bind_eq_bind, Option.bind_eq_some_iff] at h1; obtain ⟨_, _, h1⟩ := h1)
        | split at h1
    · cases h1
  · have := cOp0_isR h1; rw [hr] at this; cases this
  · subst h1; cases hr

theorem exec_sound_app {n : Nat} {ops : Array Oper} {Q : Exit → Act → World → Prop} {K : Env → AHeap → Prop} {rest : List Nat} : ∀ (ros : List RO) (k : Nat) {ι : Inj} {I : Imm} {h : AHeap} {w : World} {ρ : Env} {a : Act}, HR ι I h w → AR ι I w n ρ a →
    (∀ i ro, ros[i]? = some ro → ∃ o, ops[k + i]? = some o ∧ cRO P md n ops o = some ro) → exec P ros ρ h K →
    (∀ ρ' h' a' w' ι' I', K ρ' h' → AR ι' I' w' n ρ' a' → HR ι' I' h' w' → Ext (h.next ≤ ·) ι I h w ι' I' h' w' → wpOps P ops Q rest a' w') →
    wpOps P ops Q (List.range' k ros.length ++ rest) a w
  | [], k, ι, I, h, w, ρ, a, H, A, _, he, hQ => by
    simp only [List.length_nil, List.range'_zero, List.nil_append]
    exact hQ ρ h a w ι I he A H (.refl _ _ _ _ _)
  | ro :: ros, k, ι, I, h, w, ρ, a, H, A, hco, he, hQ => by
    obtain ⟨r, h', hs, he'⟩ := he
    obtain ⟨o, ho, hc⟩ := hco 0 ro rfl
    simp only [List.length_cons, List.range'_succ, List.cons_append, wpOps]
    rw [Nat.add_zero] at ho
    rw [ho]
    simp only []
    have hid : ι h.next = none := by
      cases hq : ι h.next with
      | none => rfl
      | some l => have := H.dom _ _ hq; omega
    refine step_sound (Q := Q) H A hc hid hs ?_
    intro a' w' ι' I' A' H' E
    have E' : Ext (h.next ≤ ·) ι I h w ι' I' h' w' := E.mono (fun b hb => by rcases hb with rfl | hb; exact Nat.le_refl _; exact hb)
    refine exec_sound_app ros (k + 1) H' A' (fun i ro' hi => ?_) he' ?_
    · obtain ⟨o', ho', hc'⟩ := hco (i + 1) ro' (by simpa using hi)
      exact ⟨o', by rw [show k + 1 + i = k + (i + 1) by omega]; exact ho', hc'⟩
    · intro ρ2 h2 a2 w2 ι2 I2 hK A2 H2 E2
      exact hQ ρ2 h2 a2 w2 ι2 I2 hK A2 H2 (E'.trans E2 (fun b hb => Nat.le_trans E'.next hb))

/-- A region with one operation of a range in it. -/
theorem wp_reg_mid {n : Nat} {cc : Code} {pre post : List RO} {d : Nat} {q : POp} (hc : cCode P md n cc = some (.reg (pre ++ ⟨some d, none, .p q⟩ :: post)))
    {ι : Inj} {I : Imm} {h : AHeap} {w : World} {ρ : Env} {a : Act} (H : HR ι I h w) (A : AR ι I w n ρ a) {K : Env → AHeap → Prop} (hpre : exec P pre ρ h K) {Q : Exit → Act → World → Prop}
    (hstep : ∀ ρ1 h1 a1 w1 ι1 I1 op, K ρ1 h1 → AR ι1 I1 w1 n ρ1 a1 → HR ι1 I1 h1 w1 → Ext (h.next ≤ ·) ι I h w ι1 I1 h1 w1 → d < n → cOp P md (some d) op = some (.p q) →
      ∃ v w2 ι2 I2 h2 ρ2 K2, (∀ o : Oper, o.op = op → (execOp a1.eval o).run P w1 = .ok (.value v) w2) ∧ HR ι2 I2 h2 w2 ∧ AR ι2 I2 w2 n ρ2 (a1.put (some d) v) ∧ exec P post ρ2 h2 K2 ∧
        ∀ ρ' h' a' w' ι' I', K2 ρ' h' → AR ι' I' w' n ρ' a' → HR ι' I' h' w' → Ext (h2.next ≤ ·) ι2 I2 h2 w2 ι' I' h' w' → Q .normal a' w') : cc.wp P Q a w := by
  obtain ⟨id, ops, rfl, hr⟩ := cCode_inv hc
  obtain ⟨hlen, hcg⟩ := cROs_get hr
  refine wp_region ?_
  have hget : ∀ (i : Nat) (ro : RO), (pre ++ ⟨some d, none, .p q⟩ :: post)[i]? = some ro → ∃ o, ops[i]? = some o ∧ cRO P md n ops o = some ro := fun i ro hi => by
    have hio : i < ops.toList.length := by rw [hlen]; exact (List.getElem?_eq_some_iff.1 hi).1
    refine ⟨ops.toList[i], ?_, hcg i _ ro (List.getElem?_eq_getElem hio) hi⟩
    have := List.getElem?_eq_getElem hio
    simpa using this
  have hsz : List.range ops.size = List.range' 0 pre.length ++ (pre.length :: List.range' (pre.length + 1) post.length) := by
    have : ops.size = pre.length + (post.length + 1) := by simpa using hlen
    rw [List.range_eq_range', this, ← List.range'_append_1, Nat.zero_add, List.range'_succ]
  rw [hsz]
  refine exec_sound_app (md := md) (K := K) pre 0 H A (fun i ro hi => ?_) hpre ?_
  · rw [Nat.zero_add]
    exact hget i ro (by rw [List.getElem?_append_left (List.getElem?_eq_some_iff.1 hi).1]; exact hi)
  intro ρ1 h1 a1 w1 ι1 I1 hK A1 H1 E1
  obtain ⟨o, ho, hco⟩ := hget pre.length ⟨some d, none, .p q⟩ (by simp)
  obtain ⟨hop, hdst, hdn, hgd⟩ := cRO_parts hco
  simp only [wpOps, ho]
  simp only at hdst
  obtain ⟨v, w2, ι2, I2, h2, ρ2, K2, hrun, H2, A2, he2, hQ⟩ := hstep ρ1 h1 a1 w1 ι1 I1 o.op hK A1 H1 E1 (hdn d hdst.symm) (by rw [hdst]; exact hop)
  have hg : o.guard = none := by
    cases hq : o.guard with
    | none => rfl
    | some p =>
      rw [hq] at hgd
      obtain ⟨x, _, hx⟩ := hgd
      cases hx
  have hw : Region.wanted o (yielded ops a1.tmps) = true := by simp [Region.wanted, hg]
  rw [hw]
  simp only [if_true]
  refine .inl ?_
  unfold Oper.wp
  rw [hrun o rfl, Oper.upon_value, ← hdst]
  have := exec_sound_app (P := P) (md := md) (Q := Q) (K := K2) (rest := []) (ops := ops) post (pre.length + 1) H2 A2 (fun i ro hi => hget _ _ (by
    rw [List.getElem?_append_right (by omega), show pre.length + 1 + i - pre.length = i + 1 by omega]; simpa using hi)) he2 (fun ρ' h' a' w' ι' I' hk A' H' E' => by
      simp only [wpOps]; exact hQ ρ' h' a' w' ι' I' hk A' H' E')
  simpa using this

theorem HR.alloc (H : HR ι I h w) (o : Obj) : HR ι I h (w.alloc o) ∧ Ext (fun _ => False) ι I h w ι I h (w.alloc o) := by
  have W := WCh.push w o
  refine ⟨H.away W (Nat.le_refl _) (fun _ _ h => h) (fun _ _ _ _ _ _ _ _ h => h) (fun _ _ h => h.elim), ?_⟩
  exact Ext.of W (fun _ _ _ h => h.elim) (fun _ _ => rfl) (fun _ _ h => h) (Nat.le_refl _) (fun _ _ h => h) (fun _ _ h => .inl h) (fun _ _ h => .inl h) (fun _ _ _ => rfl)

/-- A name for a place that nobody owns: nothing is said of it. -/
theorem HR.named (H : HR ι I h w) {id : Nat} {l : Loc} (hid : ι id = none) {h' : AHeap} (hnext : id < h'.next) (hle : h.next ≤ h'.next) (hin : l.block < w.heap.size) (hno : h'.get id = none) (hsub : ∀ b x, h'.get b = some x → h.get b = some x) : HR (ι.set id l) I h' w := by
  have hmono : ∀ a v, VR ι I w a v → VR (ι.set id l) I w a v := fun a v hv => hv.mono (fun b l' hb => by
    rw [Inj.set_other _ _ (fun he => by rw [he, hid] at hb; cases hb)]; exact hb) (fun _ _ h => h) (fun _ _ _ => rfl)
  have key : ∀ b l' x, (ι.set id l) b = some l' → h'.get b = some x → b ≠ id ∧ ι b = some l' ∧ h.get b = some x := fun b l' x hb hg => by
    have hne : b ≠ id := fun he => by rw [he, hno] at hg; cases hg
    exact ⟨hne, by rwa [Inj.set_other _ _ hne] at hb, hsub b x hg⟩
  exact
  { dom := fun b l' hb => by
      by_cases hbi : b = id
      · subst hbi; exact hnext
      · rw [Inj.set_other _ _ hbi] at hb; exact Nat.lt_of_lt_of_le (H.dom b l' hb) hle
    inside := fun b l' hb => by
      by_cases hbi : b = id
      · subst hbi; rw [Inj.set_same] at hb; cases hb; exact hin
      · rw [Inj.set_other _ _ hbi] at hb; exact H.inside b l' hb
    cells := fun b cs l' hg hb => by
      obtain ⟨_, h1, h2⟩ := key b l' _ hb hg
      obtain ⟨cb, o, room, e1, e2, e3, e4⟩ := H.cells b cs l' h2 h1
      exact ⟨cb, o, room, e1, e2, e3, fun j hj => by obtain ⟨c, g1, g2, g3⟩ := e4 j hj; exact ⟨c, g1, g2, fun v hv => hmono _ _ (g3 v hv)⟩⟩
    maps := fun b es l' hg hb => by
      obtain ⟨_, h1, h2⟩ := key b l' _ hb hg
      obtain ⟨cb, es', clock, e1, e2, e3, e4⟩ := H.maps b es l' h2 h1
      exact ⟨cb, es', clock, e1, e2, e3, fun i k v e f1 f2 => ⟨hmono _ _ (e4 i k v e f1 f2).1, hmono _ _ (e4 i k v e f1 f2).2⟩⟩
    tails := fun b l' hg hb => by
      obtain ⟨_, h1, h2⟩ := key b l' _ hb hg
      exact H.tails b l' h2 h1
    disj := fun b b' l1 l2 x x' k j hne hb hb' hg hg' => by
      obtain ⟨_, h1, h2⟩ := key b l1 _ hb hg
      obtain ⟨_, h3, h4⟩ := key b' l2 _ hb' hg'
      exact H.disj b b' l1 l2 x x' k j hne h1 h3 h2 h4
    imm := fun b l1 x k j hb hg => by
      obtain ⟨_, h1, h2⟩ := key b l1 _ hb hg
      exact H.imm b l1 x k j h1 h2
    Iin := H.Iin
    pl := fun b cs cb o room hg hb n => by
      obtain ⟨_, h1, h2⟩ := key b _ _ hb hg
      exact H.pl b cs cb o room h2 h1 n }

/-- What is new may be turned. -/
theorem Ext.turned {N : Nat → Prop} {ι' : Inj} {I' : Imm} {h' : AHeap} {w' w2 : World} (E : Ext N ι I h w ι' I' h' w') {r : Nat} (W : WCh (fun k _ => k = r) w' w2) (hr : w.heap.size ≤ r) : Ext N ι I h w ι' I' h' w2 :=
  { keep := E.keep, more := E.more, next := E.next, imm := E.imm, os := W.os.trans E.os, tape := W.tape.trans E.tape, output := W.output.trans E.output, size := Nat.le_trans E.size W.size
    block := fun k hk hn => (W.block k (Nat.lt_of_lt_of_le hk E.size) (fun _ hj => by omega)).trans (E.block k hk hn)
    cell := fun k j hk hn => (W.cell k j (Nat.lt_of_lt_of_le hk E.size) (by omega)).trans (E.cell k j hk hn)
    frozen := fun k j hk hn => (W.frozen k j (Nat.lt_of_lt_of_le hk E.size)).trans (E.frozen k j hk hn)
    own := E.own, inew := E.inew, lost := E.lost }

/-- An iterator under way over a map of one entry that has been taken out of the heap. -/
structure It (n : Nat) (ι0 : Inj) (I0 : Imm) (h : AHeap) (w0 : World) (h0 : AHeap) (id cm r : Nat) (e : MapEntry) (clock : Nat) (seen : Array Nat) (ρ : Env) (ι : Inj) (I : Imm) (w : World) (a : Act) : Prop where
  A : AR ι I w n ρ a
  H : HR ι I h0 w
  E : Ext (h.next ≤ ·) ι0 I0 h w0 ι I h0 w
  it : w.heap[r]? = some (.mapIter (some cm) clock seen clock)
  mp : w.heap[cm]? = some (.map #[e] clock)
  born : e.born < clock
  nr : ∀ j, ¬ Owned ι h0 r j ∧ ¬ I r j
  nc : ∀ j, ¬ Owned ι h0 cm j ∧ ¬ I cm j
  new : w0.heap.size ≤ r
  named : ι id = some (.cells r 0 0)
  key : VR ι I w (.int .u64 1) e.key

variable {n : Nat} {ι0 : Inj} {I0 : Imm} {w0 : World} {h0 : AHeap} {id cm r clock : Nat} {e : MapEntry} {seen : Array Nat} {ρ : Env} {a : Act}

/-- Steps of the abstract machine that leave the heap as it is. -/
theorem It.next (T : It n ι0 I0 h w0 h0 id cm r e clock seen ρ ι I w a) {ρ' : Env} {ι' : Inj} {I' : Imm} {w' : World} {a' : Act} (A' : AR ι' I' w' n ρ' a') (H' : HR ι' I' h0 w') (E' : Ext (h0.next ≤ ·) ι I h0 w ι' I' h0 w') :
    It n ι0 I0 h w0 h0 id cm r e clock seen ρ' ι' I' w' a' := by
  have hr : r < w.heap.size := (Array.getElem?_eq_some_iff.1 T.it).1
  have hc : cm < w.heap.size := (Array.getElem?_eq_some_iff.1 T.mp).1
  have hno : ∀ k, k < w.heap.size → (∀ j, ¬ Owned ι h0 k j ∧ ¬ I k j) → ∀ j, ¬ Owned ι' h0 k j ∧ ¬ I' k j := fun k hk hn j => by
    refine ⟨fun ho => ?_, fun hi => ?_⟩
    · rcases E'.own k j ho with h | h
      · exact (hn j).1 h
      · omega
    · rcases E'.inew k j hi with h | h | h
      · exact (hn j).2 h
      · exact (hn j).1 h
      · omega
  exact
  { A := A', H := H', E := T.E.trans E' (fun b hb => Nat.le_trans T.E.next hb)
    it := by rw [E'.block r hr (fun j => (T.nr j).1)]; exact T.it
    mp := by rw [E'.block cm hc (fun j => (T.nc j).1)]; exact T.mp
    born := T.born, nr := hno r hr T.nr, nc := hno cm hc T.nc, new := T.new, named := E'.more _ _ T.named, key := E'.vr T.H T.key }

def rcR : List RO := [m 50 3, p 51 (.rng (t 50))]
def rcN : List RO := [p 52 (.nxt (t 51)), ex 53 0 52]
def rcE : List RO := [p 54 (.ent (t 51)), ex 55 0 54, m 11 55]
def rcP (fP : Nat) : List RO := [m 56 11, Am.c 57 fP [(t 56)], m 12 57]
def rcC (fC : Nat) : List RO := [m 58 7, m 59 12, Am.c 60 fC [(t 58), (t 59)], m 61 60, gm 62 61 true 3, gm 63 61 true 12, gp 64 61 true (.lookup (.int .i64 0) false (t 62) (t 63)), gb 65 61 true .eql (t 64) (z 1), p 66 (.pick (t 61) (t 65) (kb false))]
def rcA : List RO := [m 67 10, m 68 11, p 69 (.bslice 1 [(.int .u64 0)] [(0, (t 68))]), Am.e 70 (.append 8 1 (t 67) (t 69)), m 10 70]
def rcRest (fP fC : Nat) : RCode := .seq (.reg (rcP fP)) (.seq (.reg (rcC fC)) (.cond (t 66) (.reg rcA) .skip))
def rcRound (fP fC : Nat) : RCode := .seq (.reg rcN) (.seq (.cond (t 53) .skip (.exit 2)) (.block 3 (.seq (.reg rcE) (rcRest fP fC))))
def rcRng (fP fC : Nat) : RCode := .rseq (.reg rcR) (.block 2 (.loop (rcRound fP fC)))

/-- The slots that the loop turns. -/
def chg (i : Nat) : Bool := i == 11 || i == 12 || Nat.ble 50 i
def outE (ρ : Env) : Env := fun i => if chg i = true then .undef else ρ i
def outH (h : AHeap) (mb : Nat) : AHeap := { get := fun i => if i = mb ∨ i = h.next then none else h.get i, next := h.next + 1 }

theorem rest_wp {fP fC : Nat} {tl : Tail} {h : AHeap} {ρ : Env} (parent : ACalls P fP [.int .u64 1] h (.int .u64 0) h) (contains : ACalls P fC [.vs [[.int .u64 1]] tl, .int .u64 0] h (.bool false) h)
    (r7 : ρ 7 = .vs [[.int .u64 1]] tl) (r11 : ρ 11 = .int .u64 1) : WP P (rcRest fP fC) (fun e ρ' h' => e = .normal ∧ h' = h ∧ ρ' 51 = ρ 51 ∧ ∀ i, chg i = false → ρ' i = ρ i) ρ h := by
  unfold rcRest rcP rcC
  simp (decide := true) only [st, r7, r11]
  refine execC_by parent ?_
  simp (decide := true) only [st, r7]
  refine execC_by contains ?_
  simp (decide := true) only [st, r7]
  intro i hi
  have h11 : ¬ i = 11 := fun e => by subst e; cases hi
  have h12 : ¬ i = 12 := fun e => by subst e; cases hi
  have h50 : ∀ j, 50 ≤ j → ¬ i = j := fun j hj e => by
    have : Nat.ble 50 i = true := by rw [Nat.ble_eq]; omega
    simp [chg, this] at hi
  simp [h11, h12, h50]

theorem cOp_rng {op : Op} {d : Option Nat} {o : Opd} (hc : cOp P md d op = some (.p (.rng o))) : ∃ t x key el, op = .range t x ∧ P.underlying t = some (.map key el) ∧ cOpd md.pr x = some o := by
  rcases cOp_isR hc rfl with ⟨t, x, key, el, o', h1, h2, h3, h4⟩ | ⟨_, _, _, _, h4⟩ | ⟨_, _, _, _, h4⟩
  · cases h4; exact ⟨t, x, key, el, h1, h2, h3⟩
  · cases h4
  · cases h4
theorem cOp_nxt {op : Op} {d : Option Nat} {o : Opd} (hc : cOp P md d op = some (.p (.nxt o))) : ∃ x, op = .next x false ∧ cOpd md.pr x = some o := by
  rcases cOp_isR hc rfl with ⟨_, _, _, _, _, _, _, _, h4⟩ | ⟨x, _, h1, h2, h4⟩ | ⟨_, _, _, _, h4⟩
  · cases h4
  · cases h4; exact ⟨x, h1, h2⟩
  · cases h4
theorem cOp_ent {op : Op} {d : Option Nat} {o : Opd} (hc : cOp P md d op = some (.p (.ent o))) : ∃ x, op = .entry x ∧ cOpd md.pr x = some o := by
  rcases cOp_isR hc rfl with ⟨_, _, _, _, _, _, _, _, h4⟩ | ⟨_, _, _, _, h4⟩ | ⟨x, _, h1, h2, h4⟩
  · cases h4
  · cases h4
  · cases h4; exact ⟨x, h1, h2⟩

theorem wp_cond_ar {n : Nat} {cc : Code} {x y : RCode} {g : Opd} (hc : cCode P md n cc = some (.cond g x y)) {ι : Inj} {I : Imm} {w : World} {ρ : Env} {a : Act} (A : AR ι I w n ρ a) {b : Bool} (hb : g.ev ρ = .bool b) {Q : Exit → Act → World → Prop}
    (h1 : ∀ cx, cCode P md n cx = some (if b then x else y) → cx.wp P Q a w) : cc.wp P Q a w := by
  obtain ⟨o, cx, cy, rfl, ho, hx, hy⟩ := cCode_inv hc
  have hov : VR ι I w (g.ev ρ) (a.eval o) := cOpd_sim A ho
  rw [hb] at hov
  have : a.eval o = .bool b := by generalize a.eval o = u at hov; cases hov; rfl
  refine wp_cond this ?_
  cases b
  · exact h1 cy hy
  · exact h1 cx hx

variable {n : Nat} {ι0 : Inj} {I0 : Imm} {w0 : World} {h0 : AHeap} {id cm r clock : Nat} {e : MapEntry} {seen : Array Nat} {ρ : Env} {a : Act}

/-- The step: the entry comes. -/
theorem It.nxt1 (T : It n ι0 I0 h w0 h0 id cm r e clock #[] ρ ι I w a) (r51 : ρ 51 = .ptr id 0) {cc : Code} (hc : cCode P md n cc = some (.reg rcN)) {Q : Exit → Act → World → Prop}
    (hQ : ∀ ι' I' w' a', It n ι0 I0 h w0 h0 id cm r e clock #[e.born] (put (put ρ (some 52) (.tup [.bool true, .undef, .undef])) (some 53) (.bool true)) ι' I' w' a' → Q .normal a' w') : cc.wp P Q a w := by
  refine wp_reg_mid (pre := []) (K := fun ρ' h' => ρ' = ρ ∧ h' = h0) hc T.H T.A ⟨rfl, rfl⟩ ?_
  rintro ρ1 h1 a1 w1 ι1 I1 op ⟨rfl, rfl⟩ A1 H1 E1 hd hop
  have T1 := T.next A1 H1 E1
  obtain ⟨x, rfl, hx⟩ := cOp_nxt hop
  have hv := cOpd_sim A1 hx
  have hev : a1.eval x = .pointer (some ⟨r, 0, none⟩) := by
    generalize a1.eval x = u at hv
    simp only [OR, Opd.ev, r51] at hv
    cases hv
    rename_i cb o room hb
    rw [T1.named] at hb
    cases hb
    rfl
  have W := WCh.setIter w1 T1.it (some cm) clock clock #[e.born]
  have hmono : ∀ v c, VR ι1 I1 w1 v c → VR ι1 I1 { w1 with heap := w1.heap.setIfInBounds r (.mapIter (some cm) clock #[e.born] clock) } v c := fun v c hv =>
    hv.mono (fun _ _ h => h) (fun _ _ h => h) (fun k j hk => W.cell k j (T1.H.Iin k j hk) (fun hkr => (T1.nr j).2 (hkr ▸ hk)))
  have H2 := T1.H.away W (Nat.le_refl _) (fun _ _ h => h) (fun b l x k j hb hg hl hk => (T1.nr j).1 (hk ▸ ⟨b, l, x, hb, hg, hl⟩)) (fun k j hk => hk ▸ (T1.nr j).2)
  have hne : cm ≠ r := fun he => by have := T1.mp; rw [he, T1.it] at this; cases this
  have hlt : r < w1.heap.size := (Array.getElem?_eq_some_iff.1 T1.it).1
  have A2 : AR ι1 I1 { w1 with heap := w1.heap.setIfInBounds r (.mapIter (some cm) clock #[e.born] clock) } n (put ρ1 (some 52) (.tup [.bool true, .undef, .undef])) (a1.put (some 52) (.tuple #[.bool true, e.key, e.val])) :=
    (A1.mono hmono).put (fun x hx => by cases hx; exact hd) (LR.cons (VR.bool true) (LR.cons (VR.undef _) (LR.cons (VR.undef _) LR.nil)) |>.2 |> VR.tup _ _ rfl)
  refine ⟨_, _, ι1, I1, h1, _, fun ρ' h' => ρ' = put (put ρ1 (some 52) (.tup [.bool true, .undef, .undef])) (some 53) (.bool true) ∧ h' = h1, fun o ho => ?_, H2, A2, ?_, ?_⟩
  · simp only [execOp, ho, hev, Sem.run_bind, run_next1 w1 T1.it T1.mp T1.born, Result.andThen_ok, Sem.run_pure]
  · simp (decide := true) only [st]
  · rintro ρ' h' a' w' ι' I' ⟨rfl, rfl⟩ A' H' E'
    refine hQ ι' I' w' a' (It.next (ρ := put ρ1 (some 52) (.tup [.bool true, .undef, .undef])) (a := a1.put (some 52) (.tuple #[.bool true, e.key, e.val])) { A := A2, H := H2, E := T1.E.turned W T1.new, it := by simp [hlt], mp := by simp [Array.getElem?_setIfInBounds_ne (Ne.symm hne), T1.mp], born := T1.born, nr := T1.nr, nc := T1.nc, new := T1.new, named := T1.named, key := hmono _ _ T1.key } A' H' E')

/-- The step: none is left. -/
theorem It.nxt0 (T : It n ι0 I0 h w0 h0 id cm r e clock #[e.born] ρ ι I w a) (r51 : ρ 51 = .ptr id 0) {cc : Code} (hc : cCode P md n cc = some (.reg rcN)) {Q : Exit → Act → World → Prop}
    (hQ : ∀ ι' I' w' a', It n ι0 I0 h w0 h0 id cm r e clock #[e.born] (put (put ρ (some 52) (.tup [.bool false])) (some 53) (.bool false)) ι' I' w' a' → Q .normal a' w') : cc.wp P Q a w := by
  refine wp_reg_mid (pre := []) (K := fun ρ' h' => ρ' = ρ ∧ h' = h0) hc T.H T.A ⟨rfl, rfl⟩ ?_
  rintro ρ1 h1 a1 w1 ι1 I1 op ⟨rfl, rfl⟩ A1 H1 E1 hd hop
  have T1 := T.next A1 H1 E1
  obtain ⟨x, rfl, hx⟩ := cOp_nxt hop
  have hv := cOpd_sim A1 hx
  have hev : a1.eval x = .pointer (some ⟨r, 0, none⟩) := by
    generalize a1.eval x = u at hv
    simp only [OR, Opd.ev, r51] at hv
    cases hv
    rename_i cb o room hb
    rw [T1.named] at hb
    cases hb
    rfl
  have A2 : AR ι1 I1 w1 n (put ρ1 (some 52) (.tup [.bool false])) (a1.put (some 52) (.tuple #[.bool false])) :=
    A1.put (fun x hx => by cases hx; exact hd) (VR.tup _ _ rfl (LR.cons (VR.bool false) LR.nil).2)
  refine ⟨_, _, ι1, I1, h1, _, fun ρ' h' => ρ' = put (put ρ1 (some 52) (.tup [.bool false])) (some 53) (.bool false) ∧ h' = h1, fun o ho => ?_, H1, A2, ?_, ?_⟩
  · simp only [execOp, ho, hev, Sem.run_bind, run_next0 w1 T1.it T1.mp T1.born, Result.andThen_ok, Sem.run_pure]
  · simp (decide := true) only [st]
  · rintro ρ' h' a' w' ι' I' ⟨rfl, rfl⟩ A' H' E'
    exact hQ ι' I' w' a' ((T1.next A2 H1 (.refl _ _ _ _ _)).next A' H' E')

/-- The entry. -/
theorem It.ent1 (T : It n ι0 I0 h w0 h0 id cm r e clock #[e.born] ρ ι I w a) (r51 : ρ 51 = .ptr id 0) {cc : Code} (hc : cCode P md n cc = some (.reg rcE)) {Q : Exit → Act → World → Prop}
    (hQ : ∀ ι' I' w' a', It n ι0 I0 h w0 h0 id cm r e clock #[e.born] (put (put (put ρ (some 54) (.tup [.int .u64 1, .undef])) (some 55) (.int .u64 1)) (some 11) (.int .u64 1)) ι' I' w' a' → Q .normal a' w') : cc.wp P Q a w := by
  refine wp_reg_mid (pre := []) (K := fun ρ' h' => ρ' = ρ ∧ h' = h0) hc T.H T.A ⟨rfl, rfl⟩ ?_
  rintro ρ1 h1 a1 w1 ι1 I1 op ⟨rfl, rfl⟩ A1 H1 E1 hd hop
  have T1 := T.next A1 H1 E1
  obtain ⟨x, rfl, hx⟩ := cOp_ent hop
  have hv := cOpd_sim A1 hx
  have hev : a1.eval x = .pointer (some ⟨r, 0, none⟩) := by
    generalize a1.eval x = u at hv
    simp only [OR, Opd.ev, r51] at hv
    cases hv
    rename_i cb o room hb
    rw [T1.named] at hb
    cases hb
    rfl
  have A2 : AR ι1 I1 w1 n (put ρ1 (some 54) (.tup [.int .u64 1, .undef])) (a1.put (some 54) (.tuple #[e.key, e.val])) :=
    A1.put (fun x hx => by cases hx; exact hd) (VR.tup _ _ rfl (LR.cons T1.key (LR.cons (VR.undef _) LR.nil)).2)
  refine ⟨_, _, ι1, I1, h1, _, fun ρ' h' => ρ' = put (put (put ρ1 (some 54) (.tup [.int .u64 1, .undef])) (some 55) (.int .u64 1)) (some 11) (.int .u64 1) ∧ h' = h1, fun o ho => ?_, H1, A2, ?_, ?_⟩
  · simp only [execOp, ho, hev, Sem.run_bind, run_entry w1 T1.it T1.mp, Result.andThen_ok, Sem.run_pure]
  · simp (decide := true) only [st]
  · rintro ρ' h' a' w' ι' I' ⟨rfl, rfl⟩ A' H' E'
    exact hQ ι' I' w' a' ((T1.next A2 H1 (.refl _ _ _ _ _)).next A' H' E')

theorem snd_rng (hm : P.follows .mixedOrders = true) {fP fC mb : Nat} {tl : Tail} {v : AV} {h : AHeap} {ρ : Env} (parent : ∀ h, ACalls P fP [.int .u64 1] h (.int .u64 0) h) (contains : ∀ h, ACalls P fC [.vs [[.int .u64 1]] tl, .int .u64 0] h (.bool false) h)
    (hmb : h.get mb = some (.map [(.int .u64 1, v)])) (r3 : ρ 3 = .map (some mb)) (r7 : ρ 7 = .vs [[.int .u64 1]] tl) : ∀ md, Snd P md (rcRng fP fC) ρ h .normal (outE ρ) (outH h mb) := by
  intro md
  refine ⟨0, fun n ι I w a H A cc hc => ?_⟩
  obtain ⟨cx, cy, rfl, hx, hy⟩ := cCode_inv hc
  refine wp_seq ?_
  refine wp_reg_mid (pre := [m 50 3]) (K := fun ρ' h' => ρ' = put ρ (some 50) (.map (some mb)) ∧ h' = h) hx H A ?_ ?_
  · simp (decide := true) only [st, r3]
  rintro ρ1 h1 a1 w1 ι1 I1 op ⟨rfl, rfl⟩ A1 H1 E1 hd hop
  obtain ⟨tt, x, key, el, rfl, ht, hxo⟩ := cOp_rng hop
  have hv := cOpd_sim A1 hxo
  obtain ⟨cm, hιm, hev⟩ : ∃ cm, ι1 mb = some (.map cm) ∧ a1.eval x = .map (some cm) := by
    generalize a1.eval x = u at hv
    simp only [OR, Opd.ev, put_some, if_true] at hv
    cases hv
    exact ⟨_, ‹_›, rfl⟩
  obtain ⟨es', clock, hmp, her, hst⟩ := H1.map hmb hιm
  obtain ⟨e, rfl⟩ : ∃ e, es' = #[e] := by
    have hl : es'.toList.length = 1 := by rw [← her.1]; rfl
    obtain ⟨x, hx⟩ := List.length_eq_one_iff.1 hl
    exact ⟨x, by apply Array.ext'; simpa using hx⟩
  have hborn : e.born < clock := hst.1 e (by simp)
  have hkey : VR ι1 I1 w1 (.int .u64 1) e.key := (her.2 0 _ _ e rfl rfl).1
  have hmblt : mb < h1.next := H1.dom _ _ hιm
  have hidn : ι1 h1.next = none := by
    cases hq : ι1 h1.next with
    | none => rfl
    | some l => have := H1.dom _ _ hq; omega
  let r := w1.heap.size
  let w2 := w1.alloc (.mapIter (some cm) clock #[] clock)
  obtain ⟨H2, E2⟩ := H1.alloc (.mapIter (some cm) clock #[] clock)
  have hsub : ∀ b x, (outH h1 mb).get b = some x → b ≠ mb ∧ b ≠ h1.next ∧ h1.get b = some x := fun b x hb => by
    simp only [outH] at hb
    split at hb
    · cases hb
    · rename_i hn; exact ⟨fun he => hn (.inl he), fun he => hn (.inr he), hb⟩
  have hin : r < w2.heap.size := by simp [r, w2]
  have H3 : HR (ι1.set h1.next (.cells r 0 0)) I1 (outH h1 mb) w2 := H2.named hidn (by simp [outH]) (by simp [outH]) hin (by simp [outH]) (fun b x hb => (hsub b x hb).2.2)
  have hown : ∀ k j, Owned (ι1.set h1.next (.cells r 0 0)) (outH h1 mb) k j → ∃ b l x, b ≠ mb ∧ ι1 b = some l ∧ h1.get b = some x ∧ l.has k j := by
    rintro k j ⟨b, l, x, hb, hg, hl⟩
    obtain ⟨g1, g2, g3⟩ := hsub b x hg
    exact ⟨b, l, x, g1, by rwa [Inj.set_other _ _ g2] at hb, g3, hl⟩
  have E3 : Ext (h1.next ≤ ·) ι1 I1 h1 w1 (ι1.set h1.next (.cells r 0 0)) I1 (outH h1 mb) w2 :=
    Ext.of (WCh.push w1 _) (fun _ _ _ h => h.elim) (fun b hb => Inj.set_other _ _ (by omega)) (fun b l hb => by rw [Inj.set_other _ _ (fun he => by rw [he, hidn] at hb; cases hb)]; exact hb) (by simp [outH]) (fun _ _ h => h)
      (fun k j ho => by obtain ⟨b, l, x, _, g2, g3, g4⟩ := hown k j ho; exact .inl ⟨b, l, x, g2, g3, g4⟩) (fun _ _ h => .inl h)
      (fun b hb hn => by
        have g1 : b ≠ mb := fun he => by rw [he, hιm] at hn; cases hn
        have g2 : b ≠ h1.next := by omega
        simp [outH, g1, g2])
  have hcm : cm < w1.heap.size := (Array.getElem?_eq_some_iff.1 hmp).1
  have A2 : AR (ι1.set h1.next (.cells r 0 0)) I1 w2 n (put (put ρ (some 50) (.map (some mb))) (some 51) (.ptr h1.next 0)) (a1.put (some 51) (.pointer (some ⟨r, 0, none⟩))) :=
    (A1.mono (fun v c hv => E3.vr H1 hv)).put (fun x hx => by cases hx; exact hd) (by
      have := VR.ptr (ι := ι1.set h1.next (.cells r 0 0)) (I := I1) (w := w2) h1.next 0 r 0 0 (by rw [Inj.set_same])
      simpa using this)
  have T : It n ι I h1 w (outH h1 mb) h1.next cm r e clock #[] (put (put ρ (some 50) (.map (some mb))) (some 51) (.ptr h1.next 0)) (ι1.set h1.next (.cells r 0 0)) I1 w2 (a1.put (some 51) (.pointer (some ⟨r, 0, none⟩))) :=
    { A := A2, H := H3, E := E1.trans E3 (fun b hb => hb), it := heap_alloc_new w1 _, mp := by
        show (w1.heap.push _)[cm]? = _
        rw [Array.getElem?_push, if_neg (by omega)]; exact hmp
      born := hborn
      nr := fun j => ⟨fun ho => by
        obtain ⟨b, l, x, _, g2, g3, g4⟩ := hown r j ho
        have := H1.inside b l g2
        have h5 := Loc.has_block g4
        simp only [r] at h5
        omega, fun hi => by have := H1.Iin r j hi; simp only [r] at this; omega⟩
      nc := fun j => ⟨fun ho => by
        obtain ⟨b, l, x, g1, g2, g3, g4⟩ := hown cm j ho
        exact H1.disj b mb l _ x _ cm j g1 g2 hιm g3 hmb g4 rfl, fun hi => H1.imm mb _ _ cm j hιm hmb rfl hi⟩
      new := by have := E1.size; simp only [r]; exact this
      named := by rw [Inj.set_same], key := E3.vr H1 hkey }
  refine ⟨.pointer (some ⟨r, 0, none⟩), w2, _, _, outH h1 mb, _, fun ρ' h' => ρ' = put (put ρ (some 50) (.map (some mb))) (some 51) (.ptr h1.next 0) ∧ h' = outH h1 mb, fun o ho => ?_, T.H, T.A, ⟨rfl, rfl⟩, ?_⟩
  · simp only [execOp, ho, hev, Sem.run_bind, run_range w1 ht hmp, Result.andThen_ok, Sem.run_pure]
    rfl
  rintro ρ' h' a3 w3 ι3 I3 ⟨rfl, rfl⟩ A3 H3 E3
  have T3 := T.next A3 H3 E3
  show cy.wp P _ a3 w3
  obtain ⟨cl, rfl, hl⟩ := cCode_inv hy
  refine wp_block ?_
  obtain ⟨cr, rfl, hr⟩ := cCode_inv hl
  refine wp_loop_rounds 2 ?_
  rw [rounds_succ]
  obtain ⟨c1, c2, rfl, hc1, hc2⟩ := cCode_inv hr
  obtain ⟨c3, c4, rfl, hc3, hc4⟩ := cCode_inv hc2
  refine wp_seq (T3.nxt1 (by simp (decide := true) only [st]) hc1 ?_)
  intro ι4 I4 w4 a4 T4
  refine wp_seq (wp_cond_ar hc3 T4.A (b := true) (by simp (decide := true) only [st]) ?_)
  intro c5 hc5
  obtain rfl := cCode_inv hc5
  refine wp_skip ?_
  obtain ⟨c6, rfl, hc6⟩ := cCode_inv hc4
  refine wp_block ?_
  obtain ⟨c7, c8, rfl, hc7, hc8⟩ := cCode_inv hc6
  refine wp_seq (T4.ent1 (by simp (decide := true) only [st]) hc7 ?_)
  intro ι5 I5 w5 a5 T5
  obtain ⟨e6, ρ6, h6, hb6, rfl, rfl, h51, hρ6⟩ := rest_wp (P := P) (fP := fP) (fC := fC) (tl := tl) (h := outH h1 mb) (ρ := (put (put (put (put (put (put (put ρ (some 50) (.map (some mb))) (some 51) (.ptr h1.next 0)) (some 52) (.tup [.bool true, .undef, .undef])) (some 53) (.bool true)) (some 54) (.tup [.int .u64 1, .undef])) (some 55) (.int .u64 1)) (some 11) (.int .u64 1))) (parent _) (contains _) (by simp (decide := true) only [st, r7]) (by simp (decide := true) only [st])
  refine wp_mono ((big_sound (md := md) hm hb6).wp T5.H T5.A hc8) ?_
  rintro _ a6 w6 ⟨rfl, ι6, I6, A6, H6, E6⟩
  have T6 := T5.next A6 H6 E6
  show Code.rounds P _ _ 1 a6 w6
  rw [rounds_succ]
  refine wp_seq (T6.nxt0 (by rw [h51]; simp (decide := true) only [st]) hc1 ?_)
  intro ι7 I7 w7 a7 T7
  refine wp_seq (wp_cond_ar hc3 T7.A (b := false) (by simp (decide := true) only [st]) ?_)
  intro c9 hc9
  obtain rfl := cCode_inv hc9
  refine wp_exit ?_
  show Post _ _ _ _ _ _ _ _ _ _ _
  refine ⟨rfl, ι7, I7, ⟨T7.A.defers, T7.A.size, fun i => ?_⟩, T7.H, T7.E⟩
  unfold outE
  split
  · exact .undef _
  · rename_i hi
    have hci : chg i = false := by simpa using hi
    have hne : ∀ j, chg j = true → ¬ i = j := fun j hj he => by rw [he, hj] at hci; cases hci
    have := T7.A.get i
    simp only [put_some, if_neg (hne 53 rfl), if_neg (hne 52 rfl), hρ6 i hci, if_neg (hne 11 rfl), if_neg (hne 55 rfl), if_neg (hne 54 rfl), if_neg (hne 51 rfl), if_neg (hne 50 rfl)] at this
    exact this

end
end Go.Proofs.YtjkllffbjeajhaaGreat.Am

/- walk.Reach of the root alone. -/
namespace Go.Proofs.YtjkllffbjeajhaaGreat.Am
open Go
section
variable {P : Program} {T : Tbl}

theorem WP_loop1 {c : RCode} {K : AExit → Env → AHeap → Prop} {ρ : Env} {h : AHeap} (hw : WP P c (thenK (WP P (.loop c) K) K) ρ h) : WP P (.loop c) K ρ h := by
  obtain ⟨e, ρ', h', hb, hk⟩ := hw
  cases e with
  | normal => obtain ⟨e2, ρ2, h2, hb2, hk2⟩ := hk; exact ⟨_, _, _, .loop hb hb2, hk2⟩
  | exit id => exact ⟨_, _, _, .loopX hb (by simp), hk⟩
  | goto l => exact ⟨_, _, _, .loopX hb (by simp), hk⟩
  | ret => exact ⟨_, _, _, .loopX hb (by simp), hk⟩

theorem wp_in1 {body cur rest : RCode} {K : AExit → Env → AHeap → Prop} {ρ : Env} {h : AHeap} (l : Nat) (hf : findLabelR body l = some rest) (hno : ∀ l' ρ h, K (.goto l') ρ h → False)
    (hw : WP P cur (jumpK l (WP P (.inScope body rest) K) K) ρ h) : WP P (.inScope body cur) K ρ h := by
  refine wp_in (hw.mono (fun e ρ h hk => ?_))
  cases e with
  | goto l' =>
    simp only [jumpK, inK] at hk ⊢
    by_cases hl : l' = l
    · subst hl; rw [hf]; simpa using hk
    · rw [if_neg hl] at hk; exact (hno l' ρ h hk).elim
  | normal => exact hk
  | exit id => exact hk
  | ret => exact hk

def rc0 : List RO := [Am.p 2 (.mov (.const (.vs [] .full)))]
def rc1 : List RO := [Am.a 13 (.mkmap), Am.m 3 13]
def rc2 : List RO := [Am.m 14 0, Am.ln 15 14, Am.p 16 (.mov (z 0))]
def rc3 : List RO := [Am.b 17 .lss (t 16) (t 15)]
def rc4 : List RO := [Am.ia 18 13 14 16, Am.la 19 13 18, Am.a 5 (.alloc [(.int .u64 0), (.int .i64 0), (.int .u8 0), (.vs [] .full), (.vs [] .full), (.vs [] .full), (.vs [] .full), (.int .i64 0), (.int .i64 0), (.int .i64 0), (.vs [] .full), (.vs [] .full), (.vs [] .full)]), Am.sn 13 (t 5) (t 19)]
def rc5 (fM : Nat) : List RO := [Am.fa 20 0 5, Am.ld 21 20, Am.c 22 fM [(t 21)], Am.m 23 22, Am.gm 24 23 true 3, Am.gfa 25 23 true 0 5, Am.gld 26 23 true 25, Am.gp 27 23 true (.lookup (.int .i64 0) false (t 24) (t 26)), Am.gb 28 23 true .neq (t 27) (z 1), Am.p 29 (.pick (t 23) (t 28) (kb false))]
def rc6 : List RO := [Am.m 30 3, Am.fa 31 0 5, Am.ld 32 31, Am.fa 33 1 5, Am.ld 34 33, ⟨none, none, (.e (.mapupd (t 30) (t 32) (t 34)))⟩]
def rc7 : List RO := [Am.b 35 .add (t 16) (z 1), Am.m 16 35]
def rc8 : List RO := [Am.p 6 (.mov (.const (.vs [] .full)))]
def rc9 : List RO := [Am.p 7 (.mov (.const (.vs [] .full)))]
def rc10 : List RO := [Am.m 37 3, Am.p 38 (.lookup (.int .i64 0) true (t 37) (u64 1)), Am.m 36 38, Am.ex 39 0 36, Am.ex 40 1 36, Am.m 8 39, Am.m 9 40]
def rc11 : List RO := [Am.m 41 9]
def rc12 : List RO := [Am.p 42 (.bslice 1 [(.int .u64 0)] [(0, (u64 1))]), Am.m 7 42]
def rc13 : List RO := [Am.m 43 7, Am.ln 44 43, Am.b 45 .eql (t 44) (z 0)]
def rc14 : List RO := [Am.m 46 6, Am.m 2 46]
def rc15 : List RO := [Am.m 47 6, Am.m 48 7, Am.e 49 (.append 8 1 (t 47) (t 48)), Am.m 6 49]
def rc16 : List RO := [Am.p 10 (.mov (.const (.vs [] .full)))]
def rc23 (fS : Nat) : List RO := [Am.m 71 10, Am.c 72 fS [(t 71)]]
def rc24 : List RO := [Am.m 73 10, Am.m 7 73]
def rcTail (fP fC fS : Nat) : RCode := (.seq (.seq (.reg rc13) (.cond (t 45) (.seq (.reg rc14) .ret) .skip)) (.seq (.reg rc15) (.seq (.reg rc16) (.seq (rcRng fP fC) (.seq (.reg (rc23 fS)) (.seq (.reg rc24) (.goto 0)))))))
def rcBody (fM fP fC fS : Nat) : RCode := (.seq (.reg rc1) (.seq (.seq (.reg rc2) (.block 0 (.loop (.seq (.reg rc3) (.seq (.cond (t 17) .skip (.exit 0)) (.seq (.block 1 (.seq (.reg rc4) (.seq (.reg (rc5 fM)) (.cond (t 29) (.reg rc6) .skip)))) (.reg rc7))))))) (.seq (.reg rc8) (.seq (.reg rc9) (.seq (.seq (.reg rc10) (.seq (.reg rc11) (.cond (t 41) (.reg rc12) .skip))) (.seq (.label 0) (rcTail fP fC fS)))))))
/-- walk.Reach; fM, fP, fC, fS: name.May, name.Parent, slices.Contains, slices.Sort. -/
def lcReach (fM fP fC fS : Nat) : RFunc := ⟨(.seq (.reg rc0) (.scope (rcBody fM fP fC fS))), 74, [.tmp 2]⟩

theorem WP_skip_seq {c : RCode} {K : AExit → Env → AHeap → Prop} {ρ : Env} {h : AHeap} (hw : WP P (.seq .skip c) K ρ h) : WP P c K ρ h := by
  rw [WP_seq, WP_skip] at hw
  exact hw

theorem tail2 {B : RCode} {fP fC fS : Nat} {ρ : Env} {H h : AHeap} {tk : Tail} (hB : findLabelR B 0 = some (.seq .skip (rcTail fP fC fS))) (r6 : ρ 6 = .vs [[.int .u64 1]] tk) (r7 : ρ 7 = .vs [] .full) (hold : ∀ b, b < h.next → H.get b = h.get b) :
    WP P (.inScope B (.seq .skip (rcTail fP fC fS))) (keepS [.tmp 2] (.vs [[.int .u64 1]] .unk) h) ρ H := by
  refine wp_in1 0 hB (fun l' ρ h hk => hk) ?_
  unfold rcTail
  simp (decide := true) only [st, rc13, rc14, r6, r7, keepS_ret, List.length_nil]
  exact ⟨rfl, hold⟩

theorem tail1 (hm : P.follows .mixedOrders = true) {B : RCode} {fP fC fS mb : Nat} {v : AV} {ρ : Env} {H h : AHeap} (hB : findLabelR B 0 = some (.seq .skip (rcTail fP fC fS))) (parent : ∀ h, ACalls P fP [.int .u64 1] h (.int .u64 0) h)
    (contains : ∀ h, ACalls P fC [.vs [[.int .u64 1]] .full, .int .u64 0] h (.bool false) h) (sort : ∀ h, ACalls P fS [.vs [] .full] h (.tup []) h)
    (r3 : ρ 3 = .map (some mb)) (r6 : ρ 6 = .vs [] .full) (r7 : ρ 7 = .vs [[.int .u64 1]] .full) (hmb : H.get mb = some (.map [(.int .u64 1, v)])) (h1 : h.next ≤ mb) (h2 : mb < H.next) (hold : ∀ b, b < h.next → H.get b = h.get b) :
    WP P (.seq .skip (rcTail fP fC fS)) (jumpK 0 (WP P (.inScope B (.seq .skip (rcTail fP fC fS))) (keepS [.tmp 2] (.vs [[.int .u64 1]] .unk) h)) (keepS [.tmp 2] (.vs [[.int .u64 1]] .unk) h)) ρ H := by
  have ha : appF 8 1 H.next H (.vs [] .full) (some [[.int .u64 1]]) = some (.vs [[.int .u64 1]] (.own H.next), H.at H.next .tail) := by simp [appF, headOk]
  generalize hT : rcTail fP fC fS = TL at hB
  conv => arg 2; rw [← hT]; unfold rcTail
  simp (decide := true) only [st, rc13, rc15, rc16, r6, r7, ha]
  have hmb1 : (H.at H.next .tail).get mb = some (.map [(.int .u64 1, v)]) := by simp [AHeap.at, show ¬ mb = H.next by omega, hmb]
  refine ⟨.normal, _, _, .sem (snd_rng hm parent contains hmb1 ?_ ?_), ?_⟩
  · simp (decide := true) only [st, r3]
  · simp (decide := true) only [st, r7]
  have c10 : chg 10 = false := rfl
  have c6 : chg 6 = false := rfl
  simp (decide := true) only [st, rc23, outE, c10]
  refine execC_by (sort _) ?_
  simp (decide := true) only [st, rc24, outE, c10]
  rw [← hT]
  refine tail2 (tk := .own H.next) (by rw [hB, hT]) (by simp (decide := true) only [st, outE, c6]) (by simp (decide := true) only [st]) (fun b hb => ?_)
  have e1 : ¬ b = mb := by omega
  have e2 : ¬ b = H.next := by omega
  have e3 : ¬ b = H.next + 1 := by omega
  simp [outH, AHeap.at, e1, e2, e3, hold b hb]

theorem reach_root (ok : TblOK P T) {f fM fP fC fS : Nat} (hf : T.fn f = some (lcReach fM fP fC fS)) (may : ∀ h, ACalls P fM [.int .u64 1] h (.bool true) h) (parent : ∀ h, ACalls P fP [.int .u64 1] h (.int .u64 0) h)
    (contains : ∀ h, ACalls P fC [.vs [[.int .u64 1]] .full, .int .u64 0] h (.bool false) h) (sort : ∀ h, ACalls P fS [.vs [] .full] h (.tup []) h)
    {row : List AV} (r0 : row[0]? = some (.int .u64 1)) (r1 : row[1]? = some (.int .i64 1)) (hl : row.length = 13) (hone : row.all AV.one = true) (tl : Tail) (h : AHeap) : ACalls P f [.vs [row] tl] h (.vs [[.int .u64 1]] .unk) h := by
  refine ok.keepsS hf (by simp [lcReach]) rfl ?_
  have hn1 : ¬ h.next = h.next + 1 := by omega
  have hn2 : ¬ h.next + 1 = h.next := by omega
  have l0 : lookupA (.int .u64 1) [] = some none := rfl
  have l1 : lookupA (.int .u64 1) [(.int .u64 1, .int .i64 1)] = some (some (.int .i64 1)) := rfl
  have s0 : mapSet (.int .u64 1) (.int .i64 1) [] = some [(.int .u64 1, .int .i64 1)] := rfl
  have st1 : (AV.int .i64 1).strip = .int .i64 1 := rfl
  have htk : row.take 13 = row := List.take_of_length_le (by omega)
  have hdr : row.drop 13 = [] := List.drop_eq_nil_of_le (by omega)
  have hle : 13 ≤ row.length := by omega
  unfold lcReach
  simp (decide := true) only [st, rc0]
  refine wp_scope' (wp_in1 0 (rest := .seq .skip (rcTail fP fC fS)) (by simp [findLabelR, rcBody]) (fun l' ρ h hk => hk) ?_)
  generalize hB : rcBody fM fP fC fS = B
  conv => arg 2; rw [← hB]; unfold rcBody
  simp (decide := true) only [st, rc1, rc2]
  refine WP_loop1 ?_
  simp (decide := true) only [st, rc3, rc4, hone, htk, hdr, hl, hle, Int.toNat_zero, List.getElem?_cons_zero, List.length_cons, List.length_nil]
  simp (decide := true) only [st, rc5, r0]
  refine execC_by (may _) ?_
  simp (decide := true) only [st, r0, r1, lookupM_some, l0, Option.map_some, wrapM, hn1, hn2]
  simp (decide := true) only [st, rc6, r0, r1, s0, st1, hn1, hn2]

  simp (decide := true) only [st, rc7]
  refine WP_loop1 ?_
  simp (decide := true) only [st, rc3]
  simp (decide := true) only [st, rc8, rc9, rc10, rc11, rc12, lookupM_some, l1, Option.map_some, wrapM, hn1, hn2]
  have hrp : (List.replicate 1 [AV.int IntKind.u64 0]).set 0 [AV.int IntKind.u64 1] = [[.int .u64 1]] := rfl
  rw [hrp]
  refine WP_skip_seq (tail1 ok.follow (mb := h.next) (v := .int .i64 1) (by rw [← hB]; simp [findLabelR, rcBody]) parent contains sort (by simp (decide := true) only [st]) (by simp (decide := true) only [st]) (by simp (decide := true) only [st]) ?_ (Nat.le_refl _) ?_ (fun b hb => ?_))
  · simp [AHeap.set, AHeap.at]
  · simp (decide := true) only [st]
    omega
  · have e1 : ¬ b = h.next := by omega
    have e2 : ¬ b = h.next + 1 := by omega
    simp [AHeap.set, AHeap.at, e1, e2]

/-- walk.Reach of the root alone, for the evaluator. -/
def reachN (args : List AV) (H : CH) : Option (AV × CH) :=
  match args with
  | [x] => match x with
    | .vs l _ => match l with
      | [row] => match row with
        | .int .u64 n :: .int .i64 k :: rest => match n == 1 && k == 1 && Nat.beq rest.length 11 && rest.all AV.one with
          | true => some (.vs [[.int .u64 1]] .unk, H)
          | false => none
        | _ => none
      | _ => none
    | _ => none
  | _ => none

theorem reachN_ok (ok : TblOK P T) {f fM fP fC fS : Nat} (hf : T.fn f = some (lcReach fM fP fC fS)) (may : ∀ h, ACalls P fM [.int .u64 1] h (.bool true) h) (parent : ∀ h, ACalls P fP [.int .u64 1] h (.int .u64 0) h)
    (contains : ∀ h, ACalls P fC [.vs [[.int .u64 1]] .full, .int .u64 0] h (.bool false) h) (sort : ∀ h, ACalls P fS [.vs [] .full] h (.tup []) h)
    (args : List AV) (H : CH) (v : AV) (H' : CH) (he : reachN args H = some (v, H')) : ACalls P f args H.den v H'.den := by
  unfold reachN at he
  split at he
  · split at he
    · split at he
      · split at he
        · split at he
          · rename_i hb
            cases he
            simp only [Bool.and_eq_true, beq_iff_eq, Nat.beq_eq] at hb
            obtain ⟨⟨⟨rfl, rfl⟩, hl⟩, hone⟩ := hb
            exact reach_root ok hf may parent contains sort rfl rfl (by simp [hl]) (by simpa [AV.one] using hone) _ _
          · cases he
        · cases he
      · cases he
    · cases he
  · cases he

/-- A call that names no block, by the evaluator. -/
theorem acalls_eval {tb : Tbl} (ok : TblOK P tb) {fuel f : Nat} {args : List AV} {r : AV} (h : callOf tb (runK tb fuel) f args ⟨.leaf, 0⟩ (fun v _ => some v) = some r) (ha : AV.allL (fun _ => false) args = true) (hr : r.allR (fun _ => false) = true) (h : AHeap) :
    ACalls P f args h r h := by
  obtain ⟨v, H', hc, hv⟩ := eval_calls ok ‹_›
  cases hv
  exact ACalls.frame hc ha hr h

end
end Go.Proofs.YtjkllffbjeajhaaGreat.Am

/- What contracts of functions on values want again and again: heaps that keep what was there, slices that are appended to, bytes. -/
namespace Go.Proofs.YtjkllffbjeajhaaGreat.Am
open Go
section
variable {P : Program} {T : Tbl}

/-- What was there is as it was. -/
structure Old (h0 h : AHeap) : Prop where
  next : h0.next ≤ h.next
  get : ∀ b, b < h0.next → h.get b = h0.get b
theorem Old.refl (h : AHeap) : Old h h := ⟨Nat.le_refl _, fun _ _ => rfl⟩
theorem Old.trans {h0 h1 h2 : AHeap} (a : Old h0 h1) (b : Old h1 h2) : Old h0 h2 := ⟨Nat.le_trans a.next b.next, fun x hx => by rw [b.get x (Nat.lt_of_lt_of_le hx a.next), a.get x hx]⟩
theorem Old.at {h0 h : AHeap} (o : Old h0 h) {id : Nat} {x : Blk} (hi : h0.next ≤ id) : Old h0 (h.at id x) := by
  refine ⟨Nat.le_trans o.next (by simp [AHeap.at]; omega), fun b hb => ?_⟩
  have : ¬ b = id := by omega
  simp [AHeap.at, this, o.get b hb]
theorem Old.set {h0 h : AHeap} (o : Old h0 h) {id : Nat} {x : Option Blk} (hi : h0.next ≤ id) : Old h0 (h.set id x) := by
  refine ⟨o.next, fun b hb => ?_⟩
  have : ¬ b = id := by omega
  simp [AHeap.set, this, o.get b hb]
theorem Old.clean {h0 h : AHeap} (o : Old h0 h) {n : Nat} : Old h0 (h.clean n) := by
  refine ⟨Nat.le_trans o.next (by simp [AHeap.clean]), fun b hb => ?_⟩
  have : b < h.next := Nat.lt_of_lt_of_le hb o.next
  simp [AHeap.clean, this, o.get b hb]

/-- A slice that may be appended to. -/
def App (h0 h : AHeap) (v : AV) (rows : List (List AV)) : Prop := ∃ t, v = .vs rows t ∧ (t = .full ∨ ∃ k, t = .own k ∧ h0.next ≤ k ∧ k < h.next ∧ h.get k = some .tail)
theorem App.nil (h0 h : AHeap) : App h0 h (.vs [] .full) [] := ⟨_, rfl, .inl rfl⟩

/-- The heap moves on, the room behind the slice stays. -/
theorem App.to {h0 h h' : AHeap} {v : AV} {rows : List (List AV)} (a : App h0 h v rows) (hn : h.next ≤ h'.next) (hk : ∀ k, h0.next ≤ k → k < h.next → h.get k = some .tail → h'.get k = some .tail) : App h0 h' v rows := by
  obtain ⟨t, rfl, rfl | ⟨k, rfl, h1, h2, h3⟩⟩ := a
  · exact ⟨_, rfl, .inl rfl⟩
  · exact ⟨_, rfl, .inr ⟨k, rfl, h1, by omega, hk k h1 h2 h3⟩⟩
theorem App.old {h0 h h' : AHeap} {v : AV} {rows : List (List AV)} (a : App h0 h v rows) (o : Old h h') : App h0 h' v rows := a.to o.next (fun k _ h2 h3 => by rw [o.get k h2]; exact h3)

/-- An append. -/
theorem App.app {h0 h : AHeap} {v : AV} {rows : List (List AV)} (a : App h0 h v rows) (o : Old h0 h) {bytes sz id : Nat} (hid : h0.next ≤ id) (ys : List (List AV)) (hh : headOk sz rows = true) (h1 : (rows.length + ys.length) * bytes < 2 ^ 40) (h2 : rows.length + ys.length < 2 ^ 40) :
    ∃ v' h', appF bytes sz id h v (some ys) = some (v', h') ∧ App h0 h' v' (rows ++ ys) ∧ Old h0 h' ∧ h.next ≤ h'.next ∧ h'.next ≤ max h.next (id + 1) ∧ (∀ b, b ≠ id → h.get b ≠ some .tail → h'.get b = h.get b) ∧ (∀ b, b ≠ id → h.get b = none → h'.get b = none) := by
  obtain ⟨t, rfl, ht⟩ := a
  by_cases hy : ys = []
  · subst hy
    exact ⟨.vs rows t, h, by simp [appF], ⟨t, by simp, ht⟩, o, Nat.le_refl _, by omega, fun _ _ _ => rfl, fun _ _ h => h⟩
  · rcases ht with rfl | ⟨k, rfl, q1, q2, q3⟩
    · refine ⟨.vs (rows ++ ys) (.own id), h.at id .tail, by simp only [appF]; rw [if_neg hy, if_pos ⟨hh, h1, h2⟩], ⟨_, rfl, .inr ⟨id, rfl, hid, by simp [AHeap.at]; omega, by simp [AHeap.at]⟩⟩, o.at hid, by simp [AHeap.at]; omega, by simp [AHeap.at], fun b hb _ => by simp [AHeap.at, hb], fun b hb hn => by simp [AHeap.at, hb, hn]⟩
    · refine ⟨.vs (rows ++ ys) (.own id), (h.set k none).at id .tail, by simp only [appF]; rw [if_neg hy, if_pos ⟨hh, h1, h2⟩]; simp only [q3], ⟨_, rfl, .inr ⟨id, rfl, hid, by simp [AHeap.at]; omega, by simp [AHeap.at]⟩⟩, (o.set q1).at hid, by simp [AHeap.at, AHeap.set]; omega, by simp [AHeap.at, AHeap.set], fun b hb hn => ?_, fun b hb hn => ?_⟩
      · have : ¬ b = k := fun e => hn (by rw [e]; exact q3)
        simp [AHeap.at, AHeap.set, hb, this]
      · by_cases hbk : b = k
        · subst hbk; simp [AHeap.at, AHeap.set, hb]
        · simp [AHeap.at, AHeap.set, hb, hbk, hn]

/-- In a region whose order is drawn: what comes next is free. -/
theorem App.appD {h0 h : AHeap} {v : AV} {rows : List (List AV)} (a : App h0 h v rows) (o : Old h0 h) {bytes sz base n i : Nat} (hb : h0.next ≤ base) (hf : ∀ j, j < n → h.get (base + j) = none ∨ j ≤ i) (ys : List (List AV)) (hh : headOk sz rows = true) (h1 : (rows.length + ys.length) * bytes < 2 ^ 40) (h2 : rows.length + ys.length < 2 ^ 40) :
    ∃ v' h', appF bytes sz (base + i) h v (some ys) = some (v', h') ∧ App h0 h' v' (rows ++ ys) ∧ Old h0 h' ∧ h.next ≤ h'.next ∧ freeD n base i h' := by
  obtain ⟨v', h', e1, e2, e3, e4, e5, e6, e7⟩ := a.app o (id := base + i) (by omega) ys hh h1 h2
  refine ⟨v', h', e1, e2, e3, e4, fun j hj hn => ?_⟩
  rcases hf j hn with hg | hg
  · exact e7 _ (by omega) hg
  · omega

/-- Bytes. -/
def BS (l : List UInt8) : List (List AV) := l.map fun b => [.int .u8 b.toNat]
theorem BS_len {l : List UInt8} : (BS l).length = l.length := by simp [BS]
theorem BS_get {l : List UInt8} {i : Nat} : (BS l)[i]? = (l[i]?).map fun b => [.int .u8 b.toNat] := by simp [BS]
theorem BS_drop {l : List UInt8} {n : Nat} : (BS l).drop n = BS (l.drop n) := by simp [BS]
theorem BS_take {l : List UInt8} {n : Nat} : (BS l).take n = BS (l.take n) := by simp [BS]
theorem BS_app {l m : List UInt8} : BS l ++ BS m = BS (l ++ m) := by simp [BS]
theorem BS_head {l : List UInt8} : headOk 1 (BS l) = true := by cases l <;> rfl
theorem BS_rows {l : List UInt8} {t : Tail} {h : AHeap} : rowsA 1 h (.vs (BS l) t) = some (BS l) := by simp [rowsA, BS_head]
theorem BS_bytes : ∀ {l : List UInt8}, bytesRows (BS l) = some l
  | [] => rfl
  | b :: l => by
    have ih := BS_bytes (l := l)
    simp only [BS, List.map_cons] at ih ⊢
    simp [bytesRows, byteOf, ih]
theorem BS_all {l : List UInt8} : (BS l).all (fun r => r.length == 1) = true := by simp [BS]
theorem BS_inj {l m : List UInt8} (h : BS l = BS m) : l = m := by
  have h2 : bytesRows (BS l) = bytesRows (BS m) := by rw [h]
  rw [BS_bytes, BS_bytes] at h2
  exact Option.some.inj h2

theorem stripL_ints {k : IntKind} : ∀ {l : List Int}, AV.stripLL (l.map fun n => [AV.int k n]) = l.map fun n => [AV.int k n]
  | [] => rfl
  | n :: l => by simp only [List.map_cons, AV.stripLL, AV.stripL, AV.strip, stripL_ints (l := l)]
theorem BS_strip : ∀ {l : List UInt8}, AV.stripLL (BS l) = BS l
  | [] => rfl
  | b :: l => by
    have ih := BS_strip (l := l)
    simp only [BS, List.map_cons, AV.stripLL, AV.stripL, AV.strip] at ih ⊢
    rw [ih]
theorem BS_allR {p : Nat → Bool} : ∀ {l : List UInt8}, AV.allLL p (BS l) = true
  | [] => rfl
  | b :: l => by
    have ih := BS_allR (p := p) (l := l)
    simp only [BS, List.map_cons, AV.allLL, AV.allL, AV.allR, Bool.and_true, Bool.true_and] at ih ⊢
    exact ih

/-- Clone of bytes. -/
theorem cloneB (ok : TblOK P T) {f : Nat} {z : List AV} (hf : T.fn f = some (lcClone z 1 1)) {l : List UInt8} {t : Tail} {h : AHeap} (hl : l.length < 2 ^ 40) : ACalls P f [.vs (BS l) t] h (.vs (BS l) .unk) h := by
  cases l with
  | nil => exact (clone_empty ok hf (t := t)).strip
  | cons b l =>
    have := (clone_rows ok hf (x := .vs (BS (b :: l)) t) (h := h) (rows := BS (b :: l)) rfl BS_rows (by simp [BS]) (by simpa [BS_len] using hl) (by simpa [BS_len] using hl)).strip
    have h2 : (AV.vs (BS (b :: l)) (.own h.next)).strip = .vs (BS (b :: l)) .unk := by simp only [AV.strip, BS_strip]
    rw [h2] at this
    exact this.restore (fun x hx => by simp [AHeap.at]; omega) (by simp only [AV.allR, BS_allR]; rfl)

theorem WP_regD1n' {ros : List RO} {un : List (List Nat)} {K : AExit → Env → AHeap → Prop} {ρ : Env} {h : AHeap} (hu : un.all (·.isEmpty) = true) (he : execD0 P ros.length h.next ros 0 ρ (h.clean ros.length) (K .normal)) : WP P (.regD ros un) K ρ h := WP_regD0 hu he

theorem ba_loop (bs : ByteArray) : ∀ (n i : Nat) (r : List UInt8), bs.size - i = n → ByteArray.toList.loop bs i r = r.reverse ++ bs.data.toList.drop i
  | 0, i, r, h => by
    rw [ByteArray.toList.loop.eq_def, if_neg (by omega)]
    have : bs.data.toList.length ≤ i := by show bs.size ≤ i; omega
    rw [List.drop_eq_nil_of_le this, List.append_nil]
  | n + 1, i, r, h => by
    rw [ByteArray.toList.loop.eq_def, if_pos (by omega), ba_loop bs n (i + 1) _ (by omega)]
    have hi : i < bs.data.toList.length := by show i < bs.size; omega
    have hg : bs.get! i = bs.data.toList[i] := by
      have hi2 : i < bs.data.size := hi
      show bs.data[i]! = _
      rw [getElem!_pos bs.data i hi2, Array.getElem_toList]
    rw [List.reverse_cons, List.append_assoc, List.singleton_append, hg, ← List.drop_eq_getElem_cons hi]
theorem ba_toList {l : List UInt8} : (ByteArray.mk l.toArray).toList = l := by
  show ByteArray.toList.loop _ 0 [] = l
  rw [ba_loop _ _ 0 [] rfl]
  simp
theorem str_eq {l m : List UInt8} : ((ByteArray.mk l.toArray).toList == (ByteArray.mk m.toArray).toList) = (l == m) := by rw [ba_toList, ba_toList]

theorem abin_str {l m : List UInt8} : abin false .eql (.str ⟨l.toArray⟩) (.str ⟨m.toArray⟩) = some (.bool (l == m)) := by simp only [abin, str_eq]
theorem abin_strn {l m : List UInt8} : abin false .neq (.str ⟨l.toArray⟩) (.str ⟨m.toArray⟩) = some (.bool (!(l == m))) := by simp only [abin, str_eq]

/-- A byte of a number. -/
def u8w (n : Int) : UInt8 := UInt8.ofNat (n % 256).toNat
theorem wrap_u8 {n : Int} : IntKind.wrap .u8 n = ((u8w n).toNat : Int) := by
  have h1 : IntKind.wrap .u8 n = n % 256 := by simp [IntKind.wrap, IntKind.signed, IntKind.bits]
  rw [h1, u8w, UInt8.toNat_ofNat']
  omega

/-- Through a part of the code: what is known behind it. -/
theorem wp_cut {c : RCode} {K : AExit → Env → AHeap → Prop} {ρ : Env} {h : AHeap} (Q : Env → AHeap → Prop) (hw : WP P c (fun e ρ' h' => e = .normal ∧ Q ρ' h') ρ h) (hk : ∀ ρ' h', Q ρ' h' → K .normal ρ' h') : WP P c K ρ h :=
  hw.mono (fun e ρ' h' ⟨e1, e2⟩ => by subst e1; exact hk ρ' h' e2)

theorem ints_BS : ∀ {l : List Int}, (∀ n ∈ l, (Lit.int .u8 n).wf = true) → ∃ bs : List UInt8, (l.map fun n => [AV.int .u8 n]) = BS bs
  | [], _ => ⟨[], rfl⟩
  | n :: l, h => by
    obtain ⟨bs, hbs⟩ := ints_BS (l := l) (fun x hx => h x (List.mem_cons_of_mem _ hx))
    have hw := wf_u8 (h n (by simp))
    refine ⟨UInt8.ofNat n.toNat :: bs, ?_⟩
    simp only [List.map_cons, hbs, BS, List.cons.injEq, and_true]
    rw [UInt8.toNat_ofNat']
    have : ((n.toNat % 2 ^ 8 : Nat) : Int) = n := by omega
    rw [this]

end
end Go.Proofs.YtjkllffbjeajhaaGreat.Am
