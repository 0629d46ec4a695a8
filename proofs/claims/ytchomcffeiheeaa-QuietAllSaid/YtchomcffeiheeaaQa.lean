/- QuietAll comes to true for every input, and turns nothing that was there. Conditions: none. -/
import Derived.Test.YtchomcffeiheeaaQuiet
import Derived.Test.YtchomcffeiheeaaAmE
import Derived.Deep.Slices
set_option maxRecDepth 100000
set_option linter.unusedSimpArgs false
set_option linter.unusedVariables false
namespace Go.Proofs.Ytchomcffeiheeaa
open Go.Deep Go.ChangeShapes Go.WideShapes Go.ChangeAt Go.RowKit
open Go.Proofs.Ytchomcffeiheeaa.Am Go.Proofs.Ytchomcffeiheeaa.Code

theorem Try.own : ownKnob Try.prog.godebug = none := by kernel_rfl
theorem Try.laidOut : laidOutB Try.prog = true := by kernel_rfl
theorem follow : Try.prog.follows .mixedOrders = true := by kernel_rfl

def beganK (v : AV) (H : CH) : Option Unit := match v with
  | .bool true => some ()
  | _ => none

theorem beganK_eq {v : AV} {H : CH} (h : beganK v H = some ()) : v = .bool true := by
  unfold beganK at h
  split at h
  · rfl
  · cases h

theorem begun25_run : callOf tb (runK tb 400) 14 [] ⟨.leaf, 0⟩ beganK = some () := by kernel_rfl

theorem begun25 (h : AHeap) : ACalls Try.prog 14 [] h (.bool true) h := by
  obtain ⟨v, H', h1, h2⟩ := eval_calls tb_ok begun25_run
  obtain rfl := beganK_eq h2
  exact h1.frame rfl rfl h

theorem left_calls (h : AHeap) (row : List AV) (t : Th) (hx : ThRow row t) (h0 : 0 ≤ t.dn) (h1 : t.n ≤ 1000) : ACalls Try.prog 36 [.agg row] h (.int .i64 (leftOf t)) h :=
  acalls_keep follow Try.func36 c36_ok (Nat.le_of_ble_eq_true rfl) rfl (left_wp hx h0 h1 h)

theorem quietCalls : QuietCalls Try.prog where
  begun := begun25
  quiet t h hx hl := acalls_of_wp follow Try.func15 c15_ok (Nat.le_of_ble_eq_true rfl) (quiet_wp hx hl t h)
  refQuiet t h hx hl := acalls_keep follow Try.func16 c16_ok (Nat.le_of_ble_eq_true rfl) rfl (refQuiet_wp hx hl t h)
  left t h hx hl hf := acalls_keep follow Try.func17 c17_ok (Nat.le_of_ble_eq_true rfl) rfl (Left_wp hx hl hf t h left_calls)
  refLeft t h hx hl hf := acalls_keep follow Try.func18 c18_ok (Nat.le_of_ble_eq_true rfl) rfl (refLeft_wp hx hl hf t h)

/-- The cells that are there. -/
def There (w : World) : Imm := fun k _ => k < w.heap.size

section
variable {H : Type} {enc : TypeId × Value → H} {w : World} {P : Program}

theorem trod_int {base : Nat} {sp : Nat → Bool} {held : Bool} {fuel : Nat} {t : TypeId} {k : IntKind} {cs : List Value} {x : DataW H × List MemPlace} (hu : P.underlying t = some (.int k)) (h : DataW.trod enc P w base sp held fuel t cs = some x) :
    ∃ n, cs = [.int k n] ∧ (Lit.int k n).wf = true := by
  cases fuel with
  | zero => simp [DataW.trod] at h
  | succ n =>
    unfold DataW.trod at h
    rw [hu] at h
    split at h <;> simp_all

theorem take_one {cs : List Value} {o : Nat} {v : Value} (h : (cs.drop o).take 1 = [v]) : cs[o]? = some v := by
  have : ((cs.drop o).take 1)[0]? = some v := by rw [h]; rfl
  rw [List.getElem?_take_of_lt (by omega), List.getElem?_drop] at this
  simpa using this

theorem cell_block {b off : Nat} {v : Value} (h : w.cell? ⟨b, off, none⟩ = some v) : b < w.heap.size := by
  apply Classical.byContradiction
  intro hn
  have : w.heap[b]? = none := by simp; omega
  simp [World.cell?, this] at h

theorem Try.lay : layB Try.prog = true := by kernel_rfl
theorem cells32 : Try.prog.cellsOf 32 = 12 := by kernel_rfl
theorem cells3 : Try.prog.cellsOf 3 = 1 := by kernel_rfl

def mkRow (t : Th) : List AV := [.any1, .any1, .any1, .any1, .any1, .any1, .int .i64 t.does, .any1, .any1, .int .i64 t.dn, .int .i64 t.n, .any1]

theorem mkRow_ok (t : Th) : ThRow (mkRow t) t := ⟨rfl, rfl, rfl, rfl, List.all_eq_true.1 (by simp [mkRow, AV.one])⟩

theorem rows_ok (f : Nat → Th) (len : Nat) : ThRows ((List.range len).map fun i => mkRow (f i)) ((List.range len).map f) := by
  refine ⟨by simp, fun i t h => ?_⟩
  have hi : i < len := by have := (List.getElem?_eq_some_iff.1 h).1; simpa using this
  simp [List.getElem?_map, List.getElem?_range hi] at h
  subst h
  exact ⟨mkRow (f i), by simp [List.getElem?_map, List.getElem?_range hi], mkRow_ok _⟩

/-- A slice of threads, as it is handed in. -/
theorem threads_open {fuel : Nat} {v : Value} {x : DataW H × List MemPlace} (hok : Value.okWide Try.prog w .any 0 22 v) (h : DataW.trod enc Try.prog w 0 (fun _ => true) true fuel 22 v.cells.toList = some x) :
    ∃ xs ts, ThRows xs ts ∧ ts.length < 2 ^ 63 ∧ VR (fun _ => none) (There w) w (.vs xs .unk) v := by
  cases v <;> simp [Value.okWide, Try.underlying22, Cell.okWide, Cell.ok] at hok
  rename_i base len cap
  cases base with
  | none =>
    rcases open_slice Try.underlying22 h with ⟨h0, _⟩ | ⟨a, l, c, m, n, D, Pl, h0, _⟩
    · simp [Value.cells] at h0
      obtain ⟨rfl, rfl⟩ := h0
      exact ⟨[], [], ⟨rfl, fun i t h => by simp at h⟩, by simp, .vsNil _ (.inl rfl)⟩
    · simp [Value.cells] at h0
  | some a0 =>
    rcases open_slice Try.underlying22 h with ⟨h0, _⟩ | ⟨a, l, c, m, n, D, Pl, h0, _, hlc, hcm, hm, _, hel⟩
    · simp [Value.cells] at h0
    · simp [Value.cells] at h0
      obtain ⟨rfl, rfl, rfl⟩ := h0
      have hspot : a0.spot = none := by
        obtain ⟨_, _, _, hs, _⟩ := hok
        exact hs
      obtain ⟨cb, o, sp⟩ := a0
      simp only at hspot
      subst hspot
      simp only [if_true] at hm
      rw [cells32] at hel
      have key : ∀ i, ∃ t : Th, i < len → (∀ j, j < 12 → ∃ u, w.cell? ⟨cb, o + i * 12 + j, none⟩ = some u ∧ u.oneCell' = true) ∧
          w.cell? ⟨cb, o + i * 12 + 6, none⟩ = some (.int .i64 t.does) ∧ w.cell? ⟨cb, o + i * 12 + 9, none⟩ = some (.int .i64 t.dn) ∧ w.cell? ⟨cb, o + i * 12 + 10, none⟩ = some (.int .i64 t.n) := by
        intro i
        by_cases hi : i < len
        · obtain ⟨cs', h1, h2⟩ := hel i (by omega)
          obtain ⟨_, hl, hc⟩ := World.cells?_some h1
          obtain ⟨xs, n', _, _, _, hxl, hf⟩ := DataW.trod_struct Try.underlying32 h2
          have hxl' : xs.length = 9 := hxl
          have fld : ∀ (k off : Nat) (fd : Field), k < 9 → fd.type = 3 → fd.offset = off → (DataW.trod enc Try.prog w 0 (fun _ => true) true n' fd.type ((cs'.drop fd.offset).take (Try.prog.cellsOf fd.type)) = xs[k]?) → ∃ m, cs'[off]? = some (.int .i64 m) := by
            intro k off fd hk ht ho hq
            rw [ht, ho, cells3, List.getElem?_eq_getElem (by omega)] at hq
            obtain ⟨m, hm, _⟩ := trod_int Try.underlying3 hq
            exact ⟨m, take_one hm⟩
          obtain ⟨d, hd⟩ := fld 3 6 _ (by omega) rfl rfl (hf 3 _ rfl)
          obtain ⟨dn, hdn⟩ := fld 6 9 _ (by omega) rfl rfl (hf 6 _ rfl)
          obtain ⟨nn, hnn⟩ := fld 7 10 _ (by omega) rfl rfl (hf 7 _ rfl)
          have hcell : ∀ j, j < 12 → w.cell? ⟨cb, o + i * 12 + j, none⟩ = cs'[j]? := fun j hj => by
            have := hc j hj
            rw [Addr.add_mid, Addr.add_mid] at this
            exact this
          refine ⟨⟨d, dn, nn⟩, fun _ => ⟨fun j hj => ?_, ?_, ?_, ?_⟩⟩
          · rw [hcell j hj, List.getElem?_eq_getElem (by omega)]
            exact ⟨_, rfl, trod_one Try.lay (of_decide_eq_true (by kernel_rfl)) h2 _ (List.getElem_mem _)⟩
          · rw [hcell 6 (by omega)]; exact hd
          · rw [hcell 9 (by omega)]; exact hdn
          · rw [hcell 10 (by omega)]; exact hnn
        · exact ⟨⟨0, 0, 0⟩, fun h => absurd h hi⟩
      obtain ⟨f, hf⟩ := Classical.skolem.1 key
      refine ⟨_, _, rows_ok f len, by unfold maxLen at hcm; simp; omega, ?_⟩
      have hxl : ((List.range len).map fun i => mkRow (f i)).length = len := by simp
      have hrow : ∀ (i : Nat) (row : List AV), ((List.range len).map fun i => mkRow (f i))[i]? = some row → i < len ∧ row = mkRow (f i) := by
        intro i row hi
        have hlt : i < len := by have := (List.getElem?_eq_some_iff.1 hi).1; simpa using this
        simp [List.getElem?_map, List.getElem?_range hlt] at hi
        exact ⟨hlt, hi.symm⟩
      have := VR.vs (ι := fun _ => none) (I := There w) (w := w) ((List.range len).map fun i => mkRow (f i)) .unk cb o 12 cap (fun i j => (w.cell? ⟨cb, o + i * 12 + j, none⟩).getD undef)
        (fun i row hi => by rw [(hrow i row hi).2]; rfl)
        (fun i j hi hj => by
          obtain ⟨u, hu, _⟩ := (hf i (by simpa using hi)).1 j hj
          exact cell_block hu)
        (fun i j hi hj => by
          obtain ⟨u, hu, _⟩ := (hf i (by simpa using hi)).1 j hj
          simp [hu])
        (fun i row j v hi hj => by
          obtain ⟨hlt, rfl⟩ := hrow i row hi
          obtain ⟨h1, h2, h3, h4⟩ := hf i hlt
          have hj12 : j < 12 := by have := (List.getElem?_eq_some_iff.1 hj).1; simpa [mkRow] using this
          rcases j with _ | _ | _ | _ | _ | _ | _ | _ | _ | _ | _ | _ | j <;> simp [mkRow] at hj <;> (try subst hj) <;> first
            | (obtain ⟨u, hu, ho⟩ := h1 _ hj12; simp only [hu, Option.getD_some]; exact .any1 _ ho)
            | (simp only [h2, Option.getD_some]; exact .int _ _)
            | (simp only [h3, Option.getD_some]; exact .int _ _)
            | (simp only [h4, Option.getD_some]; exact .int _ _))
        (fun row hr v hv => by
          obtain ⟨i, hi⟩ := List.mem_iff_getElem?.1 hr
          obtain ⟨_, rfl⟩ := hrow i row hi
          exact (mkRow_ok (f i)).2.2.2.2 v hv)
        (by rw [hxl]; exact hlc) trivial
      rw [hxl] at this
      exact this

end

theorem quietAll_calls {w : World} {xs : List (List AV)} {ts : List Th} (hx : ThRows xs ts) (hl : ts.length < 2 ^ 63) {v : Value} (hv : VR (fun _ => none) (There w) w (.vs xs .unk) v) :
    Calls Try.prog 3 #[v] w fun e w' => e = .returned (.bool true) ∧ Kept w w' :=
  calls_true (acalls_keep follow Try.func3 c3_ok (Nat.le_of_ble_eq_true rfl) rfl (quietAll_wp quietCalls hx hl .unk AHeap.empty)) (I := There w) (fun k j h => h)
    ⟨rfl, fun i a c h1 h2 => by
      cases i with
      | zero => simp at h1 h2; subst h1; subst h2; exact hv
      | succ i => simp at h1⟩

theorem Kept_same {w w' : World} (h : Kept w w') {p : MemPlace} (hp : p.block < w.heap.size) : w.sameAt w' p := by
  cases p with
  | cell b off =>
    have := h.2.2.2 b hp
    simp only [World.sameAt, World.cell?, this]
  | map b => exact h.2.2.2 b hp

theorem quietAll_lifted (os : Os) (started : os.Started) (H : Type) (enc : TypeId × Value → H) :
    ReturnsInHanded {} Try.checked os 3 .any (Rows.quietAllSpec.pre6 enc Try.prog Try.f3 Rows.quietAllRow.domain false) (Rows.quietAllSpec.post enc Try.prog Try.f3 false true false false) := by
  refine returnsInHanded_of_change (C := Try.checked) Try.own started (by kernel_rfl) Try.func3
    (ChangeSpec.witness6 (enc := enc) (C := Try.checked) false ⟨#[], #[.slice none 0 0], []⟩ 8 (by kernel_rfl) (by kernel_rfl) (by kernel_rfl) (by kernel_rfl)) ?_
  intro W base args ds gs before hval0 hW hcnd _
  have hval : ∀ (j : Nat) t v, Try.f3.params[j]? = some t → args[j]? = some v → Value.okWide Try.prog W .any base t v := hval0
  have hW' := hW
  obtain ⟨p, q, hA0, hV, rfl, hfz, hnd⟩ := hW
  have hlt : ∀ x ∈ p ++ q, x.block < W.heap.size := fun x hx => hW'.lt x hx
  have hA : DataW.TrodAll enc Try.prog W 0 (fun _ => true) true Try.f3.params.toList args.toList ds p := hA0
  rw [Try.params3] at hA hval
  obtain ⟨v0, d0, rfl, rfl, h0⟩ := trodAll_one hA
  obtain ⟨rfl, rfl⟩ := trodVars_none hV
  simp only [List.append_nil] at hW' hlt
  obtain ⟨n0, hn0⟩ := h0
  obtain ⟨xs, ts, hx, hl, hv⟩ := threads_open (hval 0 22 v0 rfl rfl) hn0
  refine (quietAll_calls hx hl hv).mono fun e W' ⟨he, hk⟩ => ?_
  subst he
  exact ⟨_, rfl, post_of_kept (pa := p) (pv := []) hW' (fun _ _ _ => trodAll_mk1 (trod_bool (P := Try.prog) Try.underlying4 true))
    (fun sp hsp => trodAll_mk1 (WideElems.Trod_stays (P := Try.prog) Try.laidOut (by kernel_rfl) (of_decide_eq_true (by kernel_rfl)) ⟨n0, hn0⟩ (fun x hx => Kept_same hk (hlt x hx)) (fun x hx => hsp x hx)))
    (fun _ _ => rfl) (by simp) hk
    (ok_one (by kernel_rfl) rfl (okWide_bool (P := Try.prog) Try.underlying4 true))⟩

theorem quietAll_holds : Rows.QuietAllSaid :=
  OpenClaim.holds_of_wide 3 Try.f3 rfl rfl rfl rfl rfl rfl rfl ⟨rfl, rfl, rfl, rfl, rfl⟩ rfl rfl rfl rfl rfl (by kernel_rfl) Try.func3 (by kernel_rfl)
    (of_decide_eq_true (by kernel_rfl)) (by unfold Func.isWrapper; first | (rw [if_pos (by decide +kernel)]; kernel_rfl) | (rw [if_neg (by decide +kernel)]; exact ⟨rfl, rfl⟩))
    (fun os started H enc _ => quietAll_lifted os started H enc)

end Go.Proofs.Ytchomcffeiheeaa
