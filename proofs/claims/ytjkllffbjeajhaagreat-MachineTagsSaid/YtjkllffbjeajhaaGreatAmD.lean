/- Regions in any order, code, functions, an evaluator; what is worked out is what the program does. Conditions: none. -/
import Derived.Test.YtjkllffbjeajhaaGreatAmC
import Derived.LoopN
import Derived.ProofKit
set_option linter.unusedSimpArgs false
set_option linter.unusedVariables false
set_option linter.unnecessarySimpa false
namespace Go.Proofs.YtjkllffbjeajhaaGreat.Am
open Go

section
variable {P : Program} {md : Mode}

theorem Ext.step {N0 N : Nat → Prop} {ι0 ι ι' : Inj} {I0 I I' : Imm} {h0 H G G' H' : AHeap} {w0 w w' : World} (E : Ext N0 ι0 I0 h0 w0 ι I H w) (F : Ext N ι I G w ι' I' G' w')
    (hN : ∀ b, N b → N0 b) (hsub : ∀ b l x, ι b = some l → G.get b = some x → ∃ y, H.get b = some y)
    (hown : ∀ b l x, ι' b = some l → H'.get b = some x → (∃ y, G'.get b = some y) ∨ (ι b = some l ∧ ∃ y, H.get b = some y))
    (hnext : H.next ≤ H'.next) (hlost : ∀ b, ¬ N0 b → ι0 b = none → H'.get b = h0.get b) : Ext N0 ι0 I0 h0 w0 ι' I' H' w' := by
  have hOG : ∀ k j, Owned ι G k j → Owned ι0 h0 k j ∨ w0.heap.size ≤ k := by
    rintro k j ⟨b, l, x, hb, hg, hl⟩
    obtain ⟨y, hy⟩ := hsub b l x hb hg
    exact E.own k j ⟨b, l, y, hb, hy, hl⟩
  exact
  { keep := fun b hb => (F.keep b (fun h => hb (hN b h))).trans (E.keep b hb)
    more := fun b l h => F.more b l (E.more b l h)
    next := Nat.le_trans E.next hnext
    imm := fun k j h => F.imm k j (E.imm k j h)
    os := F.os.trans E.os
    tape := F.tape.trans E.tape
    output := F.output.trans E.output
    size := Nat.le_trans E.size F.size
    block := fun k hk ho => (F.block k (Nat.lt_of_lt_of_le hk E.size) (fun j hj => (hOG k j hj).elim (ho j) (fun h => by omega))).trans (E.block k hk ho)
    cell := fun k j hk ho => (F.cell k j (Nat.lt_of_lt_of_le hk E.size) (fun hj => (hOG k j hj).elim ho (fun h => by omega))).trans (E.cell k j hk ho)
    frozen := fun k j hk ho => (F.frozen k j (Nat.lt_of_lt_of_le hk E.size) (fun hj => (hOG k j hj).elim ho (fun h => by omega))).trans (E.frozen k j hk ho)
    own := by
      rintro k j ⟨b, l, x, hb, hg, hl⟩
      rcases hown b l x hb hg with ⟨y, hy⟩ | ⟨hb', y, hy⟩
      · rcases F.own k j ⟨b, l, y, hb, hy, hl⟩ with h | h
        · exact hOG k j h
        · exact .inr (Nat.le_trans E.size h)
      · exact E.own k j ⟨b, l, y, hb', hy, hl⟩
    inew := by
      intro k j h
      rcases F.inew k j h with h | h | h
      · exact E.inew k j h
      · exact .inr (hOG k j h)
      · exact .inr (.inr (Nat.le_trans E.size h))
    lost := hlost }

/-- A run in the text's order, and what makes it serve every order. -/
structure TR (P : Program) (ops : Array Oper) (ros : List RO) (un : List (List Nat)) (base : Nat) (ρs : Nat → Env) (hs : Nat → AHeap) (rs : Nat → Option AV) : Prop where
  step : ∀ (i : Nat) (ro : RO), ros[i]? = some ro → AStep P ro (base + i) (ρs i) (hs i) (rs i) (hs (i + 1)) ∧ ρs (i + 1) = put (ρs i) ro.dst (resOf (rs i))
  chk : ∀ (i k : Nat) (ro ok : RO), ros[i]? = some ro → ros[k]? = some ok → k < i → k ∈ un.getD i [] → chk ro (ρs i) (rs i) (hs (i + 1)) ok (ρs k, hs k, rs k)
  fresh0 : ∀ j, j < ros.length → (hs 0).get (base + j) = none
  freshE : ∀ (i : Nat) (ro : RO), ros[i]? = some ro → ro.op.eff = true → ∀ j, i < j → j < ros.length → (hs (i + 1)).get (base + j) = none
  next0 : base + ros.length ≤ (hs 0).next
  d1 : ∀ (i j : Nat) (ri rj : RO) (t : Nat), ros[i]? = some ri → ros[j]? = some rj → ri.dst = some t → rj.dst = some t → i = j
  d2 : ∀ (k : Nat) (o : Oper), ops.toList[k]? = some o → ∀ e ∈ o.after.toList, Region.binds .any e = true → e.on < k
  d3 : ∀ (i j : Nat) (ri rj : RO) (t : Nat), ros[i]? = some ri → ros[j]? = some rj → i ≠ j → t ∈ ri.slots → rj.dst = some t → if j < i then ordL (predsL ops.toList []) j i = true else ordL (predsL ops.toList []) i j = true
  d4 : ∀ (i j : Nat) (ri rj : RO), i < j → ros[i]? = some ri → ros[j]? = some rj → ri.op.eff = true → rj.op.eff = true → ordL (predsL ops.toList []) i j = true
  d5 : ∀ (i k : Nat) (ri rk : RO), k < i → ros[i]? = some ri → ros[k]? = some rk → ((ri.op.reads = true ∧ rk.op.eff = true) ∨ (ri.op.eff = true ∧ rk.op.reads = true)) → ordL (predsL ops.toList []) k i = false → k ∈ un.getD i []

section trace
variable {ops : Array Oper} {ros : List RO} {un : List (List Nat)} {base : Nat} {ρs : Nat → Env} {hs : Nat → AHeap} {rs : Nat → Option AV} (T : TR P ops ros un base ρs hs rs)

theorem noneff_step {ro : RO} {id : Nat} {ρ : Env} {h h' : AHeap} {r : Option AV} (he : ro.op.eff = false) (hs : AStep P ro id ρ h r h') : h' = h ∨ ∃ blk, h' = h.at id blk := by
  unfold AStep at hs
  split at hs
  · obtain ⟨v, _, hrun⟩ := hs
    unfold AOpRun at hrun
    cases hop : ro.op with
    | p q => rw [hop] at hrun; exact .inl hrun.2
    | a q => rw [hop] at hrun; obtain ⟨b, _, hh⟩ := hrun; exact .inr ⟨b, hh⟩
    | e q => rw [hop] at he; cases he
    | call f as => rw [hop] at he; cases he
    | dyn x as => rw [hop] at he; cases he
  · exact .inl hs.2
  · exact hs.elim

include T in
theorem TR.one {i : Nat} {ro : RO} (hi : ros[i]? = some ro) (he : ro.op.eff = false) (b : Nat) (hb : b ≠ base + i) : (hs (i + 1)).get b = (hs i).get b := by
  rcases noneff_step he (T.step i ro hi).1 with h | ⟨blk, h⟩
  · rw [h]
  · rw [h]; simp [AHeap.at, hb]

/-- No effect stands from i on up to j. -/
def quietFrom (ros : List RO) (i j : Nat) : Prop := ∀ k ro, i ≤ k → k < j → ros[k]? = some ro → ro.op.eff = false

include T in
theorem TR.stable : ∀ (d i : Nat), i + d ≤ ros.length → quietFrom ros i (i + d) → ∀ b, (∀ k, i ≤ k → k < i + d → b ≠ base + k) → (hs (i + d)).get b = (hs i).get b
  | 0, i, _, _, b, _ => rfl
  | d + 1, i, hle, hq, b, hb => by
    have hlt : i + d < ros.length := by omega
    have h1 := T.one (List.getElem?_eq_getElem hlt) (hq (i + d) _ (by omega) (by omega) (List.getElem?_eq_getElem hlt)) b (hb (i + d) (by omega) (by omega))
    have h2 := TR.stable d i (by omega) (fun k ro h3 h4 => hq k ro h3 (by omega)) b (fun k h3 h4 => hb k h3 (by omega))
    rw [show i + (d + 1) = i + d + 1 by omega, h1, h2]

include T in
theorem TR.nextStable : ∀ (d i : Nat), i + d ≤ ros.length → quietFrom ros i (i + d) → base + ros.length ≤ (hs i).next → (hs (i + d)).next = (hs i).next
  | 0, i, _, _, _ => rfl
  | d + 1, i, hle, hq, hn => by
    have hlt : i + d < ros.length := by omega
    have h2 := TR.nextStable d i (by omega) (fun k ro h3 h4 => hq k ro h3 (by omega)) hn
    rw [show i + (d + 1) = i + d + 1 by omega, ← h2]
    rcases noneff_step (hq (i + d) _ (by omega) (by omega) (List.getElem?_eq_getElem hlt)) (T.step (i + d) _ (List.getElem?_eq_getElem hlt)).1 with h | ⟨blk, h⟩
    · rw [h]
    · rw [h]; simp only [AHeap.at]; omega

include T in
theorem TR.fresh : ∀ (i j : Nat), i ≤ j → j < ros.length → (hs i).get (base + j) = none
  | 0, j, _, hj => T.fresh0 j hj
  | i + 1, j, hij, hj => by
    have hlt : i < ros.length := by omega
    have hi := List.getElem?_eq_getElem hlt
    cases he : (ros[i]).op.eff with
    | true => exact T.freshE i _ hi he j (by omega) hj
    | false => rw [T.one hi he (base + j) (by omega)]; exact TR.fresh i j (by omega) hj

include T in
/-- The text's slots. -/
theorem TR.env : ∀ (i : Nat), i ≤ ros.length → (∀ t, (∀ j ro, j < i → ros[j]? = some ro → ro.dst ≠ some t) → ρs i t = ρs 0 t) ∧
    (∀ t j ro, j < i → ros[j]? = some ro → ro.dst = some t → ρs i t = resOf (rs j))
  | 0, _ => ⟨fun _ _ => rfl, fun t j ro h => by omega⟩
  | i + 1, hi => by
    obtain ⟨e1, e2⟩ := TR.env i (by omega)
    have hlt : i < ros.length := by omega
    have hget := List.getElem?_eq_getElem hlt
    have hst := (T.step i _ hget).2
    refine ⟨fun t ht => ?_, fun t j ro hj hro hdst => ?_⟩
    · rw [hst]
      have hne := ht i _ (by omega) hget
      have : put (ρs i) (ros[i]).dst (resOf (rs i)) t = ρs i t := by
        cases hd : (ros[i]).dst with
        | none => rfl
        | some d =>
          have : t ≠ d := fun h => hne (by rw [hd, h])
          simp [put, this]
      rw [this]
      exact e1 t (fun j ro hj hro => ht j ro (by omega) hro)
    · rw [hst]
      by_cases hji : j = i
      · subst hji
        rw [hget] at hro
        cases hro
        simp [put, hdst]
      · have hne : (ros[i]).dst ≠ some t := fun h => hji (T.d1 j i ro _ t hro hget hdst h)
        have : put (ρs i) (ros[i]).dst (resOf (rs i)) t = ρs i t := by
          cases hd : (ros[i]).dst with
          | none => rfl
          | some d =>
            have : t ≠ d := fun h => hne (by rw [hd, h])
            simp [put, this]
        rw [this]
        exact e2 t j ro (by omega) hro hdst

end trace

/-- The heap when S is done, the last effect at m - 1. -/
def HS (hs : Nat → AHeap) (base n m : Nat) (S : Nat → Prop) (b : Nat) (x : Option Blk) : Prop :=
  (∃ j, b = base + j ∧ m ≤ j ∧ j < n ∧ S j ∧ x = (hs (j + 1)).get b) ∨ ((∀ j, b = base + j → m ≤ j → j < n → ¬ S j) ∧ x = (hs m).get b)

end
end Go.Proofs.YtjkllffbjeajhaaGreat.Am

namespace Go.Proofs.YtjkllffbjeajhaaGreat.Am
open Go

theorem key_some {o : POp} {ρ : Env} {h : AHeap} {v : AV} {b : Nat} (hk : o.key ρ = some b) (hv : apure o ρ h = some v) : ∃ x, h.get b = some x := by
  cases hg : h.get b with
  | some x => exact ⟨x, rfl⟩
  | none =>
    exfalso
    cases o <;> simp only [POp.key] at hk <;> try cases hk
    case load ag sz x =>
      simp only [apure] at hv
      split at hk <;> cases hk
      rename_i hx
      simp only [hx, aload, cellsOf, hg] at hv
      simp at hv
    case bytesStr x =>
      simp only [apure] at hv
      split at hk <;> cases hk
      all_goals
        rename_i hx
        simp only [hx, rowsA, cellsOf, hg] at hv
        simp at hv
    case ovl sz x y =>
      simp only [apure] at hv
      split at hk <;> cases hk
      rename_i hx
      rw [hx] at hv
      unfold ovlA at hv
      split at hv
      · rename_i h1 h2
        cases h2
        simp [cellsOf, hg] at hv
      · cases hv
    case lookup z ok m k =>
      simp only [apure] at hv
      split at hk <;> cases hk
      rename_i hx
      rw [hx] at hv
      unfold lookupM at hv
      simp only [] at hv
      split at hv
      · rename_i h1 h2; cases h1
      · rename_i h1 h2; cases h1; simp [hg] at hv
      · cases hv

section
variable {P : Program} {md : Mode}

theorem key_dom {ι : Inj} {I : Imm} {w : World} {n : Nat} {ρ : Env} {a : Act} (A : AR ι I w n ρ a) {o : POp} (hc : o.keyTmp = true) {b : Nat} (hk : o.key ρ = some b) : ∃ l, ι b = some l := by
  have go : ∀ (x : Opd) (v : AV), x.ev ρ = v → (∀ c, x ≠ .const c) → ∃ u, VR ι I w v u := by
    intro x v hx hn
    cases x with
    | const c => exact (hn c rfl).elim
    | tmp t => exact ⟨_, by rw [← hx]; exact A.get t⟩
  cases o <;> simp only [POp.key] at hk <;> try cases hk
  case load ag sz x =>
    split at hk <;> cases hk
    rename_i hx
    obtain ⟨v, hv⟩ := go x _ hx (by rintro c rfl; simp [POp.keyTmp] at hc)
    cases hv; exact ⟨_, by assumption⟩
  case bytesStr x =>
    split at hk <;> cases hk
    all_goals
      rename_i hx
      obtain ⟨v, hv⟩ := go x _ hx (by rintro c rfl; simp [POp.keyTmp] at hc)
      cases hv; exact ⟨_, by assumption⟩
  case ovl sz x y =>
    split at hk <;> cases hk
    rename_i hx
    obtain ⟨v, hv⟩ := go y _ hx (by rintro c rfl; simp [POp.keyTmp] at hc)
    cases hv; exact ⟨_, by assumption⟩
  case lookup z ok m k =>
    split at hk <;> cases hk
    rename_i hx
    obtain ⟨v, hv⟩ := go m _ hx (by rintro c rfl; simp [POp.keyTmp] at hc)
    cases hv; exact ⟨_, by assumption⟩

theorem AHeap.same {h h' : AHeap} (hg : ∀ b, h.get b = h'.get b) (hn : h.next = h'.next) : h = h' := by
  cases h; cases h'; simp only at hg hn; subst hn; congr; funext b; exact hg b

/-- Where the run stands when S is done, the last effect at m - 1. -/
structure INV (P : Program) (ops : Array Oper) (ros : List RO) (n base : Nat) (ρs : Nat → Env) (hs : Nat → AHeap) (rs : Nat → Option AV) (ι0 : Inj) (I0 : Imm) (w0 : World)
    (S : Nat → Prop) (m : Nat) (ρ : Env) (H : AHeap) (ι : Inj) (I : Imm) (a : Act) (w : World) : Prop where
  ar : AR ι I w n ρ a
  hr : HR ι I H w
  ext : Ext (base ≤ ·) ι0 I0 (hs 0) w0 ι I H w
  ρ0 : ∀ (t : Nat), (∀ (j : Nat) (ro : RO), S j → ros[j]? = some ro → ro.dst ≠ some t) → ρ t = ρs 0 t
  ρ1 : ∀ (t j : Nat) (ro : RO), S j → ros[j]? = some ro → ro.dst = some t → ρ t = resOf (rs j)
  h1 : ∀ (j : Nat), S j → m ≤ j → j < ros.length → H.get (base + j) = (hs (j + 1)).get (base + j)
  h2 : ∀ (b : Nat), (∀ j, b = base + j → m ≤ j → j < ros.length → ¬ S j) → H.get b = (hs m).get b
  hn : H.next = (hs m).next
  lt : ∀ (j : Nat), S j → j < ros.length
  closed : ∀ (j : Nat) (o : Oper), S j → ops.toList[j]? = some o → ∀ e ∈ o.after.toList, Region.binds .any e = true → S e.on
  mle : m ≤ ros.length
  eff1 : ∀ (j : Nat) (ro : RO), S j → ros[j]? = some ro → ro.op.eff = true → j < m
  eff2 : ∀ (j : Nat) (ro : RO), j < m → ros[j]? = some ro → ro.op.eff = true → S j
  mlast : m = 0 ∨ ∃ ro, ros[m - 1]? = some ro ∧ ro.op.eff = true
  inj : ∀ (j : Nat), j < ros.length → ¬ S j → ι (base + j) = none
  pb : ∀ (j : Nat), j < m → ¬ S j → (hs m).get (base + j) = (hs (j + 1)).get (base + j)
  next : base + ros.length ≤ (hs m).next

section inv
variable {ops : Array Oper} {ros : List RO} {un : List (List Nat)} {n base : Nat} {ρs : Nat → Env} {hs : Nat → AHeap} {rs : Nat → Option AV} {ι0 : Inj} {I0 : Imm} {w0 : World}
  {S : Nat → Prop} {m : Nat} {ρ : Env} {H : AHeap} {ι : Inj} {I : Imm} {a : Act} {w : World}

theorem TR.at_end (T : TR P ops ros un base ρs hs rs) (V : INV P ops ros n base ρs hs rs ι0 I0 w0 S m ρ H ι I a w) (hS : ∀ j, j < ros.length → S j) : ρ = ρs ros.length ∧ H = hs ros.length := by
  have hq : quietFrom ros m (m + (ros.length - m)) := by
    intro k ro h1 h2 h3
    cases he : ro.op.eff with
    | false => rfl
    | true => have := V.eff1 k ro (hS k (by have := V.mle; omega)) h3 he; omega
  have hm : m + (ros.length - m) = ros.length := by have := V.mle; omega
  constructor
  · obtain ⟨e1, e2⟩ := T.env ros.length (Nat.le_refl _)
    funext t
    by_cases hx : ∃ (j : Nat) (ro : RO), ros[j]? = some ro ∧ ro.dst = some t
    · obtain ⟨j, ro, h1, h2⟩ := hx
      have hj := (List.getElem?_eq_some_iff.1 h1).1
      rw [V.ρ1 t j ro (hS j hj) h1 h2, e2 t j ro hj h1 h2]
    · rw [V.ρ0 t (fun j ro _ h1 h2 => hx ⟨j, ro, h1, h2⟩), e1 t (fun j ro _ h1 h2 => hx ⟨j, ro, h1, h2⟩)]
  · refine AHeap.same (fun b => ?_) ?_
    · by_cases hx : ∃ j, b = base + j ∧ m ≤ j ∧ j < ros.length
      · obtain ⟨j, rfl, h1, h2⟩ := hx
        rw [V.h1 j (hS j h2) h1 h2]
        have := T.stable (ros.length - (j + 1)) (j + 1) (by omega) (fun k ro e1 e2 e3 => hq k ro (by omega) (by omega) e3) (base + j) (fun k e1 e2 => by omega)
        rw [show j + 1 + (ros.length - (j + 1)) = ros.length by omega] at this
        exact this.symm
      · rw [V.h2 b (fun j h1 h2 h3 _ => hx ⟨j, h1, h2, h3⟩)]
        have := T.stable (ros.length - m) m (by omega) hq b (fun k e1 e2 e3 => hx ⟨k, e3, e1, by omega⟩)
        rw [hm] at this
        exact this.symm
    · rw [V.hn]
      have := T.nextStable (ros.length - m) m (by omega) hq V.next
      rw [hm] at this
      exact this.symm

/-- An operation that looks at its slots sees what the text's order has there. -/
theorem TR.slots_eq (T : TR P ops ros un base ρs hs rs) (V : INV P ops ros n base ρs hs rs ι0 I0 w0 S m ρ H ι I a w) {i : Nat} {ro : RO} {o : Oper} (hro : ros[i]? = some ro) (ho : ops.toList[i]? = some o) (hi : ¬ S i)
    (hready : ∀ e ∈ o.after.toList, Region.binds .any e = true → S e.on) : ∀ t ∈ ro.slots, ρs i t = ρ t := by
  intro t ht
  have hil := (List.getElem?_eq_some_iff.1 hro).1
  obtain ⟨e1, e2⟩ := T.env i (by omega)
  by_cases hx : ∃ (j : Nat) (rj : RO), ros[j]? = some rj ∧ rj.dst = some t ∧ j ≠ i
  · obtain ⟨j, rj, h1, h2, h3⟩ := hx
    have hd := T.d3 i j ro rj t hro h1 (Ne.symm h3) ht h2
    by_cases hji : j < i
    · simp only [hji, if_true] at hd
      have hSj := ord_closed T.d2 V.closed i j hd (.inl ⟨o, ho, hready⟩)
      rw [e2 t j rj hji h1 h2, V.ρ1 t j rj hSj h1 h2]
    · simp only [hji, if_false] at hd
      have hSj : ¬ S j := fun hsj => hi (ord_closed T.d2 V.closed j i hd (.inr hsj))
      rw [e1 t (fun k rk hk h4 h5 => by have := T.d1 j k rj rk t h1 h4 h2 h5; omega), V.ρ0 t (fun k rk hk h4 h5 => by have := T.d1 j k rj rk t h1 h4 h2 h5; subst this; exact hSj hk)]
  · rw [e1 t (fun k rk hk h4 h5 => hx ⟨k, rk, h4, h5, by omega⟩), V.ρ0 t (fun k rk hk h4 h5 => hx ⟨k, rk, h4, h5, fun e => by subst e; exact hi hk⟩)]

/-- A read that would do at a heap of the text's order does here too. -/
theorem TR.read_eq (T : TR P ops ros un base ρs hs rs) (V : INV P ops ros n base ρs hs rs ι0 I0 w0 S m ρ H ι I a w) {r : Nat} (hmr : m ≤ r) (hr : r ≤ ros.length) (hq : quietFrom ros m r)
    {b : Nat} {l : Loc} {x : Blk} (hb : ι b = some l) (hx : (hs r).get b = some x) : H.get b = (hs r).get b := by
  by_cases hj : ∃ j, b = base + j ∧ m ≤ j ∧ j < ros.length
  · obtain ⟨j, rfl, h1, h2⟩ := hj
    have hSj : S j := Classical.byContradiction fun hn => by rw [V.inj j h2 hn] at hb; cases hb
    rw [V.h1 j hSj h1 h2]
    by_cases hjr : j < r
    · have := T.stable (r - (j + 1)) (j + 1) (by omega) (fun k ro e1 e2 e3 => hq k ro (by omega) (by omega) e3) (base + j) (fun k e1 e2 => by omega)
      rw [show j + 1 + (r - (j + 1)) = r by omega] at this
      exact this.symm
    · have := T.fresh r j (by omega) h2
      rw [this] at hx; cases hx
  · rw [V.h2 b (fun j e1 e2 e3 _ => hj ⟨j, e1, e2, e3⟩)]
    have := T.stable (r - m) m (by omega) (by rw [show m + (r - m) = r by omega]; exact hq) b (fun k e1 e2 e3 => hj ⟨k, e3, e1, by omega⟩)
    rw [show m + (r - m) = r by omega] at this
    exact this.symm

/-- Where an operation that is no effect may be seen: no effect lies between. -/
theorem TR.ref (T : TR P ops ros un base ρs hs rs) (V : INV P ops ros n base ρs hs rs ι0 I0 w0 S m ρ H ι I a w) {i : Nat} {ro : RO} {o : Oper} (hro : ros[i]? = some ro) (ho : ops.toList[i]? = some o) (hi : ¬ S i)
    (hready : ∀ e ∈ o.after.toList, Region.binds .any e = true → S e.on) {q : POp} (hq : ro.op = .p q) (hrd : q.reads = true) {v : AV} (hst : rs i = some v) (hv : apure q (ρs i) (hs i) = some v) :
    ∃ r, m ≤ r ∧ r ≤ ros.length ∧ quietFrom ros m r ∧ (r < ros.length → r = m ∨ ¬ S r) ∧ apure q (ρs i) (hs r) = some v := by
  have hil := (List.getElem?_eq_some_iff.1 hro).1
  have hne : ro.op.eff = false := by rw [hq]; rfl
  have hrr : ro.op.reads = true := by rw [hq]; exact hrd
  by_cases hmi : m ≤ i
  · -- the first effect from m on
    by_cases hx : ∃ k rk, m ≤ k ∧ k < i ∧ ros[k]? = some rk ∧ rk.op.eff = true
    · have : ∃ k, (∃ rk, m ≤ k ∧ k < i ∧ ros[k]? = some rk ∧ rk.op.eff = true) ∧ ∀ k', k' < k → ¬ ∃ rk, m ≤ k' ∧ k' < i ∧ ros[k']? = some rk ∧ rk.op.eff = true := by
        obtain ⟨k, hk⟩ := hx
        induction k using Nat.strongRecOn with
        | _ k ih =>
          by_cases hy : ∃ k', k' < k ∧ ∃ rk, m ≤ k' ∧ k' < i ∧ ros[k']? = some rk ∧ rk.op.eff = true
          · obtain ⟨k', h1, h2⟩ := hy
            exact ih k' h1 h2
          · exact ⟨k, hk, fun k' h1 h2 => hy ⟨k', h1, h2⟩⟩
      obtain ⟨k, ⟨rk, h1, h2, h3, h4⟩, h5⟩ := this
      have hkS : ¬ S k := fun h => by have := V.eff1 k rk h h3 h4; omega
      have hord : ordL (predsL ops.toList []) k i = false := by
        cases hq' : ordL (predsL ops.toList []) k i with
        | false => rfl
        | true => exact (hkS (ord_closed T.d2 V.closed i k hq' (.inl ⟨o, ho, hready⟩))).elim
      have hun := T.d5 i k ro rk h2 hro h3 (.inl ⟨hrr, h4⟩) hord
      have hchk := T.chk i k ro rk hro h3 h2 hun
      unfold Am.chk at hchk
      rw [hne, hst, hq] at hchk
      simp only [Bool.false_eq_true, if_false] at hchk
      exact ⟨k, h1, by omega, fun k' rk' e1 e2 e3 => by cases he : rk'.op.eff with
        | false => rfl
        | true => exact (h5 k' e2 ⟨rk', e1, by omega, e3, he⟩).elim, fun _ => .inr hkS, hchk⟩
    · exact ⟨i, hmi, by omega, fun k rk e1 e2 e3 => by cases he : rk.op.eff with
        | false => rfl
        | true => exact (hx ⟨k, rk, e1, e2, e3, he⟩).elim, fun _ => .inr hi, hv⟩
  · rcases V.mlast with h0 | ⟨rm, h1, h2⟩
    · omega
    · have hSm := V.eff2 (m - 1) rm (by omega) h1 h2
      have hne' : i ≠ m - 1 := fun e => by subst e; exact hi hSm
      have hord : ordL (predsL ops.toList []) i (m - 1) = false := by
        cases hq' : ordL (predsL ops.toList []) i (m - 1) with
        | false => rfl
        | true => exact (hi (ord_closed T.d2 V.closed (m - 1) i hq' (.inr hSm))).elim
      have hun := T.d5 (m - 1) i rm ro (by omega) h1 hro (.inr ⟨h2, hrr⟩) hord
      have hchk := T.chk (m - 1) i rm ro h1 hro (by omega) hun
      unfold Am.chk at hchk
      rw [h2, hst, hq] at hchk
      simp only [if_true] at hchk
      rw [show m - 1 + 1 = m by omega] at hchk
      exact ⟨m, Nat.le_refl _, V.mle, fun k rk e1 e2 => by omega, fun _ => .inl rfl, hchk⟩

end inv
end
end Go.Proofs.YtjkllffbjeajhaaGreat.Am

namespace Go.Proofs.YtjkllffbjeajhaaGreat.Am
open Go

section
variable {P : Program} {md : Mode}
variable {ops : Array Oper} {ros : List RO} {un : List (List Nat)} {n base : Nat} {ρs : Nat → Env} {hs : Nat → AHeap} {rs : Nat → Option AV} {ι0 : Inj} {I0 : Imm} {w0 : World}
  {S : Nat → Prop} {m : Nat} {ρ : Env} {H : AHeap} {ι : Inj} {I : Imm} {a : Act} {w : World}

theorem put_other {ρ : Env} {d : Option Nat} {v : AV} {t : Nat} (h : d ≠ some t) : put ρ d v t = ρ t := by
  cases d with
  | none => rfl
  | some d =>
    have : t ≠ d := fun e => h (by rw [e])
    simp [put, this]

theorem put_same {ρ : Env} {d : Option Nat} {v : AV} {t : Nat} (h : d = some t) : put ρ d v t = v := by subst h; simp [put]

/-- What a step does to the slots. -/
theorem TR.slots_step (T : TR P ops ros un base ρs hs rs) (V : INV P ops ros n base ρs hs rs ι0 I0 w0 S m ρ H ι I a w) {i : Nat} {ro : RO} (hro : ros[i]? = some ro) (hi : ¬ S i) :
    (∀ (t : Nat), (∀ (j : Nat) (rj : RO), (S j ∨ j = i) → ros[j]? = some rj → rj.dst ≠ some t) → put ρ ro.dst (resOf (rs i)) t = ρs 0 t) ∧
    (∀ (t j : Nat) (rj : RO), (S j ∨ j = i) → ros[j]? = some rj → rj.dst = some t → put ρ ro.dst (resOf (rs i)) t = resOf (rs j)) := by
  constructor
  · intro t ht
    rw [put_other (ht i ro (.inr rfl) hro)]
    exact V.ρ0 t (fun j rj h1 h2 => ht j rj (.inl h1) h2)
  · intro t j rj hj hrj hd
    rcases hj with hj | rfl
    · have hne : j ≠ i := fun e => hi (e ▸ hj)
      rw [put_other (fun e => hne (T.d1 j i rj ro t hrj hro hd e))]
      exact V.ρ1 t j rj hj hrj hd
    · rw [hro] at hrj; cases hrj
      exact put_same hd

theorem TR.closed_step (V : INV P ops ros n base ρs hs rs ι0 I0 w0 S m ρ H ι I a w) {i : Nat} {o : Oper} (ho : ops.toList[i]? = some o)
    (hready : ∀ e ∈ o.after.toList, Region.binds .any e = true → S e.on) :
    ∀ (j : Nat) (oj : Oper), (S j ∨ j = i) → ops.toList[j]? = some oj → ∀ e ∈ oj.after.toList, Region.binds .any e = true → (S e.on ∨ e.on = i) := by
  intro j oj hj hoj e he hb
  rcases hj with hj | rfl
  · exact .inl (V.closed j oj hj hoj e he hb)
  · rw [ho] at hoj; cases hoj
    exact .inl (hready e he hb)

theorem TR.quiet_step (T : TR P ops ros un base ρs hs rs) (V : INV P ops ros n base ρs hs rs ι0 I0 w0 S m ρ H ι I a w) {i : Nat} {ro : RO} {o : Oper} (hro : ros[i]? = some ro) (ho : ops.toList[i]? = some o) (hi : ¬ S i)
    (hready : ∀ e ∈ o.after.toList, Region.binds .any e = true → S e.on) (he : ro.op.eff = false) {H1 : AHeap} {ι' : Inj} {I' : Imm} {a' : Act} {w' : World}
    (g1 : ∀ b, b ≠ base + i → H1.get b = H.get b) (g2 : H1.get (base + i) = (hs (i + 1)).get (base + i)) (g3 : H1.next = H.next)
    (A' : AR ι' I' w' n (put ρ ro.dst (resOf (rs i))) a') (H' : HR ι' I' H1 w') (E : Ext (fun b => b = base + i ∨ H.next ≤ b) ι I H w ι' I' H1 w') :
    INV P ops ros n base ρs hs rs ι0 I0 w0 (fun j => S j ∨ j = i) m (put ρ ro.dst (resOf (rs i))) H1 ι' I' a' w' := by
  have hil := (List.getElem?_eq_some_iff.1 hro).1
  obtain ⟨s0, s1⟩ := T.slots_step V hro hi
  have hbn : base + ros.length ≤ H.next := by rw [V.hn]; exact V.next
  exact
  { ar := A', hr := H', ρ0 := s0, ρ1 := s1, closed := TR.closed_step V ho hready, mle := V.mle, mlast := V.mlast, next := V.next
    ext := V.ext.trans E (fun b hb => by rcases hb with rfl | hb <;> omega)
    h1 := by
      intro j hj h1 h2
      rcases hj with hj | rfl
      · have hne : j ≠ i := fun e => hi (e ▸ hj)
        rw [g1 _ (by omega)]; exact V.h1 j hj h1 h2
      · exact g2
    h2 := by
      intro b hb
      by_cases hbi : b = base + i
      · subst hbi
        have him : ¬ m ≤ i := fun h => hb i rfl h hil (.inr rfl)
        rw [g2, V.pb i (by omega) hi]
      · rw [g1 b hbi]
        exact V.h2 b (fun j h1 h2 h3 h4 => hb j h1 h2 h3 (.inl h4))
    hn := by rw [g3]; exact V.hn
    lt := fun j hj => by rcases hj with hj | rfl; exact V.lt j hj; exact hil
    eff1 := fun j rj hj hrj hje => by
      rcases hj with hj | rfl
      · exact V.eff1 j rj hj hrj hje
      · rw [hro] at hrj; cases hrj; rw [he] at hje; cases hje
    eff2 := fun j rj h1 h2 h3 => .inl (V.eff2 j rj h1 h2 h3)
    inj := by
      intro j hj hn
      have : j ≠ i := fun e => hn (.inr e)
      rw [E.keep _ (by omega)]
      exact V.inj j hj (fun h => hn (.inl h))
    pb := fun j hj hn => V.pb j hj (fun h => hn (.inl h)) }

open Classical in
theorem TR.eff_step (T : TR P ops ros un base ρs hs rs) (V : INV P ops ros n base ρs hs rs ι0 I0 w0 S m ρ H ι I a w) {i : Nat} {ro : RO} {o : Oper} (hro : ros[i]? = some ro) (ho : ops.toList[i]? = some o) (hi : ¬ S i)
    (hready : ∀ e ∈ o.after.toList, Region.binds .any e = true → S e.on) (he : ro.op.eff = true) :
    HR ι I (hs i) w ∧ base + ros.length ≤ (hs i).next ∧ ∀ {ι' : Inj} {I' : Imm} {a' : Act} {w' : World},
    AR ι' I' w' n (put ρ ro.dst (resOf (rs i))) a' → HR ι' I' (hs (i + 1)) w' → Ext (fun b => b = base + i ∨ (hs i).next ≤ b) ι I (hs i) w ι' I' (hs (i + 1)) w' →
    ∃ J, INV P ops ros n base ρs hs rs ι0 I0 w0 (fun j => S j ∨ j = i) (i + 1) (put ρ ro.dst (resOf (rs i))) J ι' I' a' w' := by
  have hil := (List.getElem?_eq_some_iff.1 hro).1
  -- effects before have been taken, none after
  have hbefore : ∀ (k : Nat) (rk : RO), k < i → ros[k]? = some rk → rk.op.eff = true → S k := fun k rk h1 h2 h3 =>
    ord_closed T.d2 V.closed i k (T.d4 k i rk ro h1 h2 hro h3 he) (.inl ⟨o, ho, hready⟩)
  have hafter : ∀ (k : Nat) (rk : RO), i < k → ros[k]? = some rk → rk.op.eff = true → ¬ S k := fun k rk h1 h2 h3 h4 =>
    hi (ord_closed T.d2 V.closed k i (T.d4 i k ro rk h1 hro h2 he h3) (.inr h4))
  have hmi : m ≤ i := by
    rcases V.mlast with h0 | ⟨rm, h1, h2⟩
    · omega
    · by_cases hq : m ≤ i
      · exact hq
      · have hSm := V.eff2 (m - 1) rm (by omega) h1 h2
        by_cases hmm : m - 1 = i
        · exact (hi (hmm ▸ hSm)).elim
        · exact (hafter (m - 1) rm (by omega) h1 h2 hSm).elim
  have hq : quietFrom ros m i := by
    intro k rk h1 h2 h3
    cases hek : rk.op.eff with
    | false => rfl
    | true => have := V.eff1 k rk (hbefore k rk h2 h3 hek) h3 hek; omega
  have hnx : (hs i).next = (hs m).next := by
    have := T.nextStable (i - m) m (by omega) (by rw [show m + (i - m) = i by omega]; exact hq) V.next
    rwa [show m + (i - m) = i by omega] at this
  have hst : ∀ b, (∀ k, m ≤ k → k < i → b ≠ base + k) → (hs i).get b = (hs m).get b := by
    intro b hb
    have := T.stable (i - m) m (by omega) (by rw [show m + (i - m) = i by omega]; exact hq) b (fun k h1 h2 => hb k h1 (by omega))
    rwa [show m + (i - m) = i by omega] at this
  have hst1 : ∀ j, m ≤ j → j < i → (hs i).get (base + j) = (hs (j + 1)).get (base + j) := by
    intro j h1 h2
    have := T.stable (i - (j + 1)) (j + 1) (by omega) (fun k rk e1 e2 e3 => hq k rk (by omega) (by omega) e3) (base + j) (fun k e1 e2 => by omega)
    rwa [show j + 1 + (i - (j + 1)) = i by omega] at this
  have hread : ∀ b l x, ι b = some l → (hs i).get b = some x → H.get b = (hs i).get b := fun b l x hb hx =>
    T.read_eq V hmi (by omega) hq hb hx
  have HH : HR ι I (hs i) w := V.hr.onDom (fun b l hb => by rw [hnx, ← V.hn]; exact V.hr.dom b l hb) (fun b l x hb hx => by rw [hread b l x hb hx]; exact hx)
  refine ⟨HH, by rw [hnx]; exact V.next, ?_⟩
  intro ι' I' a' w' A' H' E
  obtain ⟨s0, s1⟩ := T.slots_step V hro hi
  let J : AHeap := { get := fun b => if ∃ j, b = base + j ∧ i + 1 ≤ j ∧ j < ros.length ∧ S j then H.get b else (hs (i + 1)).get b, next := (hs (i + 1)).next }
  have hJ1 : ∀ j, i + 1 ≤ j → j < ros.length → S j → J.get (base + j) = H.get (base + j) := fun j h1 h2 h3 => if_pos ⟨j, rfl, h1, h2, h3⟩
  have hJ2 : ∀ b, (¬ ∃ j, b = base + j ∧ i + 1 ≤ j ∧ j < ros.length ∧ S j) → J.get b = (hs (i + 1)).get b := fun b hb => if_neg hb
  have hkeep : ∀ j, j < ros.length → j ≠ i → ι' (base + j) = ι (base + j) := fun j h1 h2 => E.keep _ (by have := V.next; omega)
  have HJ : HR ι' I' J w' := by
    refine V.hr.join H' E (fun b l x hb hx => by rw [hread b l x hb hx]; exact hx) (Nat.le_refl _) ?_
    intro b x hx
    by_cases hb : ∃ j, b = base + j ∧ i + 1 ≤ j ∧ j < ros.length ∧ S j
    · obtain ⟨j, rfl, h1, h2, h3⟩ := hb
      rw [hJ1 j h1 h2 h3] at hx
      cases hl : ι (base + j) with
      | none => right; right; rw [hkeep j h2 (by omega)]; exact hl
      | some l => right; left; exact ⟨hx, T.fresh i j (by omega) h2, l, rfl⟩
    · rw [hJ2 b hb] at hx
      exact .inl hx
  refine ⟨J, ?_⟩
  exact
  { ar := A', hr := HJ, ρ0 := s0, ρ1 := s1, closed := TR.closed_step V ho hready, mle := by omega
    mlast := .inr ⟨ro, by simpa using hro, he⟩
    next := by have := E.next; have := V.next; omega
    hn := rfl
    ext := by
      refine V.ext.step E (fun b hb => ?_) (fun b l x hb hx => ⟨x, by rw [hread b l x hb hx]; exact hx⟩) ?_ ?_ ?_
      · have := V.next; rcases hb with rfl | hb <;> omega
      · intro b l x hb hx
        by_cases hbj : ∃ j, b = base + j ∧ i + 1 ≤ j ∧ j < ros.length ∧ S j
        · obtain ⟨j, rfl, h1, h2, h3⟩ := hbj
          rw [hJ1 j h1 h2 h3] at hx
          exact .inr ⟨by rw [← hkeep j h2 (by omega)]; exact hb, x, hx⟩
        · rw [hJ2 b hbj] at hx
          exact .inl ⟨x, hx⟩
      · show H.next ≤ (hs (i + 1)).next
        have := E.next; rw [V.hn]; omega
      · intro b hb hn
        have hb' : b < base := by simpa using hb
        rw [hJ2 b (by rintro ⟨j, rfl, _⟩; omega), E.lost b (by have := V.next; omega) (by rw [V.ext.keep b hb]; exact hn), hst b (fun k _ _ => by omega), ← V.h2 b (fun j h1 => by omega)]
        exact V.ext.lost b hb hn
    h1 := by
      intro j hj h1 h2
      rcases hj with hj | rfl
      · rw [hJ1 j h1 h2 hj]; exact V.h1 j hj (by omega) h2
      · omega
    h2 := by
      intro b hb
      exact hJ2 b (by rintro ⟨j, h1, h2, h3, h4⟩; exact hb j h1 h2 h3 (.inl h4))
    lt := fun j hj => by rcases hj with hj | rfl; exact V.lt j hj; exact hil
    eff1 := fun j rj hj hrj hje => by
      rcases hj with hj | rfl
      · have := V.eff1 j rj hj hrj hje; omega
      · omega
    eff2 := fun j rj h1 h2 h3 => by
      by_cases hji : j = i
      · exact .inr hji
      · exact .inl (hbefore j rj (by omega) h2 h3)
    inj := by
      intro j hj hn
      rw [hkeep j hj (fun e => hn (.inr e))]
      exact V.inj j hj (fun h => hn (.inl h))
    pb := by
      intro j hj hn
      have hji : j ≠ i := fun e => hn (.inr e)
      have hSj : ¬ S j := fun h => hn (.inl h)
      rw [E.lost (base + j) (by have := V.next; omega) (V.inj j (by omega) hSj)]
      by_cases hjm : m ≤ j
      · exact hst1 j hjm (by omega)
      · rw [hst (base + j) (fun k _ _ => by omega)]
        exact V.pb j (by omega) hSj }

end
end Go.Proofs.YtjkllffbjeajhaaGreat.Am

namespace Go.Proofs.YtjkllffbjeajhaaGreat.Am
open Go

theorem filter_len_le {p p' : Nat → Bool} (hle : ∀ j, p' j = true → p j = true) : ∀ l : List Nat, (l.filter p').length ≤ (l.filter p).length
  | [] => by simp
  | x :: l => by
    have ih := filter_len_le hle l
    by_cases h1 : p' x = true
    · simp [h1, hle x h1]; exact ih
    · by_cases h2 : p x = true
      · simp [h1, h2]; omega
      · simp [h1, h2]; exact ih

theorem filter_len_lt {p p' : Nat → Bool} (hle : ∀ j, p' j = true → p j = true) {i : Nat} (hp : p i = true) (hp' : p' i = false) : ∀ l : List Nat, i ∈ l → (l.filter p').length < (l.filter p).length
  | [], h => by simp at h
  | x :: l, h => by
    have ihle := filter_len_le hle l
    by_cases hxi : x = i
    · subst hxi; simp [hp, hp']; omega
    · have ih := filter_len_lt hle hp hp' l (by simpa [Ne.symm hxi] using h)
      by_cases h1 : p' x = true
      · simp [h1, hle x h1]; exact ih
      · by_cases h2 : p x = true
        · simp [h1, h2]; omega
        · simp [h1, h2]; exact ih

theorem mem_ready {ops : Array Oper} {listed : Array Bool} {i : Nat} : i ∈ Region.ready .any ops listed ↔
    i < ops.size ∧ listed.getD i true = false ∧ ∃ o, ops.toList[i]? = some o ∧ ∀ e ∈ o.after.toList, Region.binds .any e = true → listed.getD e.on false = true := by
  simp only [Region.ready, List.mem_filter, List.mem_range, Bool.and_eq_true, Bool.not_eq_true']
  refine and_congr_right fun hi => and_congr_right fun _ => ?_
  have : ops[i]? = ops.toList[i]? := by simp
  rw [this]
  have hi' : i < ops.toList.length := by simpa using hi
  rw [List.getElem?_eq_getElem hi']
  simp only [Option.map_some, Option.getD_some, Option.some.injEq, exists_eq_left']
  rw [Array.all_eq_true_iff_forall_mem]
  constructor
  · intro h e he hb
    have := h e (by simpa using he)
    simpa [hb] using this
  · intro h e he
    by_cases hb : Region.binds .any e = true
    · simp [hb, h e (by simpa using he) hb]
    · simp [hb]

section
variable {P : Program} {md : Mode}
variable {ops : Array Oper} {ros : List RO} {un : List (List Nat)} {n base : Nat} {ρs : Nat → Env} {hs : Nat → AHeap} {rs : Nat → Option AV} {ι0 : Inj} {I0 : Imm} {w0 : World}
  {Q : Exit → Act → World → Prop}

/-- One operation, whichever is taken. -/
theorem TR.op_sound (T : TR P ops ros un base ρs hs rs) (hcg : ∀ (i : Nat) (o : Oper) (ro : RO), ops.toList[i]? = some o → ros[i]? = some ro → cRO P md n ops o = some ro)
    (hkt : ∀ ro ∈ ros, ro.op.keyTmp = true)
    {S : Nat → Prop} {m : Nat} {ρ : Env} {H : AHeap} {ι : Inj} {I : Imm} {a : Act} {w : World} (V : INV P ops ros n base ρs hs rs ι0 I0 w0 S m ρ H ι I a w)
    {i : Nat} {ro : RO} {o : Oper} (hro : ros[i]? = some ro) (ho : ops.toList[i]? = some o) (hi : ¬ S i)
    (hready : ∀ e ∈ o.after.toList, Region.binds .any e = true → S e.on) {K : Act → World → Prop}
    (hK : ∀ (m' : Nat) (ρ' : Env) (H' : AHeap) (ι' : Inj) (I' : Imm) (a' : Act) (w' : World), INV P ops ros n base ρs hs rs ι0 I0 w0 (fun j => S j ∨ j = i) m' ρ' H' ι' I' a' w' → K a' w') :
    if Region.wanted o (yielded ops a.tmps) then o.wp P a w K Q ∨ (o.asks P a w ∧ LetsOut Q) else K (a.put o.dst Go.undef) w := by
  have hil := (List.getElem?_eq_some_iff.1 hro).1
  have hc := hcg i o ro ho hro
  have hstep := (T.step i ro hro).1
  have hsl := T.slots_eq V hro ho hi hready
  have hid := V.inj i hil hi
  cases he : ro.op.eff with
  | true =>
    obtain ⟨HH, hnx, hfin⟩ := T.eff_step V hro ho hi hready he
    refine step_sound (Q := Q) HH V.ar hc hid (AStep_congr hsl hstep) ?_
    intro a' w' ι' I' A' H' E
    obtain ⟨J, V'⟩ := hfin A' H' E
    exact hK _ _ _ _ _ _ _ V'
  | false =>
    -- the step at the heap that is there
    have key : ∃ H1, AStep P ro (base + i) ρ H (rs i) H1 ∧ (∀ b, b ≠ base + i → H1.get b = H.get b) ∧ H1.get (base + i) = (hs (i + 1)).get (base + i) ∧ H1.next = H.next := by
      have hmem : ro ∈ ros := List.mem_of_getElem? hro
      have hst2 := AStep_congr hsl hstep
      have hbn : base + ros.length ≤ H.next := by rw [V.hn]; exact V.next
      have hkeepi : (hs (i + 1)).get (base + i) = none → H.get (base + i) = (hs (i + 1)).get (base + i) := by
        intro hnone
        by_cases hmi : m ≤ i
        · rw [V.h2 (base + i) (fun j h1 h2 h3 => by have : j = i := by omega
                                                    subst this; exact hi)]
          rw [T.fresh m i hmi hil, hnone]
        · rw [V.h2 (base + i) (fun j h1 h2 h3 => by omega)]
          exact V.pb i (by omega) hi
      unfold AStep at hst2
      split at hst2
      · rename_i hg
        obtain ⟨v, hv, hrun⟩ := hst2
        unfold AOpRun at hrun
        cases hop : ro.op with
        | p q =>
          rw [hop] at hrun
          obtain ⟨hv1, hh⟩ := hrun
          refine ⟨H, ?_, fun b _ => rfl, hkeepi (by rw [hh]; exact T.fresh i i (Nat.le_refl _) hil), rfl⟩
          have hvH : apure q ρ H = some v := by
            by_cases hrd : q.reads = true
            · have hv0 : apure q (ρs i) (hs i) = some v := by
                rw [apure_congr q (ρ' := ρ) (hs i) ?_]
                · exact hv1
                · intro x hx
                  cases x with
                  | const c => rfl
                  | tmp t => exact hsl t (by simp only [RO.slots, hop, ROp.opds, List.mem_append, List.mem_flatMap]; exact .inl ⟨_, hx, by simp [Opd.slot]⟩)
              obtain ⟨r, h1, h2, h3, h4, h5⟩ := T.ref V hro ho hi hready hop hrd hv hv0
              rw [apure_congr q (ρ' := ρ) (hs r) ?_] at h5
              · rw [← h5]
                refine apure_key q ρ H (hs r) (fun b hb => ?_)
                obtain ⟨l, hl⟩ := key_dom V.ar (by have := hkt ro hmem; rw [hop] at this; exact this) hb
                obtain ⟨x, hx⟩ := key_some hb h5
                exact T.read_eq V h1 h2 h3 hl hx
              · intro x hx
                cases x with
                | const c => rfl
                | tmp t => exact hsl t (by simp only [RO.slots, hop, ROp.opds, List.mem_append, List.mem_flatMap]; exact .inl ⟨_, hx, by simp [Opd.slot]⟩)
            · rw [← hv1]
              refine apure_key q ρ H (hs i) (fun b hb => ?_)
              exfalso
              cases q <;> simp [POp.key, POp.reads] at hb hrd
          unfold AStep
          rw [hg]
          refine ⟨v, hv, ?_⟩
          unfold AOpRun
          rw [hop]
          exact ⟨hvH, rfl⟩
        | a q =>
          rw [hop] at hrun
          obtain ⟨blk, hv1, hh⟩ := hrun
          refine ⟨H.at (base + i) blk, ?_, fun b hb => by simp [AHeap.at, hb], by rw [hh]; simp [AHeap.at], by simp only [AHeap.at]; omega⟩
          unfold AStep
          rw [hg]
          refine ⟨v, hv, ?_⟩
          unfold AOpRun
          rw [hop]
          exact ⟨blk, hv1, rfl⟩
        | e q => rw [hop] at he; cases he
        | call f as => rw [hop] at he; cases he
        | dyn x as => rw [hop] at he; cases he
      · rename_i hg
        obtain ⟨hr, hh⟩ := hst2
        refine ⟨H, ?_, fun b _ => rfl, hkeepi (by rw [hh]; exact T.fresh i i (Nat.le_refl _) hil), rfl⟩
        unfold AStep
        rw [hg]
        exact ⟨hr, rfl⟩
      · exact hst2.elim
    obtain ⟨H1, hs1, g1, g2, g3⟩ := key
    refine step_sound (Q := Q) V.hr V.ar hc hid hs1 ?_
    intro a' w' ι' I' A' H' E
    exact hK _ _ _ _ _ _ _ (T.quiet_step V hro ho hi hready he g1 g2 g3 A' H' E)

theorem TR.any_sound (T : TR P ops ros un base ρs hs rs) (hlen : ops.toList.length = ros.length) (hcg : ∀ (i : Nat) (o : Oper) (ro : RO), ops.toList[i]? = some o → ros[i]? = some ro → cRO P md n ops o = some ro)
    (hkt : ∀ ro ∈ ros, ro.op.keyTmp = true)
    (hQ : ∀ (ι : Inj) (I : Imm) (a : Act) (w : World), AR ι I w n (ρs ros.length) a → HR ι I (hs ros.length) w → Ext (base ≤ ·) ι0 I0 (hs 0) w0 ι I (hs ros.length) w → Q .normal a w) :
    ∀ (fuel : Nat) (listed : Array Bool) {S : Nat → Prop} {m : Nat} {ρ : Env} {H : AHeap} {ι : Inj} {I : Imm} {a : Act} {w : World}, INV P ops ros n base ρs hs rs ι0 I0 w0 S m ρ H ι I a w →
    listed.size = ops.size → (∀ j, S j ↔ listed[j]? = some true) → ((List.range ops.size).filter fun j => !listed.getD j true).length ≤ fuel →
    wpAny P .any ops Q fuel listed a w := by
  have hsz : ops.size = ros.length := by simpa using hlen
  have hdone : ∀ (listed : Array Bool) {S : Nat → Prop} {m : Nat} {ρ : Env} {H : AHeap} {ι : Inj} {I : Imm} {a : Act} {w : World}, INV P ops ros n base ρs hs rs ι0 I0 w0 S m ρ H ι I a w →
    listed.size = ops.size → (∀ j, S j ↔ listed[j]? = some true) → Region.ready .any ops listed = [] → Q .normal a w := by
    intro listed S m ρ H ι I a w V hl hS hr
    have hall : ∀ j, j < ros.length → S j := by
      intro j
      induction j using Nat.strongRecOn with
      | _ j ih =>
        intro hj
        apply Classical.byContradiction
        intro hn
        have hjo : j < ops.toList.length := by omega
        have : j ∈ Region.ready .any ops listed := by
          rw [mem_ready]
          refine ⟨by omega, ?_, _, List.getElem?_eq_getElem hjo, fun e he hb => ?_⟩
          · have hjl : j < listed.size := by omega
            have hne : listed[j]? ≠ some true := fun h => hn ((hS j).2 h)
            rw [Array.getElem?_eq_getElem hjl] at hne
            simp only [Array.getD, hjl, dif_pos]
            cases hq : listed[j] with
            | false => simpa using hq
            | true => exact (hne (by rw [hq])).elim
          · have hlt := T.d2 j _ (List.getElem?_eq_getElem hjo) e he hb
            have := (hS e.on).1 (ih e.on hlt (by omega))
            simp [Array.getD_eq_getD_getElem?, this]
        rw [hr] at this
        simp at this
    obtain ⟨rfl, rfl⟩ := T.at_end V hall
    exact hQ ι I a w V.ar V.hr V.ext
  intro fuel
  induction fuel with
  | zero =>
    intro listed S m ρ H ι I a w V hl hS hf
    have hr : Region.ready .any ops listed = [] := by
      cases hq : Region.ready .any ops listed with
      | nil => rfl
      | cons i l =>
        have hi : i ∈ Region.ready .any ops listed := by rw [hq]; simp
        obtain ⟨h1, h2, _⟩ := mem_ready.1 hi
        have hz := List.eq_nil_of_length_eq_zero (Nat.le_zero.1 hf)
        have : i ∈ (List.range ops.size).filter fun j => !listed.getD j true := by
          rw [List.mem_filter]
          exact ⟨List.mem_range.2 h1, by rw [h2]; rfl⟩
        rw [hz] at this
        simp at this
    exact ⟨hr, hdone listed V hl hS hr⟩
  | succ fuel ih =>
    intro listed S m ρ H ι I a w V hl hS hf
    refine ⟨hdone listed V hl hS, fun i hi => ?_⟩
    obtain ⟨h1, h2, o, ho, hready⟩ := mem_ready.1 hi
    have hiros : i < ros.length := by omega
    have hro := List.getElem?_eq_getElem hiros
    have hnS : ¬ S i := by
      intro h
      have := (hS i).1 h
      simp [Array.getD_eq_getD_getElem?, this] at h2
    have hrd : ∀ e ∈ o.after.toList, Region.binds .any e = true → S e.on := by
      intro e he hb
      have hx := hready e he hb
      rw [hS]
      cases hq : listed[e.on]? with
      | none => simp [Array.getD_eq_getD_getElem?, hq] at hx
      | some b => simp [Array.getD_eq_getD_getElem?, hq] at hx; rw [hx]
    have hop : ops[i]? = some o := by simpa using ho
    unfold wpOp
    rw [hop]
    simp only []
    refine T.op_sound hcg hkt V hro ho hnS hrd ?_
    intro m' ρ' H' ι' I' a' w' V'
    refine ih (listed.setIfInBounds i true) V' (by simp [hl]) (fun j => ?_) ?_
    · by_cases hji : j = i
      · subst hji
        have : j < listed.size := by omega
        simp [this]
      · simp [hji, Array.getElem?_setIfInBounds_ne (Ne.symm hji), hS j]
    · have hlt := filter_len_lt (p := fun j => !listed.getD j true) (p' := fun j => !(listed.setIfInBounds i true).getD j true) (i := i) (fun j hj => ?_) (by simp [h2]) ?_ (List.range ops.size) (by simpa using h1)
      · omega
      · by_cases hji : j = i
        · subst hji
          have hjl : j < listed.size := by omega
          simp [Array.getD_eq_getD_getElem?, hjl] at hj
        · simpa [Array.getD_eq_getD_getElem?, Array.getElem?_setIfInBounds_ne (Ne.symm hji)] using hj
      · have hjl : i < listed.size := by omega
        simp [Array.getD_eq_getD_getElem?, hjl]

end
end Go.Proofs.YtjkllffbjeajhaaGreat.Am

namespace Go.Proofs.YtjkllffbjeajhaaGreat.Am
open Go

section
variable {P : Program} {md : Mode}

theorem getD_of {α : Type} [Inhabited α] {l : List α} {i : Nat} {x : α} (h : l[i]? = some x) : l.getD i default = x := by simp [List.getD, h]

theorem maskOf_bit {accM : List Nat} {accL : List (List Nat)} (h : ∀ j i, (accM.getD j 0).testBit i = (accL.getD j []).contains i) (i : Nat) : ∀ es : List Edge,
    (maskOf accM es).testBit i = (es.flatMap fun e => e.on :: accL.getD e.on []).contains i
  | [] => by simp [maskOf]
  | e :: es => by
    rw [maskOf, Nat.testBit_or, Nat.testBit_or, maskOf_bit h i es, h, Nat.testBit_two_pow, List.flatMap_cons]
    rw [Bool.eq_iff_iff]
    simp only [Bool.or_eq_true, decide_eq_true_eq, List.contains_iff_mem, List.mem_append, List.mem_cons]
    constructor
    · rintro ((h1 | h1) | h1)
      · exact .inl (.inl h1.symm)
      · exact .inl (.inr h1)
      · exact .inr h1
    · rintro ((h1 | h1) | h1)
      · exact .inl (.inl h1.symm)
      · exact .inl (.inr h1)
      · exact .inr h1

theorem predsM_bit : ∀ (os : List Oper) (accM : List Nat) (accL : List (List Nat)), accM.length = accL.length → (∀ j i, (accM.getD j 0).testBit i = (accL.getD j []).contains i) →
    ∀ j i, ((predsM os accM).getD j 0).testBit i = ((predsL os accL).getD j []).contains i
  | [], accM, accL, hl, h, j, i => h j i
  | o :: os, accM, accL, hl, h, j, i => by
    rw [predsM, predsL]
    refine predsM_bit os _ _ (by simp [hl]) (fun j i => ?_) j i
    simp only [List.getD_eq_getElem?_getD]
    by_cases hj : j < accM.length
    · rw [List.getElem?_append_left hj, List.getElem?_append_left (by omega)]
      have := h j i
      simpa only [List.getD_eq_getElem?_getD] using this
    · rw [List.getElem?_append_right (by omega), List.getElem?_append_right (by omega), hl]
      by_cases hj2 : j = accL.length
      · subst hj2
        simpa using maskOf_bit h i (o.after.toList.filter fun e => Region.binds .any e)
      · have : 0 < j - accL.length := by omega
        obtain ⟨d, hd⟩ : ∃ d, j - accL.length = d + 1 := ⟨j - accL.length - 1, by omega⟩
        rw [hd]
        simp

theorem mask_ord {ops : Array Oper} {m i j : Nat} (hm : (predsM ops.toList [])[j]? = some m) : m.testBit i = ordL (predsL ops.toList []) i j := by
  have := predsM_bit ops.toList [] [] rfl (fun j i => by simp) j i
  rw [List.getD_eq_getElem?_getD, hm] at this
  simpa [ordL] using this

theorem pairs_mem {ros : List RO} {ms : List Nat} (hl : ms.length = ros.length) {i : Nat} {ri : RO} (hi : ros[i]? = some ri) : ∃ m, ms[i]? = some m ∧ ((ri, m), i) ∈ pairs ros ms := by
  have hlt := (List.getElem?_eq_some_iff.1 hi).1
  have hm := List.getElem?_eq_getElem (l := ms) (i := i) (by omega)
  refine ⟨_, hm, ?_⟩
  rw [pairs, List.mem_zipIdx_iff_getElem?, List.getElem?_zip_eq_some]
  exact ⟨hi, hm⟩

theorem okD_parts {ops : Array Oper} {ros : List RO} (h : okD ops ros = true) :
    (∀ (i j : Nat) (ri rj : RO) (t : Nat), ros[i]? = some ri → ros[j]? = some rj → ri.dst = some t → rj.dst = some t → i = j) ∧
    (∀ (k : Nat) (o : Oper), ops.toList[k]? = some o → ∀ e ∈ o.after.toList, Region.binds .any e = true → e.on < k) ∧
    (∀ (i j : Nat) (ri rj : RO) (t : Nat), ros[i]? = some ri → ros[j]? = some rj → i ≠ j → t ∈ ri.slots → rj.dst = some t → if j < i then ordL (predsL ops.toList []) j i = true else ordL (predsL ops.toList []) i j = true) ∧
    (∀ (i j : Nat) (ri rj : RO), i < j → ros[i]? = some ri → ros[j]? = some rj → ri.op.eff = true → rj.op.eff = true → ordL (predsL ops.toList []) i j = true) ∧
    (∀ ro ∈ ros, ro.op.keyTmp = true) ∧ (predsM ops.toList []).length = ros.length := by
  simp only [okD, Bool.and_eq_true] at h
  obtain ⟨⟨⟨⟨⟨h0, h1⟩, h2⟩, h3⟩, h4⟩, h5⟩ := h
  have hl : (predsM ops.toList []).length = ros.length := by simpa using h0
  simp only [List.all_eq_true] at h1 h3 h5
  refine ⟨fun i j ri rj t hi hj hdi hdj => ?_, fun k o hk e he hb => ?_, fun i j ri rj t hi hj hne ht hd => ?_, fun i j ri rj hij hi hj hei hej => ?_, h5, hl⟩
  · obtain ⟨mi, hmi, hpi⟩ := pairs_mem hl hi
    obtain ⟨mj, hmj, hpj⟩ := pairs_mem hl hj
    have := h1 _ hpi _ hpj
    simp only [hdi, hdj] at this
    simpa using this
  · rw [List.all_eq_true] at h2
    have := h2 (o, k) (by rw [List.mem_iff_getElem?]; exact ⟨k, by simp [List.getElem?_zipIdx, hk]⟩)
    simp only [List.all_eq_true] at this
    have := this e he
    simpa [hb] using this
  · obtain ⟨mi, hmi, hpi⟩ := pairs_mem hl hi
    obtain ⟨mj, hmj, hpj⟩ := pairs_mem hl hj
    have := h3 _ hpi t ht _ hpj
    simp only [hd] at this
    have hne' : (i == j) = false := by simpa using hne
    rw [hne'] at this
    rw [← mask_ord hmi, ← mask_ord hmj]
    split
    · rename_i hlt; simpa [hlt] using this
    · rename_i hlt; simpa [hlt] using this
  · obtain ⟨mi, hmi, hpi⟩ := pairs_mem hl hi
    obtain ⟨mj, hmj, hpj⟩ := pairs_mem hl hj
    rw [List.all_eq_true] at h4
    have := h4 _ hpj
    simp only [hej, Bool.not_true, Bool.false_or, List.all_eq_true] at this
    have := this _ hpi
    rw [← mask_ord hmj]
    simpa [hei, hij] using this

theorem unD_mem {ops : Array Oper} {ros : List RO} (hl : (predsM ops.toList []).length = ros.length) {i k : Nat} {ri rk : RO} (hk : k < i) (hi : ros[i]? = some ri) (hk' : ros[k]? = some rk)
    (hx : (ri.op.reads = true ∧ rk.op.eff = true) ∨ (ri.op.eff = true ∧ rk.op.reads = true)) (ho : ordL (predsL ops.toList []) k i = false) : k ∈ (unD ops ros).getD i [] := by
  obtain ⟨mi, hmi, hpi⟩ := pairs_mem hl hi
  obtain ⟨mk, hmk, hpk⟩ := pairs_mem hl hk'
  have hget : (pairs ros (predsM ops.toList []))[i]? = some ((ri, mi), i) := by
    rw [pairs, List.getElem?_zipIdx, (List.getElem?_zip_eq_some (z := (ri, mi))).2 ⟨hi, hmi⟩]
    simp
  simp only [unD, List.getD_eq_getElem?_getD, List.getElem?_map, hget, Option.map_some, Option.getD_some]
  have hany : (ri.op.reads || ri.op.eff) = true := by rcases hx with ⟨h1, _⟩ | ⟨h1, _⟩ <;> simp [h1]
  rw [if_pos hany, List.mem_map]
  refine ⟨((rk, mk), k), ?_, rfl⟩
  rw [List.mem_filter]
  refine ⟨hpk, ?_⟩
  simp only [mask_ord hmi, ho]
  rcases hx with ⟨h1, h2⟩ | ⟨h1, h2⟩ <;> simp [h1, h2, hk]

/-- The world with one more drawing. -/
theorem drawn_world {ι : Inj} {I : Imm} {h : AHeap} {w : World} (H : HR ι I h w) (d : Nat) : HR ι I h { w with drawn := d } ∧ Ext (fun _ => False) ι I h w ι I h { w with drawn := d } ∧ (∀ x v, VR ι I w x v → VR ι I { w with drawn := d } x v) := by
  have hv : ∀ x v, VR ι I w x v → VR ι I { w with drawn := d } x v := fun x v hx => VR.mono (w := w) (w' := { w with drawn := d }) (fun _ _ h => h) (fun _ _ h => h) (fun _ _ _ => rfl) hx
  refine ⟨{ dom := H.dom, inside := H.inside, cells := ?_, maps := ?_, tails := H.tails, disj := H.disj, imm := H.imm, Iin := H.Iin, pl := H.pl }, ?_, hv⟩
  · intro b cs l hg hb
    obtain ⟨cb, o, room, h1, h2, h3, h4⟩ := H.cells b cs l hg hb
    refine ⟨cb, o, room, h1, h2, h3, fun j hj => ?_⟩
    obtain ⟨c, e1, e2, e3⟩ := h4 j hj
    exact ⟨c, e1, e2, fun v hv' => hv _ _ (e3 v hv')⟩
  · intro b es l hg hb
    obtain ⟨cb, es', clock, h1, h2, h3, h4⟩ := H.maps b es l hg hb
    exact ⟨cb, es', clock, h1, h2, h3, fun i k v e e1 e2 => ⟨hv _ _ (h4 i k v e e1 e2).1, hv _ _ (h4 i k v e e1 e2).2⟩⟩
  · exact { keep := fun _ _ => rfl, more := fun _ _ h => h, next := Nat.le_refl _, imm := fun _ _ h => h, os := rfl, tape := rfl, output := rfl, size := Nat.le_refl _, block := fun _ _ _ => rfl, cell := fun _ _ _ _ => rfl, frozen := fun _ _ _ _ => rfl, own := fun _ _ h => .inl h, inew := fun _ _ h => .inl h, lost := fun _ _ _ => rfl }

/-- A region whose order is drawn. -/
theorem regD_sound (hm : P.follows .mixedOrders = true) {n : Nat} {rid : Nat} {ops : Array Oper} {ros : List RO} (hc : cROs P md n ops ops.toList = some ros) (hok : okD ops ros = true)
    {ι : Inj} {I : Imm} {h : AHeap} {w : World} {ρ : Env} {a : Act} (H : HR ι I h w) (A : AR ι I w n ρ a) (hfree : ∀ j, j < ros.length → h.get (h.next + j) = none)
    {K : Env → AHeap → Prop} (he : execD P ros (unD ops ros) h.next ros 0 ρ { h with next := h.next + ros.length } [] K) {Q : Exit → Act → World → Prop}
    (hQ : ∀ ρ' h' a' w' ι' I', K ρ' h' → AR ι' I' w' n ρ' a' → HR ι' I' h' w' → Ext (h.next ≤ ·) ι I h w ι' I' h' w' → Q .normal a' w') :
    (Code.region rid ops true).wp P Q a w := by
  obtain ⟨hlen, hcg⟩ := cROs_get hc
  obtain ⟨d1, d2, d3, d4, d6, dl⟩ := okD_parts hok
  obtain ⟨tr, ρn, hn, htl, hKn, hall, _, hst0⟩ := trace_of (P := P) (K := K) (ros := ros) (un := unD ops ros) (base := h.next) ros [] ρ { h with next := h.next + ros.length } [] rfl rfl (fun i ro d _ hd => by simp at hd) he
  have hst0 := hst0 rfl
  have htr : ∀ i, i < ros.length → ∃ d, tr[i]? = some d := fun i hi => ⟨_, List.getElem?_eq_getElem (by omega)⟩
  let ρs : Nat → Env := fun i => (stOf tr ρn hn i).1
  let hs : Nat → AHeap := fun i => (stOf tr ρn hn i).2
  let rs : Nat → Option AV := fun i => (tr[i]?).elim none fun d => d.2.2
  have hrs : ∀ i d, tr[i]? = some d → rs i = d.2.2 := fun i d hd => by simp [rs, hd]
  have hst : ∀ i d, tr[i]? = some d → stOf tr ρn hn i = (d.1, d.2.1) := fun i d hd => by simp [stOf, hd]
  have T : TR P ops ros (unD ops ros) h.next ρs hs rs := {
    step := by
      intro i ro hi
      obtain ⟨d, hd⟩ := htr i (List.getElem?_eq_some_iff.1 hi).1
      obtain ⟨a1, a2, _, _⟩ := hall i ro d hi hd
      rw [hrs i d hd]
      exact ⟨a1, a2⟩
    chk := by
      intro i k ro ok hi hk hki hmem
      obtain ⟨d, hd⟩ := htr i (List.getElem?_eq_some_iff.1 hi).1
      obtain ⟨dk, hdk⟩ := htr k (List.getElem?_eq_some_iff.1 hk).1
      obtain ⟨_, _, _, a4⟩ := hall i ro d hi hd
      have := a4 k hmem ok dk hk hdk hki
      rw [hrs i d hd, hrs k dk hdk]
      have e : (ρs k, hs k, dk.2.2) = dk := by
        simp only [ρs, hs, hst k dk hdk]
      rw [e]
      exact this
    fresh0 := by
      intro j hj
      show (stOf tr ρn hn 0).2.get (h.next + j) = none
      rw [hst0]
      exact hfree j hj
    freshE := by
      intro i ro hi heff j hij hj
      obtain ⟨d, hd⟩ := htr i (List.getElem?_eq_some_iff.1 hi).1
      obtain ⟨_, _, a3, _⟩ := hall i ro d hi hd
      exact a3 heff j hij hj
    next0 := by
      show h.next + ros.length ≤ (stOf tr ρn hn 0).2.next
      rw [hst0]; exact Nat.le_refl _
    d1 := d1, d2 := d2, d3 := d3, d4 := d4
    d5 := fun i k ri rk hki hi hk hx ho => unD_mem dl hki hi hk hx ho }
  refine wp_region_any hm ?_
  obtain ⟨Hd, Ed, Vd⟩ := drawn_world H (w.drawn + 1)
  have hs0 : hs 0 = { h with next := h.next + ros.length } := by show (stOf tr ρn hn 0).2 = _; rw [hst0]
  have ρs0 : ρs 0 = ρ := by show (stOf tr ρn hn 0).1 = _; rw [hst0]
  have hsn : hs ros.length = hn := by
    show (stOf tr ρn hn ros.length).2 = hn
    simp [stOf, List.getElem?_eq_none (show tr.length ≤ ros.length by omega)]
  have ρsn : ρs ros.length = ρn := by
    show (stOf tr ρn hn ros.length).1 = ρn
    simp [stOf, List.getElem?_eq_none (show tr.length ≤ ros.length by omega)]
  have E0 : Ext (h.next ≤ ·) ι I h w ι I { h with next := h.next + ros.length } { w with drawn := w.drawn + 1 } :=
    { keep := fun _ _ => rfl, more := fun _ _ h => h, next := by simp, imm := fun _ _ h => h, os := rfl, tape := rfl, output := rfl, size := Nat.le_refl _, block := fun _ _ _ => rfl, cell := fun _ _ _ _ => rfl, frozen := fun _ _ _ _ => rfl, own := fun _ _ h => .inl h, inew := fun _ _ h => .inl h, lost := fun _ _ _ => rfl }
  have H0 : HR ι I (hs 0) { w with drawn := w.drawn + 1 } := by
    rw [hs0]
    exact Hd.onDom (fun b l hb => by have := H.dom b l hb; show b < h.next + ros.length; omega) (fun b l x _ hx => hx)
  refine T.any_sound hlen hcg d6 (ι0 := ι) (I0 := I) (w0 := { w with drawn := w.drawn + 1 }) (Q := Q) ?_ ops.size (Array.replicate ops.size false) (S := fun _ => False) (m := 0) (ρ := ρ) (H := hs 0) (ι := ι) (I := I) ?_ (by simp) ?_ ?_
  · intro ι' I' a' w' A' H' E'
    rw [ρsn] at A'
    rw [hsn] at H'
    rw [hs0, hsn] at E'
    exact hQ ρn hn a' w' ι' I' hKn A' H' (E0.trans E' (fun b hb => hb))
  · exact
    { ar := A.mono Vd, hr := H0, ext := .refl _ _ _ _ _, ρ0 := fun t _ => by rw [ρs0], ρ1 := fun t j ro hj => hj.elim, h1 := fun j hj => hj.elim, h2 := fun b _ => rfl, hn := rfl
      lt := fun j hj => hj.elim, closed := fun j o hj => hj.elim, mle := Nat.zero_le _, eff1 := fun j ro hj => hj.elim, eff2 := fun j ro hj => by omega, mlast := .inl rfl
      inj := fun j hj _ => by
        cases hq : ι (h.next + j) with
        | none => rfl
        | some l => have := H.dom _ _ hq; omega
      pb := fun j hj => by omega
      next := by rw [hs0]; exact Nat.le_refl _ }
  · intro j
    simp [Array.getElem?_replicate]
  · exact Nat.le_trans (List.length_filter_le _ _) (by simp)

end
end Go.Proofs.YtjkllffbjeajhaaGreat.Am

/- Code: the big steps, and that the model makes them. -/
namespace Go.Proofs.YtjkllffbjeajhaaGreat.Am
open Go

/-- Blocks that nothing can name are taken away; room for so many. -/
def AHeap.clean (h : AHeap) (n : Nat) : AHeap := { get := fun b => if b < h.next then h.get b else none, next := h.next + n }

def AExit.toExit : AExit → Exit
  | .normal => .normal
  | .exit id => .exit id
  | .goto l => .goto l
  | .ret => .ret

def Post (n : Nat) (ι : Inj) (I : Imm) (h : AHeap) (w : World) (e : AExit) (ρ' : Env) (h' : AHeap) : Exit → Act → World → Prop := fun x a' w' =>
  x = e.toExit ∧ ∃ ι' I', AR ι' I' w' n ρ' a' ∧ HR ι' I' h' w' ∧ Ext (h.next ≤ ·) ι I h w ι' I' h' w'

def SndAt (P : Program) (md : Mode) (m : Nat) (c : RCode) (ρ : Env) (h : AHeap) (e : AExit) (ρ' : Env) (h' : AHeap) : Prop :=
  ∀ (n : Nat) (ι : Inj) (I : Imm) (w : World) (a : Act), HR ι I h w → AR ι I w n ρ a →
    match c with
    | .inScope body cur => ∀ cb cc, cCode P md n cb = some body → cCode P md n cc = some cur → ∀ b k cs, ∃ x a' w', Post n ι I h w e ρ' h' x a' w' ∧
        Arrives P (lone (b.at a (.code cc :: .inScope cb :: k)) cs w) b k cs x a' w'
    | .loop c' => ∀ cc, cCode P md n cc = some c' → Code.rounds P cc (Post n ι I h w e ρ' h') m a w
    | c => ∀ cc, cCode P md n cc = some c → cc.wp P (Post n ι I h w e ρ' h') a w

def Snd (P : Program) (md : Mode) (c : RCode) (ρ : Env) (h : AHeap) (e : AExit) (ρ' : Env) (h' : AHeap) : Prop := ∃ m, SndAt P md m c ρ h e ρ' h'

inductive Big (P : Program) : RCode → Env → AHeap → AExit → Env → AHeap → Prop
  | skip {ρ : Env} {h : AHeap} : Big P .skip ρ h .normal ρ h
  | label {l : Nat} {ρ : Env} {h : AHeap} : Big P (.label l) ρ h .normal ρ h
  | exit {id : Nat} {ρ : Env} {h : AHeap} : Big P (.exit id) ρ h (.exit id) ρ h
  | goto {l : Nat} {ρ : Env} {h : AHeap} : Big P (.goto l) ρ h (.goto l) ρ h
  | ret {ρ : Env} {h : AHeap} : Big P .ret ρ h .ret ρ h
  | reg {ros : List RO} {ρ ρ1 : Env} {h h1 : AHeap} (he : exec P ros ρ h (fun ρ' h' => ρ' = ρ1 ∧ h' = h1)) : Big P (.reg ros) ρ h .normal ρ1 h1
  | regD {ros : List RO} {un : List (List Nat)} {ρ ρ1 : Env} {h h1 : AHeap} (hf : ∀ j, j < ros.length → h.get (h.next + j) = none)
      (he : execD P ros un h.next ros 0 ρ { h with next := h.next + ros.length } [] (fun ρ' h' => ρ' = ρ1 ∧ h' = h1)) : Big P (.regD ros un) ρ h .normal ρ1 h1
  | regC {ros : List RO} {un : List (List Nat)} {ρ ρ1 : Env} {h h1 : AHeap} (he : execD P ros un h.next ros 0 ρ (h.clean ros.length) [] (fun ρ' h' => ρ' = ρ1 ∧ h' = h1)) : Big P (.regD ros un) ρ h .normal ρ1 h1
  | seq {a b : RCode} {ρ ρ1 ρ2 : Env} {h h1 h2 : AHeap} {e : AExit} (b1 : Big P a ρ h .normal ρ1 h1) (b2 : Big P b ρ1 h1 e ρ2 h2) : Big P (.seq a b) ρ h e ρ2 h2
  | seqX {a b : RCode} {ρ ρ1 : Env} {h h1 : AHeap} {e : AExit} (b1 : Big P a ρ h e ρ1 h1) (he : e ≠ .normal) : Big P (.seq a b) ρ h e ρ1 h1
  | cond {c : Opd} {x y : RCode} {ρ ρ1 : Env} {h h1 : AHeap} {e : AExit} (t : Bool) (hc : c.ev ρ = .bool t) (b1 : Big P (if t then x else y) ρ h e ρ1 h1) : Big P (.cond c x y) ρ h e ρ1 h1
  | block {id : Nat} {c : RCode} {ρ ρ1 : Env} {h h1 : AHeap} {e : AExit} (b1 : Big P c ρ h e ρ1 h1) : Big P (.block id c) ρ h (if e = .exit id then .normal else e) ρ1 h1
  | loop {c : RCode} {ρ ρ1 ρ2 : Env} {h h1 h2 : AHeap} {e : AExit} (b1 : Big P c ρ h .normal ρ1 h1) (b2 : Big P (.loop c) ρ1 h1 e ρ2 h2) : Big P (.loop c) ρ h e ρ2 h2
  | loopX {c : RCode} {ρ ρ1 : Env} {h h1 : AHeap} {e : AExit} (b1 : Big P c ρ h e ρ1 h1) (he : e ≠ .normal) : Big P (.loop c) ρ h e ρ1 h1
  | scope {c : RCode} {ρ ρ1 : Env} {h h1 : AHeap} {e : AExit} (b1 : Big P (.inScope c c) ρ h e ρ1 h1) : Big P (.scope c) ρ h e ρ1 h1
  | inX {body cur : RCode} {ρ ρ1 : Env} {h h1 : AHeap} {e : AExit} (b1 : Big P cur ρ h e ρ1 h1) (he : ∀ l, e = .goto l → findLabelR body l = none) : Big P (.inScope body cur) ρ h e ρ1 h1
  | inJ {body cur rest : RCode} {l : Nat} {ρ ρ1 ρ2 : Env} {h h1 h2 : AHeap} {e : AExit} (b1 : Big P cur ρ h (.goto l) ρ1 h1) (hl : findLabelR body l = some rest) (b2 : Big P (.inScope body rest) ρ1 h1 e ρ2 h2) :
      Big P (.inScope body cur) ρ h e ρ2 h2
  | sem {a b : RCode} {ρ ρ1 : Env} {h h1 : AHeap} {e : AExit} (hs : ∀ md, Snd P md (.rseq a b) ρ h e ρ1 h1) : Big P (.rseq a b) ρ h e ρ1 h1

section
variable {P : Program} {md : Mode}

def CInv (P : Program) (md : Mode) (n : Nat) (cc : Code) : RCode → Prop
  | .skip => cc = .skip
  | .reg ros => ∃ id ops, cc = .region id ops false ∧ cROs P md n ops ops.toList = some ros
  | .regD ros un => ∃ id ops, cc = .region id ops true ∧ cROs P md n ops ops.toList = some ros ∧ okD ops ros = true ∧ un = unD ops ros
  | .seq a b => ∃ x y, cc = .seq x y ∧ cCode P md n x = some a ∧ cCode P md n y = some b
  | .rseq a b => ∃ x y, cc = .seq x y ∧ cCode P md n x = some a ∧ cCode P md n y = some b
  | .cond c a b => ∃ o x y, cc = .cond o x y ∧ cOpd md.pr o = some c ∧ cCode P md n x = some a ∧ cCode P md n y = some b
  | .block id a => ∃ x, cc = .block id x ∧ cCode P md n x = some a
  | .loop a => ∃ x, cc = .loop x ∧ cCode P md n x = some a
  | .exit id => cc = .exit id
  | .scope a => ∃ x, cc = .scope x ∧ cCode P md n x = some a
  | .inScope _ _ => False
  | .label l => cc = .label l
  | .goto l => cc = .goto l
  | .ret => cc = .ret

theorem cCode_inv {n : Nat} {cc : Code} {r : RCode} (hc : cCode P md n cc = some r) : CInv P md n cc r := by
  cases cc <;> try (simp only [cCode] at hc; first | (cases hc; rfl) | (cases hc; done))
  case region id ops d =>
    cases d with
    | false =>
      simp only [cCode, Option.map_eq_some_iff] at hc
      obtain ⟨ros, h1, rfl⟩ := hc
      exact ⟨id, ops, rfl, h1⟩
    | true =>
      simp only [cCode, Option.bind_eq_bind, Option.bind_eq_some_iff] at hc
      obtain ⟨ros, h1, hc⟩ := hc
      split at hc
      · rename_i hok; cases hc; exact ⟨id, ops, rfl, h1, hok, rfl⟩
      · cases hc
  case seq a b =>
    simp only [cCode, Option.bind_eq_bind, Option.bind_eq_some_iff] at hc
    obtain ⟨x, h1, y, h2, hc⟩ := hc
    cases hc
    cases x.rngs
    · exact ⟨a, b, rfl, h1, h2⟩
    · exact ⟨a, b, rfl, h1, h2⟩
  case cond c a b =>
    simp only [cCode, Option.bind_eq_bind, Option.bind_eq_some_iff] at hc
    obtain ⟨o, h0, x, h1, y, h2, hc⟩ := hc
    cases hc
    exact ⟨c, a, b, rfl, h0, h1, h2⟩
  case block id a =>
    simp only [cCode, Option.bind_eq_bind, Option.bind_eq_some_iff] at hc
    obtain ⟨x, h1, hc⟩ := hc
    cases hc
    exact ⟨a, rfl, h1⟩
  case loop a =>
    simp only [cCode, Option.bind_eq_bind, Option.bind_eq_some_iff] at hc
    obtain ⟨x, h1, hc⟩ := hc
    cases hc
    exact ⟨a, rfl, h1⟩
  case scope a =>
    simp only [cCode, Option.bind_eq_bind, Option.bind_eq_some_iff] at hc
    obtain ⟨x, h1, hc⟩ := hc
    cases hc
    exact ⟨a, rfl, h1⟩

def FL (P : Program) (md : Mode) (n : Nat) : Option Code → Option RCode → Prop
  | some x, some y => cCode P md n x = some y
  | none, none => True
  | _, _ => False

theorem findLabelR_rngs {l : Nat} : ∀ {c r : RCode}, findLabelR c l = some r → r.rngs = false := by
  intro c
  induction c <;> intro r h <;> simp only [findLabelR] at h <;> try (cases h; done)
  case seq a b iha ihb =>
    split at h
    · cases h; rfl
    · exact ihb h
  case rseq a b iha ihb => exact ihb h
  case label l' =>
    split at h
    · cases h; rfl
    · cases h

theorem findLabelR_reg {l : Nat} {c : RCode} (h : c.rngs = true) : findLabelR c l = none := by
  cases c <;> simp only [RCode.rngs] at h <;> first | rfl | cases h

theorem findLabel_c {n : Nat} (l : Nat) : ∀ (cc : Code) (r : RCode), cCode P md n cc = some r → FL P md n (findLabel cc l) (findLabelR r l) := by
  intro cc
  induction cc
  case seq a b iha ihb =>
    intro r hc
    simp only [cCode, Option.bind_eq_bind, Option.bind_eq_some_iff] at hc
    obtain ⟨x, h1, y, h2, hc⟩ := hc
    cases hc
    have ha := iha x h1
    have hb := ihb y h2
    cases hr : x.rngs with
    | true =>
      simp only [if_true, findLabel, findLabelR]
      rw [findLabelR_reg hr] at ha
      cases h3 : findLabel a l <;> simp only [h3, FL] at ha ⊢
      exact hb
    | false =>
    simp only [Bool.false_eq_true, if_false, findLabel, findLabelR]
    cases h3 : findLabel a l <;> cases h4 : findLabelR x l <;> simp only [h3, h4] at ha <;> simp only []
    · exact hb
    · exact ha.elim
    · exact ha.elim
    · simp only [FL] at ha ⊢
      simp [cCode, ha, h2, findLabelR_rngs h4]
  case label l' =>
    intro r hc
    simp only [cCode] at hc
    cases hc
    simp only [findLabel, findLabelR]
    by_cases h : (l' == l) = true
    · simp [h, FL, cCode]
    · simp [h, FL]
  all_goals
    intro r hc
    have hi := cCode_inv hc
    cases r <;> simp only [CInv] at hi <;> simp only [findLabel, findLabelR, FL]
    all_goals (first | (cases hi; done) | (obtain ⟨_, _, h, _⟩ := hi; cases h; done) | (obtain ⟨_, _, _, h, _⟩ := hi; cases h; done))

end
end Go.Proofs.YtjkllffbjeajhaaGreat.Am

namespace Go.Proofs.YtjkllffbjeajhaaGreat.Am
open Go

theorem Post.trans {n : Nat} {ι ι1 : Inj} {I I1 : Imm} {h h1 h2 : AHeap} {w w1 : World} {e : AExit} {ρ2 : Env} (E : Ext (h.next ≤ ·) ι I h w ι1 I1 h1 w1) {x : Exit} {a' : Act} {w' : World}
    (hp : Post n ι1 I1 h1 w1 e ρ2 h2 x a' w') : Post n ι I h w e ρ2 h2 x a' w' := by
  obtain ⟨h1, ι', I', A, H, F⟩ := hp
  exact ⟨h1, ι', I', A, H, E.trans F (fun b hb => Nat.le_trans E.next hb)⟩

theorem rounds_mono {P : Program} {c : Code} {Q Q' : Exit → Act → World → Prop} (hq : ∀ e a w, Q e a w → Q' e a w) : ∀ (n : Nat) (a : Act) (w : World), Code.rounds P c Q n a w → Code.rounds P c Q' n a w
  | 0, _, _, h => h
  | n + 1, a, w, h => by
    rw [rounds_succ] at h ⊢
    refine wp_mono h (fun e a w he => ?_)
    cases e <;> simp only [Exit.then] at he ⊢ <;> first | exact rounds_mono hq n _ _ he | exact hq _ _ _ he

section
variable {P : Program} {md : Mode}

theorem Snd.wp {c : RCode} {ρ ρ' : Env} {h h' : AHeap} {e : AExit} (hs : Snd P md c ρ h e ρ' h') {n : Nat} {ι : Inj} {I : Imm} {w : World} {a : Act} (H : HR ι I h w) (A : AR ι I w n ρ a) {cc : Code} (hc : cCode P md n cc = some c) :
    cc.wp P (Post n ι I h w e ρ' h') a w := by
  obtain ⟨m, hs⟩ := hs
  have := hs n ι I w a H A
  cases c <;> try exact this cc hc
  case loop c' =>
    obtain ⟨x, rfl, hx⟩ := cCode_inv hc
    exact wp_loop_rounds m (this x hx)
  case inScope body cur => exact (cCode_inv hc).elim

theorem HR.clean {ι : Inj} {I : Imm} {h : AHeap} {w : World} (H : HR ι I h w) : HR ι I (h.clean 0) w where
  dom b l hb := by have := H.dom b l hb; simpa [AHeap.clean] using this
  inside := H.inside
  cells b cs l hg hb := H.cells b cs l (by have := H.dom b l hb; simpa [AHeap.clean, this] using hg) hb
  maps b es l hg hb := H.maps b es l (by have := H.dom b l hb; simpa [AHeap.clean, this] using hg) hb
  tails b l hg hb := H.tails b l (by have := H.dom b l hb; simpa [AHeap.clean, this] using hg) hb
  disj b b' l l' x x' k j hne hb hb' hg hg' := H.disj b b' l l' x x' k j hne hb hb' (by have := H.dom b l hb; simpa [AHeap.clean, this] using hg) (by have := H.dom b' l' hb'; simpa [AHeap.clean, this] using hg')
  imm b l x k j hb hg := H.imm b l x k j hb (by have := H.dom b l hb; simpa [AHeap.clean, this] using hg)
  Iin := H.Iin
  pl b cs cb o room hg hb := H.pl b cs cb o room (by have := H.dom b _ hb; simpa [AHeap.clean, this] using hg) hb

theorem Ext.unclean {ι ι' : Inj} {I I' : Imm} {h h' : AHeap} {w w' : World} (E : Ext ((h.clean 0).next ≤ ·) ι I (h.clean 0) w ι' I' h' w') (H : HR ι I h w) : Ext (h.next ≤ ·) ι I h w ι' I' h' w' := by
  have ho : ∀ k j, Owned ι (h.clean 0) k j ↔ Owned ι h k j := fun k j => by
    constructor
    · rintro ⟨b, l, x, hb, hg, hl⟩
      exact ⟨b, l, x, hb, by have := H.dom b l hb; simpa [AHeap.clean, this] using hg, hl⟩
    · rintro ⟨b, l, x, hb, hg, hl⟩
      exact ⟨b, l, x, hb, by have := H.dom b l hb; simpa [AHeap.clean, this] using hg, hl⟩
  exact
  { keep := fun b hb => E.keep b (by simpa [AHeap.clean] using hb), more := E.more, next := E.next, imm := E.imm, os := E.os, tape := E.tape, output := E.output, size := E.size
    block := fun k hk hn => E.block k hk (fun j hj => hn j ((ho k j).1 hj))
    cell := fun k j hk hn => E.cell k j hk (fun hj => hn ((ho k j).1 hj))
    frozen := fun k j hk hn => E.frozen k j hk (fun hj => hn ((ho k j).1 hj))
    own := fun k j hj => (E.own k j hj).imp (ho k j).1 id
    inew := fun k j hj => by rcases E.inew k j hj with h | h | h; exact .inl h; exact .inr (.inl ((ho k j).1 h)); exact .inr (.inr h)
    lost := fun b hb hi => by
      rw [E.lost b (by simpa [AHeap.clean] using hb) hi]
      have : b < h.next := by omega
      simp [AHeap.clean, this] }

theorem toExit_ne {e : AExit} (he : e ≠ .normal) {Q : Exit → Act → World → Prop} {K : Act → World → Prop} {a : Act} {w : World} (h : Q e.toExit a w) : Exit.then K Q e.toExit a w := by
  cases e <;> first | exact (he rfl).elim | exact h

theorem big_sound (hm : P.follows .mixedOrders = true) {c : RCode} {ρ ρ' : Env} {h h' : AHeap} {e : AExit} (hb : Big P c ρ h e ρ' h') : Snd P md c ρ h e ρ' h' := by
  induction hb with
  | sem hs => exact hs md
  | skip =>
    refine ⟨0, fun n ι I w a H A cc hc => ?_⟩
    obtain rfl := cCode_inv hc
    exact wp_skip ⟨rfl, ι, I, A, H, .refl _ _ _ _ _⟩
  | label =>
    refine ⟨0, fun n ι I w a H A cc hc => ?_⟩
    obtain rfl := cCode_inv hc
    exact wp_label ⟨rfl, ι, I, A, H, .refl _ _ _ _ _⟩
  | exit =>
    refine ⟨0, fun n ι I w a H A cc hc => ?_⟩
    obtain rfl := cCode_inv hc
    exact wp_exit ⟨rfl, ι, I, A, H, .refl _ _ _ _ _⟩
  | goto =>
    refine ⟨0, fun n ι I w a H A cc hc => ?_⟩
    obtain rfl := cCode_inv hc
    exact wp_goto ⟨rfl, ι, I, A, H, .refl _ _ _ _ _⟩
  | ret =>
    refine ⟨0, fun n ι I w a H A cc hc => ?_⟩
    obtain rfl := cCode_inv hc
    exact wp_ret ⟨rfl, ι, I, A, H, .refl _ _ _ _ _⟩
  | @reg ros ρ ρ1 h h1 he =>
    refine ⟨0, fun n ι I w a H A cc hc => ?_⟩
    obtain ⟨id, ops, rfl, hr⟩ := cCode_inv hc
    obtain ⟨hlen, hcg⟩ := cROs_get hr
    refine wp_region ?_
    have := exec_sound (md := md) (Q := Post n ι I h w .normal ρ1 h1) (ops := ops) ros 0 H A (fun i ro hi => ?_) he (fun ρ' h' a' w' ι' I' hk A' H' E => by
      obtain ⟨rfl, rfl⟩ := hk
      exact ⟨rfl, ι', I', A', H', E⟩)
    · rw [List.range_eq_range', show ops.size = ros.length by simpa using hlen]
      exact this
    · have hio : i < ops.toList.length := by rw [hlen]; exact (List.getElem?_eq_some_iff.1 hi).1
      refine ⟨ops.toList[i], ?_, hcg i _ ro (List.getElem?_eq_getElem hio) hi⟩
      rw [Nat.zero_add]
      have := List.getElem?_eq_getElem hio
      simpa using this
  | @regD ros un ρ ρ1 h h1 hf he =>
    refine ⟨0, fun n ι I w a H A cc hc => ?_⟩
    obtain ⟨id, ops, rfl, hr, hok, rfl⟩ := cCode_inv hc
    exact regD_sound hm hr hok H A hf he (fun ρ' h' a' w' ι' I' hk A' H' E => by
      obtain ⟨rfl, rfl⟩ := hk
      exact ⟨rfl, ι', I', A', H', E⟩)
  | @regC ros un ρ ρ1 h h1 he =>
    refine ⟨0, fun n ι I w a H A cc hc => ?_⟩
    obtain ⟨id, ops, rfl, hr, hok, rfl⟩ := cCode_inv hc
    refine regD_sound (h := h.clean 0) hm hr hok H.clean A (fun j _ => by simp only [AHeap.clean]; rw [if_neg (by omega)]) he (fun ρ' h' a' w' ι' I' hk A' H' E => by
      obtain ⟨rfl, rfl⟩ := hk
      exact ⟨rfl, ι', I', A', H', E.unclean H⟩)
  | @seq x y ρ ρ1 ρ2 h h1 h2 e b1 b2 ih1 ih2 =>
    refine ⟨0, fun n ι I w a H A cc hc => ?_⟩
    obtain ⟨cx, cy, rfl, hx, hy⟩ := cCode_inv hc
    refine wp_seq (wp_mono (ih1.wp H A hx) ?_)
    rintro _ a1 w1 ⟨rfl, ι1, I1, A1, H1, E1⟩
    exact wp_mono (ih2.wp H1 A1 hy) (fun _ _ _ hp => hp.trans E1)
  | @seqX x y ρ ρ1 h h1 e b1 he ih1 =>
    refine ⟨0, fun n ι I w a H A cc hc => ?_⟩
    obtain ⟨cx, cy, rfl, hx, hy⟩ := cCode_inv hc
    refine wp_seq (wp_mono (ih1.wp H A hx) ?_)
    rintro _ a1 w1 ⟨rfl, hp⟩
    exact toExit_ne he ⟨rfl, hp⟩
  | @cond c x y ρ ρ1 h h1 e t hcv b1 ih1 =>
    refine ⟨0, fun n ι I w a H A cc hc => ?_⟩
    obtain ⟨o, cx, cy, rfl, ho, hx, hy⟩ := cCode_inv hc
    have hov : VR ι I w (c.ev ρ) (a.eval o) := cOpd_sim A ho
    rw [hcv] at hov
    have : a.eval o = .bool t := by generalize a.eval o = u at hov; cases hov; rfl
    refine wp_cond this ?_
    cases t
    · exact ih1.wp H A hy
    · exact ih1.wp H A hx
  | @block id c ρ ρ1 h h1 e b1 ih1 =>
    refine ⟨0, fun n ι I w a H A cc hc => ?_⟩
    obtain ⟨cx, rfl, hx⟩ := cCode_inv hc
    refine wp_block (wp_mono (ih1.wp H A hx) ?_)
    rintro _ a1 w1 ⟨rfl, hp⟩
    cases e with
    | exit id' =>
      simp only [AExit.toExit, Exit.inBlock]
      by_cases hid : id' = id
      · simp only [hid, if_true]; exact ⟨rfl, hp⟩
      · simp only [hid, if_false]
        have : ¬ (AExit.exit id' = AExit.exit id) := fun h => hid (AExit.exit.inj h)
        simp only [this, if_false]
        exact ⟨rfl, hp⟩
    | normal => simp only [AExit.toExit, Exit.inBlock]; exact ⟨rfl, hp⟩
    | goto l => simp only [AExit.toExit, Exit.inBlock]; exact ⟨rfl, hp⟩
    | ret => simp only [AExit.toExit, Exit.inBlock]; exact ⟨rfl, hp⟩
  | @loop c ρ ρ1 ρ2 h h1 h2 e b1 b2 ih1 ih2 =>
    obtain ⟨m, ih2⟩ := ih2
    refine ⟨m + 1, fun n ι I w a H A cc hc => ?_⟩
    rw [rounds_succ]
    refine wp_mono (ih1.wp H A hc) ?_
    rintro _ a1 w1 ⟨rfl, ι1, I1, A1, H1, E1⟩
    exact rounds_mono (fun _ _ _ hp => Post.trans E1 hp) m a1 w1 (ih2 n ι1 I1 w1 a1 H1 A1 cc hc)
  | @loopX c ρ ρ1 h h1 e b1 he ih1 =>
    refine ⟨1, fun n ι I w a H A cc hc => ?_⟩
    rw [rounds_succ]
    refine wp_mono (ih1.wp H A hc) ?_
    rintro _ a1 w1 ⟨rfl, hp⟩
    exact toExit_ne he ⟨rfl, hp⟩
  | @scope c ρ ρ1 h h1 e b1 ih1 =>
    obtain ⟨m, ih1⟩ := ih1
    refine ⟨0, fun n ι I w a H A cc hc => ?_⟩
    obtain ⟨cx, rfl, hx⟩ := cCode_inv hc
    intro b k cs
    obtain ⟨x, a', w', hp, harr⟩ := ih1 n ι I w a H A cx cx hx hx b k cs
    exact ⟨x, a', w', hp, .of_steps (.one step_scope) harr⟩
  | @inX body cur ρ ρ1 h h1 e b1 he ih1 =>
    refine ⟨0, fun n ι I w a H A cb cc hcb hcc b k cs => ?_⟩
    obtain ⟨x, a', w', hp, harr⟩ := ih1.wp H A hcc b (.inScope cb :: k) cs
    obtain ⟨rfl, hp'⟩ := hp
    refine ⟨_, a', w', ⟨rfl, hp'⟩, ?_⟩
    cases e with
    | normal => exact Steps.trans harr (.one step_inScope)
    | exit id => exact fun k' hk => harr k' (by simp [exitTo, hk])
    | ret => exact harr
    | goto l =>
      intro k' hk
      refine harr k' ?_
      have hfl := findLabel_c l cb body hcb
      rw [he l rfl] at hfl
      cases hf : findLabel cb l with
      | none => simp [gotoIn, hf, hk]
      | some r => rw [hf] at hfl; exact hfl.elim
  | @inJ body cur rest l ρ ρ1 ρ2 h h1 h2 e b1 hl b2 ih1 ih2 =>
    obtain ⟨m, ih2⟩ := ih2
    refine ⟨0, fun n ι I w a H A cb cc hcb hcc b k cs => ?_⟩
    obtain ⟨x, a1, w1, hp, harr⟩ := ih1.wp H A hcc b (.inScope cb :: k) cs
    obtain ⟨rfl, ι1, I1, A1, H1, E1⟩ := hp
    have hfl := findLabel_c l cb body hcb
    rw [hl] at hfl
    cases hf : findLabel cb l with
    | none => rw [hf] at hfl; exact hfl.elim
    | some r =>
      rw [hf] at hfl
      obtain ⟨x, a2, w2, hp2, harr2⟩ := ih2 n ι1 I1 w1 a1 H1 A1 cb r hcb hfl b k cs
      exact ⟨x, a2, w2, hp2.trans E1, .of_steps (harr _ (by simp [gotoIn, hf])) harr2⟩

end
end Go.Proofs.YtjkllffbjeajhaaGreat.Am

/- A function's body. -/
namespace Go.Proofs.YtjkllffbjeajhaaGreat.Am
open Go

def resOne (ρ : Env) (h : AHeap) : RRes → Option AV
  | .tmp t => some (ρ t)
  | .cell t ag sz => aload ag sz h (ρ t)

def resL (ρ : Env) (h : AHeap) : List RRes → Option (List AV)
  | [] => some []
  | x :: xs => match resOne ρ h x, resL ρ h xs with
    | some a, some l => some (a :: l)
    | _, _ => none

def tupOf : List AV → AV
  | [v] => v
  | vs => .tup vs

def args0 (args : List AV) : Env := fun t => args.getD t (.tup [])

section
variable {P : Program} {md : Mode} {ι : Inj} {I : Imm} {h : AHeap} {w : World}

theorem cell_res (H : HR ι I h w) {t : TypeId} {d : TypeDesc} {sz : Nat} (hu : P.underlying t = some d) (hs : (P.info? t).map (·.size) = some sz)
    {a v : AV} {c : Value} (ha : VR ι I w a c) (hl : aload d.isRow sz h a = some v) : ∃ u, (do loadVar t (← asAddr c)).run P w = .ok u w ∧ VR ι I w v u := by
  have key : ∀ {cb o off : Nat} {cs : List AV}, RowAt ι I w cb o cs → cut d.isRow sz off cs = some v → ∃ u, (loadVar t ⟨cb, o + off, none⟩).run P w = .ok u w ∧ VR ι I w v u := by
    intro cb o off cs hr hc
    cases hd : d.isRow with
    | true =>
      rw [hd] at hc
      simp only [cut, if_true] at hc
      split at hc
      · rename_i hle
        cases hc
        obtain ⟨l', hl, h1, h2⟩ := (hr.sub off sz).list
        have hlen : l'.length = sz := by rw [← hl]; simp; omega
        have := run_loadVar_mid (P := P) w cb (o + off) t l' d h1 hu hd (by rw [hlen]; exact hs)
        exact ⟨_, this, .agg _ _ hl h2⟩
      · cases hc
    | false =>
      rw [hd] at hc
      simp only [cut, Bool.false_eq_true, if_false] at hc
      obtain ⟨c, h1, h2⟩ := hr off v hc
      exact ⟨c, by simp [loadVar, run_agg hu, hd, run_load, h1], h2⟩
  cases ha <;> simp only [aload] at hl <;> try (cases hl; done)
  case ptr b off cb o room hb =>
    simp only [cellsOf] at hl
    split at hl
    · rename_i cs hg
      obtain ⟨u, h1, h2⟩ := key (H.row (by simpa using hg) hb).1 hl
      exact ⟨u, by simpa [asAddr] using h1, h2⟩
    · cases hl
  case vp xs off cb o g hI hc hv h1 =>
    obtain ⟨u, h1, h2⟩ := key (cs := xs) (o := o) (cb := cb) (fun j v hj => by
      have hlt := (List.getElem?_eq_some_iff.1 hj).1
      exact ⟨g j, hc j hlt, hv j v hj⟩) hl
    exact ⟨u, by simpa [asAddr] using h1, h2⟩

def resSem (tmps : Array Value) : ResultVar → Sem Value
  | .tmp t => pure (tmps.getD t undef)
  | .cell a t => do loadVar t (← asAddr (tmps.getD a undef))

theorem resL_sim (H : HR ι I h w) {n : Nat} {ρ : Env} {a : Act} (A : AR ι I w n ρ a) : ∀ (rv : List ResultVar) (rs : List RRes) (vs : List AV), cResults P rv = some rs → resL ρ h rs = some vs →
    ∃ us : List Value, (rv.mapM (resSem a.tmps)).run P w = .ok us w ∧ LR ι I w vs us
  | [], rs, vs, hc, hv => by
    simp only [cResults] at hc
    cases hc
    simp only [resL] at hv
    cases hv
    exact ⟨[], by simp, ⟨rfl, fun i v c h => by simp at h⟩⟩
  | x :: xs, rs, vs, hc, hv => by
    simp only [cResults] at hc
    split at hc
    · rename_i r l h1 h2
      cases hc
      simp only [resL] at hv
      split at hv
      · rename_i v l' h3 h4
        cases hv
        obtain ⟨us, h5, h6⟩ := resL_sim H A xs l l' h2 h4
        have : ∃ u, (resSem a.tmps x).run P w = .ok u w ∧ VR ι I w v u := by
          cases x with
          | tmp t =>
            simp only [cRes] at h1
            cases h1
            simp only [resOne] at h3
            cases h3
            exact ⟨_, by simp [resSem], A.get t⟩
          | cell t ty =>
            simp only [cRes, Option.bind_eq_bind, Option.bind_eq_some_iff] at h1
            obtain ⟨d, hd, sz, hsz, h1⟩ := h1
            cases h1
            exact cell_res H hd hsz (A.get t) h3
        obtain ⟨u, hu, hvu⟩ := this
        refine ⟨u :: us, by simp [List.mapM_cons, hu, h5], ?_⟩
        exact LR.cons hvu h6
      · cases hv
    · cases hc

theorem results_sim (H : HR ι I h w) {n : Nat} {ρ : Env} {a : Act} (A : AR ι I w n ρ a) {fn : Func} {rs : List RRes} {vs : List AV} (hc : cResults P fn.results.toList = some rs) (hv : resL ρ h rs = some vs) :
    ∃ u, (results fn a.tmps).run P w = .ok u w ∧ VR ι I w (tupOf vs) u := by
  obtain ⟨us, h1, h2⟩ := resL_sim H A _ rs vs hc hv
  have hm : (fn.results.mapM (resSem a.tmps)).run P w = .ok us.toArray w := by
    rw [← Array.toArray_toList (xs := fn.results), List.mapM_toArray]
    simp [h1]
  have hfun : results fn a.tmps = (do
      let vs ← fn.results.mapM (resSem a.tmps)
      pure (if h : vs.size = 1 then vs[0] else .tuple vs)) := by
    unfold results
    congr 2
  rw [hfun]
  refine ⟨_, by simp only [Sem.run_bind, hm]; rfl, ?_⟩
  obtain ⟨hl, hg⟩ := h2
  match vs, us, hl, hg with
  | [], [], _, hg => exact .tup [] [] rfl hg
  | [v], [u], _, hg => exact hg 0 v u rfl rfl
  | v :: v' :: l, u :: u' :: l', hl, hg =>
    have : ¬ ((u :: u' :: l').toArray.size = 1) := by simp
    rw [dif_neg this]
    exact .tup _ _ hl hg

theorem acalls_of_big (hm : P.follows .mixedOrders = true) {f : Nat} {fn : Func} {rf : RFunc} (hf : P.funcs[f]? = some fn) (hc : cFunc P md fn = some rf) {args : List AV} (hargs : args.length ≤ rf.ntmps)
    {h h' : AHeap} {e : AExit} {ρ' : Env} {vs : List AV} (hb : Big P rf.code (args0 args) h e ρ' h') (he : e = .normal ∨ e = .ret) (hr : resL ρ' h' rf.results = some vs) : ACalls P f args h (tupOf vs) h' := by
  intro ι I w cargs H hl
  unfold cFunc at hc
  simp only [Option.bind_eq_bind, Option.bind_eq_some_iff] at hc
  obtain ⟨c, hbody, code, hcode, rs, hrs, hc⟩ := hc
  cases hc
  simp only at *
  refine calls_of_wp hf hbody ?_
  have hsz : cargs.size = args.length := by have := hl.1; simpa using this.symm
  have A : AR ι I w fn.ntmps (args0 args) { tmps := cargs ++ Array.replicate (fn.ntmps - cargs.size) undef, defers := [] } := by
    refine ⟨rfl, by simp; omega, fun t => ?_⟩
    by_cases ht : t < args.length
    · have h1 := List.getElem?_eq_getElem ht
      obtain ⟨u, hu, hv⟩ := hl.get h1
      have e1 : args0 args t = args[t] := by simp [args0, List.getD, h1]
      have e2 : (cargs ++ Array.replicate (fn.ntmps - cargs.size) undef).getD t undef = u := by
        rw [Array.getD_eq_getD_getElem?, Array.getElem?_append_left (by omega)]
        have : cargs[t]? = some u := by simpa using hu
        rw [this]; rfl
      rw [e1, e2]; exact hv
    · have e1 : args0 args t = .tup [] := by simp [args0, List.getD, List.getElem?_eq_none (show args.length ≤ t by omega)]
      have e2 : (cargs ++ Array.replicate (fn.ntmps - cargs.size) undef).getD t undef = undef := by
        rw [Array.getD_eq_getD_getElem?, Array.getElem?_append_right (by omega), Array.getElem?_replicate]
        split <;> rfl
      rw [e1, e2]; exact undef_VR
  refine wp_mono ((big_sound (md := md) hm hb).wp H A hcode) ?_
  rintro _ a' w' ⟨rfl, ι', I', A', H', E⟩
  obtain ⟨u, hu, hv⟩ := results_sim H' A' hrs hr
  have : bodyPost P fn (fun e w' => ∃ v ι' I', e = .returned v ∧ VR ι' I' w' (tupOf vs) v ∧ HR ι' I' h' w' ∧ Ext (h.next ≤ ·) ι I h w ι' I' h' w') .normal a' w' :=
    ⟨A'.defers, u, hu, u, ι', I', rfl, hv, H', E⟩
  rcases he with rfl | rfl
  · exact this
  · exact this

end
end Go.Proofs.YtjkllffbjeajhaaGreat.Am

/- An evaluator for the kernel: values are forced as they come, environment and heap are trees. -/
namespace Go.Proofs.YtjkllffbjeajhaaGreat.Am
open Go

inductive Tr (α : Type) where
  | leaf
  | node (l : Tr α) (v : Option α) (r : Tr α)
  deriving Inhabited

def Tr.get {α : Type} : Tr α → Nat → Option α
  | .leaf, _ => none
  | .node l v r, n =>
    match n with
    | 0 => v
    | .succ n => match Nat.mod n 2 with
      | 0 => l.get (Nat.div n 2)
      | _ => r.get (Nat.div n 2)

def Tr.setK {α R : Type} : Nat → Tr α → Nat → Option α → (Tr α → Option R) → Option R
  | 0, _, _, _, _ => none
  | .succ f, t, n, v, k =>
    match t with
    | .leaf => match n with
      | 0 => k (.node .leaf v .leaf)
      | .succ n => match Nat.mod n 2 with
        | 0 => Tr.setK f .leaf (Nat.div n 2) v fun l => k (.node l none .leaf)
        | _ => Tr.setK f .leaf (Nat.div n 2) v fun r => k (.node .leaf none r)
    | .node l u r => match n with
      | 0 => k (.node l v r)
      | .succ n => match Nat.mod n 2 with
        | 0 => Tr.setK f l (Nat.div n 2) v fun l' => k (.node l' u r)
        | _ => Tr.setK f r (Nat.div n 2) v fun r' => k (.node l u r')

def Tr.env (t : Tr AV) : Env := fun n => match t.get n with
  | some v => v
  | none => .tup []

structure CH where
  t : Tr Blk
  next : Nat

def CH.den (H : CH) : AHeap := { get := fun b => H.t.get b, next := H.next }

section
variable {R : Type}

def fNat (n : Nat) (k : Nat → Option R) : Option R := match n with
  | 0 => k 0
  | .succ n => k (.succ n)

def fInt (i : Int) (k : Int → Option R) : Option R := match i with
  | .ofNat n => fNat n fun n => k (.ofNat n)
  | .negSucc n => fNat n fun n => k (.negSucc n)

def fBool (b : Bool) (k : Bool → Option R) : Option R := match b with
  | true => k true
  | false => k false

def fS (v : AV) (k : AV → Option R) : Option R := match v with
  | .int kd n => match kd with
    | kd => fInt n fun n => k (.int kd n)
  | .bool b => fBool b fun b => k (.bool b)
  | .ptr b o => fNat b fun b => fNat o fun o => k (.ptr b o)
  | .rs b o l s => fNat b fun b => fNat o fun o => fNat l fun l => fNat s fun s => k (.rs b o l s)
  | .rk b o l s c => fNat b fun b => fNat o fun o => fNat l fun l => fNat s fun s => fNat c fun c => k (.rk b o l s c)
  | v => k v

def fL : List AV → (List AV → Option R) → Option R
  | [], k => k []
  | x :: xs, k => fS x fun x => fL xs fun xs => k (x :: xs)

def fLL : List (List AV) → (List (List AV) → Option R) → Option R
  | [], k => k []
  | x :: xs, k => fL x fun x => fLL xs fun xs => k (x :: xs)

def fTail (t : Tail) (k : Tail → Option R) : Option R := match t with
  | .unk => k .unk
  | .full => k .full
  | .own t => fNat t fun t => k (.own t)

def fV1 (v : AV) (k : AV → Option R) : Option R := match v with
  | .agg l => fL l fun l => k (.agg l)
  | .vs xs t => fLL xs fun xs => fTail t fun t => k (.vs xs t)
  | .vp xs o => fL xs fun xs => fNat o fun o => k (.vp xs o)
  | v => fS v k

def fVs : List AV → (List AV → Option R) → Option R
  | [], k => k []
  | x :: xs, k => fV1 x fun x => fVs xs fun xs => k (x :: xs)

def fV (v : AV) (k : AV → Option R) : Option R := match v with
  | .tup l => fVs l fun l => k (.tup l)
  | v => fV1 v k

def fEs : List (AV × AV) → (List (AV × AV) → Option R) → Option R
  | [], k => k []
  | (x, y) :: xs, k => fV1 x fun x => fV1 y fun y => fEs xs fun xs => k ((x, y) :: xs)

def fB (b : Blk) (k : Blk → Option R) : Option R := match b with
  | .cells l => fVs l fun l => k (.cells l)
  | .map es => fEs es fun es => k (.map es)
  | .tail => k .tail

theorem fNat_eq (n : Nat) (k : Nat → Option R) : fNat n k = k n := by cases n <;> rfl
theorem fInt_eq (n : Int) (k : Int → Option R) : fInt n k = k n := by cases n <;> simp [fInt, fNat_eq]
theorem fBool_eq (n : Bool) (k : Bool → Option R) : fBool n k = k n := by cases n <;> rfl
theorem fS_eq (v : AV) (k : AV → Option R) : fS v k = k v := by cases v <;> simp [fS, fNat_eq, fInt_eq, fBool_eq]
theorem fL_eq : ∀ (l : List AV) (k : List AV → Option R), fL l k = k l
  | [], k => rfl
  | x :: xs, k => by simp [fL, fS_eq, fL_eq xs]
theorem fLL_eq : ∀ (l : List (List AV)) (k : List (List AV) → Option R), fLL l k = k l
  | [], k => rfl
  | x :: xs, k => by simp [fLL, fL_eq, fLL_eq xs]
theorem fTail_eq (t : Tail) (k : Tail → Option R) : fTail t k = k t := by cases t <;> simp [fTail, fNat_eq]
theorem fV1_eq (v : AV) (k : AV → Option R) : fV1 v k = k v := by cases v <;> simp [fV1, fS_eq, fL_eq, fLL_eq, fTail_eq, fNat_eq]
theorem fVs_eq : ∀ (l : List AV) (k : List AV → Option R), fVs l k = k l
  | [], k => rfl
  | x :: xs, k => by simp [fVs, fV1_eq, fVs_eq xs]
theorem fV_eq (v : AV) (k : AV → Option R) : fV v k = k v := by cases v <;> simp [fV, fV1_eq, fVs_eq]
theorem fEs_eq : ∀ (l : List (AV × AV)) (k : List (AV × AV) → Option R), fEs l k = k l
  | [], k => rfl
  | (x, y) :: xs, k => by simp [fEs, fV1_eq, fEs_eq xs]
theorem fB_eq (v : Blk) (k : Blk → Option R) : fB v k = k v := by cases v <;> simp [fB, fVs_eq, fEs_eq]

/-- Only the outermost constructor: for values whose parts stand already. -/
def fW (v : AV) (k : AV → Option R) : Option R := match v with
  | .undef => k .undef
  | .int a b => k (.int a b)
  | .bool a => k (.bool a)
  | .flt a b => k (.flt a b)
  | .cpx a b c => k (.cpx a b c)
  | .str a => k (.str a)
  | .nil => k .nil
  | .ptr a b => k (.ptr a b)
  | .vp a b => k (.vp a b)
  | .vs a b => k (.vs a b)
  | .nils => k .nils
  | .rs a b c d => k (.rs a b c d)
  | .rk a b c d e => k (.rk a b c d e)
  | .vz => k .vz
  | .map a => k (.map a)
  | .fn a b c => k (.fn a b c)
  | .nilfn => k .nilfn
  | .agg a => k (.agg a)
  | .tup a => k (.tup a)
  | .any1 => k .any1

theorem fW_eq (v : AV) (k : AV → Option R) : fW v k = k v := by cases v <;> rfl

def fP (q : POp) (v : AV) (k : AV → Option R) : Option R := match q with
  | .mov _ | .pick _ _ _ | .ext _ _ | .load false _ _ | .nilchk _ => fW v k
  | _ => fV v k

theorem fP_eq (q : POp) (v : AV) (k : AV → Option R) : fP q v k = k v := by
  unfold fP
  split <;> first | exact fW_eq v k | exact fV_eq v k

/-- The arguments of a call. -/
def fAs : List AV → (List AV → Option R) → Option R
  | [], k => k []
  | x :: xs, k => fW x fun x => fAs xs fun xs => k (x :: xs)

theorem fAs_eq : ∀ (l : List AV) (k : List AV → Option R), fAs l k = k l
  | [], k => rfl
  | x :: xs, k => by simp [fAs, fW_eq, fAs_eq xs]

def CH.setK (H : CH) (b : Nat) (x : Option Blk) (k : CH → Option R) : Option R :=
  match x with
  | none => Tr.setK 24 H.t b none fun t => k { t, next := H.next }
  | some x => fB x fun x => Tr.setK 24 H.t b (some x) fun t => k { t, next := H.next }

def CH.nextK (H : CH) (n : Nat) (k : CH → Option R) : Option R := fNat n fun n => k { t := H.t, next := n }

def touchV : AV → List Nat
  | .ptr b _ => [b]
  | .vs _ (.own t) => [t]
  | .rs b _ _ _ => [b]
  | .rk b _ _ _ _ => [b]
  | .map (some b) => [b]
  | _ => []

def EOp.fst : EOp → Opd
  | .store _ x _ | .append _ _ x _ | .appendR _ _ x _ | .copy _ x _ | .mapdel x _ | .mapupd x _ _ | .appendZ _ _ x _ | .copyK _ x _ | .clearK _ x | .mark x => x

def updK (h' : AHeap) : List Nat → CH → (CH → Option R) → Option R
  | [], H, k => k H
  | b :: bs, H, k => H.setK b (h'.get b) fun H => updK h' bs H k

def Tr.putK (t : Tr AV) (d : Option Nat) (v : AV) (k : Tr AV → Option R) : Option R :=
  match d with
  | none => k t
  | some d => Tr.setK 16 t d (some v) k

/-- The functions' code, what the model lets be called, and what is done in one. -/
structure Tbl where
  fn : Nat → Option RFunc
  nat : Nat → Option (List AV → CH → Option (AV × CH))
  callable : Nat → Bool

variable (callF : Nat → List AV → CH → (AV → CH → Option R) → Option R) (cb : Nat → Bool)

def stepK (o : RO) (id : Nat) (t : Tr AV) (H : CH) (k : Option AV → CH → Option R) : Option R :=
  match guardVal o t.env with
  | none => none
  | some false => k none H
  | some true =>
    match o.op with
    | .p q => match apure q t.env H.den with
      | some v => fP q v fun v => k (some v) H
      | none => none
    | .a q => match aalloc q t.env id with
      | some (b, v) => H.setK id (some b) fun H => H.nextK (max H.next (id + 1)) fun H => fV v fun v => k (some v) H
      | none => none
    | .e q => match aeff q t.env id H.den with
      | some (v, h') => updK h' (id :: touchV (q.fst.ev t.env)) H fun H => H.nextK h'.next fun H => fV v fun v => k (some v) H
      | none => none
    | .call f as => fAs (as.map (Opd.ev t.env)) fun as => callF f as H fun v H => k (some v) H
    | .dyn x as => match x.ev t.env with
      | .fn f fs cs => match cb f with
        | true => fAs (fs ++ as.map (Opd.ev t.env) ++ cs) fun as => callF f as H fun v H => k (some v) H
        | false => none
      | _ => none

def opsK : List RO → Tr AV → CH → (Tr AV → CH → Option R) → Option R
  | [], t, H, k => k t H
  | o :: os, t, H, k => stepK callF cb o H.next t H fun r H => t.putK o.dst (resOf r) fun t => opsK os t H k

def zipEq {α : Type} (p : α → α → Bool) (l l' : List α) : Bool := l.length == l'.length && (l.zip l').all fun q => p q.1 q.2

/-- Equal for sure. -/
def eqV : Nat → AV → AV → Bool
  | 0, _, _ => false
  | f + 1, a, b =>
    match a, b with
    | .undef, .undef => true
    | .int k x, .int k' y => decide (k = k') && x == y
    | .bool x, .bool y => x == y
    | .nil, .nil => true
    | .nils, .nils => true
    | .vz, .vz => true
    | .nilfn, .nilfn => true
    | .ptr x y, .ptr x' y' => x == x' && y == y'
    | .rs x y z u, .rs x' y' z' u' => x == x' && y == y' && z == z' && u == u'
    | .rk x y z u v, .rk x' y' z' u' v' => x == x' && y == y' && z == z' && u == u' && v == v'
    | .map none, .map none => true
    | .map (some x), .map (some y) => x == y
    | .agg l, .agg l' => zipEq (eqV f) l l'
    | .tup l, .tup l' => zipEq (eqV f) l l'
    | .vp l o, .vp l' o' => o == o' && zipEq (eqV f) l l'
    | .vs l t, .vs l' t' => decide (t = t') && zipEq (zipEq (eqV f)) l l'
    | _, _ => false

def chkB (o : RO) (ρ : Env) (r : Option AV) (h' : AHeap) (ok : RO) (dρ : Env) (dh : AHeap) (dr : Option AV) : Bool :=
  if o.op.eff then (match dr, ok.op with
    | some v, .p q => match apure q dρ h' with
      | some u => eqV 6 u v
      | none => false
    | _, _ => true)
  else (match r, o.op with
    | some v, .p q => match apure q ρ dh with
      | some u => eqV 6 u v
      | none => false
    | _, _ => true)

def freeB (H : CH) (base : Nat) : Nat → Nat → Bool
  | _, 0 => true
  | i, n + 1 => match H.t.get (base + i) with
    | none => freeB H base (i + 1) n
    | some _ => false

/-- done: the last one first. -/
def chkAll (ros : List RO) (o : RO) (ρ : Env) (r : Option AV) (h' : AHeap) (done : List (Tr AV × CH × Option AV)) (i : Nat) : List Nat → Bool
  | [] => true
  | k :: ks => match ros[k]?, done[i - 1 - k]? with
    | some ok, some d => decide (k < i) && chkB o ρ r h' ok d.1.env d.2.1.den d.2.2 && chkAll ros o ρ r h' done i ks
    | _, _ => false

def opsDK (ros : List RO) (n base : Nat) : List RO → List (List Nat) → Nat → Tr AV → CH → List (Tr AV × CH × Option AV) → (Tr AV → CH → Option R) → Option R
  | [], _, _, t, H, _, k => k t H
  | o :: os, us, i, t, H, done, k => stepK callF cb o (base + i) t H fun r H' =>
    match chkAll ros o t.env r H'.den done i (us.headD []) with
    | false => none
    | true =>
      match o.op.eff with
      | false => t.putK o.dst (resOf r) fun t' => opsDK ros n base os us.tail (i + 1) t' H' ((t, H, r) :: done) k
      | true => match freeB H' base (i + 1) (n - (i + 1)) with
        | false => none
        | true => t.putK o.dst (resOf r) fun t' => opsDK ros n base os us.tail (i + 1) t' H' ((t, H, r) :: done) k

def resLK (t : Tr AV) (h : AHeap) (rs : List RRes) (k : AV → Option R) : Option R := match resL t.env h rs with
  | some vs => fV (tupOf vs) k
  | none => none

def initK : List AV → Nat → Tr AV → (Tr AV → Option R) → Option R
  | [], _, t, k => k t
  | x :: xs, i, t, k => Tr.setK 16 t i (some x) fun t => initK xs (i + 1) t k

def callOf (tb : Tbl) (run : RCode → Tr AV → CH → (AExit → Tr AV → CH → Option R) → Option R) (f : Nat) (args : List AV) (H : CH) (k : AV → CH → Option R) : Option R :=
  match tb.nat f with
  | some g => match g args H with
    | some (v, H') => fV v fun v => k v H'
    | none => none
  | none => match tb.fn f with
    | none => none
    | some rf => match Nat.ble args.length rf.ntmps with
      | false => none
      | true => initK args 0 .leaf fun t => run rf.code t H fun e t H => match e with
        | .normal => resLK t H.den rf.results fun v => k v H
        | .ret => resLK t H.den rf.results fun v => k v H
        | _ => none

def runK (tb : Tbl) : Nat → RCode → Tr AV → CH → (AExit → Tr AV → CH → Option R) → Option R
  | 0, _, _, _, _ => none
  | .succ f, c, t, H, k =>
    match c with
    | .skip => k .normal t H
    | .label _ => k .normal t H
    | .exit id => k (.exit id) t H
    | .goto l => k (.goto l) t H
    | .ret => k .ret t H
    | .reg ros => opsK (callOf tb (runK tb f)) tb.callable ros t H (k .normal)
    | .regD ros un => match freeB H H.next 0 ros.length with
      | false => none
      | true => H.nextK (H.next + ros.length) fun H1 => opsDK (callOf tb (runK tb f)) tb.callable ros ros.length H.next ros un 0 t H1 [] (k .normal)
    | .seq a b => runK tb f a t H fun e t H => match e with
      | .normal => runK tb f b t H k
      | .exit id => k (.exit id) t H
      | .goto l => k (.goto l) t H
      | .ret => k .ret t H
    | .rseq _ _ => none
    | .cond c x y => match c.ev t.env with
      | .bool true => runK tb f x t H k
      | .bool false => runK tb f y t H k
      | _ => none
    | .block id c => runK tb f c t H fun e t H => match e with
      | .normal => k .normal t H
      | .exit id' => match Nat.beq id' id with
        | true => k .normal t H
        | false => k (.exit id') t H
      | .goto l => k (.goto l) t H
      | .ret => k .ret t H
    | .loop c => runK tb f c t H fun e t H => match e with
      | .normal => runK tb f (.loop c) t H k
      | .exit id => k (.exit id) t H
      | .goto l => k (.goto l) t H
      | .ret => k .ret t H
    | .scope c => runK tb f (.inScope c c) t H k
    | .inScope body cur => runK tb f cur t H fun e t H => match e with
      | .goto l => match findLabelR body l with
        | none => k (.goto l) t H
        | some rest => runK tb f (.inScope body rest) t H k
      | .normal => k .normal t H
      | .exit id => k (.exit id) t H
      | .ret => k .ret t H

end
end Go.Proofs.YtjkllffbjeajhaaGreat.Am

/- What the evaluator comes to is so. -/
namespace Go.Proofs.YtjkllffbjeajhaaGreat.Am
open Go

theorem Tr.get_succ {α : Type} (l r : Tr α) (u : Option α) (m : Nat) : (Tr.node l u r).get (m + 1) = if m % 2 = 0 then l.get (m / 2) else r.get (m / 2) := by
  show (match Nat.mod m 2 with | 0 => l.get (Nat.div m 2) | _ => r.get (Nat.div m 2)) = _
  have e1 : Nat.mod m 2 = m % 2 := rfl
  have e2 : Nat.div m 2 = m / 2 := rfl
  rw [e1, e2]
  rcases Nat.mod_two_eq_zero_or_one m with h | h <;> simp [h]

section
variable {R : Type}

theorem Tr.setK_sound {α : Type} : ∀ (f : Nat) (t : Tr α) (n : Nat) (v : Option α) (k : Tr α → Option R) (r : R), Tr.setK f t n v k = some r → ∃ t', (∀ m, t'.get m = if m = n then v else t.get m) ∧ k t' = some r
  | 0, _, _, _, _, _, h => by simp [Tr.setK] at h
  | f + 1, t, n, v, k, r, h => by
    have main : ∀ (l : Tr α) (u : Option α) (r0 : Tr α) (k : Tr α → Option R),
        Tr.setK (f + 1) (.node l u r0) n v k = some r →
        ∃ t', (∀ m, t'.get m = if m = n then v else (Tr.node l u r0).get m) ∧ k t' = some r := by
      intro l u r0 k h
      simp only [Tr.setK] at h
      cases n with
      | zero =>
        refine ⟨_, fun m => ?_, h⟩
        cases m with
        | zero => rfl
        | succ m => rw [Tr.get_succ, Tr.get_succ]; simp
      | succ n =>
        simp only [] at h
        have e1 : Nat.mod n 2 = n % 2 := rfl
        have e2 : Nat.div n 2 = n / 2 := rfl
        rw [e1, e2] at h
        rcases Nat.mod_two_eq_zero_or_one n with hn | hn
        · rw [hn] at h
          obtain ⟨l', hl, hk⟩ := Tr.setK_sound f l (n / 2) v _ r h
          refine ⟨_, fun m => ?_, hk⟩
          cases m with
          | zero => rfl
          | succ m =>
            rw [Tr.get_succ, Tr.get_succ, hl]
            by_cases hm : m % 2 = 0
            · simp only [hm, if_true]
              by_cases hmn : m / 2 = n / 2
              · have : m = n := by omega
                simp [this]
              · have : ¬ m = n := fun h => hmn (by rw [h])
                simp [hmn, this]
            · have : ¬ m = n := fun h => hm (by rw [h]; exact hn)
              simp [hm, this]
        · rw [hn] at h
          obtain ⟨l', hl, hk⟩ := Tr.setK_sound f r0 (n / 2) v _ r h
          refine ⟨_, fun m => ?_, hk⟩
          cases m with
          | zero => rfl
          | succ m =>
            rw [Tr.get_succ, Tr.get_succ, hl]
            by_cases hm : m % 2 = 0
            · have : ¬ m = n := fun h => by rw [h] at hm; omega
              simp [hm, this]
            · simp only [hm, if_false]
              by_cases hmn : m / 2 = n / 2
              · have : m = n := by omega
                simp [this]
              · have : ¬ m = n := fun h => hmn (by rw [h])
                simp [hmn, this]
    have hleaf : ∀ m, (Tr.node .leaf none .leaf : Tr α).get m = (Tr.leaf : Tr α).get m := by
      intro m
      cases m with
      | zero => rfl
      | succ m => rw [Tr.get_succ]; split <;> rfl
    cases t with
    | leaf =>
      obtain ⟨t', h1, h2⟩ := main .leaf none .leaf k (by rw [← h]; cases n <;> rfl)
      exact ⟨t', fun m => by rw [h1, hleaf], h2⟩
    | node l u r0 => exact main l u r0 k h

theorem CH.setK_sound {H : CH} {b : Nat} {x : Option Blk} {k : CH → Option R} {r : R} (h : H.setK b x k = some r) : ∃ H' : CH, (∀ m, H'.den.get m = if m = b then x else H.den.get m) ∧ H'.next = H.next ∧ k H' = some r := by
  cases x with
  | none =>
    obtain ⟨t', h1, h2⟩ := Tr.setK_sound _ _ _ _ _ _ h
    exact ⟨{ t := t', next := H.next }, h1, rfl, h2⟩
  | some x =>
    simp only [CH.setK, fB_eq] at h
    obtain ⟨t', h1, h2⟩ := Tr.setK_sound _ _ _ _ _ _ h
    exact ⟨{ t := t', next := H.next }, h1, rfl, h2⟩

theorem updK_sound {h' : AHeap} : ∀ {bs : List Nat} {H : CH} {k : CH → Option R} {r : R}, updK h' bs H k = some r → ∃ H' : CH, (∀ m, H'.den.get m = if m ∈ bs then h'.get m else H.den.get m) ∧ H'.next = H.next ∧ k H' = some r
  | [], H, k, r, h => ⟨H, fun m => by simp, rfl, h⟩
  | b :: bs, H, k, r, h => by
    obtain ⟨H1, h1, h2, h3⟩ := CH.setK_sound h
    obtain ⟨H2, h4, h5, h6⟩ := updK_sound h3
    refine ⟨H2, fun m => ?_, h5.trans h2, h6⟩
    rw [h4, h1]
    by_cases hm : m ∈ bs
    · simp [hm]
    · by_cases hb : m = b
      · simp [hb]
      · simp [hm, hb]

theorem Tr.putK_sound {t : Tr AV} {d : Option Nat} {v : AV} {k : Tr AV → Option R} {r : R} (h : t.putK d v k = some r) : ∃ t', t'.env = put t.env d v ∧ k t' = some r := by
  cases d with
  | none => exact ⟨t, rfl, h⟩
  | some d =>
    obtain ⟨t', h1, h2⟩ := Tr.setK_sound _ _ _ _ _ _ h
    refine ⟨t', ?_, h2⟩
    funext m
    simp only [Tr.env, h1, put]
    by_cases hm : m = d <;> simp [hm]

theorem aeff_touch {q : EOp} {ρ : Env} {id : Nat} {h h' : AHeap} {v : AV} (ha : aeff q ρ id h = some (v, h')) (m : Nat) (hm : m ∉ id :: touchV (q.fst.ev ρ)) : h'.get m = h.get m := by
  simp only [List.mem_cons, not_or] at hm
  obtain ⟨hid, hm⟩ := hm
  cases q <;> simp only [aeff, EOp.fst] at ha hm
  case store sz a x =>
    unfold storeA at ha
    split at ha
    · rename_i hx
      rw [hx] at hm
      split at ha
      · split at ha
        · cases ha; simp [AHeap.set, touchV] at hm ⊢; simp [hm]
        · cases ha
      · cases ha
    · cases ha
  case append bytes sz x y =>
    split at ha
    · cases ha
    · rename_i ys hys
      split at ha
      · rename_i xs t hx
        rw [hx] at hm
        split at ha
        · cases ha; rfl
        · split at ha
          · split at ha
            · cases ha; simp [AHeap.at, hid]
            · split at ha
              · cases ha; simp [AHeap.at, AHeap.set, touchV] at hm ⊢; simp [hid, hm]
              · cases ha
            · cases ha
          · cases ha
      · split at ha
        · cases ha; rfl
        · split at ha
          · cases ha; simp [AHeap.at, hid]
          · cases ha
      · cases ha
  case appendR bytes sz x y =>
    split at ha
    · cases ha
    · rename_i ys hys
      split at ha
      · split at ha
        · cases ha; rfl
        · split at ha
          · cases ha; simp [AHeap.at, hid]
          · cases ha
      · split at ha
        · cases ha; rfl
        · split at ha
          · cases ha; simp [AHeap.at, hid]
          · cases ha
      · rename_i b off len sz' hx
        rw [hx] at hm
        split at ha
        · cases ha; rfl
        · split at ha
          · split at ha
            · cases ha; simp [AHeap.at, AHeap.set, touchV] at hm ⊢; simp [hid, hm]
            · cases ha
          · cases ha
      · rename_i b off len sz' cap hx
        rw [hx] at hm
        split at ha
        · split at ha
          · cases ha; simp [AHeap.set, touchV] at hm ⊢; simp [hm]
          · cases ha
        · cases ha
      · cases ha
  case appendZ bytes z x n =>
    split at ha
    · split at ha
      · split at ha
        · split at ha
          · cases ha; simp [AHeap.at, hid]
          · cases ha
        · split at ha
          · split at ha
            · cases ha; simp [AHeap.at, hid]
            · cases ha
          · cases ha
        · cases ha
      · cases ha
    · cases ha
  case copyK sz x y =>
    split at ha
    · rename_i b off len sz' cap mm hx hl
      rw [hx] at hm
      split at ha
      · split at ha
        · cases ha; simp [AHeap.set, touchV] at hm ⊢; simp [hm]
        · cases ha
      · cases ha
    · cases ha
  case mark x =>
    split at ha
    · rename_i b off len sz' hx
      rw [hx] at hm
      split at ha
      · split at ha
        · cases ha; simp [AHeap.set, touchV] at hm ⊢; simp [hm]
        · cases ha
      · cases ha
    · cases ha
  case clearK z x =>
    split at ha
    · rename_i b off len sz' cap hx
      rw [hx] at hm
      split at ha
      · split at ha
        · cases ha; simp [AHeap.set, touchV] at hm ⊢; simp [hm]
        · cases ha
      · cases ha
    · cases ha; rfl
    · cases ha; rfl
    · cases ha
  case copy sz x y =>
    split at ha
    · rename_i b off len sz' hx
      rw [hx] at hm
      split at ha
      · split at ha
        · cases ha; simp [AHeap.set, touchV] at hm ⊢; simp [hm]
        · cases ha
      · cases ha
    · split at ha
      · cases ha; rfl
      · cases ha
    · split at ha
      · cases ha; rfl
      · cases ha
    · cases ha
  case mapupd x k y =>
    split at ha
    · rename_i b kd n hx hk
      rw [hx] at hm
      split at ha
      · simp only [Option.map_eq_some_iff] at ha
        obtain ⟨es, _, ha⟩ := ha
        cases ha; simp [AHeap.set, touchV] at hm ⊢; simp [hm]
      · cases ha
    · cases ha
  case mapdel x k =>
    split at ha
    · rename_i b kd n hx hk
      rw [hx] at hm
      split at ha
      · simp only [Option.map_eq_some_iff] at ha
        obtain ⟨es, _, ha⟩ := ha
        cases ha; simp [AHeap.set, touchV] at hm ⊢; simp [hm]
      · cases ha
    · cases ha

def CallOK (P : Program) (R : Type) (callF : Nat → List AV → CH → (AV → CH → Option R) → Option R) : Prop :=
  ∀ g args H k r, callF g args H k = some r → ∃ v H', ACalls P g args H.den v H'.den ∧ k v H' = some r

variable {P : Program} {callF : Nat → List AV → CH → (AV → CH → Option R) → Option R} {cb : Nat → Bool}

theorem stepK_sound (hC : CallOK P R callF) (hcb : ∀ f, cb f = true → callable P f = true) {o : RO} {id : Nat} {t : Tr AV} {H : CH} {k : Option AV → CH → Option R} {r : R} (h : stepK callF cb o id t H k = some r) :
    ∃ x H', AStep P o id t.env H.den x H'.den ∧ k x H' = some r := by
  unfold stepK at h
  split at h
  · cases h
  · rename_i hg
    refine ⟨none, H, ?_, h⟩
    unfold AStep
    rw [hg]
    exact ⟨rfl, rfl⟩
  · rename_i hg
    have go : ∀ (v : AV) (H' : CH), AOpRun P o.op id t.env H.den v H'.den → AStep P o id t.env H.den (some v) H'.den := by
      intro v H' hr
      unfold AStep
      rw [hg]
      exact ⟨v, rfl, hr⟩
    split at h
    · rename_i q hop
      split at h
      · rename_i v hv
        rw [fP_eq] at h
        exact ⟨some v, H, go v H (by rw [hop]; exact ⟨hv, rfl⟩), h⟩
      · cases h
    · rename_i q hop
      split at h
      · rename_i b v hv
        obtain ⟨H1, h1, h2, h3⟩ := CH.setK_sound h
        simp only [CH.nextK, fNat_eq, fV_eq] at h3
        refine ⟨some v, _, go v _ ?_, h3⟩
        rw [hop]
        refine ⟨b, hv, AHeap.same (fun m => ?_) ?_⟩
        · show H1.den.get m = _
          rw [h1]
          by_cases hm : m = id <;> simp [AHeap.at, hm]
        · show max H1.next (id + 1) = _
          rw [h2]; rfl
      · cases h
    · rename_i q hop
      split at h
      · rename_i v h' hv
        obtain ⟨H1, h1, h2, h3⟩ := updK_sound h
        simp only [CH.nextK, fNat_eq, fV_eq] at h3
        refine ⟨some v, _, go v _ ?_, h3⟩
        rw [hop]
        show aeff q t.env id H.den = some (v, _)
        rw [hv]
        congr 2
        refine AHeap.same (fun m => ?_) rfl
        show _ = H1.den.get m
        rw [h1]
        by_cases hm : m ∈ id :: touchV (q.fst.ev t.env)
        · rw [if_pos hm]
        · rw [if_neg hm]; exact aeff_touch hv m hm
      · cases h
    · rename_i f as hop
      rw [fAs_eq] at h
      obtain ⟨v, H', h1, h2⟩ := hC _ _ _ _ _ h
      exact ⟨some v, H', go v H' (by rw [hop]; exact h1), h2⟩
    · rename_i x as hop
      split at h
      · rename_i f fs cs hx
        split at h
        · rename_i hc
          rw [fAs_eq] at h
          obtain ⟨v, H', h1, h2⟩ := hC _ _ _ _ _ h
          exact ⟨some v, H', go v H' (by rw [hop]; exact ⟨f, fs, cs, hx, hcb f hc, h1⟩), h2⟩
        · cases h
      · cases h

theorem opsK_sound (hC : CallOK P R callF) (hcb : ∀ f, cb f = true → callable P f = true) : ∀ {os : List RO} {t : Tr AV} {H : CH} {k : Tr AV → CH → Option R} {r : R}, opsK callF cb os t H k = some r →
    ∃ t' H', exec P os t.env H.den (fun ρ' h' => ρ' = t'.env ∧ h' = H'.den) ∧ k t' H' = some r
  | [], t, H, k, r, h => ⟨t, H, ⟨rfl, rfl⟩, h⟩
  | o :: os, t, H, k, r, h => by
    obtain ⟨x, H1, h1, h2⟩ := stepK_sound hC hcb h
    obtain ⟨t1, h3, h4⟩ := Tr.putK_sound h2
    obtain ⟨t2, H2, h5, h6⟩ := opsK_sound hC hcb h4
    exact ⟨t2, H2, ⟨x, H1.den, h1, by rw [← h3]; exact h5⟩, h6⟩

end
end Go.Proofs.YtjkllffbjeajhaaGreat.Am

namespace Go.Proofs.YtjkllffbjeajhaaGreat.Am
open Go

theorem zipEq_sound {α : Type} {p : α → α → Bool} (hp : ∀ a b, p a b = true → a = b) : ∀ (l l' : List α), zipEq p l l' = true → l = l'
  | [], [], _ => rfl
  | [], _ :: _, h => by simp [zipEq] at h
  | _ :: _, [], h => by simp [zipEq] at h
  | x :: l, y :: l', h => by
    simp only [zipEq, List.length_cons, List.zip_cons_cons, List.all_cons, Bool.and_eq_true, beq_iff_eq, Nat.add_right_cancel_iff] at h
    obtain ⟨h1, h2, h3⟩ := h
    rw [hp x y h2, zipEq_sound hp l l' (by simp only [zipEq, Bool.and_eq_true, beq_iff_eq]; exact ⟨h1, h3⟩)]

theorem eqV_sound : ∀ (f : Nat) (a b : AV), eqV f a b = true → a = b
  | 0, a, b, h => by simp [eqV] at h
  | f + 1, a, b, h => by
    have ih := eqV_sound f
    have hl := zipEq_sound ih
    have hll := zipEq_sound hl
    unfold eqV at h
    split at h <;> first
      | rfl
      | (cases h; done)
      | (rw [hl _ _ h]; done)
      | (simp only [Bool.and_eq_true, beq_iff_eq, decide_eq_true_eq] at h; obtain ⟨h1, h2⟩ := h; first | (rw [h1, hl _ _ h2]; done) | (rw [h1, hll _ _ h2]; done))
      | (simp only [Bool.and_eq_true, beq_iff_eq, decide_eq_true_eq] at h; simp only [h]; done)

section
variable {R : Type} {P : Program} {callF : Nat → List AV → CH → (AV → CH → Option R) → Option R} {cb : Nat → Bool}

theorem chkB_sound {o ok : RO} {ρ dρ : Env} {r dr : Option AV} {h' dh : AHeap} (h : chkB o ρ r h' ok dρ dh dr = true) : Am.chk o ρ r h' ok (dρ, dh, dr) := by
  unfold Am.chk
  unfold chkB at h
  split
  · rename_i he
    simp only [he, if_true] at h
    cases hd : dr with
    | none => trivial
    | some v =>
      rw [hd] at h
      cases hop : ok.op with
      | p q =>
        rw [hop] at h
        simp only at h ⊢
        split at h
        · rename_i u hu; rw [hu, eqV_sound _ _ _ h]
        · cases h
      | _ => trivial
  · rename_i he
    simp only [he] at h
    cases hd : r with
    | none => trivial
    | some v =>
      rw [hd] at h
      cases hop : o.op with
      | p q =>
        rw [hop] at h
        simp only [Bool.false_eq_true, if_false] at h ⊢
        split at h
        · rename_i u hu; rw [hu, eqV_sound _ _ _ h]
        · cases h
      | _ => trivial

def Dn (d : Tr AV × CH × Option AV) : Env × AHeap × Option AV := (d.1.env, d.2.1.den, d.2.2)

theorem chkAll_sound {ros : List RO} {o : RO} {ρ : Env} {r : Option AV} {h' : AHeap} {done : List (Tr AV × CH × Option AV)} : ∀ {ks : List Nat}, chkAll ros o ρ r h' done done.length ks = true →
    ∀ k ∈ ks, ∀ ok d, ros[k]? = some ok → (done.reverse.map Dn)[k]? = some d → Am.chk o ρ r h' ok d
  | [], _ => by simp
  | k0 :: ks, h => by
    simp only [chkAll] at h
    split at h
    · rename_i ok0 d0 hok0 hd0
      simp only [Bool.and_eq_true, decide_eq_true_eq] at h
      obtain ⟨⟨h1, h2⟩, h3⟩ := h
      intro k hk ok d hok hd
      rcases List.mem_cons.1 hk with rfl | hk
      · rw [hok0] at hok; cases hok
        rw [List.getElem?_map, List.getElem?_reverse (by omega), hd0] at hd
        cases hd
        exact chkB_sound h2
      · exact chkAll_sound h3 k hk ok d hok hd
    · cases h

theorem freeB_sound {H : CH} {base : Nat} : ∀ {n i : Nat}, freeB H base i n = true → ∀ j, i ≤ j → j < i + n → H.den.get (base + j) = none
  | 0, i, _, j, h1, h2 => by omega
  | n + 1, i, h, j, h1, h2 => by
    simp only [freeB] at h
    split at h
    · rename_i hg
      by_cases hj : j = i
      · subst hj; exact hg
      · exact freeB_sound h j (by omega) (by omega)
    · cases h

theorem opsDK_sound (hC : CallOK P R callF) (hcb : ∀ f, cb f = true → callable P f = true) {ros : List RO} {un : List (List Nat)} {base : Nat} : ∀ {os : List RO} {i : Nat} {t : Tr AV} {H : CH} {done : List (Tr AV × CH × Option AV)} {k : Tr AV → CH → Option R} {r : R},
    i = done.length → opsDK callF cb ros ros.length base os (un.drop i) i t H done k = some r →
    ∃ t' H', execD P ros un base os i t.env H.den (done.reverse.map Dn) (fun ρ' h' => ρ' = t'.env ∧ h' = H'.den) ∧ k t' H' = some r
  | [], i, t, H, done, k, r, hi, h => ⟨t, H, ⟨rfl, rfl⟩, h⟩
  | o :: os, i, t, H, done, k, r, hi, h => by
    simp only [opsDK] at h
    obtain ⟨x, H1, h1, h2⟩ := stepK_sound hC hcb h
    have hun : (un.drop i).headD [] = un.getD i [] := by
      rw [List.getD_eq_getElem?_getD]
      cases hq : un.drop i with
      | nil =>
        have := List.drop_eq_nil_iff.1 hq
        simp [List.getElem?_eq_none this]
      | cons a l =>
        have : (un.drop i)[0]? = some a := by rw [hq]; rfl
        rw [List.getElem?_drop] at this
        simp at this
        simp [this]
    have htl : (un.drop i).tail = un.drop (i + 1) := by simp
    have fin : ∀ {t1 : Tr AV}, t1.env = put t.env o.dst (resOf x) → chkAll ros o t.env x H1.den done i ((un.drop i).headD []) = true → (o.op.eff = true → ∀ j, i < j → j < ros.length → H1.den.get (base + j) = none) →
        opsDK callF cb ros ros.length base os (un.drop i).tail (i + 1) t1 H1 ((t, H, x) :: done) k = some r →
        ∃ t' H', execD P ros un base (o :: os) i t.env H.den (done.reverse.map Dn) (fun ρ' h' => ρ' = t'.env ∧ h' = H'.den) ∧ k t' H' = some r := by
      intro t1 ht1 hchk hfr hgo
      rw [htl] at hgo
      obtain ⟨t2, H2, h5, h6⟩ := opsDK_sound hC hcb (by simp [hi]) hgo
      refine ⟨t2, H2, ⟨x, H1.den, h1, ?_, hfr, ?_⟩, h6⟩
      · rw [hun, hi] at hchk
        rw [hi]
        exact chkAll_sound hchk
      · rw [← ht1]
        simp only [List.reverse_cons, List.map_append, List.map_cons, List.map_nil] at h5
        exact h5
    split at h2
    · cases h2
    · rename_i hchk
      split at h2
      · rename_i heff
        obtain ⟨t1, h3, h4⟩ := Tr.putK_sound h2
        exact fin h3 hchk (fun h => by rw [heff] at h; cases h) h4
      · split at h2
        · cases h2
        · rename_i hfr
          obtain ⟨t1, h3, h4⟩ := Tr.putK_sound h2
          exact fin h3 hchk (fun _ j h5 h6 => freeB_sound hfr j (by omega) (by omega)) h4

theorem initK_sound : ∀ {args : List AV} {i : Nat} {t : Tr AV} {k : Tr AV → Option R} {r : R}, initK args i t k = some r → ∃ t', (∀ m, t'.env m = if i ≤ m ∧ m < i + args.length then args.getD (m - i) (.tup []) else t.env m) ∧ k t' = some r
  | [], i, t, k, r, h => ⟨t, fun m => by simp; omega, h⟩
  | x :: xs, i, t, k, r, h => by
    simp only [initK] at h
    obtain ⟨t1, h1, h2⟩ := Tr.setK_sound _ _ _ _ _ _ h
    obtain ⟨t2, h3, h4⟩ := initK_sound h2
    refine ⟨t2, fun m => ?_, h4⟩
    rw [h3]
    by_cases hm : m = i
    · subst hm
      rw [if_neg (by omega), if_pos ⟨Nat.le_refl _, by simp⟩]
      simp [Tr.env, h1]
    · by_cases hm2 : i ≤ m ∧ m < i + (x :: xs).length
      · obtain ⟨a1, a2⟩ := hm2
        simp at a2
        rw [if_pos ⟨by omega, by omega⟩, if_pos ⟨a1, by simp; omega⟩]
        rw [show m - i = (m - (i + 1)) + 1 by omega]
        simp
      · have : ¬ (i + 1 ≤ m ∧ m < i + 1 + xs.length) := by simp at hm2 ⊢; omega
        rw [if_neg this, if_neg hm2]
        simp [Tr.env, h1, hm]

theorem resLK_sound {t : Tr AV} {h : AHeap} {rs : List RRes} {k : AV → Option R} {r : R} (hh : resLK t h rs k = some r) : ∃ vs, resL t.env h rs = some vs ∧ k (tupOf vs) = some r := by
  unfold resLK at hh
  split at hh
  · rename_i vs hv; rw [fV_eq] at hh; exact ⟨vs, hv, hh⟩
  · cases hh

structure TblOK (P : Program) (tb : Tbl) : Prop where
  follow : P.follows .mixedOrders = true
  fn : ∀ (f : Nat) (rf : RFunc), tb.fn f = some rf → ∃ fn md, P.funcs[f]? = some fn ∧ cFunc P md fn = some rf
  nat : ∀ (f : Nat) (g : List AV → CH → Option (AV × CH)), tb.nat f = some g → ∀ args H v H', g args H = some (v, H') → ACalls P f args H.den v H'.den
  callable : ∀ (f : Nat), tb.callable f = true → callable P f = true

def RunOK (P : Program) (R : Type) (run : RCode → Tr AV → CH → (AExit → Tr AV → CH → Option R) → Option R) : Prop :=
  ∀ c t H k r, run c t H k = some r → ∃ e t' H', Big P c t.env H.den e t'.env H'.den ∧ k e t' H' = some r

theorem callOf_sound {tb : Tbl} (hT : TblOK P tb) {run : RCode → Tr AV → CH → (AExit → Tr AV → CH → Option R) → Option R} (hR : RunOK P R run) : CallOK P R (callOf tb run) := by
  intro f args H k r h
  unfold callOf at h
  split at h
  · rename_i g hg
    split at h
    · rename_i v H' hv
      rw [fV_eq] at h
      exact ⟨v, H', hT.nat f g hg args H v H' hv, h⟩
    · cases h
  · split at h
    · cases h
    · rename_i rf hrf
      split at h
      · cases h
      · rename_i hle
        obtain ⟨t0, h1, h2⟩ := initK_sound h
        obtain ⟨e, t', H', h3, h4⟩ := hR _ _ _ _ _ h2
        obtain ⟨fn, md, h5, h6⟩ := hT.fn f rf hrf
        have henv : t0.env = args0 args := by
          funext m
          rw [h1]
          by_cases hm : m < args.length
          · rw [if_pos ⟨Nat.zero_le _, by omega⟩]; rfl
          · rw [if_neg (by omega)]
            simp [Tr.env, Tr.get, args0, List.getD, List.getElem?_eq_none (show args.length ≤ m by omega)]
        rw [henv] at h3
        have hle' : args.length ≤ rf.ntmps := Nat.le_of_ble_eq_true hle
        split at h4
        · obtain ⟨vs, h7, h8⟩ := resLK_sound h4
          exact ⟨_, H', acalls_of_big hT.follow h5 h6 hle' h3 (.inl rfl) h7, h8⟩
        · obtain ⟨vs, h7, h8⟩ := resLK_sound h4
          exact ⟨_, H', acalls_of_big hT.follow h5 h6 hle' h3 (.inr rfl) h7, h8⟩
        · cases h4

theorem runK_sound {tb : Tbl} (hT : TblOK P tb) : ∀ (f : Nat), RunOK P R (runK tb f)
  | 0 => fun c t H k r h => by simp [runK] at h
  | f + 1 => by
    have ih := runK_sound hT f
    have hC := callOf_sound hT ih
    intro c t H k r h
    simp only [runK] at h
    split at h
    · exact ⟨_, _, _, .skip, h⟩
    · exact ⟨_, _, _, .label, h⟩
    · exact ⟨_, _, _, .exit, h⟩
    · exact ⟨_, _, _, .goto, h⟩
    · exact ⟨_, _, _, .ret, h⟩
    · obtain ⟨t', H', h1, h2⟩ := opsK_sound hC hT.callable h
      exact ⟨_, _, _, .reg h1, h2⟩
    · rename_i ros un
      split at h
      · cases h
      · rename_i hfr
        simp only [CH.nextK, fNat_eq] at h
        obtain ⟨t', H', h1, h2⟩ := opsDK_sound (P := P) (un := un) (i := 0) (done := []) hC hT.callable rfl h
        exact ⟨_, _, _, .regD (fun j hj => freeB_sound hfr j (Nat.zero_le _) (by omega)) h1, h2⟩
    · obtain ⟨e, t1, H1, h1, h2⟩ := ih _ _ _ _ _ h
      cases e with
      | normal =>
        obtain ⟨e2, t2, H2, h3, h4⟩ := ih _ _ _ _ _ h2
        exact ⟨_, _, _, .seq h1 h3, h4⟩
      | exit id => exact ⟨_, _, _, .seqX h1 (by simp), h2⟩
      | goto l => exact ⟨_, _, _, .seqX h1 (by simp), h2⟩
      | ret => exact ⟨_, _, _, .seqX h1 (by simp), h2⟩
    · cases h
    · split at h
      · rename_i hc
        obtain ⟨e, t1, H1, h1, h2⟩ := ih _ _ _ _ _ h
        exact ⟨_, _, _, .cond true hc h1, h2⟩
      · rename_i hc
        obtain ⟨e, t1, H1, h1, h2⟩ := ih _ _ _ _ _ h
        exact ⟨_, _, _, .cond false hc h1, h2⟩
      · cases h
    · rename_i id c
      obtain ⟨e, t1, H1, h1, h2⟩ := ih _ _ _ _ _ h
      have hb := Big.block (id := id) h1
      cases e with
      | normal => exact ⟨_, _, _, by simpa using hb, h2⟩
      | exit id' =>
        simp only [] at h2
        split at h2
        · rename_i hid
          have : id' = id := Nat.eq_of_beq_eq_true hid
          subst this
          exact ⟨_, _, _, by simpa using hb, h2⟩
        · rename_i hid
          have : ¬ (AExit.exit id' = AExit.exit id) := fun h => by
            have := AExit.exit.inj h
            subst this
            simp at hid
          rw [if_neg this] at hb
          exact ⟨_, _, _, hb, h2⟩
      | goto l => exact ⟨_, _, _, by simpa using hb, h2⟩
      | ret => exact ⟨_, _, _, by simpa using hb, h2⟩
    · obtain ⟨e, t1, H1, h1, h2⟩ := ih _ _ _ _ _ h
      cases e with
      | normal =>
        obtain ⟨e2, t2, H2, h3, h4⟩ := ih _ _ _ _ _ h2
        exact ⟨_, _, _, .loop h1 h3, h4⟩
      | exit id => exact ⟨_, _, _, .loopX h1 (by simp), h2⟩
      | goto l => exact ⟨_, _, _, .loopX h1 (by simp), h2⟩
      | ret => exact ⟨_, _, _, .loopX h1 (by simp), h2⟩
    · obtain ⟨e, t1, H1, h1, h2⟩ := ih _ _ _ _ _ h
      exact ⟨_, _, _, .scope h1, h2⟩
    · rename_i body cur
      obtain ⟨e, t1, H1, h1, h2⟩ := ih _ _ _ _ _ h
      cases e with
      | goto l =>
        simp only [] at h2
        split at h2
        · rename_i hl
          exact ⟨_, _, _, .inX h1 (fun l' h => by cases h; exact hl), h2⟩
        · rename_i rest hl
          obtain ⟨e2, t2, H2, h3, h4⟩ := ih _ _ _ _ _ h2
          exact ⟨_, _, _, .inJ h1 hl h3, h4⟩
      | normal => exact ⟨_, _, _, .inX h1 (by simp), h2⟩
      | exit id => exact ⟨_, _, _, .inX h1 (by simp), h2⟩
      | ret => exact ⟨_, _, _, .inX h1 (by simp), h2⟩

/-- What is worked out is what is called. -/
theorem eval_calls {tb : Tbl} (hT : TblOK P tb) {fuel f : Nat} {args : List AV} {H : CH} {k : AV → CH → Option R} {r : R} (h : callOf tb (runK tb fuel) f args H k = some r) :
    ∃ v H', ACalls P f args H.den v H'.den ∧ k v H' = some r := callOf_sound hT (runK_sound hT fuel) f args H k r h

end

def Tr.ents {α : Type} : Tr α → List (Nat × α)
  | .leaf => []
  | .node l v r => (match v with | some v => [(0, v)] | none => []) ++ (l.ents.map fun p => (2 * p.1 + 1, p.2)) ++ (r.ents.map fun p => (2 * p.1 + 2, p.2))

theorem Tr.get_ents {α : Type} : ∀ {t : Tr α} {n : Nat} {v : α}, t.get n = some v → (n, v) ∈ t.ents
  | .leaf, n, v, h => by simp [Tr.get] at h
  | .node l u r, n, v, h => by
    cases n with
    | zero =>
      simp only [Tr.get] at h
      subst h
      simp [Tr.ents]
    | succ m =>
      rw [Tr.get_succ] at h
      simp only [Tr.ents, List.mem_append, List.mem_map]
      split at h
      · exact .inl (.inr ⟨(m / 2, v), Tr.get_ents h, by simp; omega⟩)
      · exact .inr ⟨(m / 2, v), Tr.get_ents h, by simp; omega⟩

end Go.Proofs.YtjkllffbjeajhaaGreat.Am

/- From the abstract machine to the rows. -/
namespace Go.Proofs.YtjkllffbjeajhaaGreat.Am
open Go Go.ChangeShapes Go.WideShapes Go.ChangeAt Go.RowKit

/-- What was there is there, untouched. -/
def Kept (w w' : World) : Prop := w'.os = w.os ∧ w'.output = w.output ∧ w.heap.size ≤ w'.heap.size ∧ ∀ k, k < w.heap.size → w'.heap[k]? = w.heap[k]?

theorem Kept.keptBut {w w' : World} (h : Kept w w') (may : MemPlace → Prop) : w.keptBut w' may := by
  obtain ⟨h1, h2, h3, h4⟩ := h
  refine ⟨h1, h2, fun i hi => ?_⟩
  rw [h4 i hi]
  split
  · rename_i c t fr c' t' fr' e1 e2
    rw [e1] at e2; cases e2
    exact ⟨rfl, rfl, rfl, fun _ _ => rfl⟩
  · rename_i es cl es' cl' e1 e2
    rw [e1] at e2; cases e2
    exact .inr ⟨rfl, rfl⟩
  · rfl

theorem Kept.frozen {w w' : World} (h : Kept w w') {a : Addr} (ha : a.block < w.heap.size) : w'.frozen? a = w.frozen? a := by
  simp only [World.frozen?, h.2.2.2 _ ha]

section
variable {H : Type} {enc : TypeId × Value → H} {P : Program}

theorem post_of_kept {f : Func} {s : ChangeSpec} {apart fresh handsOn again : Bool} {W W' : World} {args : Array Value} {v : Value} {ds gs : List (DataW H)} {before pa pv : List MemPlace}
    (hW : DataW.Whole enc P f.params.toList s.vars apart W args.toList ds gs before)
    (hres : ∀ (b : Nat) (sp : Nat → Bool) (hd : Bool), DataW.TrodAll enc P W' b sp hd f.resultTypes.toList (v.resultList f.resultTypes.size) (s.fn H (ds ++ gs)).results [])
    (hargs : ∀ sp : Nat → Bool, (∀ p ∈ before, sp p.block = true) → DataW.TrodAll enc P W' 0 sp true f.params.toList args.toList (s.fn H (ds ++ gs)).args pa)
    (hvars : ∀ sp : Nat → Bool, (∀ p ∈ before, sp p.block = true) → DataW.TrodVars enc P W' sp s.vars (s.fn H (ds ++ gs)).vars pv)
    (hps : before = pa ++ pv) (hk : Kept W W')
    (hok : ∀ (j : Nat) (t : TypeId) (r : Value), f.resultTypes[j]? = some t → (v.resultList f.resultTypes.size)[j]? = some r → Value.okWide P W' .any 0 t r) :
    s.post enc P f apart fresh handsOn again W args v W' := by
  have hold : ∀ p ∈ before, (fun b => decide (b < W.heap.size)) p.block = true := fun p hp => by simpa using hW.lt p hp
  refine ⟨ds, gs, before, [], pa, pv, hW, hres _ _ _, hargs _ hold, hvars _ hold, World.keptBut_mono (fun p hp => ⟨hp, ?_⟩) (hk.keptBut (· ∈ before)), fun _ => ?_⟩
  · rw [hps, List.mem_append] at hp
    exact Or.inr hp
  · have hlt := fun p hp => hW.lt p hp
    obtain ⟨_, _, _, _, _, hz, hn⟩ := hW
    refine ⟨hok, _, _, ([] ++ pa) ++ pv, ⟨[] ++ pa, pv, trodAll_append (hargs _ (fun _ _ => rfl)) (hres _ _ _), hvars _ (fun _ _ => rfl), rfl, ?_, ?_⟩, ?_⟩
    · intro b off hp
      have hp' : MemPlace.cell b off ∈ before := by rw [hps]; simpa using hp
      rw [hk.frozen (a := ⟨b, off, none⟩) (hlt _ hp')]
      exact hz b off hp'
    · intro ha
      have := hn ha
      rw [hps] at this
      simpa using this
    · intro p hp _
      rw [hps]
      simpa using hp

end

section
variable {P : Program} {w : World}

theorem empty_HR (I : Imm) (hI : ∀ k j, I k j → k < w.heap.size) : HR (fun _ => none) I AHeap.empty w where
  dom b l h := by cases h
  inside b l h := by cases h
  cells b cs l h := by cases h
  maps b es l h := by cases h
  tails b l h := by cases h
  disj b b' l l' x x' k j _ h := by cases h
  imm b l x k j h := by cases h
  Iin := hI
  pl b cs cb o room h := by cases h

theorem trod_bool {H : Type} {enc : TypeId × Value → H} {base : Nat} {sp : Nat → Bool} {hd : Bool} {t : TypeId} (hu : P.underlying t = some .bool) (b : Bool) : DataW.Trod enc P w base sp hd t (.bool b) (.lit (.bool b)) [] :=
  ⟨1, by simp [DataW.trod, Value.cells, hu]⟩

theorem okWide_bool {t : TypeId} (hu : P.underlying t = some .bool) (b : Bool) : Value.okWide P w .any 0 t (.bool b) := by
  simp [Value.okWide, hu, Cell.okWide, Cell.ok]

/-- A call that comes to true in the abstract comes to true, and turns nothing. -/
theorem calls_true {f : Nat} {args : List AV} {h' : AHeap} (hc : ACalls P f args AHeap.empty (.bool true) h') {I : Imm} (hI : ∀ k j, I k j → k < w.heap.size) {cargs : Array Value} (hl : LR (fun _ => none) I w args cargs.toList) :
    Calls P f cargs w fun e w' => e = .returned (.bool true) ∧ Kept w w' := by
  refine (hc (fun _ => none) I w cargs (empty_HR I hI) hl).mono ?_
  rintro e w' ⟨v, ι', I', rfl, hv, H', E⟩
  cases hv
  exact ⟨rfl, E.os, E.output, E.size, fun k hk => E.block k hk (fun j ⟨b, l, x, hb, _⟩ => by cases hb)⟩

end
end Go.Proofs.YtjkllffbjeajhaaGreat.Am

/- A calculus over the big steps: what is wanted behind the code, asked ahead of it. -/
namespace Go.Proofs.YtjkllffbjeajhaaGreat.Am
open Go

section
variable {P : Program}

theorem exec_post {K : Env → AHeap → Prop} : ∀ {ros : List RO} {ρ : Env} {h : AHeap}, exec P ros ρ h K → ∃ ρ1 h1, exec P ros ρ h (fun ρ' h' => ρ' = ρ1 ∧ h' = h1) ∧ K ρ1 h1
  | [], ρ, h, hk => ⟨ρ, h, ⟨rfl, rfl⟩, hk⟩
  | o :: os, ρ, h, ⟨r, h', hs, hk⟩ => by
    obtain ⟨ρ1, h1, he, hk⟩ := exec_post hk
    exact ⟨ρ1, h1, ⟨r, h', hs, he⟩, hk⟩

theorem execD_post {K : Env → AHeap → Prop} {all : List RO} {un : List (List Nat)} {base : Nat} : ∀ {ros : List RO} {i : Nat} {ρ : Env} {h : AHeap} {done : List (Env × AHeap × Option AV)}, execD P all un base ros i ρ h done K →
    ∃ ρ1 h1, execD P all un base ros i ρ h done (fun ρ' h' => ρ' = ρ1 ∧ h' = h1) ∧ K ρ1 h1
  | [], i, ρ, h, done, hk => ⟨ρ, h, ⟨rfl, rfl⟩, hk⟩
  | o :: os, i, ρ, h, done, ⟨r, h', hs, hc, hf, hk⟩ => by
    obtain ⟨ρ1, h1, he, hk⟩ := execD_post hk
    exact ⟨ρ1, h1, ⟨r, h', hs, hc, hf, he⟩, hk⟩

/-- What holds behind the code, wherever it comes out. -/
def WP (P : Program) (c : RCode) (K : AExit → Env → AHeap → Prop) (ρ : Env) (h : AHeap) : Prop := ∃ e ρ' h', Big P c ρ h e ρ' h' ∧ K e ρ' h'

variable {K : AExit → Env → AHeap → Prop} {ρ : Env} {h : AHeap}

theorem WP.mono {c : RCode} {K' : AExit → Env → AHeap → Prop} (hw : WP P c K ρ h) (hk : ∀ e ρ h, K e ρ h → K' e ρ h) : WP P c K' ρ h := by
  obtain ⟨e, ρ', h', hb, hk'⟩ := hw
  exact ⟨e, ρ', h', hb, hk _ _ _ hk'⟩

/-- Behind the first part: the second one, where it was gone through. -/
def thenK (k : Env → AHeap → Prop) (K : AExit → Env → AHeap → Prop) : AExit → Env → AHeap → Prop
  | .normal, ρ, h => k ρ h
  | e, ρ, h => K e ρ h

def blockK (id : Nat) (K : AExit → Env → AHeap → Prop) : AExit → Env → AHeap → Prop
  | .exit i, ρ, h => if i = id then K .normal ρ h else K (.exit i) ρ h
  | e, ρ, h => K e ρ h

theorem wp_skip' (hk : K .normal ρ h) : WP P .skip K ρ h := ⟨_, _, _, .skip, hk⟩
theorem wp_label' {l : Nat} (hk : K .normal ρ h) : WP P (.label l) K ρ h := ⟨_, _, _, .label, hk⟩
theorem wp_exit' {id : Nat} (hk : K (.exit id) ρ h) : WP P (.exit id) K ρ h := ⟨_, _, _, .exit, hk⟩
theorem wp_goto' {l : Nat} (hk : K (.goto l) ρ h) : WP P (.goto l) K ρ h := ⟨_, _, _, .goto, hk⟩
theorem wp_ret' (hk : K .ret ρ h) : WP P .ret K ρ h := ⟨_, _, _, .ret, hk⟩

theorem wp_reg {ros : List RO} (he : exec P ros ρ h (K .normal)) : WP P (.reg ros) K ρ h := by
  obtain ⟨ρ1, h1, he, hk⟩ := exec_post he
  exact ⟨_, _, _, .reg he, hk⟩

theorem wp_regD {ros : List RO} {un : List (List Nat)} (hf : ∀ j, j < ros.length → h.get (h.next + j) = none) (he : execD P ros un h.next ros 0 ρ { h with next := h.next + ros.length } [] (K .normal)) : WP P (.regD ros un) K ρ h := by
  obtain ⟨ρ1, h1, he, hk⟩ := execD_post he
  exact ⟨_, _, _, .regD hf he, hk⟩

theorem wp_seq' {a b : RCode} (hw : WP P a (thenK (WP P b K) K) ρ h) : WP P (.seq a b) K ρ h := by
  obtain ⟨e, ρ', h', hb, hk⟩ := hw
  cases e with
  | normal => obtain ⟨e2, ρ2, h2, hb2, hk2⟩ := hk; exact ⟨_, _, _, .seq hb hb2, hk2⟩
  | exit id => exact ⟨_, _, _, .seqX hb (by simp), hk⟩
  | goto l => exact ⟨_, _, _, .seqX hb (by simp), hk⟩
  | ret => exact ⟨_, _, _, .seqX hb (by simp), hk⟩

theorem wp_cond' {c : Opd} {x y : RCode} {t : Bool} (hc : c.ev ρ = .bool t) (hw : WP P (if t then x else y) K ρ h) : WP P (.cond c x y) K ρ h := by
  obtain ⟨e, ρ', h', hb, hk⟩ := hw
  exact ⟨_, _, _, .cond t hc hb, hk⟩

theorem wp_cond_if {c : Opd} {x y : RCode} {t : Bool} (hc : c.ev ρ = .bool t) (h1 : t = true → WP P x K ρ h) (h2 : t = false → WP P y K ρ h) : WP P (.cond c x y) K ρ h := by
  refine wp_cond' hc ?_
  cases t
  · exact h2 rfl
  · exact h1 rfl

theorem wp_block' {id : Nat} {c : RCode} (hw : WP P c (blockK id K) ρ h) : WP P (.block id c) K ρ h := by
  obtain ⟨e, ρ', h', hb, hk⟩ := hw
  refine ⟨_, _, _, .block hb, ?_⟩
  cases e with
  | exit i =>
    simp only [blockK] at hk
    by_cases hi : i = id
    · subst hi; simpa using hk
    · rw [if_neg hi] at hk
      have : ¬ (AExit.exit i = AExit.exit id) := fun h => hi (AExit.exit.inj h)
      rw [if_neg this]; exact hk
  | normal => simpa [blockK] using hk
  | goto l => simpa [blockK] using hk
  | ret => simpa [blockK] using hk

/-- A loop: what holds at each round's head, and a number that each round lowers. -/
theorem wp_loop_n {c : RCode} (I : Nat → Env → AHeap → Prop) (round : ∀ n ρ h, I n ρ h → WP P c (thenK (fun ρ' h' => ∃ m, m < n ∧ I m ρ' h') K) ρ h) : ∀ (n : Nat) {ρ : Env} {h : AHeap}, I n ρ h → WP P (.loop c) K ρ h := by
  intro n
  induction n using Nat.strongRecOn with
  | _ n ih =>
    intro ρ h hI
    obtain ⟨e, ρ', h', hb, hk⟩ := round n ρ h hI
    cases e with
    | normal =>
      obtain ⟨m, hm, hI'⟩ := hk
      obtain ⟨e2, ρ2, h2, hb2, hk2⟩ := ih m hm hI'
      exact ⟨_, _, _, .loop hb hb2, hk2⟩
    | exit id => exact ⟨_, _, _, .loopX hb (by simp), hk⟩
    | goto l => exact ⟨_, _, _, .loopX hb (by simp), hk⟩
    | ret => exact ⟨_, _, _, .loopX hb (by simp), hk⟩

/-- Within a scope. -/
def inK (k : Nat → Option (Env → AHeap → Prop)) (K : AExit → Env → AHeap → Prop) : AExit → Env → AHeap → Prop
  | .goto l, ρ, h => match k l with
    | some k => k ρ h
    | none => K (.goto l) ρ h
  | e, ρ, h => K e ρ h

theorem wp_in {body cur : RCode} (hw : WP P cur (inK (fun l => (findLabelR body l).map fun rest => WP P (.inScope body rest) K) K) ρ h) : WP P (.inScope body cur) K ρ h := by
  obtain ⟨e, ρ', h', hb, hk⟩ := hw
  cases e with
  | goto l =>
    simp only [inK] at hk
    cases hf : findLabelR body l with
    | none => rw [hf] at hk; exact ⟨_, _, _, .inX hb (fun l' h => by cases h; exact hf), hk⟩
    | some rest =>
      rw [hf] at hk
      obtain ⟨e2, ρ2, h2, hb2, hk2⟩ := hk
      exact ⟨_, _, _, .inJ hb hf hb2, hk2⟩
  | normal => exact ⟨_, _, _, .inX hb (by simp), hk⟩
  | exit id => exact ⟨_, _, _, .inX hb (by simp), hk⟩
  | ret => exact ⟨_, _, _, .inX hb (by simp), hk⟩

theorem wp_scope' {c : RCode} (hw : WP P (.inScope c c) K ρ h) : WP P (.scope c) K ρ h := by
  obtain ⟨e, ρ', h', hb, hk⟩ := hw
  exact ⟨_, _, _, .scope hb, hk⟩

/-- A scope in which the run jumps back to one label: what holds at each jump, and a number that each pass lowers. -/
theorem wp_jumps {body rest : RCode} (l : Nat) (hf : findLabelR body l = some rest) (J : Nat → Env → AHeap → Prop)
    (pass : ∀ n ρ h, J n ρ h → WP P rest (inK (fun l' => if l' = l then some (fun ρ' h' => ∃ m, m < n ∧ J m ρ' h') else none) K) ρ h)
    (hno : ∀ l' ρ h, l' ≠ l → K (.goto l') ρ h → False) : ∀ (n : Nat) {ρ : Env} {h : AHeap}, J n ρ h → WP P (.inScope body rest) K ρ h := by
  intro n
  induction n using Nat.strongRecOn with
  | _ n ih =>
    intro ρ h hJ
    obtain ⟨e, ρ', h', hb, hk⟩ := pass n ρ h hJ
    cases e with
    | goto l' =>
      simp only [inK] at hk
      by_cases hl : l' = l
      · subst hl
        simp only [if_true] at hk
        obtain ⟨m, hm, hJ'⟩ := hk
        obtain ⟨e2, ρ2, h2, hb2, hk2⟩ := ih m hm hJ'
        exact ⟨_, _, _, .inJ hb hf hb2, hk2⟩
      · simp only [hl, if_false] at hk
        exact (hno l' ρ' h' hl hk).elim
    | normal => exact ⟨_, _, _, .inX hb (by simp), hk⟩
    | exit id => exact ⟨_, _, _, .inX hb (by simp), hk⟩
    | ret => exact ⟨_, _, _, .inX hb (by simp), hk⟩

def doneK (rs : List RRes) (r : AV) (h1 : AHeap) : AExit → Env → AHeap → Prop
  | .normal, ρ, h => (resL ρ h rs).map tupOf = some r ∧ h = h1
  | .ret, ρ, h => (resL ρ h rs).map tupOf = some r ∧ h = h1
  | _, _, _ => False

theorem acalls_of_wp {md : Mode} (hm : P.follows .mixedOrders = true) {f : Nat} {fn : Func} {rf : RFunc} (hf : P.funcs[f]? = some fn) (hc : cFunc P md fn = some rf) {args : List AV} (hargs : args.length ≤ rf.ntmps)
    {h1 : AHeap} {r : AV} (hw : WP P rf.code (doneK rf.results r h1) (args0 args) h) : ACalls P f args h r h1 := by
  obtain ⟨e, ρ', h', hb, hk⟩ := hw
  cases e with
  | normal =>
    obtain ⟨hr, rfl⟩ := hk
    obtain ⟨vs, hv, rfl⟩ := Option.map_eq_some_iff.1 hr
    exact acalls_of_big hm hf hc hargs hb (.inl rfl) hv
  | ret =>
    obtain ⟨hr, rfl⟩ := hk
    obtain ⟨vs, hv, rfl⟩ := Option.map_eq_some_iff.1 hr
    exact acalls_of_big hm hf hc hargs hb (.inr rfl) hv
  | exit id => exact hk.elim
  | goto l => exact hk.elim

end
end Go.Proofs.YtjkllffbjeajhaaGreat.Am

/- What a value names; calls that leave no trace. -/
namespace Go.Proofs.YtjkllffbjeajhaaGreat.Am
open Go

mutual
/-- Each block that a value names is such a one. -/
def AV.allR (p : Nat → Bool) : AV → Bool
  | .ptr b _ => p b
  | .rs b _ _ _ => p b
  | .rk b _ _ _ _ => p b
  | .map (some b) => p b
  | .vs xs t => AV.allLL p xs && (match t with | .own t => p t | _ => true)
  | .vp xs _ => AV.allL p xs
  | .agg xs => AV.allL p xs
  | .tup xs => AV.allL p xs
  | .fn _ a b => AV.allL p a && AV.allL p b
  | _ => true
def AV.allL (p : Nat → Bool) : List AV → Bool
  | [] => true
  | x :: xs => x.allR p && AV.allL p xs
def AV.allLL (p : Nat → Bool) : List (List AV) → Bool
  | [] => true
  | x :: xs => AV.allL p x && AV.allLL p xs
end

theorem allL_get {p : Nat → Bool} : ∀ {l : List AV} {i : Nat} {v : AV}, AV.allL p l = true → l[i]? = some v → v.allR p = true
  | [], i, v, _, h => by simp at h
  | x :: xs, i, v, ha, h => by
    simp only [AV.allL, Bool.and_eq_true] at ha
    cases i with
    | zero => simp at h; subst h; exact ha.1
    | succ i => exact allL_get ha.2 (by simpa using h)

theorem allLL_get {p : Nat → Bool} : ∀ {l : List (List AV)} {i : Nat} {v : List AV}, AV.allLL p l = true → l[i]? = some v → AV.allL p v = true
  | [], i, v, _, h => by simp at h
  | x :: xs, i, v, ha, h => by
    simp only [AV.allLL, Bool.and_eq_true] at ha
    cases i with
    | zero => simp at h; subst h; exact ha.1
    | succ i => exact allLL_get ha.2 (by simpa using h)

theorem allL_of {p : Nat → Bool} : ∀ {l : List AV}, (∀ (i : Nat) (v : AV), l[i]? = some v → v.allR p = true) → AV.allL p l = true
  | [], _ => rfl
  | x :: xs, h => by
    simp only [AV.allL, Bool.and_eq_true]
    exact ⟨h 0 x rfl, allL_of (fun i v hv => h (i + 1) v (by simpa using hv))⟩

theorem allLL_of {p : Nat → Bool} : ∀ {l : List (List AV)}, (∀ (i : Nat) (v : List AV), l[i]? = some v → AV.allL p v = true) → AV.allLL p l = true
  | [], _ => rfl
  | x :: xs, h => by
    simp only [AV.allLL, Bool.and_eq_true]
    exact ⟨h 0 x rfl, allLL_of (fun i v hv => h (i + 1) v (by simpa using hv))⟩

theorem VR.change {ι ι2 : Inj} {I : Imm} {w : World} {p : Nat → Bool} (hp : ∀ b l, p b = true → ι b = some l → ι2 b = some l) {v : AV} {c : Value} (h : VR ι I w v c) : v.allR p = true → VR ι2 I w v c := by
  induction h with
  | undef v => intro _; exact .undef v
  | any1 v h => intro _; exact .any1 v h
  | int k n => intro _; exact .int k n
  | bool b => intro _; exact .bool b
  | flt k b => intro _; exact .flt k b
  | cpx k a b => intro _; exact .cpx k a b
  | str s => intro _; exact .str s
  | nil => intro _; exact .nil
  | ptr b off cb o room h => intro ha; exact .ptr b off cb o room (hp _ _ ha h)
  | vp xs off cb o g hI hc hv h1 ih => intro ha; exact .vp xs off cb o g hI hc (fun j v hj => ih j v hj (allL_get ha hj)) h1
  | vs xs t cb o s cap g hs hI hc hv h1 hcap ht ih =>
    intro ha
    simp only [AV.allR, Bool.and_eq_true] at ha
    refine .vs xs t cb o s cap g hs hI hc (fun i row j v hi hj => ih i row j v hi hj (allL_get (allLL_get ha.1 hi) hj)) h1 hcap ?_
    cases t with
    | unk => exact ht
    | full => exact ht
    | own t => exact ⟨ht.1, hp _ _ ha.2 ht.2⟩
  | vsNil t ht => intro _; exact .vsNil t ht
  | vsZ t a cap ht => intro _; exact .vsZ t a cap ht
  | nils => intro _; exact .nils
  | rs b off len sz cb o room cap h h1 h2 => intro ha; exact .rs b off len sz cb o room cap (hp _ _ ha h) h1 h2
  | rk b off len sz cap cb o room h h1 h2 => intro ha; exact .rk b off len sz cap cb o room (hp _ _ ha h) h1 h2
  | vz a cap => intro _; exact .vz a cap
  | mapNil => intro _; exact .mapNil
  | map b cb h => intro ha; exact .map b cb (hp _ _ ha h)
  | fn f fs cs fs' cs' hf hc hfv hcv ih1 ih2 =>
    intro ha
    simp only [AV.allR, Bool.and_eq_true] at ha
    exact .fn f fs cs fs' cs' hf hc (fun i v c h1 h2 => ih1 i v c h1 h2 (allL_get ha.1 h1)) (fun i v c h1 h2 => ih2 i v c h1 h2 (allL_get ha.2 h1))
  | nilfn => intro _; exact .nilfn
  | agg cs cs' hl hv ih => intro ha; exact .agg cs cs' hl (fun i v c h1 h2 => ih i v c h1 h2 (allL_get ha h1))
  | tup cs cs' hl hv ih => intro ha; exact .tup cs cs' hl (fun i v c h1 h2 => ih i v c h1 h2 (allL_get ha h1))

/-- What stands for something names what is there. -/
theorem VR.dom {ι : Inj} {I : Imm} {w : World} {p : Nat → Bool} (hp : ∀ b l, ι b = some l → p b = true) {v : AV} {c : Value} (h : VR ι I w v c) : v.allR p = true := by
  induction h with
  | ptr b off cb o room h => exact hp _ _ h
  | vp xs off cb o g hI hc hv h1 ih => exact allL_of (fun j v hj => ih j v hj)
  | vs xs t cb o s cap g hs hI hc hv h1 hcap ht ih =>
    simp only [AV.allR, Bool.and_eq_true]
    refine ⟨allLL_of (fun i row hi => allL_of (fun j v hj => ih i row j v hi hj)), ?_⟩
    cases t with
    | unk => rfl
    | full => rfl
    | own t => exact hp _ _ ht.2
  | vsNil t ht => rcases ht with rfl | rfl <;> rfl
  | vsZ t a cap ht => rcases ht with rfl | ⟨rfl, _⟩ <;> rfl
  | rs b off len sz cb o room cap h h1 h2 => exact hp _ _ h
  | rk b off len sz cap cb o room h h1 h2 => exact hp _ _ h
  | map b cb h => exact hp _ _ h
  | fn f fs cs fs' cs' hf hc hfv hcv ih1 ih2 =>
    simp only [AV.allR, Bool.and_eq_true]
    refine ⟨allL_of (fun i v hi => ?_), allL_of (fun i v hi => ?_)⟩
    · have := (List.getElem?_eq_some_iff.1 hi).1
      exact ih1 i v _ hi (List.getElem?_eq_getElem (by omega))
    · have := (List.getElem?_eq_some_iff.1 hi).1
      exact ih2 i v _ hi (List.getElem?_eq_getElem (by omega))
  | agg cs cs' hl hv ih =>
    refine allL_of (fun i v hi => ?_)
    have := (List.getElem?_eq_some_iff.1 hi).1
    exact ih i v _ hi (List.getElem?_eq_getElem (by omega))
  | tup cs cs' hl hv ih =>
    refine allL_of (fun i v hi => ?_)
    have := (List.getElem?_eq_some_iff.1 hi).1
    exact ih i v _ hi (List.getElem?_eq_getElem (by omega))
  | _ => rfl

section
variable {P : Program}

theorem LR.change {ι ι2 : Inj} {I : Imm} {w : World} {p : Nat → Bool} (hp : ∀ b l, p b = true → ι b = some l → ι2 b = some l) {l : List AV} {l' : List Value} (h : LR ι I w l l') (ha : AV.allL p l = true) : LR ι2 I w l l' :=
  ⟨h.1, fun i v c h1 h2 => (h.2 i v c h1 h2).change hp (allL_get ha h1)⟩

/-- A call whose arguments name nothing, and whose value names nothing, is the same call at any heap, and leaves it. -/
theorem ACalls.frame {f : Nat} {args : List AV} {r : AV} {h' : AHeap} (hc : ACalls P f args AHeap.empty r h') (ha : AV.allL (fun _ => false) args = true) (hr : r.allR (fun _ => false) = true) (h : AHeap) : ACalls P f args h r h := by
  intro ι I w cargs H hl
  have hl0 : LR (fun _ => none) I w args cargs.toList := hl.change (p := fun _ => false) (fun b l hb => by cases hb) ha
  refine (hc (fun _ => none) I w cargs (empty_HR I H.Iin) hl0).mono ?_
  rintro e w' ⟨v, ι', I', rfl, hv, H', E⟩
  have hno : ∀ k j, ¬ Owned (fun _ => none) AHeap.empty k j := fun k j ⟨b, l, x, hb, _⟩ => by cases hb
  have hcell : ∀ k j, k < w.heap.size → w'.cell? ⟨k, j, none⟩ = w.cell? ⟨k, j, none⟩ := fun k j hk => E.cell k j hk (hno k j)
  have hI' : ∀ k j, I' k j → I k j ∨ w.heap.size ≤ k := fun k j hk => by
    rcases E.inew k j hk with h | h | h
    · exact .inl h
    · exact (hno k j h).elim
    · exact .inr h
  have hlt : ∀ b l k j, ι b = some l → l.has k j → k < w.heap.size := fun b l k j hb hl => by rw [Loc.has_block hl]; exact H.inside b l hb
  have hmono : ∀ a c, VR ι I w a c → VR ι I' w' a c := fun a c hx => hx.mono (fun _ _ h => h) E.imm (fun k j hk => hcell k j (H.Iin k j hk))
  refine ⟨v, ι, I', rfl, hv.change (p := fun _ => false) (fun b l hb => by cases hb) hr, ?_, ?_⟩
  · exact
    { dom := H.dom, inside := fun b l hb => Nat.lt_of_lt_of_le (H.inside b l hb) E.size
      cells := fun b cs l hg hb => by
        obtain ⟨cb, o, room, rfl, h1, h2, h3⟩ := H.cells b cs l hg hb
        refine ⟨cb, o, room, rfl, h1, h2, fun j hj => ?_⟩
        obtain ⟨c, e1, e2, e3⟩ := h3 j hj
        have hin : cb < w.heap.size := H.inside b _ hb
        exact ⟨c, by rw [hcell _ _ hin]; exact e1, by rw [E.frozen _ _ hin (hno _ _)]; exact e2, fun v hv => hmono _ _ (e3 v hv)⟩
      maps := fun b es l hg hb => by
        obtain ⟨cb, es', clock, rfl, h1, h2, h3⟩ := H.maps b es l hg hb
        have hin : cb < w.heap.size := H.inside b _ hb
        exact ⟨cb, es', clock, rfl, by rw [E.block cb hin (fun j => hno cb j)]; exact h1, h2, fun i k v e e1 e2 => ⟨hmono _ _ (h3 i k v e e1 e2).1, hmono _ _ (h3 i k v e e1 e2).2⟩⟩
      tails := fun b l hg hb => by
        obtain ⟨cb, lo, hi, rfl, h1⟩ := H.tails b l hg hb
        have hin : cb < w.heap.size := H.inside b _ hb
        refine ⟨cb, lo, hi, rfl, fun j e1 e2 => ?_⟩
        obtain ⟨c, e3, e4⟩ := h1 j e1 e2
        exact ⟨c, by rw [hcell _ _ hin]; exact e3, by rw [E.frozen _ _ hin (hno _ _)]; exact e4⟩
      disj := H.disj
      imm := fun b l x k j hb hg hl hk => by
        rcases hI' k j hk with h1 | h1
        · exact H.imm b l x k j hb hg hl h1
        · have := hlt b l k j hb hl; omega
      Iin := H'.Iin
      pl := fun b cs cb o room hg hb n => by rw [E.frozen cb n (H.inside b _ hb) (hno _ _)]; exact H.pl b cs cb o room hg hb n }
  · exact
    { keep := fun _ _ => rfl, more := fun _ _ h => h, next := Nat.le_refl _, imm := E.imm, os := E.os, tape := E.tape, output := E.output, size := E.size
      block := fun k hk _ => E.block k hk (fun j => hno k j)
      cell := fun k j hk _ => hcell k j hk
      frozen := fun k j hk _ => E.frozen k j hk (hno k j)
      own := fun k j h => .inl h
      inew := fun k j hk => by rcases hI' k j hk with h1 | h1; exact .inl h1; exact .inr (.inr h1)
      lost := fun _ _ _ => rfl }

/-- A call that has laid blocks that nobody names any more. -/
theorem ACalls.restore {f : Nat} {args : List AV} {r : AV} {h h' : AHeap} (hc : ACalls P f args h r h') (hsame : ∀ b, b < h.next → h'.get b = h.get b) (hr : r.allR (fun b => decide (b < h.next)) = true) : ACalls P f args h r h := by
  intro ι I w cargs H hl
  refine (hc ι I w cargs H hl).mono ?_
  rintro e w' ⟨v, ι', I', rfl, hv, H', E⟩
  let ι2 : Inj := fun b => if b < h.next then ι' b else none
  have h12 : ∀ b l, decide (b < h.next) = true → ι' b = some l → ι2 b = some l := fun b l hb hl => by
    have : b < h.next := by simpa using hb
    simp only [ι2, this, if_true]; exact hl
  have h21 : ∀ b l, ι2 b = some l → b < h.next ∧ ι' b = some l := fun b l hb => by
    simp only [ι2] at hb
    split at hb
    · rename_i hlt; exact ⟨hlt, hb⟩
    · cases hb
  have hold : ∀ b, b < h.next → ι' b = ι b := fun b hb => E.keep b (by omega)
  have hvr : ∀ a c c', VR ι I w a c → VR ι' I' w' a c' → VR ι2 I' w' a c' := fun a c c' hx hy =>
    hy.change h12 (hx.dom (fun b l hb => by simpa using H.dom b l hb))
  refine ⟨v, ι2, I', rfl, hv.change h12 hr, ?_, ?_⟩
  · exact
    { dom := fun b l hb => (h21 b l hb).1
      inside := fun b l hb => H'.inside b l (h21 b l hb).2
      cells := fun b cs l hg hb => by
        obtain ⟨hlt, hb'⟩ := h21 b l hb
        obtain ⟨cb, o, room, rfl, h1, h2, h3⟩ := H'.cells b cs l (by rw [hsame b hlt]; exact hg) hb'
        refine ⟨cb, o, room, rfl, h1, h2, fun j hj => ?_⟩
        obtain ⟨c, e1, e2, e3⟩ := h3 j hj
        refine ⟨c, e1, e2, fun v hv => ?_⟩
        obtain ⟨cb0, o0, room0, heq, g1, g2, g3⟩ := H.cells b cs _ hg (by rw [← hold b hlt]; exact hb')
        cases heq
        obtain ⟨c0, f1, f2, f3⟩ := g3 j hj
        exact hvr v c0 c (f3 v hv) (e3 v hv)
      maps := fun b es l hg hb => by
        obtain ⟨hlt, hb'⟩ := h21 b l hb
        obtain ⟨cb, es', clock, rfl, h1, h2, h3⟩ := H'.maps b es l (by rw [hsame b hlt]; exact hg) hb'
        obtain ⟨cb0, es0, clock0, heq, g1, g2, g3⟩ := H.maps b es _ hg (by rw [← hold b hlt]; exact hb')
        cases heq
        refine ⟨cb, es', clock, rfl, h1, h2, fun i k v e e1 e2 => ?_⟩
        have hi := (List.getElem?_eq_some_iff.1 e1).1
        have h0 := g3 i k v _ e1 (Array.getElem?_eq_getElem (by omega))
        have h4 := h3 i k v e e1 e2
        exact ⟨hvr _ _ _ h0.1 h4.1, hvr _ _ _ h0.2 h4.2⟩
      tails := fun b l hg hb => by
        obtain ⟨hlt, hb'⟩ := h21 b l hb
        exact H'.tails b l (by rw [hsame b hlt]; exact hg) hb'
      disj := fun b b' l l' x x' k j hne hb hb' hg hg' => H'.disj b b' l l' x x' k j hne (h21 b l hb).2 (h21 b' l' hb').2 (by rw [hsame b (h21 b l hb).1]; exact hg) (by rw [hsame b' (h21 b' l' hb').1]; exact hg')
      imm := fun b l x k j hb hg => H'.imm b l x k j (h21 b l hb).2 (by rw [hsame b (h21 b l hb).1]; exact hg)
      Iin := H'.Iin
      pl := fun b cs cb o room hg hb => H'.pl b cs cb o room (by rw [hsame b (h21 b _ hb).1]; exact hg) (h21 b _ hb).2 }
  · exact
    { keep := fun b hb => by
        have hlt : b < h.next := by simpa using hb
        simp only [ι2, hlt, if_true]
        exact E.keep b hb
      more := fun b l hb => h12 b l (by simpa using H.dom b l hb) (E.more b l hb)
      next := Nat.le_refl _, imm := E.imm, os := E.os, tape := E.tape, output := E.output, size := E.size, block := E.block, cell := E.cell, frozen := E.frozen
      own := fun k j ⟨b, l, x, hb, hg, hl⟩ => E.own k j ⟨b, l, x, (h21 b l hb).2, by rw [hsame b (h21 b l hb).1]; exact hg, hl⟩
      inew := E.inew
      lost := fun _ _ _ => rfl }

end
end Go.Proofs.YtjkllffbjeajhaaGreat.Am

/- For the steps of a region, one after the other. -/
namespace Go.Proofs.YtjkllffbjeajhaaGreat.Am
open Go

section
variable {P : Program} {ρ : Env} {h : AHeap} {K : Env → AHeap → Prop}

theorem exec_nil : exec P [] ρ h K ↔ K ρ h := Iff.rfl

theorem exec_p {d : Option Nat} {q : POp} {os : List RO} : exec P (⟨d, none, .p q⟩ :: os) ρ h K ↔ ∃ v, apure q ρ h = some v ∧ exec P os (put ρ d v) h K := by
  constructor
  · rintro ⟨r, h', hs, hk⟩
    simp only [AStep, guardVal, AOpRun] at hs
    obtain ⟨v, rfl, hv, rfl⟩ := hs
    exact ⟨v, hv, hk⟩
  · rintro ⟨v, hv, hk⟩
    exact ⟨some v, h, ⟨v, rfl, hv, rfl⟩, hk⟩

theorem exec_pg {d : Option Nat} {g : Nat} {b : Bool} {q : POp} {os : List RO} {c : Bool} (hc : ρ g = .bool c) : exec P (⟨d, some (g, b), .p q⟩ :: os) ρ h K ↔ if c = b then ∃ v, apure q ρ h = some v ∧ exec P os (put ρ d v) h K else exec P os (put ρ d (.tup [])) h K := by
  by_cases hcb : c = b
  · subst hcb
    simp only [if_true]
    constructor
    · rintro ⟨r, h', hs, hk⟩
      simp only [AStep, guardVal, hc, beq_self_eq_true, AOpRun] at hs
      obtain ⟨v, rfl, hv, rfl⟩ := hs
      exact ⟨v, hv, hk⟩
    · rintro ⟨v, hv, hk⟩
      refine ⟨some v, h, ?_, hk⟩
      simp only [AStep, guardVal, hc, beq_self_eq_true, AOpRun]
      exact ⟨v, rfl, hv, trivial⟩
  · have hcb' : (c == b) = false := by simpa using hcb
    rw [if_neg hcb]
    constructor
    · rintro ⟨r, h', hs, hk⟩
      simp only [AStep, guardVal, hc, hcb'] at hs
      obtain ⟨rfl, rfl⟩ := hs
      exact hk
    · intro hk
      refine ⟨none, h, ?_, hk⟩
      simp only [AStep, guardVal, hc, hcb']
      trivial

/-- By a guard: it is done, or it is left out. -/
def gK (v : AV) (b : Bool) (A B : Prop) : Prop := match v with
  | .bool c => if c = b then A else B
  | .tup [] => B
  | _ => False

theorem gK_bool {c b : Bool} {A B : Prop} : gK (.bool c) b A B ↔ if c = b then A else B := Iff.rfl
theorem gK_tup {b : Bool} {A B : Prop} : gK (.tup []) b A B ↔ B := Iff.rfl

theorem exec_g {d : Option Nat} {g : Nat} {b : Bool} {q : POp} {os : List RO} : exec P (⟨d, some (g, b), .p q⟩ :: os) ρ h K ↔ gK (ρ g) b (∃ v, apure q ρ h = some v ∧ exec P os (put ρ d v) h K) (exec P os (put ρ d (.tup [])) h K) := by
  unfold gK
  split
  · rename_i c hc; exact exec_pg hc
  · rename_i hc
    constructor
    · rintro ⟨r, h', hs, hk⟩
      simp only [AStep, guardVal, hc] at hs
      obtain ⟨rfl, rfl⟩ := hs
      exact hk
    · intro hk
      refine ⟨none, h, ?_, hk⟩
      simp only [AStep, guardVal, hc]
      trivial
  · rename_i h1 h2
    constructor
    · rintro ⟨r, h', hs, hk⟩
      unfold AStep at hs
      have : guardVal ⟨d, some (g, b), .p q⟩ ρ = none := by
        unfold guardVal
        simp only []
      rw [this] at hs
      exact hs
    · exact fun h => h.elim

theorem exec_gcall {d : Option Nat} {g : Nat} {b : Bool} {f : Nat} {as : List Opd} {os : List RO} {c : Bool} (hc : ρ g = .bool c) {v : AV} (hcall : c = b → ACalls P f (as.map (Opd.ev ρ)) h v h)
    (hk : exec P os (put ρ d (if c = b then v else .tup [])) h K) : exec P (⟨d, some (g, b), .call f as⟩ :: os) ρ h K := by
  by_cases hcb : c = b
  · subst hcb
    rw [if_pos rfl] at hk
    refine ⟨some v, h, ?_, hk⟩
    simp only [AStep, guardVal, hc, beq_self_eq_true, AOpRun]
    exact ⟨v, rfl, hcall rfl⟩
  · have hcb' : (c == b) = false := by simpa using hcb
    rw [if_neg hcb] at hk
    refine ⟨none, h, ?_, hk⟩
    simp only [AStep, guardVal, hc, hcb']
    trivial

theorem exec_a {d : Option Nat} {q : AOp} {os : List RO} : exec P (⟨d, none, .a q⟩ :: os) ρ h K ↔ ∃ b v, aalloc q ρ h.next = some (b, v) ∧ exec P os (put ρ d v) (h.at h.next b) K := by
  constructor
  · rintro ⟨r, h', hs, hk⟩
    simp only [AStep, guardVal, AOpRun] at hs
    obtain ⟨v, rfl, b, hv, rfl⟩ := hs
    exact ⟨b, v, hv, hk⟩
  · rintro ⟨b, v, hv, hk⟩
    exact ⟨some v, _, ⟨v, rfl, b, hv, rfl⟩, hk⟩

theorem exec_e {d : Option Nat} {q : EOp} {os : List RO} : exec P (⟨d, none, .e q⟩ :: os) ρ h K ↔ ∃ v h', aeff q ρ h.next h = some (v, h') ∧ exec P os (put ρ d v) h' K := by
  constructor
  · rintro ⟨r, h', hs, hk⟩
    simp only [AStep, guardVal, AOpRun] at hs
    obtain ⟨v, rfl, hv⟩ := hs
    exact ⟨v, h', hv, hk⟩
  · rintro ⟨v, h', hv, hk⟩
    exact ⟨some v, h', ⟨v, rfl, hv⟩, hk⟩

theorem exec_call {d : Option Nat} {f : Nat} {as : List Opd} {os : List RO} {v : AV} {h' : AHeap} (hc : ACalls P f (as.map (Opd.ev ρ)) h v h') (hk : exec P os (put ρ d v) h' K) : exec P (⟨d, none, .call f as⟩ :: os) ρ h K :=
  ⟨some v, h', ⟨v, rfl, hc⟩, hk⟩

theorem put_some {d i : Nat} {v : AV} : put ρ (some d) v i = if i = d then v else ρ i := rfl
theorem put_none {v : AV} : put ρ none v = ρ := rfl

section
variable {P : Program} {ρ : Env} {h : AHeap} {K : AExit → Env → AHeap → Prop}

def jumpK (l : Nat) (J : Env → AHeap → Prop) (K : AExit → Env → AHeap → Prop) : AExit → Env → AHeap → Prop
  | .goto l', ρ, h => if l' = l then J ρ h else K (.goto l') ρ h
  | e, ρ, h => K e ρ h

/-- A scope with one label to which the run jumps. -/
theorem wp_scope_one {c rest : RCode} (l : Nat) (hf : findLabelR c l = some rest) (J : Nat → Env → AHeap → Prop) (hno : ∀ l' ρ h, K (.goto l') ρ h → False)
    (first : WP P c (jumpK l (fun ρ' h' => ∃ m, J m ρ' h') K) ρ h)
    (pass : ∀ n ρ h, J n ρ h → WP P rest (jumpK l (fun ρ' h' => ∃ m, m < n ∧ J m ρ' h') K) ρ h) : WP P (.scope c) K ρ h := by
  have loop : ∀ (n : Nat) (ρ : Env) (h : AHeap), J n ρ h → WP P (.inScope c rest) K ρ h := fun n ρ h hJ =>
    wp_jumps l hf J (fun n ρ h hJ => (pass n ρ h hJ).mono (fun e ρ h hk => by
      cases e with
      | goto l' =>
        simp only [jumpK, inK] at hk ⊢
        by_cases hl : l' = l
        · simpa [hl] using hk
        · simpa [hl] using hk
      | normal => exact hk
      | exit id => exact hk
      | ret => exact hk)) (fun l' ρ h _ hk => hno l' ρ h hk) n hJ
  refine wp_scope' (wp_in (first.mono (fun e ρ h hk => ?_)))
  cases e with
  | goto l' =>
    simp only [jumpK, inK] at hk ⊢
    by_cases hl : l' = l
    · subst hl
      rw [hf]
      simp only [if_true] at hk
      obtain ⟨m, hm⟩ := hk
      exact loop m ρ h hm
    · rw [if_neg hl] at hk
      exact (hno l' ρ h hk).elim
  | normal => exact hk
  | exit id => exact hk
  | ret => exact hk

end

end
section
variable {P : Program}

/-- The call's value is there, and what was there is as it was. -/
def keepK (rs : List RRes) (r : AV) (h : AHeap) : AExit → Env → AHeap → Prop
  | .normal, ρ, h' => (resL ρ h' rs).map tupOf = some r ∧ ∀ b, b < h.next → h'.get b = h.get b
  | .ret, ρ, h' => (resL ρ h' rs).map tupOf = some r ∧ ∀ b, b < h.next → h'.get b = h.get b
  | _, _, _ => False

theorem acalls_keep {md : Mode} (hm : P.follows .mixedOrders = true) {f : Nat} {fn : Func} {rf : RFunc} (hf : P.funcs[f]? = some fn) (hc : cFunc P md fn = some rf) {args : List AV} (hargs : args.length ≤ rf.ntmps)
    {h : AHeap} {r : AV} (hr : r.allR (fun b => decide (b < h.next)) = true) (hw : WP P rf.code (keepK rf.results r h) (args0 args) h) : ACalls P f args h r h := by
  obtain ⟨e, ρ', h', hb, hk⟩ := hw
  cases e with
  | normal =>
    obtain ⟨hv, hs⟩ := hk
    obtain ⟨vs, hv2, rfl⟩ := Option.map_eq_some_iff.1 hv
    exact (acalls_of_big hm hf hc hargs hb (.inl rfl) hv2).restore hs hr
  | ret =>
    obtain ⟨hv, hs⟩ := hk
    obtain ⟨vs, hv2, rfl⟩ := Option.map_eq_some_iff.1 hv
    exact (acalls_of_big hm hf hc hargs hb (.inr rfl) hv2).restore hs hr
  | exit id => exact hk.elim
  | goto l => exact hk.elim

end

theorem AHeap.at_get {h : AHeap} {id j : Nat} {b : Blk} : (h.at id b).get j = if j = id then some b else h.get j := rfl
theorem AHeap.set_get {h : AHeap} {id j : Nat} {b : Option Blk} : (h.set id b).get j = if j = id then b else h.get j := rfl
theorem AHeap.at_next {h : AHeap} {id : Nat} {b : Blk} : (h.at id b).next = max h.next (id + 1) := rfl
theorem AHeap.set_next {h : AHeap} {id : Nat} {b : Option Blk} : (h.set id b).next = h.next := rfl

theorem setAt_all {cs vs : List AV} (h : cs.length = vs.length) : setAt cs 0 vs = vs := by
  simp [setAt, List.drop_eq_nil_of_le, h]

/-- A whole value into the cells of a block. -/
theorem store_all {h : AHeap} {id sz : Nat} {z row : List AV} (hg : h.get id = some (.cells z)) (hz : z.length = sz) (hr : row.length = sz) (hone : row.all AV.one = true) :
    storeA sz h (.ptr id 0) (.agg row) = some (.undef, h.set id (some (.cells row))) := by
  unfold storeA
  simp only [cellsOf, hg, AV.cells, hr, hz, hone, Nat.zero_add, Nat.le_refl, and_self, if_true]
  rw [setAt_all (by omega)]

end Go.Proofs.YtjkllffbjeajhaaGreat.Am
