/- What is handed in, as the abstract machine sees it. Conditions: none. -/
import Derived.Test.YtchomcffeiheeaaAmD
set_option linter.unusedSimpArgs false
set_option linter.unusedVariables false
set_option linter.unnecessarySimpa false
/- What is handed in: each cell is one cell. -/
namespace Go.Proofs.Ytchomcffeiheeaa.Am
open Go Go.ChangeShapes

def layB (P : Program) : Bool := (List.range P.types.size).all fun t => match P.underlying t with
  | some (.struct fs) => (fs.toList.all fun f => decide (f.type < P.types.size)) && (List.range (P.cellsOf t)).all fun j => fs.toList.any fun f => decide (f.offset ≤ j) && decide (j < f.offset + P.cellsOf f.type)
  | some (.array n e) => decide (e < P.types.size) && P.cellsOf t == n * P.cellsOf e
  | _ => true

section
variable {P : Program} {H : Type} {enc : TypeId × Value → H} {w : World} {base : Nat} {sp : Nat → Bool} {held : Bool}

theorem mapM_get {α β : Type} {f : α → Option β} : ∀ {l : List α} {r : List β}, l.mapM f = some r → ∀ x ∈ l, ∃ y, f x = some y
  | [], r, h, x, hx => by simp at hx
  | a :: l, r, h, x, hx => by
    rw [List.mapM_cons] at h
    simp only [Option.bind_eq_bind, Option.bind_eq_some_iff] at h
    obtain ⟨b, hb, bs, hbs, _⟩ := h
    rcases List.mem_cons.1 hx with rfl | hx
    · exact ⟨b, hb⟩
    · exact mapM_get hbs x hx

theorem seg_get {cs : List Value} {o n j : Nat} {c : Value} (hj : cs[j]? = some c) (h1 : o ≤ j) (h2 : j < o + n) : c ∈ (cs.drop o).take n := by
  rw [List.mem_iff_getElem?]
  refine ⟨j - o, ?_⟩
  rw [List.getElem?_take_of_lt (by omega), List.getElem?_drop, show o + (j - o) = j by omega]
  exact hj

theorem trod_one (hl : layB P = true) : ∀ {fuel : Nat} {t : TypeId} {cs : List Value} {x : DataW H × List MemPlace}, t < P.types.size → DataW.trod enc P w base sp held fuel t cs = some x → ∀ c ∈ cs, c.oneCell' = true := by
  intro fuel
  induction fuel with
  | zero => intro t cs x _ h; simp [DataW.trod] at h
  | succ n ih =>
    intro t cs x ht h c hc
    obtain ⟨j, hj⟩ := List.mem_iff_getElem?.1 hc
    have hjl := (List.getElem?_eq_some_iff.1 hj).1
    unfold DataW.trod at h
    have hlay := List.all_eq_true.1 hl t (List.mem_range.2 ht)
    split at h <;> first
      | (simp only [List.mem_singleton] at hc; subst hc; rfl)
      | skip
    · rename_i fs hu
      rw [hu] at hlay
      simp only [List.all_eq_true, List.mem_range, List.any_eq_true, Bool.and_eq_true, decide_eq_true_eq] at hlay
      obtain ⟨htys, hlay⟩ := hlay
      split at h
      · rename_i hlen
        obtain ⟨f, hf, h1, h2⟩ := hlay j (by omega)
        obtain ⟨xs, hxs, _⟩ := Option.map_eq_some_iff.1 h
        obtain ⟨y, hy⟩ := mapM_get hxs f hf
        exact ih (htys f hf) hy c (seg_get hj h1 h2)
      · cases h
    · rename_i m e hu
      rw [hu] at hlay
      simp only [beq_iff_eq, Bool.and_eq_true, decide_eq_true_eq] at hlay
      obtain ⟨hte, hlay⟩ := hlay
      split at h
      · rename_i hlen
        have hpos : 0 < P.cellsOf e := by
          rcases Nat.eq_zero_or_pos (P.cellsOf e) with h0 | h0
          · rw [h0, Nat.mul_zero] at hlay; omega
          · exact h0
        obtain ⟨xs, hxs, _⟩ := Option.map_eq_some_iff.1 h
        have hq : j / P.cellsOf e < m := (Nat.div_lt_iff_lt_mul hpos).2 (by rw [← hlay]; omega)
        obtain ⟨y, hy⟩ := mapM_get hxs (j / P.cellsOf e) (List.mem_range.2 hq)
        refine ih hte hy c (seg_get hj (Nat.div_mul_le_self _ _) ?_)
        have := Nat.div_add_mod' j (P.cellsOf e)
        have := Nat.mod_lt j hpos
        omega
      · cases h
    all_goals (first | (cases h; done) | skip)

end
end Go.Proofs.Ytchomcffeiheeaa.Am
