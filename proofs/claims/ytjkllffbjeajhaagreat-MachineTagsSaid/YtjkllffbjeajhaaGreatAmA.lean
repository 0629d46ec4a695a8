/- The abstract machine: its values, its heap, its operations; what they are in the model. Conditions: none. -/
import Derived.Orders
import Derived.Laws.Sem
import Derived.Laws.World
import Derived.Laws.Cells
import Derived.Laws.Rows
import Derived.Below
import Derived.Deep.MidRow
import Derived.Deep.AppendSrc
import Derived.Laws.MakeOwn
import Derived.Great.BuildSlice
import Derived.Laws.Small
import Derived.Laws.StructEq
set_option linter.unusedSimpArgs false
set_option linter.unusedVariables false
set_option linter.unnecessarySimpa false
/- The abstract machine: values, heap. Slices stand by value; pointers go into a small abstract heap. -/
namespace Go.Proofs.YtjkllffbjeajhaaGreat.Am
open Go

inductive Tail where
  | unk
  | full
  | own (t : Nat)
  deriving DecidableEq, Repr, Inhabited

inductive AV where
  | undef
  | int (k : IntKind) (n : Int)
  | bool (b : Bool)
  | flt (k : FloatKind) (b : Nat)
  | cpx (k : FloatKind) (re im : Nat)
  | str (s : ByteArray)
  | nil
  | ptr (b off : Nat)
  | vp (xs : List AV) (off : Nat)
  | vs (xs : List (List AV)) (t : Tail)
  | nils
  | rs (b off len sz : Nat)
  | rk (b off len sz cap : Nat)
  | vz
  | map (b : Option Nat)
  | fn (f : Nat) (first caps : List AV)
  | nilfn
  | agg (cs : List AV)
  | tup (vs : List AV)
  | any1
  deriving Inhabited

def AV.cells : AV → List AV
  | .agg cs => cs
  | v => [v]

/-- One cell's value. -/
def AV.one : AV → Bool
  | .agg _ => false
  | .tup _ => false
  | .undef => false
  | _ => true

inductive Blk where
  | cells (cs : List AV)
  | map (es : List (AV × AV))
  | tail
  deriving Inhabited

structure AHeap where
  get : Nat → Option Blk
  next : Nat

def AHeap.set (h : AHeap) (b : Nat) (x : Option Blk) : AHeap := { h with get := fun i => if i = b then x else h.get i }
def AHeap.new (h : AHeap) (x : Blk) : AHeap := { get := fun i => if i = h.next then some x else h.get i, next := h.next + 1 }
def AHeap.empty : AHeap := { get := fun _ => none, next := 0 }

/-- Where an abstract block lies. -/
inductive Loc where
  | cells (cb o room : Nat)
  | map (cb : Nat)
  | tail (cb lo hi : Nat)

def Loc.has : Loc → Nat → Nat → Prop
  | .cells c _ _, k, _ => k = c
  | .map c, k, _ => k = c
  | .tail c lo hi, k, j => k = c ∧ lo ≤ j ∧ j < hi

def Loc.block : Loc → Nat
  | .cells c _ _ => c
  | .map c => c
  | .tail c _ _ => c

abbrev Inj := Nat → Option Loc
abbrev Imm := Nat → Nat → Prop

def TailOk (ι : Inj) (cb o s len cap : Nat) : Tail → Prop
  | .unk => True
  | .full => cap = len
  | .own t => 0 < len ∧ ι t = some (.tail cb (o + len * s) (o + cap * s))

/-- An abstract value and a value of the model, in a world. -/
inductive VR (ι : Inj) (I : Imm) (w : World) : AV → Value → Prop
  | undef (v : Value) : VR ι I w .undef v
  | int (k : IntKind) (n : Int) : VR ι I w (.int k n) (.int k n)
  | bool (b : Bool) : VR ι I w (.bool b) (.bool b)
  | flt (k : FloatKind) (b : Nat) : VR ι I w (.flt k b) (.float k b)
  | cpx (k : FloatKind) (re im : Nat) : VR ι I w (.cpx k re im) (.complex k re im)
  | str (s : ByteArray) : VR ι I w (.str s) (.string s)
  | nil : VR ι I w .nil (.pointer none)
  | ptr (b off cb o room : Nat) (h : ι b = some (.cells cb o room)) : VR ι I w (.ptr b off) (.pointer (some ⟨cb, o + off, none⟩))
  | vp (xs : List AV) (off cb o : Nat) (g : Nat → Value)
      (hI : ∀ j, j < xs.length → I cb (o + j)) (hc : ∀ j, j < xs.length → w.cell? ⟨cb, o + j, none⟩ = some (g j))
      (hv : ∀ (j : Nat) (v : AV), xs[j]? = some v → VR ι I w v (g j)) (h1 : ∀ v ∈ xs, v.one = true) : VR ι I w (.vp xs off) (.pointer (some ⟨cb, o + off, none⟩))
  | vs (xs : List (List AV)) (t : Tail) (cb o s cap : Nat) (g : Nat → Nat → Value)
      (hs : ∀ (i : Nat) (row : List AV), xs[i]? = some row → row.length = s)
      (hI : ∀ i j, i < xs.length → j < s → I cb (o + i * s + j))
      (hc : ∀ i j, i < xs.length → j < s → w.cell? ⟨cb, o + i * s + j, none⟩ = some (g i j))
      (hv : ∀ (i : Nat) (row : List AV) (j : Nat) (v : AV), xs[i]? = some row → row[j]? = some v → VR ι I w v (g i j))
      (h1 : ∀ row ∈ xs, ∀ v ∈ row, AV.one v = true)
      (hcap : xs.length ≤ cap) (ht : TailOk ι cb o s xs.length cap t) :
      VR ι I w (.vs xs t) (.slice (some ⟨cb, o, none⟩) xs.length cap)
  | vsNil (t : Tail) (ht : t = .unk ∨ t = .full) : VR ι I w (.vs [] t) (.slice none 0 0)
  | vsZ (t : Tail) (a : Addr) (cap : Nat) (ht : t = .unk ∨ (t = .full ∧ cap = 0)) : VR ι I w (.vs [] t) (.slice (some a) 0 cap)
  | nils : VR ι I w .nils (.slice none 0 0)
  | rs (b off len sz cb o room cap : Nat) (h : ι b = some (.cells cb o room)) (hlen : len ≤ cap) (hcap : off + cap * sz ≤ room) :
      VR ι I w (.rs b off len sz) (.slice (some ⟨cb, o + off, none⟩) len cap)
  | rk (b off len sz cap cb o room : Nat) (h : ι b = some (.cells cb o room)) (hlen : len ≤ cap) (hcap : off + cap * sz ≤ room) :
      VR ι I w (.rk b off len sz cap) (.slice (some ⟨cb, o + off, none⟩) len cap)
  | vz (a : Addr) (cap : Nat) : VR ι I w .vz (.slice (some a) 0 cap)
  | mapNil : VR ι I w (.map none) (.map none)
  | map (b cb : Nat) (h : ι b = some (.map cb)) : VR ι I w (.map (some b)) (.map (some cb))
  | fn (f : Nat) (fs cs : List AV) (fs' cs' : List Value) (hf : fs.length = fs'.length) (hc : cs.length = cs'.length)
      (hfv : ∀ (i : Nat) (v : AV) (c : Value), fs[i]? = some v → fs'[i]? = some c → VR ι I w v c)
      (hcv : ∀ (i : Nat) (v : AV) (c : Value), cs[i]? = some v → cs'[i]? = some c → VR ι I w v c) :
      VR ι I w (.fn f fs cs) (.func (.func f) fs'.toArray cs'.toArray)
  | nilfn : VR ι I w .nilfn .nilFunc
  | agg (cs : List AV) (cs' : List Value) (hl : cs.length = cs'.length) (hv : ∀ (i : Nat) (v : AV) (c : Value), cs[i]? = some v → cs'[i]? = some c → VR ι I w v c) :
      VR ι I w (.agg cs) (.agg cs'.toArray)
  | tup (cs : List AV) (cs' : List Value) (hl : cs.length = cs'.length) (hv : ∀ (i : Nat) (v : AV) (c : Value), cs[i]? = some v → cs'[i]? = some c → VR ι I w v c) :
      VR ι I w (.tup cs) (.tuple cs'.toArray)
  | any1 (v : Value) (h : v.oneCell' = true) : VR ι I w .any1 v

def Owned (ι : Inj) (h : AHeap) (k j : Nat) : Prop := ∃ b l x, ι b = some l ∧ h.get b = some x ∧ l.has k j

/-- A map's entries have stamps of their own, all below the clock. -/
def Stamps (es : Array MapEntry) (clock : Nat) : Prop := (∀ e ∈ es.toList, e.born < clock) ∧ (es.toList.map (·.born)).Nodup

/-- What a block of cells says of the world. -/
structure HR (ι : Inj) (I : Imm) (h : AHeap) (w : World) : Prop where
  dom : ∀ b l, ι b = some l → b < h.next
  inside : ∀ b l, ι b = some l → l.block < w.heap.size
  cells : ∀ b cs l, h.get b = some (.cells cs) → ι b = some l → ∃ cb o room, l = .cells cb o room ∧ cs.length ≤ room ∧ (∀ v ∈ cs, v.one = true) ∧
    (∀ j, j < room → ∃ c, w.cell? ⟨cb, o + j, none⟩ = some c ∧ w.frozen? ⟨cb, o + j, none⟩ = false ∧ ∀ v, cs[j]? = some v → VR ι I w v c)
  maps : ∀ b es l, h.get b = some (.map es) → ι b = some l → ∃ cb es' clock, l = .map cb ∧ w.heap[cb]? = some (.map es' clock) ∧ (es.length = es'.size ∧ Stamps es' clock) ∧
    (∀ (i : Nat) (k v : AV) (e : MapEntry), es[i]? = some (k, v) → es'[i]? = some e → VR ι I w k e.key ∧ VR ι I w v e.val)
  tails : ∀ b l, h.get b = some .tail → ι b = some l → ∃ cb lo hi, l = .tail cb lo hi ∧
    ∀ j, lo ≤ j → j < hi → ∃ c, w.cell? ⟨cb, j, none⟩ = some c ∧ w.frozen? ⟨cb, j, none⟩ = false
  disj : ∀ b b' l l' x x' k j, b ≠ b' → ι b = some l → ι b' = some l' → h.get b = some x → h.get b' = some x' → l.has k j → l'.has k j → False
  imm : ∀ b l x k j, ι b = some l → h.get b = some x → l.has k j → ¬ I k j
  Iin : ∀ k j, I k j → k < w.heap.size
  pl : ∀ b cs cb o room, h.get b = some (.cells cs) → ι b = some (.cells cb o room) → ∀ n, w.frozen? ⟨cb, n, none⟩ = false

/-- What a stretch of the run may have turned; N: the abstract blocks that may be new. -/
structure Ext (N : Nat → Prop) (ι : Inj) (I : Imm) (h : AHeap) (w : World) (ι' : Inj) (I' : Imm) (h' : AHeap) (w' : World) : Prop where
  keep : ∀ b, ¬ N b → ι' b = ι b
  more : ∀ b l, ι b = some l → ι' b = some l
  next : h.next ≤ h'.next
  imm : ∀ k j, I k j → I' k j
  os : w'.os = w.os
  tape : w'.tape = w.tape
  output : w'.output = w.output
  size : w.heap.size ≤ w'.heap.size
  block : ∀ k, k < w.heap.size → (∀ j, ¬ Owned ι h k j) → w'.heap[k]? = w.heap[k]?
  cell : ∀ k j, k < w.heap.size → ¬ Owned ι h k j → w'.cell? ⟨k, j, none⟩ = w.cell? ⟨k, j, none⟩
  frozen : ∀ k j, k < w.heap.size → ¬ Owned ι h k j → w'.frozen? ⟨k, j, none⟩ = w.frozen? ⟨k, j, none⟩
  own : ∀ k j, Owned ι' h' k j → Owned ι h k j ∨ w.heap.size ≤ k
  inew : ∀ k j, I' k j → I k j ∨ Owned ι h k j ∨ w.heap.size ≤ k
  lost : ∀ b, ¬ N b → ι b = none → h'.get b = h.get b

theorem VR.mono {ι ι' : Inj} {I I' : Imm} {w w' : World} (hι : ∀ b l, ι b = some l → ι' b = some l) (hI : ∀ k j, I k j → I' k j)
    (hw : ∀ k j, I k j → w'.cell? ⟨k, j, none⟩ = w.cell? ⟨k, j, none⟩) {a : AV} {v : Value} (h : VR ι I w a v) : VR ι' I' w' a v := by
  induction h with
  | undef v => exact .undef v
  | int k n => exact .int k n
  | bool b => exact .bool b
  | flt k b => exact .flt k b
  | cpx k a b => exact .cpx k a b
  | str s => exact .str s
  | nil => exact .nil
  | ptr b off cb o room h => exact .ptr b off cb o room (hι _ _ h)
  | vp xs off cb o g h1 h2 _ h1' ih => exact .vp xs off cb o g (fun j hj => hI _ _ (h1 j hj)) (fun j hj => by rw [hw _ _ (h1 j hj)]; exact h2 j hj) ih h1'
  | vs xs t cb o s cap g hs h1 h2 _ h1' hcap ht ih =>
    refine .vs xs t cb o s cap g hs (fun i j hi hj => hI _ _ (h1 i j hi hj)) (fun i j hi hj => by rw [hw _ _ (h1 i j hi hj)]; exact h2 i j hi hj) ih h1' hcap ?_
    cases t with
    | unk => trivial
    | full => exact ht
    | own t => exact ⟨ht.1, hι _ _ ht.2⟩
  | vsNil t ht => exact .vsNil t ht
  | vsZ t a cap ht => exact .vsZ t a cap ht
  | nils => exact .nils
  | rs b off len sz cb o room cap h h1 h2 => exact .rs b off len sz cb o room cap (hι _ _ h) h1 h2
  | rk b off len sz cap cb o room h h1 h2 => exact .rk b off len sz cap cb o room (hι _ _ h) h1 h2
  | vz a cap => exact .vz a cap
  | mapNil => exact .mapNil
  | map b cb h => exact .map b cb (hι _ _ h)
  | fn f fs cs fs' cs' hf hc _ _ ih1 ih2 => exact .fn f fs cs fs' cs' hf hc ih1 ih2
  | nilfn => exact .nilfn
  | agg cs cs' hl _ ih => exact .agg cs cs' hl ih
  | tup cs cs' hl _ ih => exact .tup cs cs' hl ih
  | any1 v h => exact .any1 v h

theorem VR.one {ι : Inj} {I : Imm} {w : World} {a : AV} {v : Value} (h : VR ι I w a v) (h1 : a.one = true) : v.oneCell' = true := by
  cases h <;> first | rfl | assumption | (simp [AV.one] at h1)

mutual
/-- The same, but that nothing is known of the room behind. -/
def AV.strip : AV → AV
  | .vs xs _ => .vs (AV.stripLL xs) .unk
  | .agg xs => .agg (AV.stripL xs)
  | .tup xs => .tup (AV.stripL xs)
  | v => v
def AV.stripL : List AV → List AV
  | [] => []
  | x :: xs => x.strip :: AV.stripL xs
def AV.stripLL : List (List AV) → List (List AV)
  | [] => []
  | x :: xs => AV.stripL x :: AV.stripLL xs
end

theorem stripL_len : ∀ {l : List AV}, (AV.stripL l).length = l.length
  | [] => rfl
  | x :: xs => by simp [AV.stripL, stripL_len (l := xs)]
theorem stripLL_len : ∀ {l : List (List AV)}, (AV.stripLL l).length = l.length
  | [] => rfl
  | x :: xs => by simp [AV.stripLL, stripLL_len (l := xs)]
theorem stripL_get : ∀ {l : List AV} {i : Nat} {v : AV}, (AV.stripL l)[i]? = some v → ∃ u, l[i]? = some u ∧ v = u.strip
  | [], i, v, h => by simp [AV.stripL] at h
  | x :: xs, i, v, h => by
    cases i with
    | zero => simp [AV.stripL] at h; exact ⟨x, rfl, h.symm⟩
    | succ i => obtain ⟨u, h1, h2⟩ := stripL_get (l := xs) (i := i) (by simpa [AV.stripL] using h); exact ⟨u, by simpa using h1, h2⟩
theorem stripLL_get : ∀ {l : List (List AV)} {i : Nat} {v : List AV}, (AV.stripLL l)[i]? = some v → ∃ u, l[i]? = some u ∧ v = AV.stripL u
  | [], i, v, h => by simp [AV.stripLL] at h
  | x :: xs, i, v, h => by
    cases i with
    | zero => simp [AV.stripLL] at h; exact ⟨x, rfl, h.symm⟩
    | succ i => obtain ⟨u, h1, h2⟩ := stripLL_get (l := xs) (i := i) (by simpa [AV.stripLL] using h); exact ⟨u, by simpa using h1, h2⟩
theorem AV.strip_one {v : AV} : v.strip.one = v.one := by cases v <;> simp [AV.strip, AV.one]

theorem VR.strip {ι : Inj} {I : Imm} {w : World} {a : AV} {v : Value} (h : VR ι I w a v) : VR ι I w a.strip v := by
  induction h with
  | vs xs t cb o s cap g hs hI hc hv h1 hcap ht ih =>
    have := VR.vs (ι := ι) (I := I) (w := w) (AV.stripLL xs) .unk cb o s cap g
      (fun i row hi => by obtain ⟨u, e1, rfl⟩ := stripLL_get hi; rw [stripL_len]; exact hs i u e1)
      (fun i j hi hj => hI i j (by rwa [stripLL_len] at hi) hj)
      (fun i j hi hj => hc i j (by rwa [stripLL_len] at hi) hj)
      (fun i row j v hi hj => by
        obtain ⟨u, e1, rfl⟩ := stripLL_get hi
        obtain ⟨x, e2, rfl⟩ := stripL_get hj
        exact ih i u j x e1 e2)
      (fun row hr v hv' => by
        obtain ⟨i, hi⟩ := List.mem_iff_getElem?.1 hr
        obtain ⟨u, e1, rfl⟩ := stripLL_get hi
        obtain ⟨j, hj⟩ := List.mem_iff_getElem?.1 hv'
        obtain ⟨x, e2, rfl⟩ := stripL_get hj
        rw [AV.strip_one]
        exact h1 u (List.mem_of_getElem? e1) x (List.mem_of_getElem? e2))
      (by rw [stripLL_len]; exact hcap) trivial
    rw [stripLL_len] at this
    exact this
  | vsNil t ht => exact .vsNil _ (.inl rfl)
  | vsZ t a cap ht => exact .vsZ _ _ _ (.inl rfl)
  | agg cs cs' hl hv ih => exact .agg _ _ (by rw [stripL_len]; exact hl) (fun i v c h1 h2 => by obtain ⟨u, e1, rfl⟩ := stripL_get h1; exact ih i u c e1 h2)
  | tup cs cs' hl hv ih => exact .tup _ _ (by rw [stripL_len]; exact hl) (fun i v c h1 h2 => by obtain ⟨u, e1, rfl⟩ := stripL_get h1; exact ih i u c e1 h2)
  | undef v => exact .undef v
  | int k n => exact .int k n
  | bool b => exact .bool b
  | flt k b => exact .flt k b
  | cpx k a b => exact .cpx k a b
  | str s => exact .str s
  | nil => exact .nil
  | ptr b off cb o room h => exact .ptr b off cb o room h
  | vp xs off cb o g hI hc hv h1 ih => exact .vp xs off cb o g hI hc hv h1
  | nils => exact .nils
  | rs b off len sz cb o room cap h h1 h2 => exact .rs b off len sz cb o room cap h h1 h2
  | rk b off len sz cap cb o room h h1 h2 => exact .rk b off len sz cap cb o room h h1 h2
  | vz a cap => exact .vz a cap
  | mapNil => exact .mapNil
  | map b cb h => exact .map b cb h
  | fn f fs cs fs' cs' hf hc h1 h2 ih1 ih2 => exact .fn f fs cs fs' cs' hf hc h1 h2
  | nilfn => exact .nilfn
  | any1 v h => exact .any1 v h

theorem HR.notOwned {ι : Inj} {I : Imm} {h : AHeap} {w : World} (H : HR ι I h w) {k j : Nat} (hI : I k j) : ¬ Owned ι h k j :=
  fun ⟨_, l, _, hb, hg, hl⟩ => H.imm _ l _ k j hb hg hl hI

theorem Ext.vr {N : Nat → Prop} {ι ι' : Inj} {I I' : Imm} {h h' : AHeap} {w w' : World} (E : Ext N ι I h w ι' I' h' w') (H : HR ι I h w) {a : AV} {v : Value}
    (hv : VR ι I w a v) : VR ι' I' w' a v :=
  hv.mono E.more E.imm fun k j hI => E.cell k j (H.Iin k j hI) (H.notOwned hI)

theorem Ext.refl (N : Nat → Prop) (ι : Inj) (I : Imm) (h : AHeap) (w : World) : Ext N ι I h w ι I h w where
  keep _ _ := rfl
  more _ _ h := h
  next := Nat.le_refl _
  imm _ _ h := h
  os := rfl
  tape := rfl
  output := rfl
  size := Nat.le_refl _
  block _ _ _ := rfl
  cell _ _ _ _ := rfl
  frozen _ _ _ _ := rfl
  own _ _ h := .inl h
  inew _ _ h := .inl h
  lost _ _ _ := rfl

theorem Ext.trans {N N' : Nat → Prop} {ι₁ ι₂ ι₃ : Inj} {I₁ I₂ I₃ : Imm} {h₁ h₂ h₃ : AHeap} {w₁ w₂ w₃ : World}
    (E : Ext N ι₁ I₁ h₁ w₁ ι₂ I₂ h₂ w₂) (F : Ext N' ι₂ I₂ h₂ w₂ ι₃ I₃ h₃ w₃) (hN : ∀ b, N' b → N b) : Ext N ι₁ I₁ h₁ w₁ ι₃ I₃ h₃ w₃ where
  keep b hb := (F.keep b (fun h => hb (hN b h))).trans (E.keep b hb)
  more b l h := F.more b l (E.more b l h)
  next := Nat.le_trans E.next F.next
  imm k j h := F.imm k j (E.imm k j h)
  os := F.os.trans E.os
  tape := F.tape.trans E.tape
  output := F.output.trans E.output
  size := Nat.le_trans E.size F.size
  block k hk ho := by
    rw [F.block k (Nat.lt_of_lt_of_le hk E.size) (fun j hj => (E.own k j hj).elim (ho j) (fun h => by omega)), E.block k hk ho]
  cell k j hk ho := by
    rw [F.cell k j (Nat.lt_of_lt_of_le hk E.size) (fun hj => (E.own k j hj).elim ho (fun h => by omega)), E.cell k j hk ho]
  frozen k j hk ho := by
    rw [F.frozen k j (Nat.lt_of_lt_of_le hk E.size) (fun hj => (E.own k j hj).elim ho (fun h => by omega)), E.frozen k j hk ho]
  own k j h := by
    rcases F.own k j h with h | h
    · exact E.own k j h
    · exact .inr (Nat.le_trans E.size h)
  inew k j h := by
    rcases F.inew k j h with h | h | h
    · exact E.inew k j h
    · rcases E.own k j h with h | h
      · exact .inr (.inl h)
      · exact .inr (.inr h)
    · exact .inr (.inr (Nat.le_trans E.size h))
  lost b hb hi := by rw [F.lost b (fun h => hb (hN b h)) (by rw [E.keep b hb, hi]), E.lost b hb hi]

theorem Ext.mono {N N' : Nat → Prop} {ι ι' : Inj} {I I' : Imm} {h h' : AHeap} {w w' : World} (E : Ext N ι I h w ι' I' h' w') (hN : ∀ b, N b → N' b) : Ext N' ι I h w ι' I' h' w' :=
  { E with keep := fun b hb => E.keep b (fun h => hb (hN b h)), lost := fun b hb => E.lost b (fun h => hb (hN b h)) }

/-- Lists of abstract and of model values, place by place. -/
theorem exists_list {p : Nat → AV → Value → Prop} : ∀ (l : List AV), (∀ j v, l[j]? = some v → ∃ c, p j v c) →
    ∃ l' : List Value, l.length = l'.length ∧ ∀ j v c, l[j]? = some v → l'[j]? = some c → p j v c := by
  intro l
  induction l generalizing p with
  | nil => intro _; exact ⟨[], rfl, fun j v c h => by simp at h⟩
  | cons a l ih =>
    intro h
    obtain ⟨c, hc⟩ := h 0 a rfl
    obtain ⟨l', hl, hp⟩ := ih (p := fun j => p (j + 1)) (fun j v hv => h (j + 1) v (by simpa using hv))
    refine ⟨c :: l', by simp [hl], fun j v c' hv hc' => ?_⟩
    cases j with
    | zero => simp at hv hc'; subst hv; subst hc'; exact hc
    | succ j => exact hp j v c' (by simpa using hv) (by simpa using hc')

end Go.Proofs.YtjkllffbjeajhaaGreat.Am

/- The operations of the abstract machine. -/
namespace Go.Proofs.YtjkllffbjeajhaaGreat.Am
open Go

inductive Opd where
  | tmp (t : Nat)
  | const (v : AV)
  deriving Inhabited

abbrev Env := Nat → AV
def Opd.ev (ρ : Env) : Opd → AV
  | .tmp t => ρ t
  | .const v => v

/-- Operations that leave the abstract heap alone. -/
inductive POp where
  | mov (x : Opd)
  | pick (c a b : Opd)
  | build (z : List AV) (parts : List (Nat × Nat × Opd))
  | bslice (n : Nat) (z : List AV) (parts : List (Nat × Opd))
  | load (ag : Bool) (sz : Nat) (x : Opd)
  | nilchk (x : Opd)
  | bin (tb : Bool) (op : BinOp) (x y : Opd)
  | eqNil (kd : Nat) (neg : Bool) (x : Opd)
  | eqAgg (neg : Bool) (offs : List Nat) (x y : Opd)
  | un (op : UnOp) (x : Opd)
  | toInt (k : IntKind) (x : Opd)
  | bytesStr (x : Opd)
  | strBytes (x : Opd)
  | faddr (off : Nat) (x : Opd)
  | fld (ag : Bool) (sz off : Nat) (x : Opd)
  | iaddrS (sz : Nat) (x i : Opd)
  | iaddrA (sz len : Nat) (x i : Opd)
  | idxA (ag : Bool) (sz len : Nat) (x i : Opd)
  | slc (sz : Nat) (x : Opd) (lo hi mx : Option Opd)
  | ext (i : Nat) (x : Opd)
  | lenS (x : Opd)
  | lenStr (x : Opd)
  | lenC (n : Nat)
  | lookup (z : AV) (ok : Bool) (m k : Opd)
  | mkfn (f : Nat) (first caps : List Opd)
  | minmax (mx : Bool) (x : Opd) (rest : List Opd)
  | part (im : Bool) (x : Opd)
  | mkslice (z : List AV) (bytes : Nat) (len cap : Opd)
  | capS (x : Opd)
  | idxStr (x i : Opd)
  | ovl (sz : Nat) (x y : Opd)
  | rng (x : Opd)
  | nxt (x : Opd)
  | ent (x : Opd)
  | stuck
  deriving Inhabited

/-- Operations that lay one new block. -/
inductive AOp where
  | box (x : Opd)
  | alloc (z : List AV)
  | mksliceR (z : List AV) (bytes : Nat) (len cap : Opd)
  | bsliceR (n : Nat) (z : List AV) (parts : List (Nat × Opd))
  | mkmap
  deriving Inhabited

/-- Operations that turn the heap. -/
inductive EOp where
  | store (sz : Nat) (a v : Opd)
  | append (bytes sz : Nat) (x y : Opd)
  | appendR (bytes sz : Nat) (x y : Opd)
  | copy (sz : Nat) (x y : Opd)
  | appendZ (bytes : Nat) (z : List AV) (x n : Opd)
  | copyK (sz : Nat) (x y : Opd)
  | clearK (z : List AV) (x : Opd)
  | mark (x : Opd)
  | mapupd (m k v : Opd)
  | mapdel (m k : Opd)
  deriving Inhabited

inductive ROp where
  | p (o : POp)
  | a (o : AOp)
  | e (o : EOp)
  | call (f : Nat) (args : List Opd)
  | dyn (x : Opd) (args : List Opd)
  deriving Inhabited

def setAt (cs : List AV) (off : Nat) (vs : List AV) : List AV := cs.take off ++ vs ++ cs.drop (off + vs.length)

def fillA (ρ : Env) (cs : List AV) : List (Nat × Nat × Opd) → Option (List AV)
  | [] => some cs
  | (off, sz, x) :: rest =>
    let vs := (x.ev ρ).cells
    if vs.length = sz ∧ off + sz ≤ cs.length ∧ vs.all AV.one then fillA ρ (setAt cs off vs) rest else none

def fillR (ρ : Env) (sz : Nat) (rows : List (List AV)) : List (Nat × Opd) → Option (List (List AV))
  | [] => some rows
  | (i, x) :: rest =>
    let vs := (x.ev ρ).cells
    if vs.length = sz ∧ i < rows.length ∧ vs.all AV.one then fillR ρ sz (rows.set i vs) rest else none

def cut (ag : Bool) (sz off : Nat) (cs : List AV) : Option AV :=
  if ag then (if off + sz ≤ cs.length then some (.agg ((cs.drop off).take sz)) else none) else cs[off]?

def cellsOf (h : AHeap) (b : Nat) : Option (List AV) :=
  match h.get b with
  | some (.cells cs) => some cs
  | _ => none

def aload (ag : Bool) (sz : Nat) (h : AHeap) : AV → Option AV
  | .ptr b off => (cellsOf h b).bind (cut ag sz off)
  | .vp xs off => cut ag sz off xs
  | _ => none

def notNil : AV → Option AV
  | .ptr b o => some (.ptr b o)
  | .vp xs o => some (.vp xs o)
  | .fn f a b => some (.fn f a b)
  | _ => none

def abits (op : BinOp) (k : IntKind) (x y : Int) : Option Int :=
  let a := BitVec.ofInt k.bits x
  let b := BitVec.ofInt k.bits y
  match op with
  | .and => some (k.wrap (a &&& b).toNat)
  | .or => some (k.wrap (a ||| b).toNat)
  | .xor => some (k.wrap (a ^^^ b).toNat)
  | .andNot => some (k.wrap (a &&& ~~~b).toNat)
  | _ => none

def aint (op : BinOp) (k : IntKind) (a b : Int) : Option AV :=
  match op with
  | .add => some (.int k (k.wrap (a + b)))
  | .sub => some (.int k (k.wrap (a - b)))
  | .mul => some (.int k (k.wrap (a * b)))
  | .quo => if b = 0 then none else some (.int k (k.wrap (a.tdiv b)))
  | .rem => if b = 0 then none else some (.int k (a.tmod b))
  | .eql => some (.bool (a == b))
  | .neq => some (.bool (a != b))
  | .lss => some (.bool (a < b))
  | .leq => some (.bool (a ≤ b))
  | .gtr => some (.bool (a > b))
  | .geq => some (.bool (a ≥ b))
  | op => (abits op k a b).map (.int k)

def afcmp (op : BinOp) (k : FloatKind) (x y : Nat) : Option Bool :=
  let c := k.format.order x y
  match op with
  | .eql => some (c == some .eq)
  | .neq => some (c != some .eq)
  | .lss => some (c == some .lt)
  | .leq => some (c == some .lt || c == some .eq)
  | .gtr => some (c == some .gt)
  | .geq => some (c == some .gt || c == some .eq)
  | _ => none

def abin (tb : Bool) (op : BinOp) : AV → AV → Option AV
  | .int k a, .int k' b =>
    match op with
    | .shl => if b < 0 then none else some (.int k (k.wrap (a * 2 ^ (min b.toNat k.bits))))
    | .shr => if b < 0 then none else some (.int k (a.fdiv (2 ^ (min b.toNat k.bits))))
    | op => if k = k' then aint op k a b else none
  | .bool a, .bool b =>
    match op with
    | .eql => if tb then some (.bool (a == b)) else none
    | .neq => if tb then some (.bool (!(a == b))) else none
    | _ => none
  | .flt k a, .flt k' b => if k = k' then (afcmp op k a b).map .bool else none
  | .cpx k a b, .cpx k' c d =>
    if k = k' then
      match op with
      | .eql => some (.bool ((k.format.order a c == some .eq) && (k.format.order b d == some .eq)))
      | .neq => some (.bool (!((k.format.order a c == some .eq) && (k.format.order b d == some .eq))))
      | _ => none
    else none
  | .str a, .str b =>
    match op with
    | .eql => some (.bool (a.toList == b.toList))
    | .neq => some (.bool (!(a.toList == b.toList)))
    | _ => none
  | _, _ => none

/-- Is it nil? 0: pointers, 1: slices, 2: functions, 3: maps. -/
def isNilA (kd : Nat) : AV → Option Bool
  | .nil => if kd = 0 then some true else none
  | .ptr _ _ => if kd = 0 then some false else none
  | .vp _ _ => if kd = 0 then some false else none
  | .nils => if kd = 1 then some true else none
  | .rs _ _ _ _ => if kd = 1 then some false else none
  | .rk _ _ _ _ _ => if kd = 1 then some false else none
  | .vz => if kd = 1 then some false else none
  | .vs (_ :: _) _ => if kd = 1 then some false else none
  | .nilfn => if kd = 2 then some true else none
  | .fn _ _ _ => if kd = 2 then some false else none
  | .map none => if kd = 3 then some true else none
  | .map (some _) => if kd = 3 then some false else none
  | _ => none

def eqCells (xs ys : List AV) : List Nat → Option Bool
  | [] => some true
  | o :: rest =>
    match xs[o]?, ys[o]? with
    | some (.int k a), some (.int k' b) => if k = k' then (if a == b then eqCells xs ys rest else some false) else none
    | _, _ => none

def aun (op : UnOp) : AV → Option AV
  | .bool b => match op with | .not => some (.bool !b) | _ => none
  | .int k n =>
    match op with
    | .neg => some (.int k (k.wrap (0 - n)))
    | .xor => (abits .xor k (if k.signed then -1 else k.max) n).map (.int k)
    | _ => none
  | _ => none

def byteOf : List AV → Option UInt8
  | [.int .u8 n] => some (UInt8.ofNat n.toNat)
  | _ => none

def rowsOf (cs : List AV) (off sz : Nat) : Nat → List (List AV)
  | 0 => []
  | n + 1 => (cs.drop off).take sz :: rowsOf cs (off + sz) sz n

/-- The rows have the length that is wanted (rows of one slice have one length: the first is asked). -/
def headOk (sz : Nat) : List (List AV) → Bool
  | [] => true
  | r :: _ => r.length == sz

/-- The rows of a slice. -/
def rowsA (sz : Nat) (h : AHeap) : AV → Option (List (List AV))
  | .vs xs _ => if headOk sz xs then some xs else none
  | .nils => some []
  | .vz => some []
  | .rs b off len sz' =>
    if sz' = sz then
      match cellsOf h b with
      | some cs => if off + len * sz ≤ cs.length then some (rowsOf cs off sz len) else none
      | none => none
    else none
  | .rk b off len sz' _ =>
    if sz' = sz then
      match cellsOf h b with
      | some cs => if off + len * sz ≤ cs.length then some (rowsOf cs off sz len) else none
      | none => none
    else none
  | _ => none

/-- The first rows of a slice. -/
def rowsN (sz n : Nat) (h : AHeap) : AV → Option (List (List AV))
  | .vs xs _ => if headOk sz xs then some (xs.take n) else none
  | .rk b off len sz' _ =>
    if sz' = sz ∧ n ≤ len then
      match cellsOf h b with
      | some cs => if off + n * sz ≤ cs.length then some (rowsOf cs off sz n) else none
      | none => none
    else none
  | _ => none

def bytesRows : List (List AV) → Option (List UInt8)
  | [] => some []
  | r :: rs => match byteOf r, bytesRows rs with
    | some b, some bs => some (b :: bs)
    | _, _ => none

def boundA (ρ : Env) (d : Nat) : Option Opd → Option Nat
  | none => some d
  | some x => match x.ev ρ with
    | .int _ i => if 0 ≤ i then some i.toNat else none
    | _ => none

def sliceTail (t : Tail) (len lo hi : Nat) : Tail :=
  match t with
  | .full => if hi = len then .full else .unk
  | .own t => if hi = len ∧ lo < hi then .own t else .unk
  | .unk => .unk

def aslice (ρ : Env) (sz : Nat) (x : AV) (lo hi mx : Option Opd) : Option AV :=
  match x with
  | .nils => do
    let h ← boundA ρ 0 hi
    let l ← boundA ρ 0 lo
    let m ← boundA ρ 0 mx
    if l = 0 ∧ h = 0 ∧ m = 0 ∧ (mx.isSome → hi.isSome) then some .nils else none
  | .vs xs t => do
    let h ← boundA ρ xs.length hi
    let l ← boundA ρ 0 lo
    if l ≤ h ∧ h ≤ xs.length ∧ headOk sz xs then
      match mx with
      | none => some (.vs ((xs.drop l).take (h - l)) (sliceTail t xs.length l h))
      | some _ => do
        let m ← boundA ρ 0 mx
        if hi.isSome ∧ h ≤ m ∧ m ≤ xs.length then some (.vs ((xs.drop l).take (h - l)) (if m = h then .full else .unk)) else none
    else none
  | .rs b off len sz' => do
    let h ← boundA ρ len hi
    let l ← boundA ρ 0 lo
    if mx.isNone ∧ l ≤ h ∧ h ≤ len ∧ sz' = sz then
      if l = h then (if lo.isNone then some (.rs b off 0 sz) else some (.vs [] .unk)) else some (.rs b (off + l * sz) (h - l) sz)
    else none
  | .rk b off len sz' cap => do
    let h ← boundA ρ len hi
    let l ← boundA ρ 0 lo
    let m ← boundA ρ cap mx
    if l ≤ h ∧ h ≤ m ∧ m ≤ cap ∧ sz' = sz ∧ (mx.isSome → hi.isSome) then
      if m = l then some (.vs [] .full) else some (.rk b (off + l * sz) (h - l) sz (m - l))
    else none
  | _ => none

def findA (k : AV) : List (AV × AV) → Nat → Option (Option Nat)
  | [], _ => some none
  | (k', _) :: es, i =>
    match k, k' with
    | .int a x, .int b y => if a = b then (if x == y then some (some i) else findA k es (i + 1)) else none
    | _, _ => none

def lookupA (k : AV) (es : List (AV × AV)) : Option (Option AV) := (findA k es 0).map fun o => o.bind fun i => (es[i]?).map (·.2)

def mapSet (k v : AV) (es : List (AV × AV)) : Option (List (AV × AV)) :=
  (findA k es 0).map fun o => match o with
    | none => es ++ [(k, v)]
    | some i => es.set i (k, v)

def mapDel (k : AV) (es : List (AV × AV)) : Option (List (AV × AV)) :=
  (findA k es 0).map fun o => match o with
    | none => es
    | some i => es.eraseIdx i

def minmaxA (mx : Bool) : AV → AV → Option AV
  | .int k a, .int k' b => if k = k' then some (.int k (if mx then (if b > a then b else a) else (if b < a then b else a))) else none
  | .flt k a, .flt k' b =>
    if k = k' then
      match k.format.order a b with
      | some .lt => some (.flt k (if mx then b else a))
      | some .gt => some (.flt k (if mx then a else b))
      | some .eq => some (.flt k (if mx then (if (k.decode a).neg then b else a) else (if (k.decode a).neg then a else b)))
      | none => none
    else none
  | _, _ => none

def minmaxL (mx : Bool) (ρ : Env) : AV → List Opd → Option AV
  | x, [] => some x
  | x, y :: ys => (minmaxA mx x (y.ev ρ)).bind fun z => minmaxL mx ρ z ys

def lenA : AV → Option Nat
  | .vs xs _ => some xs.length
  | .nils => some 0
  | .rs _ _ len _ => some len
  | .rk _ _ len _ _ => some len
  | .vz => some 0
  | _ => none

def capA : AV → Option Nat
  | .nils => some 0
  | .vs xs .full => some xs.length
  | .rk _ _ _ _ cap => some cap
  | _ => none

def ovlA (sz : Nat) (h : AHeap) (x y : AV) : Option AV :=
  match x, y with
  | .vs (r :: _) _, .rk b _ (_ + 1) sz' _ => cond (r.length == sz && sz' == sz && (cellsOf h b).isSome) (some (.bool false)) none
  | _, _ => none

def idxStrA (x i : AV) : Option AV :=
  match x, i with
  | .str s, .int _ i => if 0 ≤ i then (s[i.toNat]?).map fun b => .int .u8 b.toNat else none
  | _, _ => none

def makeLen (bytes : Nat) (l c : AV) : Option Nat :=
  match l, c with
  | .int .i64 a, .int .i64 b => if 0 ≤ a ∧ a = b ∧ a < 2 ^ 40 ∧ bytes * a ≤ 2 ^ 40 then some a.toNat else none
  | _, _ => none

def eqAggA (neg : Bool) (offs : List Nat) (x y : AV) : Option AV :=
  match x, y with
  | .agg xs, .agg ys => (eqCells xs ys offs).map fun b => .bool (if neg then !b else b)
  | _, _ => none

def toIntA (k : IntKind) (x : AV) : Option AV := match x with | .int _ n => some (.int k (k.wrap n)) | _ => none

def strBytesA (x : AV) : Option AV :=
  match x with
  | .str s => if s.size < 2 ^ 40 then some (.vs (s.data.toList.map fun b => [.int .u8 b.toNat]) .unk) else none
  | _ => none

def faddrA (off : Nat) (x : AV) : Option AV := match x with | .ptr b o => some (.ptr b (o + off)) | .vp xs o => some (.vp xs (o + off)) | _ => none

def fldA (ag : Bool) (sz off : Nat) (x : AV) : Option AV := match x with | .agg cs => cut ag sz off cs | _ => none

def iaddrSA (sz : Nat) (x i : AV) : Option AV :=
  match i with
  | .int _ i =>
    if 0 ≤ i then
      match x with
      | .vs xs _ => match xs[i.toNat]? with | some row => if row.length = sz then some (.vp row 0) else none | none => none
      | .rs b off len sz' => if sz' = sz ∧ i < len then some (.ptr b (off + i.toNat * sz)) else none
      | _ => none
    else none
  | _ => none

def iaddrAA (sz len : Nat) (x i : AV) : Option AV :=
  match i with
  | .int _ i =>
    if 0 ≤ i ∧ i < len then
      match x with
      | .ptr b o => some (.ptr b (o + i.toNat * sz))
      | .vp xs o => some (.vp xs (o + i.toNat * sz))
      | _ => none
    else none
  | _ => none

def idxAA (ag : Bool) (sz len : Nat) (x i : AV) : Option AV :=
  match i, x with
  | .int _ i, .agg cs => if 0 ≤ i ∧ i < len then cut ag sz (i.toNat * sz) cs else none
  | _, _ => none

def extA (i : Nat) (x : AV) : Option AV := match x with | .tup vs => vs[i]? | _ => none

def lenStrA (x : AV) : Option AV := match x with | .str s => some (.int .i64 s.size) | _ => none

def lookupM (z : AV) (ok : Bool) (h : AHeap) (m k : AV) : Option AV :=
  let wrap (r : Option AV) : AV := match r with
    | some v => if ok then .tup [v, .bool true] else v
    | none => if ok then .tup [z, .bool false] else z
  match m, k with
  | .map none, .int _ _ => some (wrap none)
  | .map (some b), .int kd n =>
    match h.get b with
    | some (.map es) => (lookupA (.int kd n) es).map wrap
    | _ => none
  | _, _ => none

def partA (im : Bool) (x : AV) : Option AV := match x with | .cpx k a b => some (.flt k (if im then b else a)) | _ => none

def pickA (c a b : AV) : Option AV := match c with | .bool t => some (if t then a else b) | _ => none

def storeA (sz : Nat) (h : AHeap) (a v : AV) : Option (AV × AHeap) :=
  match a with
  | .ptr b off =>
    match cellsOf h b with
    | some cs => if v.cells.length = sz ∧ off + sz ≤ cs.length ∧ v.cells.all AV.one then some (.undef, h.set b (some (.cells (setAt cs off v.cells)))) else none
    | none => none
  | _ => none

def apure (o : POp) (ρ : Env) (h : AHeap) : Option AV :=
  match o with
  | .mov x => some (x.ev ρ)
  | .pick c a b => pickA (c.ev ρ) (a.ev ρ) (b.ev ρ)
  | .build z parts => (fillA ρ z parts).map .agg
  | .bslice n z parts => (fillR ρ z.length (List.replicate n z) parts).map (.vs · .full)
  | .load ag sz x => aload ag sz h (x.ev ρ)
  | .nilchk x => notNil (x.ev ρ)
  | .bin tb op x y => abin tb op (x.ev ρ) (y.ev ρ)
  | .eqNil kd neg x => (isNilA kd (x.ev ρ)).map fun b => .bool (if neg then !b else b)
  | .eqAgg neg offs x y => eqAggA neg offs (x.ev ρ) (y.ev ρ)
  | .un op x => aun op (x.ev ρ)
  | .toInt k x => toIntA k (x.ev ρ)
  | .bytesStr x => ((rowsA 1 h (x.ev ρ)).bind bytesRows).map fun bs => .str ⟨bs.toArray⟩
  | .strBytes x => strBytesA (x.ev ρ)
  | .faddr off x => faddrA off (x.ev ρ)
  | .fld ag sz off x => fldA ag sz off (x.ev ρ)
  | .iaddrS sz x i => iaddrSA sz (x.ev ρ) (i.ev ρ)
  | .iaddrA sz len x i => iaddrAA sz len (x.ev ρ) (i.ev ρ)
  | .idxA ag sz len x i => idxAA ag sz len (x.ev ρ) (i.ev ρ)
  | .slc sz x lo hi mx => aslice ρ sz (x.ev ρ) lo hi mx
  | .ext i x => extA i (x.ev ρ)
  | .lenS x => (lenA (x.ev ρ)).map fun (n : Nat) => AV.int .i64 n
  | .lenStr x => lenStrA (x.ev ρ)
  | .lenC n => some (.int .i64 n)
  | .lookup z ok m k => lookupM z ok h (m.ev ρ) (k.ev ρ)
  | .mkfn f first caps => some (.fn f (first.map (Opd.ev ρ)) (caps.map (Opd.ev ρ)))
  | .minmax mx x rest => minmaxL mx ρ (x.ev ρ) rest
  | .part im x => partA im (x.ev ρ)
  | .mkslice z bytes l c => (makeLen bytes (l.ev ρ) (c.ev ρ)).map fun n => .vs (List.replicate n z) .full
  | .capS x => (capA (x.ev ρ)).map fun (n : Nat) => AV.int .i64 n
  | .idxStr x i => idxStrA (x.ev ρ) (i.ev ρ)
  | .ovl sz x y => ovlA sz h (x.ev ρ) (y.ev ρ)
  | .rng _ => none
  | .nxt _ => none
  | .ent _ => none
  | .stuck => none

/-- The block that is read, if one is. -/
def POp.key (o : POp) (ρ : Env) : Option Nat :=
  match o with
  | .load _ _ x => match x.ev ρ with | .ptr b _ => some b | _ => none
  | .bytesStr x => match x.ev ρ with | .rs b _ _ _ => some b | .rk b _ _ _ _ => some b | _ => none
  | .lookup _ _ m _ => match m.ev ρ with | .map (some b) => some b | _ => none
  | .ovl _ _ y => match y.ev ρ with | .rk b _ _ _ _ => some b | _ => none
  | _ => none

theorem apure_key (o : POp) (ρ : Env) (h h' : AHeap) (hk : ∀ b, o.key ρ = some b → h.get b = h'.get b) : apure o ρ h = apure o ρ h' := by
  cases o <;> try rfl
  case load ag sz x =>
    simp only [apure, POp.key] at *
    cases hx : x.ev ρ <;> simp only [aload]
    rw [hx] at hk
    simp only [cellsOf, hk _ rfl]
  case bytesStr x =>
    simp only [apure, POp.key] at *
    cases hx : x.ev ρ <;> simp only [rowsA] <;> (rw [hx] at hk; simp only [cellsOf, hk _ rfl])
  case ovl sz x y =>
    simp only [apure, POp.key] at *
    cases hy : y.ev ρ
    case rk b off len s' cap =>
      rw [hy] at hk
      have hb := hk b rfl
      cases x.ev ρ <;> try rfl
      rename_i l _
      cases l <;> cases len <;> first | rfl | simp only [ovlA, cellsOf, hb]
    all_goals (cases x.ev ρ <;> first | rfl | (rename_i l _; cases l <;> rfl))
  case lookup z ok m k =>
    simp only [apure, POp.key] at *
    cases hx : m.ev ρ <;> try rfl
    rename_i b
    rw [hx] at hk
    cases b with
    | none => cases k.ev ρ <;> rfl
    | some b => have := hk b rfl; cases k.ev ρ <;> simp only [lookupM, this]

/-- What a new block holds, and the value that names it. -/
def aalloc (o : AOp) (ρ : Env) (id : Nat) : Option (Blk × AV) :=
  match o with
  | .box x => if (x.ev ρ).cells.all AV.one then some (.cells (x.ev ρ).cells, .ptr id 0) else none
  | .alloc z => some (.cells z, .ptr id 0)
  | .mksliceR z bytes l c => (makeLen bytes (l.ev ρ) (c.ev ρ)).map fun n => (.cells (List.replicate n z).flatten, .rs id 0 n z.length)
  | .bsliceR n z parts => (fillR ρ z.length (List.replicate n z) parts).map fun rows => (.cells rows.flatten, .rs id 0 n z.length)
  | .mkmap => some (.map [], .map (some id))

def AHeap.at (h : AHeap) (id : Nat) (x : Blk) : AHeap := { get := fun i => if i = id then some x else h.get i, next := max h.next (id + 1) }

def aeff (o : EOp) (ρ : Env) (id : Nat) (h : AHeap) : Option (AV × AHeap) :=
  match o with
  | .store sz a v => storeA sz h (a.ev ρ) (v.ev ρ)
  | .append bytes sz x y =>
    match rowsA sz h (y.ev ρ) with
    | none => none
    | some ys =>
      match x.ev ρ with
      | .vs xs t =>
        if ys = [] then some (.vs xs t, h) else
        if headOk sz xs ∧ (xs.length + ys.length) * bytes < 2 ^ 40 ∧ xs.length + ys.length < 2 ^ 40 then
          match t with
          | .full => some (.vs (xs ++ ys) (.own id), h.at id .tail)
          | .own t => match h.get t with
            | some .tail => some (.vs (xs ++ ys) (.own id), (h.set t none).at id .tail)
            | _ => none
          | .unk => none
        else none
      | .nils =>
        if ys = [] then some (.nils, h) else
        if ys.length * bytes < 2 ^ 40 ∧ ys.length < 2 ^ 40 then some (.vs ys (.own id), h.at id .tail) else none
      | _ => none
  | .appendR bytes sz x y =>
    match rowsA sz h (y.ev ρ) with
    | none => none
    | some ys =>
      match x.ev ρ with
      | .vs [] .full => if ys = [] then some (.vs [] .full, h) else if ys.length * bytes < 2 ^ 40 ∧ ys.length < 2 ^ 40 then some (.rs id 0 ys.length sz, h.at id (.cells ys.flatten)) else none
      | .nils => if ys = [] then some (.nils, h) else if ys.length * bytes < 2 ^ 40 ∧ ys.length < 2 ^ 40 then some (.rs id 0 ys.length sz, h.at id (.cells ys.flatten)) else none
      | .rs b off len sz' =>
        if ys = [] then some (.rs b off len sz', h) else
        match cellsOf h b with
        | some cs =>
          if sz' = sz ∧ off = 0 ∧ len * sz ≤ cs.length ∧ (len + ys.length) * bytes < 2 ^ 40 ∧ len + ys.length < 2 ^ 40 then
            some (.rs id 0 (len + ys.length) sz, (h.set b none).at id (.cells (cs.take (len * sz) ++ ys.flatten)))
          else none
        | none => none
      | .rk b off len sz' cap =>
        match cellsOf h b with
        | some cs =>
          if sz' = sz ∧ len + ys.length ≤ cap ∧ off + len * sz ≤ cs.length then
            some (.rk b off (len + ys.length) sz cap, h.set b (some (.cells (setAt cs (off + len * sz) ys.flatten))))
          else none
        | none => none
      | _ => none
  | .appendZ bytes z x n =>
    match n.ev ρ with
    | .int _ m =>
      if 0 < m ∧ m < 2 ^ 40 then
        match x.ev ρ with
        | .nils => if m.toNat * bytes < 2 ^ 40 then some (.rs id 0 m.toNat z.length, h.at id (.cells (List.replicate m.toNat z).flatten)) else none
        | .rk b off len sz' cap =>
          match cellsOf h b with
          | some cs =>
            if sz' = z.length ∧ cap < len + m.toNat ∧ off + len * z.length ≤ cs.length ∧ (len + m.toNat) * bytes < 2 ^ 40 ∧ len + m.toNat < 2 ^ 40 then
              some (.rs id 0 (len + m.toNat) z.length, h.at id (.cells (rowsOf cs off z.length len ++ List.replicate m.toNat z).flatten))
            else none
          | none => none
        | _ => none
      else none
    | _ => none
  | .copyK sz x y =>
    match x.ev ρ, lenA (y.ev ρ) with
    | .rk b off len sz' _, some m =>
      match rowsN sz (min m len) h (y.ev ρ), cellsOf h b with
      | some ys, some cs =>
        if sz' = sz ∧ off ≤ cs.length then
          some (.int .i64 (min m len : Nat), h.set b (some (.cells (setAt cs off ys.flatten))))
        else none
      | _, _ => none
    | _, _ => none
  | .mark x =>
    match x.ev ρ with
    | .rs b off len sz =>
      match cellsOf h b with
      | some cs => if off + len * sz ≤ cs.length then some (.vs (rowsOf cs off sz len) .unk, h.set b none) else none
      | none => none
    | _ => none
  | .clearK z x =>
    match x.ev ρ with
    | .rk b off len sz' _ =>
      match cellsOf h b with
      | some cs => if sz' = z.length ∧ off + len * z.length ≤ cs.length then some (.tup [], h.set b (some (.cells (setAt cs off (List.replicate len z).flatten)))) else none
      | none => none
    | .vs [] _ => some (.tup [], h)
    | .nils => some (.tup [], h)
    | _ => none
  | .copy sz x y =>
    match x.ev ρ with
    | .rs b off len sz' =>
      match rowsA sz h (y.ev ρ), cellsOf h b with
      | some ys, some cs =>
        let n := min ys.length len
        if sz' = sz ∧ off + len * sz ≤ cs.length then
          some (.int .i64 n, h.set b (some (.cells (setAt cs off (ys.take n).flatten))))
        else none
      | _, _ => none
    | .vs [] _ => match rowsA sz h (y.ev ρ) with | some _ => some (.int .i64 0, h) | none => none
    | .nils => match rowsA sz h (y.ev ρ) with | some _ => some (.int .i64 0, h) | none => none
    | _ => none
  | .mapupd m k v =>
    match m.ev ρ, k.ev ρ with
    | .map (some b), .int kd n =>
      match h.get b with
      | some (.map es) => (mapSet (.int kd n) (v.ev ρ).strip es).map fun es' => (.undef, h.set b (some (.map es')))
      | _ => none
    | _, _ => none
  | .mapdel m k =>
    match m.ev ρ, k.ev ρ with
    | .map (some b), .int kd n =>
      match h.get b with
      | some (.map es) => (mapDel (.int kd n) es).map fun es' => (.tup [], h.set b (some (.map es')))
      | _ => none
    | _, _ => none

end Go.Proofs.YtjkllffbjeajhaaGreat.Am

/- Soundness of the operations that leave the abstract heap alone. -/
namespace Go.Proofs.YtjkllffbjeajhaaGreat.Am
open Go

section
variable {P : Program} {ι : Inj} {I : Imm} {h : AHeap} {w : World}

def PSim (P : Program) (ι : Inj) (I : Imm) (h : AHeap) (w : World) (v : AV) (s : Sem Value) : Prop :=
  ∃ c w' I', s.run P w = .ok c w' ∧ VR ι I' w' v c ∧ HR ι I' h w' ∧ Ext (fun _ => False) ι I h w ι I' h w'

theorem PSim.same (H : HR ι I h w) {v : AV} {s : Sem Value} {c : Value} (hr : s.run P w = .ok c w) (hv : VR ι I w v c) : PSim P ι I h w v s :=
  ⟨c, w, I, hr, hv, H, .refl _ _ _ _ _⟩

theorem run_under {t : TypeId} {d : TypeDesc} (hu : P.underlying t = some d) (w : World) : (underlying t).run P w = .ok d w := run_underlying hu w

theorem run_size {t : TypeId} {sz : Nat} (hs : (P.info? t).map (·.size) = some sz) (w : World) : (Go.sizeOf t).run P w = .ok sz w := by
  cases hq : P.info? t with
  | none => simp [hq] at hs
  | some i => simp [hq] at hs; simp [Go.sizeOf, typeInfo, hq, hs]

theorem run_agg {t : TypeId} {d : TypeDesc} (hu : P.underlying t = some d) (w : World) : (isAgg t).run P w = .ok d.isRow w := by
  unfold isAgg
  rw [Sem.run_bind, run_underlying hu w]
  cases d <;> simp

/-- A row of cells that reads as a list. -/
def RowAt (ι : Inj) (I : Imm) (w : World) (cb o : Nat) (cs : List AV) : Prop :=
  ∀ j v, cs[j]? = some v → ∃ c, w.cell? ⟨cb, o + j, none⟩ = some c ∧ VR ι I w v c

theorem HR.row (H : HR ι I h w) {b : Nat} {cs : List AV} {cb o room : Nat} (hg : h.get b = some (.cells cs)) (hb : ι b = some (.cells cb o room)) :
    RowAt ι I w cb o cs ∧ cs.length ≤ room ∧ (∀ v ∈ cs, v.one = true) := by
  obtain ⟨cb', o', room', hl, hle, h1, hc⟩ := H.cells b cs _ hg hb
  cases hl
  refine ⟨fun j v hv => ?_, hle, h1⟩
  obtain ⟨c, h1, _, h3⟩ := hc j (by have := (List.getElem?_eq_some_iff.1 hv).1; omega)
  exact ⟨c, h1, h3 v hv⟩

theorem RowAt.list {cb o : Nat} {cs : List AV} (hr : RowAt ι I w cb o cs) : ∃ l' : List Value, cs.length = l'.length ∧
    (∀ (j : Nat) (c : Value), l'[j]? = some c → w.cell? ⟨cb, o + j, none⟩ = some c) ∧ ∀ (j : Nat) (v : AV) (c : Value), cs[j]? = some v → l'[j]? = some c → VR ι I w v c := by
  obtain ⟨l', hl, hp⟩ := exists_list cs hr
  refine ⟨l', hl, fun j c hc => ?_, fun j v c hv hc => (hp j v c hv hc).2⟩
  have hj : j < cs.length := by have := (List.getElem?_eq_some_iff.1 hc).1; omega
  exact (hp j _ c (List.getElem?_eq_getElem hj) hc).1

theorem RowAt.sub {cb o : Nat} {cs : List AV} (hr : RowAt ι I w cb o cs) (off sz : Nat) : RowAt ι I w cb (o + off) ((cs.drop off).take sz) := by
  intro j v hv
  rw [List.getElem?_take] at hv
  split at hv
  · rw [List.getElem?_drop] at hv
    obtain ⟨c, h1, h2⟩ := hr (off + j) v hv
    exact ⟨c, by rw [Nat.add_assoc]; exact h1, h2⟩
  · cases hv

theorem load_row (H : HR ι I h w) {t : TypeId} {d : TypeDesc} {sz : Nat} (hu : P.underlying t = some d) (hs : (P.info? t).map (·.size) = some sz)
    {cb o off : Nat} {cs : List AV} {v : AV} (hr : RowAt ι I w cb o cs) (hc : cut d.isRow sz off cs = some v) :
    PSim P ι I h w v (Instr.loadAt t (.pointer (some ⟨cb, o + off, none⟩))) := by
  cases hd : d.isRow with
  | true =>
    rw [hd] at hc
    simp only [cut, if_true] at hc
    split at hc
    · rename_i hle
      cases hc
      obtain ⟨l', hl, h1, h2⟩ := (hr.sub off sz).list
      have hlen : l'.length = sz := by rw [← hl]; simp; omega
      have := run_loadVar_mid (P := P) w cb (o + off) t l' d h1 hu hd (by rw [hlen]; exact hs)
      exact .same H (by simp [Instr.loadAt, Instr.sureAddr, this]) (.agg _ _ hl h2)
    · cases hc
  | false =>
    rw [hd] at hc
    simp only [cut, Bool.false_eq_true, if_false] at hc
    obtain ⟨c, h1, h2⟩ := hr off v hc
    exact .same H (by simp [Instr.loadAt, Instr.sureAddr, loadVar, run_agg hu, hd, run_load, h1]) h2

theorem load_sim (H : HR ι I h w) {t : TypeId} {d : TypeDesc} {sz : Nat} (hu : P.underlying t = some d) (hs : (P.info? t).map (·.size) = some sz)
    {a v : AV} {c : Value} (ha : VR ι I w a c) (hl : aload d.isRow sz h a = some v) : PSim P ι I h w v (Instr.loadAt t c) := by
  cases ha <;> simp only [aload] at hl <;> try (cases hl; done)
  case ptr b off cb o room hb =>
    simp only [cellsOf] at hl
    split at hl
    · rename_i cs hg
      exact load_row H hu hs (H.row (by simpa using hg) hb).1 hl
    · cases hl
  case vp xs off cb o g hI hc hv h1 =>
    refine load_row H hu hs (cs := xs) (fun j v hj => ?_) hl
    have hlt := (List.getElem?_eq_some_iff.1 hj).1
    exact ⟨g j, hc j hlt, hv j v hj⟩

theorem faddr_sim (H : HR ι I h w) {s : TypeId} {fs : Array Field} {f : Nat} {fd : Field} {fsz : Nat} (hu : P.underlying s = some (.struct fs)) (hf : fs[f]? = some fd)
    (hsz : (P.info? fd.type).map (·.size) = some fsz) (h0 : fsz ≠ 0) {x v : AV} {c : Value} (hx : VR ι I w x c)
    (hr : faddrA fd.offset x = some v) :
    PSim P ι I h w v (Instr.fieldAt s c f) := by
  unfold faddrA at hr
  cases hx <;> simp only [] at hr <;> try (cases hr; done)
  case ptr b off cb o room hb =>
    cases hr
    refine .same H (c := .pointer (some ⟨cb, o + (off + fd.offset), none⟩)) ?_ (.ptr _ _ _ _ _ hb)
    simp [Instr.fieldAt, run_under hu, hf, Instr.sureAddr, fieldPlace, run_size hsz, h0, Addr.add_mid, Nat.add_assoc]
  case vp xs off cb o g hI hc hv h1 =>
    cases hr
    refine .same H (c := .pointer (some ⟨cb, o + (off + fd.offset), none⟩)) ?_ (.vp _ _ _ _ g hI hc hv h1)
    simp [Instr.fieldAt, run_under hu, hf, Instr.sureAddr, fieldPlace, run_size hsz, h0, Addr.add_mid, Nat.add_assoc]

theorem iaddrA_sim (H : HR ι I h w) {t e : TypeId} {len sz : Nat} (hu : P.underlying t = some (.array len e)) (hs : (P.info? e).map (·.size) = some sz)
    {x i v : AV} {c ci : Value} (hx : VR ι I w x c) (hi : VR ι I w i ci)
    (hr : iaddrAA sz len x i = some v) : PSim P ι I h w v (Instr.indexAt t c ci) := by
  unfold iaddrAA at hr
  cases hi <;> simp only [] at hr <;> try (cases hr; done)
  case int k n =>
    split at hr
    · rename_i hb
      cases hx <;> simp only [] at hr <;> try (cases hr; done)
      case ptr b off cb o room hb' =>
        cases hr
        refine .same H (c := .pointer (some ⟨cb, o + (off + n.toNat * sz), none⟩)) ?_ (.ptr _ _ _ _ _ hb')
        simp [Instr.indexAt, asIntOf, run_under hu, Instr.sureAddr, hb, run_size hs, Addr.add_mid, Nat.add_assoc]
      case vp xs off cb o g hI hc hv h1 =>
        cases hr
        refine .same H (c := .pointer (some ⟨cb, o + (off + n.toNat * sz), none⟩)) ?_ (.vp _ _ _ _ g hI hc hv h1)
        simp [Instr.indexAt, asIntOf, run_under hu, Instr.sureAddr, hb, run_size hs, Addr.add_mid, Nat.add_assoc]
    · cases hr

theorem iaddrS_sim (H : HR ι I h w) {t e : TypeId} {sz : Nat} (hu : P.underlying t = some (.slice e)) (hs : (P.info? e).map (·.size) = some sz)
    {x i v : AV} {c ci : Value} (hx : VR ι I w x c) (hi : VR ι I w i ci)
    (hr : iaddrSA sz x i = some v) : PSim P ι I h w v (Instr.indexAt t c ci) := by
  unfold iaddrSA at hr
  cases hi <;> simp only [] at hr <;> try (cases hr; done)
  case int k n =>
    split at hr
    · rename_i h0
      cases hx <;> simp only [] at hr <;> try (cases hr; done)
      case vs xs t cb o s cap g hrow hI hc hv h1 hcap ht =>
        split at hr
        · rename_i row hrw
          split at hr
          · rename_i hlen
            cases hr
            have hlt := (List.getElem?_eq_some_iff.1 hrw).1
            have hss : s = sz := by rw [← hrow _ _ hrw]; exact hlen
            subst hss
            refine .same H (c := .pointer (some ⟨cb, o + n.toNat * s + 0, none⟩)) ?_ (.vp row 0 cb (o + n.toNat * s) (g n.toNat) (fun j hj => hI _ _ hlt (by omega)) (fun j hj => hc _ _ hlt (by omega)) (fun j v hj => hv _ _ _ _ hrw hj) (h1 row (List.mem_of_getElem? hrw)))
            have hb : 0 ≤ n ∧ n < (xs.length : Int) := ⟨h0, by omega⟩
            simp [Instr.indexAt, asIntOf, run_under hu, hb, run_size hs, Addr.add_mid]
          · cases hr
        · cases hr
      case rs b off len sz' cb o room cap hb hlen hcap =>
        split at hr
        · rename_i hb'
          obtain ⟨rfl, hlt⟩ := hb'
          cases hr
          refine .same H (c := .pointer (some ⟨cb, o + (off + n.toNat * sz'), none⟩)) ?_ (.ptr _ _ _ _ _ hb)
          simp [Instr.indexAt, asIntOf, run_under hu, h0, hlt, run_size hs, Addr.add_mid, Nat.add_assoc]
        · cases hr
    · cases hr

end
end Go.Proofs.YtjkllffbjeajhaaGreat.Am

namespace Go.Proofs.YtjkllffbjeajhaaGreat.Am
open Go

section
variable {P : Program} {ι : Inj} {I : Imm} {h : AHeap} {w : World}

/-- Two lists, place by place. -/
def LR (ι : Inj) (I : Imm) (w : World) (l : List AV) (l' : List Value) : Prop :=
  l.length = l'.length ∧ ∀ (i : Nat) (v : AV) (c : Value), l[i]? = some v → l'[i]? = some c → VR ι I w v c

theorem LR.get {l : List AV} {l' : List Value} (hl : LR ι I w l l') {i : Nat} {v : AV} (hv : l[i]? = some v) : ∃ c, l'[i]? = some c ∧ VR ι I w v c := by
  have hi := (List.getElem?_eq_some_iff.1 hv).1
  have hi' : i < l'.length := by rw [← hl.1]; exact hi
  exact ⟨l'[i], List.getElem?_eq_getElem hi', hl.2 i v _ hv (List.getElem?_eq_getElem hi')⟩

theorem LR.nil : LR ι I w [] [] := ⟨rfl, fun i v c h => by simp at h⟩

theorem LR.cons {a : AV} {c : Value} {l : List AV} {l' : List Value} (h : VR ι I w a c) (hl : LR ι I w l l') : LR ι I w (a :: l) (c :: l') := by
  refine ⟨by simp [hl.1], fun i v c' hv hc => ?_⟩
  cases i with
  | zero => simp at hv hc; subst hv; subst hc; exact h
  | succ i => exact hl.2 i v c' (by simpa using hv) (by simpa using hc)

theorem LR.take {l : List AV} {l' : List Value} (hl : LR ι I w l l') (n : Nat) : LR ι I w (l.take n) (l'.take n) := by
  refine ⟨by simp [hl.1], fun i v c hv hc => ?_⟩
  rw [List.getElem?_take] at hv hc
  split at hv
  · rename_i hlt; rw [if_pos hlt] at hc; exact hl.2 i v c hv hc
  · cases hv

theorem LR.drop {l : List AV} {l' : List Value} (hl : LR ι I w l l') (n : Nat) : LR ι I w (l.drop n) (l'.drop n) := by
  refine ⟨by simp [hl.1], fun i v c hv hc => ?_⟩
  rw [List.getElem?_drop] at hv hc
  exact hl.2 _ v c hv hc

theorem LR.append {l m : List AV} {l' m' : List Value} (hl : LR ι I w l l') (hm : LR ι I w m m') : LR ι I w (l ++ m) (l' ++ m') := by
  refine ⟨by simp [hl.1, hm.1], fun i v c hv hc => ?_⟩
  rw [List.getElem?_append] at hv hc
  rw [← hl.1] at hc
  split at hv
  · rename_i hlt; rw [if_pos hlt] at hc; exact hl.2 i v c hv hc
  · rename_i hlt; rw [if_neg hlt] at hc; exact hm.2 _ v c hv hc

theorem LR.mono {ι' : Inj} {I' : Imm} {w' : World} {l : List AV} {l' : List Value} (hl : LR ι I w l l')
    (h : ∀ a v, VR ι I w a v → VR ι' I' w' a v) : LR ι' I' w' l l' := ⟨hl.1, fun i v c hv hc => h _ _ (hl.2 i v c hv hc)⟩

theorem VR.cells {a : AV} {c : Value} (hv : VR ι I w a c) (hu : a ≠ .undef) : LR ι I w a.cells c.cells.toList := by
  cases hv <;> first
    | exact (hu rfl).elim
    | (refine LR.cons ?_ LR.nil; constructor <;> assumption)
    | (rename_i cs cs' hl hv; exact ⟨by simpa [AV.cells, Value.cells] using hl, by simpa [AV.cells, Value.cells] using hv⟩)
    | (rename_i h1; cases c <;> first | exact LR.cons (.any1 _ h1) LR.nil | (simp [Value.oneCell'] at h1))

def constAV (pr : Bool) : Value → Option AV
  | .int k n => some (.int k n)
  | .bool b => some (.bool b)
  | .float k b => some (.flt k b)
  | .complex k a b => some (.cpx k a b)
  | .string s => some (.str s)
  | .pointer none => some .nil
  | .slice none 0 0 => some (if pr then .nils else .vs [] .full)
  | .map none => some (.map none)
  | .nilFunc => some .nilfn
  | _ => none

def constList (pr : Bool) : List Value → Option (List AV)
  | [] => some []
  | v :: vs => match constAV pr v, constList pr vs with
    | some a, some l => some (a :: l)
    | _, _ => none

def constV (pr : Bool) : Value → Option AV
  | .agg cs => (constList pr cs.toList).map .agg
  | v => constAV pr v

theorem constAV_sim {pr : Bool} {v : Value} {a : AV} (hc : constAV pr v = some a) : VR ι I w a v ∧ a.one = true := by
  unfold constAV at hc
  split at hc <;> first
    | (cases hc; done)
    | (cases hc; exact ⟨by constructor, rfl⟩)
    | skip
  cases pr
  · cases hc; exact ⟨.vsNil _ (.inr rfl), rfl⟩
  · cases hc; exact ⟨.nils, rfl⟩

theorem constList_sim {pr : Bool} : ∀ {vs : List Value} {l : List AV}, constList pr vs = some l → LR ι I w l vs ∧ ∀ v ∈ l, v.one = true
  | [], l, hc => by simp [constList] at hc; subst hc; exact ⟨LR.nil, by simp⟩
  | v :: vs, l, hc => by
    simp only [constList] at hc
    split at hc
    · rename_i a l' ha hl
      cases hc
      have h1 := constAV_sim (ι := ι) (I := I) (w := w) ha
      have h2 := constList_sim hl
      exact ⟨LR.cons h1.1 h2.1,
        by intro x hx; rcases List.mem_cons.1 hx with rfl | hx; exact h1.2; exact h2.2 x hx⟩
    · cases hc

end
end Go.Proofs.YtjkllffbjeajhaaGreat.Am

namespace Go.Proofs.YtjkllffbjeajhaaGreat.Am
open Go

section
variable {P : Program} {ι : Inj} {I : Imm} {h : AHeap} {w : World}

theorem notUndef {a : AV} (h : a.cells.all AV.one = true) : a ≠ .undef := by
  rintro rfl; simp [AV.cells, AV.one] at h

theorem fold_set (off : Nat) : ∀ (vs : List Value) (k : Nat) (cells : Array Value),
    ((vs.zipIdx k).foldl (fun cs (p : Value × Nat) => cs.setIfInBounds (off + p.2) p.1) cells).size = cells.size ∧
    ∀ i : Nat, ((vs.zipIdx k).foldl (fun cs (p : Value × Nat) => cs.setIfInBounds (off + p.2) p.1) cells)[i]? =
      if off + k ≤ i ∧ i < off + k + vs.length ∧ i < cells.size then vs[i - (off + k)]? else cells[i]?
  | [], k, cells => by simp; omega
  | v :: vs, k, cells => by
    have ih := fold_set off vs (k + 1) (cells.setIfInBounds (off + k) v)
    simp only [List.zipIdx_cons, List.foldl_cons]
    refine ⟨by rw [ih.1]; simp, fun i => ?_⟩
    rw [ih.2 i]
    simp only [Array.size_setIfInBounds, List.length_cons, Array.getElem?_setIfInBounds]
    by_cases h1 : off + (k + 1) ≤ i ∧ i < off + (k + 1) + vs.length ∧ i < cells.size
    · rw [if_pos h1, if_pos (by omega)]
      rw [show i - (off + k) = (i - (off + (k + 1))) + 1 by omega, List.getElem?_cons_succ]
    · rw [if_neg h1]
      by_cases h2 : off + k = i
      · subst h2
        by_cases h3 : off + k < cells.size
        · simp [h3]
        · simp [h3]
      · rw [if_neg h2]
        by_cases h4 : off + k ≤ i ∧ i < off + k + (vs.length + 1) ∧ i < cells.size
        · omega
        · rw [if_neg h4]

theorem setAt_get (cs : List AV) (off : Nat) (vs : List AV) (h : off + vs.length ≤ cs.length) (i : Nat) :
    (setAt cs off vs)[i]? = if off ≤ i ∧ i < off + vs.length then vs[i - off]? else cs[i]? := by
  unfold setAt
  rw [List.getElem?_append, List.getElem?_append]
  simp only [List.length_append, List.length_take, Nat.min_eq_left (show off ≤ cs.length by omega)]
  by_cases h1 : i < off
  · rw [if_pos (by omega), if_pos h1, List.getElem?_take, if_pos h1, if_neg (by omega)]
  · by_cases h2 : i < off + vs.length
    · rw [if_pos h2, if_neg h1, if_pos (by omega)]
    · rw [if_neg h2, if_neg (by omega), List.getElem?_drop]
      congr 1; omega

theorem setAt_length (cs : List AV) (off : Nat) (vs : List AV) (h : off + vs.length ≤ cs.length) : (setAt cs off vs).length = cs.length := by
  unfold setAt; simp; omega

theorem setAt_getX (cs : List AV) (off : Nat) (vs : List AV) (h : off ≤ cs.length) (i : Nat) :
    (setAt cs off vs)[i]? = if off ≤ i ∧ i < off + vs.length then vs[i - off]? else cs[i]? := by
  unfold setAt
  rw [List.getElem?_append, List.getElem?_append]
  simp only [List.length_append, List.length_take, Nat.min_eq_left h]
  by_cases h1 : i < off
  · rw [if_pos (by omega), if_pos h1, List.getElem?_take, if_pos h1, if_neg (by omega)]
  · by_cases h2 : i < off + vs.length
    · rw [if_pos h2, if_neg h1, if_pos (by omega)]
    · rw [if_neg h2, if_neg (by omega), List.getElem?_drop]
      congr 1; omega

theorem setAt_lengthX (cs : List AV) (off : Nat) (vs : List AV) (h : off ≤ cs.length) : (setAt cs off vs).length = max cs.length (off + vs.length) := by
  unfold setAt; simp; omega

/-- Operands and what they are worth. -/
def OR (ι : Inj) (I : Imm) (w : World) (ρ : Env) (x : Opd) (c : Value) : Prop := VR ι I w (x.ev ρ) c

theorem fill_sim (place : Nat → Option (Nat × Nat)) {ρ : Env} : ∀ (ps : List (Nat × Nat × Opd)) (ps' : List (Nat × Value)) (cs : List AV) (cells : Array Value) (r : List AV),
    ps.length = ps'.length → (∀ (i off sz j : Nat) (x : Opd) (c : Value), ps[i]? = some (off, sz, x) → ps'[i]? = some (j, c) → place j = some (off, sz) ∧ OR ι I w ρ x c) →
    LR ι I w cs cells.toList → fillA ρ cs ps = some r → ∃ cells', Instr.fill place cells ps' = some cells' ∧ LR ι I w r cells'.toList := by
  intro ps
  induction ps with
  | nil =>
    intro ps' cs cells r hl _ hc hf
    cases ps' with
    | nil => simp [fillA] at hf; subst hf; exact ⟨cells, rfl, hc⟩
    | cons _ _ => simp at hl
  | cons p ps ih =>
    intro ps' cs cells r hl hp hc hf
    cases ps' with
    | nil => simp at hl
    | cons q ps' =>
      obtain ⟨off, sz, x⟩ := p
      obtain ⟨j, c⟩ := q
      obtain ⟨hpl, hx⟩ := hp 0 off sz j x c rfl rfl
      simp only [fillA] at hf
      split at hf
      · rename_i hcond
        obtain ⟨h1, h2, h3⟩ := hcond
        have hcell := VR.cells hx (notUndef h3)
        have hsz : c.cells.size = sz := by rw [← h1, hcell.1]; simp
        have hcl : cells.size = cs.length := by rw [hc.1]; simp
        have hfold := fold_set off c.cells.toList 0 cells
        have hzip : c.cells.zipIdx.foldl (fun cs (x : Value × Nat) => cs.setIfInBounds (off + x.2) x.1) cells = (c.cells.toList.zipIdx 0).foldl (fun cs (x : Value × Nat) => cs.setIfInBounds (off + x.2) x.1) cells := by
          rw [← Array.foldl_toList, Array.toList_zipIdx]
        have hnew : LR ι I w (setAt cs off (x.ev ρ).cells) (c.cells.zipIdx.foldl (fun cs (x : Value × Nat) => cs.setIfInBounds (off + x.2) x.1) cells).toList := by
          rw [hzip]
          refine ⟨by rw [setAt_length _ _ _ (by omega)]; simp only [Array.length_toList]; rw [hfold.1, hcl], fun i v c' hv hc' => ?_⟩
          rw [setAt_get _ _ _ (by omega)] at hv
          rw [Array.getElem?_toList, hfold.2 i] at hc'
          have hlen : c.cells.toList.length = (x.ev ρ).cells.length := hcell.1.symm
          split at hv
          · rename_i hin
            rw [if_pos (by simp only [Nat.add_zero]; omega)] at hc'
            exact hcell.2 _ v c' hv (by simpa using hc')
          · rename_i hin
            rw [if_neg (by simp only [Nat.add_zero]; omega)] at hc'
            exact hc.2 i v c' hv (by simpa using hc')
        obtain ⟨cells', he, hr⟩ := ih ps' _ _ r (by simpa using hl) (fun i off sz j x c hi hj => hp (i + 1) off sz j x c (by simpa using hi) (by simpa using hj)) hnew hf
        refine ⟨cells', ?_, hr⟩
        unfold Instr.fill
        rw [hpl]
        simp only []
        rw [if_neg (by simp [hsz]; omega)]
        exact he
      · cases hf

theorem build_sim (H : HR ι I h w) {t : TypeId} {z : Value} {za : List AV} {ρ : Env} {ps : List (Nat × Nat × Opd)} {ps' : Array (Nat × Value)} {r : List AV}
    {place : Nat → Option (Nat × Nat)}
    (hbuilt : ∀ cells, Instr.fill place z.cells ps'.toList = some cells → P.built t ps'.toList = some cells)
    (hz : LR ι I w za z.cells.toList) (hl : ps.length = ps'.size)
    (hp : ∀ (i off sz j : Nat) (x : Opd) (c : Value), ps[i]? = some (off, sz, x) → ps'[i]? = some (j, c) → place j = some (off, sz) ∧ OR ι I w ρ x c)
    (hf : fillA ρ za ps = some r) : PSim P ι I h w (.agg r) (Instr.build t ps') := by
  obtain ⟨cells, hc, hr⟩ := fill_sim place ps ps'.toList za z.cells r (by simpa using hl) (fun i off sz j x c hi hj => hp i off sz j x c hi (by simpa using hj)) hz hf
  refine .same H (run_build w t ps' cells (hbuilt _ hc)) ?_
  have := VR.agg (ι := ι) (I := I) (w := w) r cells.toList hr.1 hr.2
  simpa using this

end
end Go.Proofs.YtjkllffbjeajhaaGreat.Am

namespace Go.Proofs.YtjkllffbjeajhaaGreat.Am
open Go

section
variable {P : Program} {ι : Inj} {I : Imm} {h : AHeap} {w : World}

/-- The world has grown: no old block has turned. -/
theorem HR.push (H : HR ι I h w) {w' : World} {I' : Imm} (hblk : ∀ k, k < w.heap.size → w'.heap[k]? = w.heap[k]?) (hsize : w.heap.size ≤ w'.heap.size)
    (hos : w'.os = w.os) (htape : w'.tape = w.tape) (hout : w'.output = w.output)
    (hI : ∀ k j, I' k j → I k j ∨ (w.heap.size ≤ k ∧ k < w'.heap.size)) (hI2 : ∀ k j, I k j → I' k j) :
    HR ι I' h w' ∧ Ext (fun _ => False) ι I h w ι I' h w' := by
  have hcell : ∀ k j, k < w.heap.size → w'.cell? ⟨k, j, none⟩ = w.cell? ⟨k, j, none⟩ := fun k j hk => by simp [World.cell?, hblk k hk]
  have hfro : ∀ k j, k < w.heap.size → w'.frozen? ⟨k, j, none⟩ = w.frozen? ⟨k, j, none⟩ := fun k j hk => by simp [World.frozen?, hblk k hk]
  have E : Ext (fun _ => False) ι I h w ι I' h w' :=
    { keep := fun _ _ => rfl, more := fun _ _ h => h, next := Nat.le_refl _, imm := hI2, os := hos, tape := htape, output := hout, size := hsize
      block := fun k hk _ => hblk k hk, cell := fun k j hk _ => hcell k j hk, frozen := fun k j hk _ => hfro k j hk
      own := fun _ _ h => .inl h, inew := fun k j h => (hI k j h).imp id (fun h => .inr h.1), lost := fun _ _ _ => rfl }
  refine ⟨?_, E⟩
  refine { dom := H.dom, inside := fun b l hb => Nat.lt_of_lt_of_le (H.inside b l hb) hsize, cells := ?_, maps := ?_, tails := ?_, disj := H.disj, imm := ?_, Iin := ?_
           pl := fun b cs cb o room hg hb n => by rw [hfro cb n (H.inside b _ hb)]; exact H.pl b cs cb o room hg hb n }
  · intro b cs l hg hb
    obtain ⟨cb, o, room, rfl, hle, h1, hc⟩ := H.cells b cs l hg hb
    have hin : cb < w.heap.size := H.inside b _ hb
    refine ⟨cb, o, room, rfl, hle, h1, fun j hj => ?_⟩
    obtain ⟨c, hc1, hc2, hc3⟩ := hc j hj
    exact ⟨c, by rw [hcell _ _ hin]; exact hc1, by rw [hfro _ _ hin]; exact hc2, fun v hv => E.vr H (hc3 v hv)⟩
  · intro b es l hg hb
    obtain ⟨cb, es', clock, rfl, hm, hl, hv⟩ := H.maps b es l hg hb
    refine ⟨cb, es', clock, rfl, by rw [hblk cb (H.inside b _ hb)]; exact hm, hl, fun i k v e h1 h2 => ?_⟩
    obtain ⟨a, c⟩ := hv i k v e h1 h2
    exact ⟨E.vr H a, E.vr H c⟩
  · intro b l hg hb
    obtain ⟨cb, lo, hi, rfl, hc⟩ := H.tails b l hg hb
    have hin : cb < w.heap.size := H.inside b _ hb
    refine ⟨cb, lo, hi, rfl, fun j h1 h2 => ?_⟩
    obtain ⟨c, hc1, hc2⟩ := hc j h1 h2
    exact ⟨c, by rw [hcell _ _ hin]; exact hc1, by rw [hfro _ _ hin]; exact hc2⟩
  · intro b l x k j hb hg hl hk
    rcases hI k j hk with hk | hk
    · exact H.imm b l x k j hb hg hl hk
    · have := H.inside b l hb
      have : k = l.block := by cases l <;> simp [Loc.has] at hl <;> simp [Loc.block, hl]
      omega
  · intro k j hk
    rcases hI k j hk with hk | hk
    · exact Nat.lt_of_lt_of_le (H.Iin k j hk) hsize
    · exact hk.2

/-- Rows of one length, laid one behind the other. -/
theorem flat_get {sz : Nat} : ∀ (rows : List (List AV)), (∀ r ∈ rows, r.length = sz) → ∀ (i j : Nat) (row : List AV), rows[i]? = some row → j < sz →
    rows.flatten[i * sz + j]? = row[j]?
  | [], _, i, j, row, h, _ => by simp at h
  | r :: rows, hu, 0, j, row, h, hj => by
    simp at h; subst h
    have hr := hu r (by simp)
    simp only [List.flatten_cons, Nat.zero_mul, Nat.zero_add]
    rw [List.getElem?_append_left (by omega)]
  | r :: rows, hu, i + 1, j, row, h, hj => by
    have hr := hu r (by simp)
    simp only [List.flatten_cons]
    rw [List.getElem?_append_right (by rw [hr, Nat.succ_mul]; omega), hr, show (i + 1) * sz + j - sz = i * sz + j by rw [Nat.succ_mul]; omega]
    exact flat_get rows (fun r h => hu r (List.mem_cons_of_mem _ h)) i j row (by simpa using h) hj

theorem flat_length {sz : Nat} : ∀ (rows : List (List AV)), (∀ r ∈ rows, r.length = sz) → rows.flatten.length = rows.length * sz
  | [], _ => by simp
  | r :: rows, hu => by
    rw [List.flatten_cons, List.length_append, flat_length rows (fun r h => hu r (List.mem_cons_of_mem _ h)), hu r (by simp), List.length_cons, Nat.succ_mul]; omega

theorem flat_set {sz : Nat} : ∀ (rows : List (List AV)), (∀ r ∈ rows, r.length = sz) → ∀ (i : Nat) (vs : List AV), i < rows.length → vs.length = sz →
    (rows.set i vs).flatten = setAt rows.flatten (i * sz) vs
  | [], _, i, vs, hi, _ => by simp at hi
  | r :: rows, hu, 0, vs, _, hv => by
    have hr := hu r (by simp)
    simp only [List.set_cons_zero, List.flatten_cons, setAt, Nat.zero_mul, List.take_zero, List.nil_append, Nat.zero_add]
    congr 1
    rw [List.drop_append_of_le_length (by omega), List.drop_of_length_le (by omega), List.nil_append]
  | r :: rows, hu, i + 1, vs, hi, hv => by
    have hr := hu r (by simp)
    simp only [List.set_cons_succ, List.flatten_cons]
    rw [flat_set rows (fun r h => hu r (List.mem_cons_of_mem _ h)) i vs (by simpa using hi) hv]
    have e1 : (i + 1) * sz = r.length + i * sz := by rw [hr, Nat.succ_mul]; omega
    have e2 : r.length + i * sz + vs.length = r.length + (i * sz + vs.length) := by omega
    simp only [setAt]
    rw [e1, e2]
    have t1 : (r ++ rows.flatten).take (r.length + i * sz) = r ++ rows.flatten.take (i * sz) := by
      rw [List.take_append, List.take_of_length_le (by omega)]; simp
    have t2 : (r ++ rows.flatten).drop (r.length + (i * sz + vs.length)) = rows.flatten.drop (i * sz + vs.length) := by
      rw [List.drop_append]; simp
    rw [t1, t2]
    simp [List.append_assoc]

theorem fillR_uniform {ρ : Env} {sz : Nat} : ∀ (ps : List (Nat × Opd)) (rows r : List (List AV)), (∀ x ∈ rows, x.length = sz ∧ ∀ v ∈ x, v.one = true) → fillR ρ sz rows ps = some r →
    (∀ x ∈ r, x.length = sz ∧ ∀ v ∈ x, v.one = true) ∧ r.length = rows.length ∧ fillA ρ rows.flatten (ps.map fun p => (p.1 * sz, sz, p.2)) = some r.flatten
  | [], rows, r, hu, h => by simp [fillR] at h; subst h; exact ⟨hu, rfl, by simp [fillA]⟩
  | (i, x) :: ps, rows, r, hu, h => by
    simp only [fillR] at h
    split at h
    · rename_i hc
      obtain ⟨h1, h2, h3⟩ := hc
      have hu' : ∀ y ∈ rows.set i (x.ev ρ).cells, y.length = sz ∧ ∀ v ∈ y, v.one = true := by
        intro y hy
        rcases List.mem_or_eq_of_mem_set hy with hy | rfl
        · exact hu y hy
        · exact ⟨h1, fun v hv => (List.all_eq_true.1 h3) v hv⟩
      obtain ⟨a, b, c⟩ := fillR_uniform ps _ r hu' h
      refine ⟨a, by rw [b]; simp, ?_⟩
      simp only [List.map_cons, fillA]
      have hfl := flat_length rows (fun r h => (hu r h).1)
      have hle : i * sz + sz ≤ rows.flatten.length := by
        rw [hfl, ← Nat.succ_mul]; exact Nat.mul_le_mul_right _ h2
      rw [if_pos ⟨h1, hle, h3⟩, ← flat_set rows (fun r h => (hu r h).1) i _ h2 h1]
      exact c
    · cases h

theorem replicate_flat_get (za : List AV) : ∀ (n i : Nat), i < n * za.length → (List.replicate n za).flatten[i]? = za[i % za.length]?
  | 0, i, h => by simp at h
  | n + 1, i, h => by
    simp only [List.replicate_succ, List.flatten_cons]
    by_cases hlt : i < za.length
    · rw [List.getElem?_append_left hlt, Nat.mod_eq_of_lt hlt]
    · have hlt' : i - za.length < n * za.length := by rw [Nat.succ_mul] at h; omega
      rw [List.getElem?_append_right (by omega), replicate_flat_get za n _ hlt']
      congr 1
      exact (Nat.mod_eq_sub_mod (by omega)).symm

theorem zeros_LR {za : List AV} {z : Array Value} (hz : LR ι I w za z.toList) (n : Nat) (h0 : za.length ≠ 0 ∨ n = 0) :
    LR ι I w (List.replicate n za).flatten (madeCells z (n * z.size)).toList := by
  have hl : za.length = z.size := by rw [hz.1]; simp
  refine ⟨by rw [flat_length (sz := za.length) _ (fun r hr => by rw [List.eq_of_mem_replicate hr])]; simp [size_madeCells, hl], fun i v c hv hc => ?_⟩
  have hi : i < n * za.length := by
    have := (List.getElem?_eq_some_iff.1 hv).1
    rwa [flat_length (sz := za.length) _ (fun r hr => by rw [List.eq_of_mem_replicate hr]), List.length_replicate] at this
  rw [replicate_flat_get za n i hi] at hv
  have hpos : 0 < za.length := by
    rcases h0 with h | rfl
    · omega
    · simp at hi
  have hm : i % za.length < za.length := Nat.mod_lt _ hpos
  have hin : i < n * z.size := by rw [← hl]; exact hi
  have : c = z[i % z.size]! := by
    have h' : (madeCells z (n * z.size))[i]? = some c := by simpa using hc
    simp [madeCells, hin] at h'
    simpa using h'.symm
  subst this
  refine hz.2 (i % za.length) v _ hv ?_
  rw [hl] at hm ⊢
  simp [hm]

/-- The value that a fresh block of cells makes, by value. -/
theorem newRows (H : HR ι I h w) {w' : World} {e : TypeId} {fr : Nat × Nat} {arr : Array Value} (hheap : w'.heap = w.heap.push (.cells arr e fr))
    (hos : w'.os = w.os) (htape : w'.tape = w.tape) (hout : w'.output = w.output)
    {rows : List (List AV)} {sz cap : Nat} (hu : ∀ x ∈ rows, x.length = sz ∧ ∀ v ∈ x, v.one = true) {l : List Value}
    (hl : LR ι I w rows.flatten l) (harr : ∀ (i : Nat) (c : Value), l[i]? = some c → arr[i]? = some c) (hcap : rows.length ≤ cap) (t : Tail) (ht : t = .unk ∨ (t = .full ∧ cap = rows.length)) :
    ∃ I', VR ι I' w' (.vs rows t) (.slice (some ⟨w.heap.size, 0, none⟩) rows.length cap) ∧ HR ι I' h w' ∧ Ext (fun _ => False) ι I h w ι I' h w' := by
  have hsz : w'.heap.size = w.heap.size + 1 := by rw [hheap]; simp
  obtain ⟨H', E⟩ := H.push (w' := w') (I' := fun k j => I k j ∨ k = w.heap.size) (fun k hk => by rw [hheap, Array.getElem?_push, if_neg (by omega)]) (by omega) hos htape hout
    (fun k j hk => hk.imp id (fun h => by omega)) (fun k j hk => .inl hk)
  refine ⟨_, ?_, H', E⟩
  have hcell : ∀ j, w'.cell? ⟨w.heap.size, j, none⟩ = arr[j]? := fun j => by simp [World.cell?, hheap]
  have hflen := flat_length rows (fun r hr => (hu r hr).1)
  have hget : ∀ (i j : Nat) (row : List AV) (v : AV), rows[i]? = some row → row[j]? = some v → ∃ c, l[i * sz + j]? = some c ∧ VR ι I w v c := by
    intro i j row v hi hj
    have hr := (hu row (List.mem_of_getElem? hi)).1
    have hjl := (List.getElem?_eq_some_iff.1 hj).1
    have := flat_get rows (fun r hr => (hu r hr).1) i j row hi (by omega)
    exact hl.get (by rw [this]; exact hj)
  refine .vs rows t w.heap.size 0 sz cap (fun i j => l.getD (i * sz + j) undef) (fun i row hi => (hu row (List.mem_of_getElem? hi)).1) (fun i j _ _ => .inr rfl) ?_ ?_ (fun row hr v hv => (hu row hr).2 v hv) hcap ?_
  · intro i j hi hj
    have hrow := List.getElem?_eq_getElem hi
    have hr := (hu rows[i] (List.getElem_mem hi)).1
    obtain ⟨c, hc, _⟩ := hget i j _ _ hrow (List.getElem?_eq_getElem (by omega))
    rw [Nat.zero_add, hcell, harr _ _ hc]
    simp [List.getD, hc]
  · intro i row j v hi hj
    obtain ⟨c, hc, hv⟩ := hget i j row v hi hj
    have : l.getD (i * sz + j) undef = c := by simp [List.getD, hc]
    rw [this]
    exact E.vr H hv
  · rcases ht with rfl | ⟨rfl, hh⟩
    · trivial
    · exact hh

end
end Go.Proofs.YtjkllffbjeajhaaGreat.Am

namespace Go.Proofs.YtjkllffbjeajhaaGreat.Am
open Go

section
variable {P : Program} {ι : Inj} {I : Imm} {h : AHeap} {w : World}

theorem ps_of_parts {ρ : Env} {sz : Nat} (ps : List (Nat × Opd)) (ps' : List (Nat × Value)) (hl : ps.length = ps'.length)
    (hp : ∀ (i j k : Nat) (x : Opd) (c : Value), ps[i]? = some (j, x) → ps'[i]? = some (k, c) → j = k ∧ OR ι I w ρ x c) :
    (ps.map fun p => (p.1 * sz, sz, p.2)).length = ps'.length ∧
    ∀ (i off sz' j : Nat) (x : Opd) (c : Value), (ps.map fun p => (p.1 * sz, sz, p.2))[i]? = some (off, sz', x) → ps'[i]? = some (j, c) →
      (some (j * sz, sz) : Option (Nat × Nat)) = some (off, sz') ∧ OR ι I w ρ x c := by
  refine ⟨by simpa using hl, fun i off sz' j x c hi hj => ?_⟩
  rw [List.getElem?_map] at hi
  cases hq : ps[i]? with
  | none => simp [hq] at hi
  | some q =>
    obtain ⟨k, y⟩ := q
    simp [hq] at hi
    obtain ⟨rfl, rfl, rfl⟩ := hi
    obtain ⟨rfl, ho⟩ := hp i k j y c hq hj
    exact ⟨rfl, ho⟩

theorem LR.one {za : List AV} {z : List Value} (h : LR ι I w za z) (n : Nat) (h1 : ∀ v ∈ za, v.one = true) : ∀ x ∈ List.replicate n za, x.length = za.length ∧ ∀ v ∈ x, v.one = true := by
  intro x hx
  rw [List.eq_of_mem_replicate hx]
  exact ⟨rfl, h1⟩

/-- A slice literal. -/
theorem bslice_cells {za : List AV} {z : Value} {ρ : Env} {n : Nat} {ps : List (Nat × Opd)} {ps' : Array (Nat × Value)} {rows : List (List AV)}
    (hz : LR ι I w za z.cells.toList) (h1 : ∀ v ∈ za, v.one = true) (h0 : za.length ≠ 0) (hl : ps.length = ps'.size)
    (hp : ∀ (i j k : Nat) (x : Opd) (c : Value), ps[i]? = some (j, x) → ps'[i]? = some (k, c) → j = k ∧ OR ι I w ρ x c)
    (hf : fillR ρ za.length (List.replicate n za) ps = some rows) :
    (∀ x ∈ rows, x.length = za.length ∧ ∀ v ∈ x, v.one = true) ∧ rows.length = n ∧
    ∃ cells, Instr.fill (fun i => some (i * za.length, za.length)) (madeCells z.cells (n * z.cells.size)) ps'.toList = some cells ∧ LR ι I w rows.flatten cells.toList := by
  obtain ⟨hu, hn, hA⟩ := fillR_uniform ps _ rows (LR.one hz n h1) hf
  refine ⟨hu, by simpa using hn, ?_⟩
  obtain ⟨a, b⟩ := ps_of_parts (sz := za.length) ps ps'.toList (by simpa using hl) (fun i j k x c hi hj => hp i j k x c hi (by simpa using hj))
  exact fill_sim _ _ ps'.toList _ _ _ a b (zeros_LR hz n (.inl h0)) hA

theorem run_bslice (w : World) {t e : TypeId} {ie : TypeInfo} {z : Value} {len : Nat} {parts : Array (Nat × Value)} {cells : Array Value}
    (hu : P.underlying t = some (.slice e)) (hie : P.info? e = some ie) (hz : ie.zero = some z) (hsz : ie.size = z.cells.size) (hsmall : len * ie.size ≤ 2 ^ 24)
    (hc : Instr.fill (fun i => some (i * ie.size, ie.size)) (madeCells z.cells (len * z.cells.size)) parts.toList = some cells) :
    (Instr.buildSlice t len parts).run P w = .ok (.slice (some ⟨w.heap.size, 0, none⟩) len len) (w.alloc (.cells cells e)) := by
  by_cases h0 : len * ie.size = 0
  · have h0' : len * z.cells.size = 0 := by rw [← hsz]; exact h0
    rw [h0'] at hc
    have he : madeCells z.cells 0 = #[] := by simp [madeCells, Array.range_zero']
    rw [he] at hc
    simp [Instr.buildSlice, run_under hu, Go.sizeOf, typeInfo, hie, h0, hc, newRow, Array.range_zero']
  · exact run_buildSlice w t e len parts cells ie z hu hie hz (by omega) h0 (by rw [← hsz] at hc; exact hc)

theorem bslice_sim (H : HR ι I h w) {t e : TypeId} {ie : TypeInfo} {z : Value} {za : List AV} {ρ : Env} {n : Nat} {ps : List (Nat × Opd)} {ps' : Array (Nat × Value)} {rows : List (List AV)}
    (hu : P.underlying t = some (.slice e)) (hie : P.info? e = some ie) (hzz : ie.zero = some z) (hsz : ie.size = z.cells.size) (hsmall : n * ie.size ≤ 2 ^ 24)
    (hz : LR ι I w za z.cells.toList) (h1 : ∀ v ∈ za, v.one = true) (h0 : za.length ≠ 0) (hl : ps.length = ps'.size)
    (hp : ∀ (i j k : Nat) (x : Opd) (c : Value), ps[i]? = some (j, x) → ps'[i]? = some (k, c) → j = k ∧ OR ι I w ρ x c)
    (hf : fillR ρ za.length (List.replicate n za) ps = some rows) : PSim P ι I h w (.vs rows .full) (Instr.buildSlice t n ps') := by
  obtain ⟨hu', hn, cells, hc, hlr⟩ := bslice_cells hz h1 h0 hl hp hf
  have hzl : za.length = z.cells.size := by rw [hz.1]; simp
  have hr := run_bslice (P := P) w (parts := ps') (cells := cells) hu hie hzz hsz hsmall (by rw [hsz, ← hzl]; rw [← hzl] at hc; exact hc)
  obtain ⟨I', hv, H', E⟩ := newRows H (w' := w.alloc (.cells cells e)) (e := e) (fr := (0, 0)) (arr := cells) rfl rfl rfl rfl (cap := n) hu' hlr (fun i c hc => by simpa using hc) (by omega) .full (.inr ⟨rfl, hn.symm⟩)
  exact ⟨_, _, I', hr, by rw [hn] at hv; exact hv, H', E⟩

theorem makeLen_spec {bytes n : Nat} {l c : AV} (hm : makeLen bytes l c = some n) : l = .int .i64 n ∧ c = .int .i64 n ∧ n < 2 ^ 40 ∧ bytes * n ≤ 2 ^ 40 := by
  unfold makeLen at hm
  split at hm
  · rename_i a b
    split at hm
    · rename_i hc
      obtain ⟨h1, rfl, h2, h3⟩ := hc
      cases hm
      have : ((a.toNat : Nat) : Int) = a := Int.toNat_of_nonneg h1
      refine ⟨by rw [this], by rw [this], by omega, ?_⟩
      have : ((bytes * a.toNat : Nat) : Int) ≤ 2 ^ 40 := by rw [Int.natCast_mul, this]; exact h3
      exact_mod_cast this
    · cases hm
  · cases hm

theorem run_mkslice (w : World) {t e : TypeId} {ie : TypeInfo} {z : Value} {n bytes : Nat}
    (hu : P.underlying t = some (.slice e)) (hie : P.info? e = some ie) (hz : ie.zero = some z) (hsz : ie.size = z.cells.size) (hb : ie.bytes = bytes)
    (hn : n < 2 ^ 40) (hbn : bytes * n ≤ 2 ^ 40) :
    (Instr.makeSlice t (.int .i64 n) (.int .i64 n)).run P w = .ok (.slice (some ⟨w.heap.size, 0, none⟩) n n) (w.alloc (.cells (madeCells z.cells (n * z.cells.size)) e)) := by
  have := run_make (P := P) w t e ie z hu hie hz .i64 .i64 n n (by omega) (by omega) (by
    rw [hb]
    have : ((bytes * n : Nat) : Int) ≤ 281474976710656 := by omega
    rwa [Int.natCast_mul] at this) (by omega)
  simpa [hsz] using this

theorem mkslice_sim (H : HR ι I h w) {t e : TypeId} {ie : TypeInfo} {z : Value} {za : List AV} {n bytes : Nat} {l c : AV} {cl cc : Value}
    (hu : P.underlying t = some (.slice e)) (hie : P.info? e = some ie) (hzz : ie.zero = some z) (hsz : ie.size = z.cells.size) (hb : ie.bytes = bytes)
    (hz : LR ι I w za z.cells.toList) (h1 : ∀ v ∈ za, v.one = true) (h0 : za.length ≠ 0)
    (hl : VR ι I w l cl) (hc : VR ι I w c cc) (hm : makeLen bytes l c = some n) : PSim P ι I h w (.vs (List.replicate n za) .full) (Instr.makeSlice t cl cc) := by
  obtain ⟨rfl, rfl, hn, hbn⟩ := makeLen_spec hm
  cases hl; cases hc
  have hr := run_mkslice (P := P) w hu hie hzz hsz hb hn hbn
  obtain ⟨I', hv, H', E⟩ := newRows H (w' := w.alloc (.cells (madeCells z.cells (n * z.cells.size)) e)) (e := e) (fr := (0, 0)) (arr := madeCells z.cells (n * z.cells.size)) rfl rfl rfl rfl (cap := n)
    (rows := List.replicate n za) (sz := za.length) (LR.one hz n h1) (zeros_LR hz n (.inl h0)) (fun i c hc => by simpa using hc) (by simp) .full (.inr ⟨rfl, by simp⟩)
  exact ⟨_, _, I', hr, by simpa using hv, H', E⟩

theorem nilchk_sim (H : HR ι I h w) {x v : AV} {c : Value} (hx : VR ι I w x c) (hn : notNil x = some v) :
    c ≠ .pointer none ∧ c ≠ .nilIface ∧ c ≠ .nilFunc ∧ (∀ nm a b, c ≠ .func (.method nm) a b) ∧ VR ι I w v c := by
  cases hx <;> simp only [notNil] at hn <;> try (cases hn; done)
  case ptr b off cb o room hb => cases hn; exact ⟨by simp, by simp, by simp, by simp, .ptr _ _ _ _ _ hb⟩
  case vp xs off cb o g hI hc hv h1 => cases hn; exact ⟨by simp, by simp, by simp, by simp, .vp _ _ _ _ g hI hc hv h1⟩
  case fn f fs cs fs' cs' hf hc hfv hcv => cases hn; exact ⟨by simp, by simp, by simp, by simp, .fn f fs cs fs' cs' hf hc hfv hcv⟩

theorem run_aint (op : BinOp) (k : IntKind) (a b : Int) (v : AV) (hs : op ≠ .shl ∧ op ≠ .shr) (hv : aint op k a b = some v) (t : TypeId) :
    ∃ c, (binOp op t (.int k a) (.int k b)).run P w = .ok c w ∧ VR ι I w v c := by
  cases op <;> simp only [aint, abits, Option.map_some, Option.map_none] at hv <;> try (cases hv; done)
  case quo => split at hv; · cases hv
              · rename_i hb; cases hv; exact ⟨_, by simp [binOp, Op.intDiv, hb], .int _ _⟩
  case rem => split at hv; · cases hv
              · rename_i hb; cases hv; exact ⟨_, by simp [binOp, Op.intDiv, hb], .int _ _⟩
  all_goals
    cases hv
    refine ⟨_, by (simp only [binOp, ne_eq, not_true_eq_false, if_false]; rfl), ?_⟩
    constructor

theorem run_afcmp (op : BinOp) (k : FloatKind) (a b : Nat) (v : Bool) (hv : afcmp op k a b = some v) (t : TypeId) :
    (binOp op t (.float k a) (.float k b)).run P w = .ok (.bool v) w := by
  cases op <;> simp only [afcmp] at hv <;> first | (cases hv; done) | (cases hv; simp [binOp, Op.floatCmp])

theorem bin_sim (H : HR ι I h w) {tb : Bool} {op : BinOp} {x y v : AV} {cx cy : Value} (hx : VR ι I w x cx) (hy : VR ι I w y cy) (hv : abin tb op x y = some v) (t : TypeId)
    (ht : tb = true → P.underlying t = some .bool) : PSim P ι I h w v (binOp op t cx cy) := by
  cases hx <;> try (simp only [abin] at hv; cases hv; done)
  case int k a =>
    cases hy <;> try (simp only [abin] at hv; cases hv; done)
    rename_i k' b
    by_cases h1 : op = .shl
    · subst h1
      simp only [abin] at hv
      split at hv
      · cases hv
      · rename_i hb; cases hv; exact .same H (by simp [binOp, Op.shift, hb]) (.int _ _)
    · by_cases h2 : op = .shr
      · subst h2
        simp only [abin] at hv
        split at hv
        · cases hv
        · rename_i hb; cases hv; exact .same H (by simp [binOp, Op.shift, hb]) (.int _ _)
      · have : abin tb op (.int k a) (.int k' b) = if k = k' then aint op k a b else none := by cases op <;> first | rfl | exact (h1 rfl).elim | exact (h2 rfl).elim
        rw [this] at hv
        split at hv
        · rename_i hk; subst hk
          obtain ⟨c, hr, hc⟩ := run_aint (P := P) (ι := ι) (I := I) (w := w) op k a b v ⟨h1, h2⟩ hv t
          exact .same H hr hc
        · cases hv
  case bool a =>
    cases hy <;> try (simp only [abin] at hv; cases hv; done)
    rename_i b
    cases op <;> simp only [abin] at hv <;> try (cases hv; done)
    · split at hv
      · rename_i hb; cases hv; exact .same H (run_eql_bool w t a b (ht hb)) (.bool _)
      · cases hv
    · split at hv
      · rename_i hb; cases hv; exact .same H (run_neq_bool w t a b (ht hb)) (.bool _)
      · cases hv
  case flt k a =>
    cases hy <;> try (simp only [abin] at hv; cases hv; done)
    rename_i k' b
    simp only [abin] at hv
    split at hv
    · rename_i hk; subst hk
      cases hq : afcmp op k a b with
      | none => simp [hq] at hv
      | some r => simp [hq] at hv; subst hv; exact .same H (run_afcmp op k a b r hq t) (.bool _)
    · cases hv
  case cpx k a b =>
    cases hy <;> try (simp only [abin] at hv; cases hv; done)
    rename_i k' c d
    simp only [abin] at hv
    split at hv
    · rename_i hk; subst hk
      cases op <;> simp only [] at hv <;> try (cases hv; done)
      · cases hv; exact .same H (by simp [binOp, Op.complexOp, Op.Complex.cmp, Op.floatCmp, asBool]) (.bool _)
      · cases hv; exact .same H (by simp [binOp, Op.complexOp, Op.Complex.cmp, Op.floatCmp, asBool]) (.bool _)
    · cases hv
  case str a =>
    cases hy <;> try (simp only [abin] at hv; cases hv; done)
    rename_i b
    simp only [abin] at hv
    cases op <;> simp only [] at hv <;> try (cases hv; done)
    · cases hv; exact .same H (by simp [binOp, Op.stringOp]) (.bool _)
    · cases hv; exact .same H (by simp [binOp, Op.stringOp]) (.bool _)

end
end Go.Proofs.YtjkllffbjeajhaaGreat.Am

namespace Go.Proofs.YtjkllffbjeajhaaGreat.Am
open Go

section
variable {P : Program} {ι : Inj} {I : Imm} {h : AHeap} {w : World}

/-- nil's value, and the kind of the type. -/
def nilKind : TypeDesc → Value → Option Nat
  | .pointer _, .pointer none => some 0
  | .slice _, .slice none 0 0 => some 1
  | .func _ _ _, .nilFunc => some 2
  | .map _ _, .map none => some 3
  | _, _ => none

theorem nilShape {kd : Nat} {x : AV} {c : Value} {b : Bool} (hx : VR ι I w x c) (hb : isNilA kd x = some b) :
    (kd = 0 ∧ ∃ a, c = .pointer a ∧ b = a.isNone) ∨ (kd = 1 ∧ ∃ a l n, c = .slice a l n ∧ b = a.isNone) ∨
    (kd = 2 ∧ ((c = .nilFunc ∧ b = true) ∨ ∃ f u v, c = .func f u v ∧ b = false)) ∨ (kd = 3 ∧ ∃ r, c = .map r ∧ b = r.isNone) := by
  cases hx
  case vs xs t cb o s cap g hs h1 h2 hv hone hcap ht =>
    cases xs with
    | nil => simp [isNilA] at hb
    | cons x xs =>
      simp only [isNilA] at hb
      split at hb
      · cases hb; exact .inr (.inl ⟨by assumption, _, _, _, rfl, rfl⟩)
      · cases hb
  all_goals simp only [isNilA] at hb
  all_goals first
    | (cases hb; done)
    | (split at hb
       · cases hb; first | exact .inl ⟨by assumption, _, rfl, rfl⟩ | exact .inr (.inl ⟨by assumption, _, _, _, rfl, rfl⟩) | exact .inr (.inr (.inl ⟨by assumption, .inl ⟨rfl, rfl⟩⟩)) | exact .inr (.inr (.inl ⟨by assumption, .inr ⟨_, _, _, rfl, rfl⟩⟩)) | exact .inr (.inr (.inr ⟨by assumption, _, rfl, rfl⟩))
       · cases hb)

theorem equal_nil {t : TypeId} {d : TypeDesc} {nv : Value} {kd : Nat} (hu : P.underlying t = some d) (hk : nilKind d nv = some kd) {x : AV} {c : Value} {b : Bool}
    (hx : VR ι I w x c) (hb : isNilA kd x = some b) : (Op.equal t c nv).run P w = .ok b w ∧
      ∀ neg : Bool, (binOp (if neg then .neq else .eql) t c nv) = (do let r ← Op.equal t c nv; pure (.bool (if neg then !r else r))) := by
  suffices key : (∀ n, (Op.equalIn (n + 1) t c nv).run P w = .ok b w) ∧ ∀ neg : Bool, (binOp (if neg then .neq else .eql) t c nv) = (do let r ← Op.equal t c nv; pure (.bool (if neg then !r else r))) from ⟨key.1 9999, key.2⟩
  unfold nilKind at hk
  rcases nilShape hx hb with ⟨rfl, a, rfl, rfl⟩ | ⟨rfl, a, l, n, rfl, rfl⟩ | ⟨rfl, ⟨rfl, rfl⟩ | ⟨f, u, v, rfl, rfl⟩⟩ | ⟨rfl, r, rfl, rfl⟩ <;>
    (split at hk <;> first | (simp at hk; done) | skip)
  · refine ⟨fun n => ?_, fun neg => by cases neg <;> cases a <;> rfl⟩
    cases a <;> simp [Op.equalIn, run_under hu]
  · refine ⟨fun n => ?_, fun neg => by cases neg <;> rfl⟩
    cases a <;> simp [Op.equalIn, run_under hu]
  · exact ⟨fun n => by simp [Op.equalIn, run_under hu], fun neg => by cases neg <;> rfl⟩
  · exact ⟨fun n => by simp [Op.equalIn, run_under hu], fun neg => by cases neg <;> rfl⟩
  · refine ⟨fun n => ?_, fun neg => by cases neg <;> rfl⟩
    cases r <;> simp [Op.equalIn, run_under hu]

theorem eqNil_sim (H : HR ι I h w) {t : TypeId} {d : TypeDesc} {nv : Value} {kd : Nat} (hu : P.underlying t = some d) (hk : nilKind d nv = some kd) (neg : Bool) {x v : AV} {c : Value}
    (hx : VR ι I w x c) (hv : ((isNilA kd x).map fun b => AV.bool (if neg then !b else b)) = some v) : PSim P ι I h w v (binOp (if neg then .neq else .eql) t c nv) := by
  cases hb : isNilA kd x with
  | none => simp [hb] at hv
  | some b =>
    simp [hb] at hv
    subst hv
    obtain ⟨hr, hs⟩ := equal_nil (P := P) hu hk hx hb
    exact .same H (c := .bool (if neg then !b else b)) (by rw [hs]; simp [hr]) (.bool _)

theorem aun_sim (H : HR ι I h w) {op : UnOp} {x v : AV} {c : Value} (hx : VR ι I w x c) (hv : aun op x = some v) : PSim P ι I h w v (Op.unary op c) := by
  cases hx <;> simp only [aun] at hv <;> try (cases hv; done)
  case int k n =>
    cases op <;> simp only [abits, Option.map_some] at hv <;> try (cases hv; done)
    all_goals (cases hv; exact .same H rfl (.int _ _))
  case bool b =>
    cases op <;> simp only [] at hv <;> try (cases hv; done)
    cases hv; exact .same H rfl (.bool _)

theorem toInt_sim (H : HR ι I h w) {src dst : TypeId} {ds : TypeDesc} {k : IntKind} (hs : P.underlying src = some ds) (hd : P.underlying dst = some (.int k)) {x v : AV} {c : Value} (hx : VR ι I w x c)
    (hv : toIntA k x = some v) : PSim P ι I h w v (convert src dst c) := by
  unfold toIntA at hv
  cases hx <;> simp only [] at hv <;> try (cases hv; done)
  cases hv
  refine .same H (c := .int k (k.wrap _)) ?_ (.int _ _)
  cases ds <;> simp [convert, run_under hs, run_under hd, Conv.intToInt]

theorem LR.cut {cs : List AV} {cs' : List Value} (hl : LR ι I w cs cs') {ag : Bool} {sz off : Nat} {v : AV} (hc : cut ag sz off cs = some v) :
    if ag then ∃ l', VR ι I w v (.agg l'.toArray) ∧ l' = (cs'.drop off).take sz ∧ off + sz ≤ cs'.length else ∃ c, cs'[off]? = some c ∧ VR ι I w v c := by
  unfold Am.cut at hc
  cases ag
  · simp only [Bool.false_eq_true, if_false] at hc ⊢
    exact hl.get hc
  · simp only [if_true] at hc ⊢
    split at hc
    · rename_i hle
      cases hc
      have := (hl.drop off).take sz
      exact ⟨_, .agg _ _ this.1 this.2, rfl, by rw [← hl.1]; exact hle⟩
    · cases hc

theorem run_part {t : TypeId} {d : TypeDesc} {sz : Nat} (hu : P.underlying t = some d) (hs : (P.info? t).map (·.size) = some sz) (w : World) {cs : List AV} {cs' : List Value} (hl : LR ι I w cs cs')
    {off : Nat} {v : AV} (hc : cut d.isRow sz off cs = some v) : ∃ c, (part t cs'.toArray off).run P w = .ok c w ∧ VR ι I w v c := by
  have := hl.cut hc
  cases hd : d.isRow with
  | true =>
    rw [hd] at this
    simp only [if_true] at this
    obtain ⟨l', hv, rfl, hle⟩ := this
    refine ⟨_, ?_, hv⟩
    simp [part, run_agg hu, hd, run_size hs, List.drop_take]
  | false =>
    rw [hd] at this
    simp only [Bool.false_eq_true, if_false] at this
    obtain ⟨c, hcc, hv⟩ := this
    exact ⟨c, by simp [part, run_agg hu, hd, hcc], hv⟩

theorem fld_sim (H : HR ι I h w) {s : TypeId} {fs : Array Field} {f : Nat} {fd : Field} {d : TypeDesc} {sz : Nat} (hu : P.underlying s = some (.struct fs)) (hf : fs[f]? = some fd)
    (hd : P.underlying fd.type = some d) (hs : (P.info? fd.type).map (·.size) = some sz) {x v : AV} {c : Value} (hx : VR ι I w x c)
    (hv : fldA d.isRow sz fd.offset x = some v) : PSim P ι I h w v (Instr.field s c f) := by
  unfold fldA at hv
  cases hx <;> simp only [] at hv <;> try (cases hv; done)
  rename_i cs cs' hl hcv
  obtain ⟨r, hr, hvr⟩ := run_part (P := P) hd hs w (cs := cs) (cs' := cs') ⟨hl, hcv⟩ hv
  exact .same H (by simp [Instr.field, run_under hu, hf, asAgg, hr]) hvr

theorem idxA_sim (H : HR ι I h w) {t e : TypeId} {len sz : Nat} {d : TypeDesc} (hu : P.underlying t = some (.array len e)) (hd : P.underlying e = some d) (hs : (P.info? e).map (·.size) = some sz)
    {x i v : AV} {c ci : Value} (hx : VR ι I w x c) (hi : VR ι I w i ci)
    (hv : idxAA d.isRow sz len x i = some v) : PSim P ι I h w v (Instr.index t c ci) := by
  unfold idxAA at hv
  cases hi <;> try (simp only [] at hv; cases hv; done)
  cases hx <;> simp only [] at hv <;> try (cases hv; done)
  rename_i k n cs cs' hl hcv
  split at hv
  · rename_i hb
    obtain ⟨r, hr, hvr⟩ := run_part (P := P) hd hs w (cs := cs) (cs' := cs') ⟨hl, hcv⟩ hv
    exact .same H (by simp [Instr.index, asIntOf, run_under hu, hb, run_size hs, hr]) hvr
  · cases hv

theorem ext_sim (H : HR ι I h w) {x v : AV} {c : Value} {i : Nat} (hx : VR ι I w x c) (hv : extA i x = some v) : PSim P ι I h w v (Instr.extract c i) := by
  unfold extA at hv
  cases hx <;> simp only [] at hv <;> try (cases hv; done)
  rename_i cs cs' hl hcv
  obtain ⟨r, hr, hvr⟩ := LR.get (l' := cs') ⟨hl, hcv⟩ hv
  exact .same H (by simp [Instr.extract, hr]) hvr

theorem lenS_sim (H : HR ι I h w) {t e : TypeId} (ts : Array TypeId) (ty : TypeId) (h0 : ts[0]? = some t) (hu : P.underlying t = some (.slice e)) {x v : AV} {c : Value} (hx : VR ι I w x c)
    (hv : ((lenA x).map fun (n : Nat) => AV.int .i64 n) = some v) : PSim P ι I h w v (Builtin.len_ ts ty #[c]) := by
  cases hx <;> simp only [lenA, Option.map_some, Option.map_none] at hv <;> try (cases hv; done)
  all_goals (cases hv; exact .same H (by simp [Builtin.len_, h0, run_under hu, goInt]) (.int _ _))

theorem lenStr_sim (H : HR ι I h w) {t : TypeId} (ts : Array TypeId) (ty : TypeId) (h0 : ts[0]? = some t) (hu : P.underlying t = some .string) {x v : AV} {c : Value} (hx : VR ι I w x c)
    (hv : lenStrA x = some v) : PSim P ι I h w v (Builtin.len_ ts ty #[c]) := by
  unfold lenStrA at hv
  cases hx <;> simp only [] at hv <;> try (cases hv; done)
  cases hv; exact .same H (by simp [Builtin.len_, h0, run_under hu, goInt]) (.int _ _)

theorem minmax_sim {mx : Bool} {x y v : AV} {cx cy : Value} (hx : VR ι I w x cx) (hy : VR ι I w y cy) (hv : minmaxA mx x y = some v) :
    ∃ c, ((if mx then Builtin.max2 else Builtin.min2) cx cy).run P w = .ok c w ∧ VR ι I w v c := by
  cases hx <;> try (simp only [minmaxA] at hv; cases hv; done)
  case int k a =>
    cases hy <;> simp only [minmaxA] at hv <;> try (cases hv; done)
    split at hv
    · rename_i hk; subst hk; cases hv
      cases mx <;> exact ⟨_, rfl, .int _ _⟩
    · cases hv
  case flt k a =>
    cases hy <;> simp only [minmaxA] at hv <;> try (cases hv; done)
    rename_i k' b
    split at hv
    · rename_i hk; subst hk
      cases mx <;> (cases ho : k.format.order a b with
        | none => simp [ho] at hv
        | some o => cases o <;> (simp [ho] at hv; subst hv; exact ⟨_, by simp [Builtin.max2, Builtin.min2, ho], .flt _ _⟩))
    · cases hv

end
end Go.Proofs.YtjkllffbjeajhaaGreat.Am

namespace Go.Proofs.YtjkllffbjeajhaaGreat.Am
open Go

section
variable {P : Program} {ι : Inj} {I : Imm} {h : AHeap} {w : World}

theorem rowsOf_spec (cs : List AV) (sz : Nat) : ∀ (n off : Nat), off + n * sz ≤ cs.length → (rowsOf cs off sz n).length = n ∧ (∀ r ∈ rowsOf cs off sz n, r.length = sz ∧ ∀ v ∈ r, v ∈ cs) ∧
    (rowsOf cs off sz n).flatten = (cs.drop off).take (n * sz)
  | 0, off, h => by simp [rowsOf]
  | n + 1, off, h => by
    have hh : off + sz + n * sz ≤ cs.length := by rw [Nat.succ_mul] at h; omega
    obtain ⟨h1, h2, h3⟩ := rowsOf_spec cs sz n (off + sz) hh
    refine ⟨by simp [rowsOf, h1], fun r hr => ?_, ?_⟩
    · rcases List.mem_cons.1 hr with rfl | hr
      · refine ⟨?_, fun v hv => List.mem_of_mem_drop (List.mem_of_mem_take hv)⟩
        simp; omega
      · exact h2 r hr
    · simp only [rowsOf, List.flatten_cons, h3]
      rw [Nat.succ_mul, Nat.add_comm (n * sz) sz, List.take_add, List.drop_drop]

theorem headOk_all {sz s : Nat} {xs : List (List AV)} (hs : ∀ (i : Nat) (row : List AV), xs[i]? = some row → row.length = s) (h : headOk sz xs = true) : ∀ r ∈ xs, r.length = sz := by
  intro r hr
  obtain ⟨i, hi, rfl⟩ := List.getElem_of_mem hr
  have h1 := hs i _ (List.getElem?_eq_getElem hi)
  cases xs with
  | nil => simp at hi
  | cons x xs =>
    have h2 := hs 0 x rfl
    simp [headOk] at h
    omega

/-- What a slice's value reads as: its rows, and the cells behind its address. -/
structure Rd (ι : Inj) (I : Imm) (w : World) (sz : Nat) (rows : List (List AV)) (a : Option Addr) (l : List Value) : Prop where
  uni : ∀ r ∈ rows, r.length = sz ∧ ∀ v ∈ r, v.one = true
  lr : LR ι I w rows.flatten l
  cell : ∀ ad, a = some ad → ∀ (j : Nat) (u : Value), l[j]? = some u → w.cell? (ad.add j) = some u
  none : a = none → rows = []

theorem Rd.len {sz : Nat} {rows : List (List AV)} {a : Option Addr} {l : List Value} (hr : Rd ι I w sz rows a l) : l.length = rows.length * sz := by
  rw [← hr.lr.1, flat_length rows (fun r h => (hr.uni r h).1)]

theorem Rd.one {sz : Nat} {rows : List (List AV)} {a : Option Addr} {l : List Value} (hr : Rd ι I w sz rows a l) : ∀ u ∈ l, u.oneCell' = true := by
  intro u hu
  obtain ⟨i, hi, rfl⟩ := List.getElem_of_mem hu
  have hi' : i < rows.flatten.length := by rw [hr.lr.1]; exact hi
  have hv := hr.lr.2 i _ _ (List.getElem?_eq_getElem hi') (List.getElem?_eq_getElem hi)
  refine hv.one ?_
  obtain ⟨r, hr1, hr2⟩ := List.mem_flatten.1 (List.getElem_mem hi')
  exact (hr.uni r hr1).2 _ hr2

theorem rows_sim (H : HR ι I h w) {x : AV} {c : Value} {sz : Nat} {rows : List (List AV)} (hx : VR ι I w x c) (hr : rowsA sz h x = some rows) :
    ∃ a cap l, c = .slice a rows.length cap ∧ rows.length ≤ cap ∧ Rd ι I w sz rows a l := by
  cases hx <;> simp only [rowsA] at hr <;> try (cases hr; done)
  case vsNil t ht =>
    simp at hr; obtain ⟨_, rfl⟩ := hr
    exact ⟨none, 0, [], rfl, Nat.le_refl _, by simp, LR.nil, by simp, fun _ => rfl⟩
  case vsZ t a cap ht =>
    simp at hr; obtain ⟨_, rfl⟩ := hr
    exact ⟨some a, cap, [], rfl, Nat.zero_le _, by simp, LR.nil, fun ad had => by simp, fun h => by cases h⟩
  case nils =>
    cases hr
    exact ⟨none, 0, [], rfl, Nat.le_refl _, by simp, LR.nil, by simp, fun _ => rfl⟩
  case vs xs t cb o s cap g hs hI hc hv h1 hcap ht =>
    split at hr
    · rename_i hall
      cases hr
      have hall' : ∀ r ∈ rows, r.length = sz := headOk_all hs hall
      have hfl := flat_length rows hall'
      refine ⟨some ⟨cb, o, none⟩, cap, (List.range (rows.length * sz)).map fun j => g (j / sz) (j % sz), rfl, hcap, fun r hr => ⟨hall' r hr, h1 r hr⟩, ?_, ?_, by simp⟩
      · refine ⟨by simp [hfl], fun j v c hv' hc' => ?_⟩
        have hj : j < rows.length * sz := by rw [← hfl]; exact (List.getElem?_eq_some_iff.1 hv').1
        have hpos : 0 < sz := by
          rcases Nat.eq_zero_or_pos sz with h0 | h0
          · rw [h0] at hj; simp at hj
          · exact h0
        have hd : j / sz < rows.length := (Nat.div_lt_iff_lt_mul hpos).2 hj
        have hm : j % sz < sz := Nat.mod_lt _ hpos
        have hrow := List.getElem?_eq_getElem hd
        have := flat_get rows hall' (j / sz) (j % sz) _ hrow hm
        rw [Nat.div_add_mod' j sz, hv'] at this
        simp [hj] at hc'
        subst hc'
        exact hv _ _ _ _ hrow this.symm
      · intro ad had
        cases had
        intro j u hu
        rw [Addr.add_mid]
        have hj : j < rows.length * sz := by have := (List.getElem?_eq_some_iff.1 hu).1; simpa using this
        simp [hj] at hu
        subst hu
        have hpos : 0 < sz := by
          rcases Nat.eq_zero_or_pos sz with h0 | h0
          · rw [h0] at hj; simp at hj
          · exact h0
        have hd : j / sz < rows.length := (Nat.div_lt_iff_lt_mul hpos).2 hj
        have hm : j % sz < sz := Nat.mod_lt _ hpos
        have hss : s = sz := by rw [← hs _ _ (List.getElem?_eq_getElem hd)]; exact hall' _ (List.getElem_mem hd)
        subst hss
        have := hc _ _ hd hm
        rwa [Nat.add_assoc, Nat.div_add_mod' j s] at this
    · cases hr
  case vz a cap =>
    cases hr
    exact ⟨some a, cap, [], rfl, Nat.zero_le _, ⟨by simp, LR.nil, fun ad _ j u hu => by simp at hu, fun h => by cases h⟩⟩
  case rs b off len sz' cb o room cap hb hlen hcap =>
    split at hr
    · rename_i hz
      subst hz
      cases hg : cellsOf h b with
      | none => simp [hg] at hr
      | some cs =>
        simp only [hg] at hr
        split at hr
        · rename_i hle
          cases hr
          obtain ⟨h1, h2, h3⟩ := rowsOf_spec cs sz' len off hle
          have hg' : h.get b = some (.cells cs) := by
            unfold cellsOf at hg; split at hg
            · rename_i cs' hh; cases hg; exact hh
            · cases hg
          obtain ⟨hrow, _, hone⟩ := H.row hg' hb
          obtain ⟨l, hl1, hl2, hl3⟩ := (hrow.sub off (len * sz')).list
          refine ⟨some ⟨cb, o + off, none⟩, cap, l, by rw [h1], by rw [h1]; exact hlen, fun r hr => ⟨(h2 r hr).1, fun v hv => hone v ((h2 r hr).2 v hv)⟩, ?_, ?_, by simp⟩
          · rw [h3]; exact ⟨hl1, hl3⟩
          · intro ad had
            cases had
            intro j u hu
            rw [Addr.add_mid]
            exact hl2 j u hu
        · cases hr
    · cases hr
  case rk b off len sz' cap cb o room hb hlen hcap =>
    split at hr
    · rename_i hz
      subst hz
      cases hg : cellsOf h b with
      | none => simp [hg] at hr
      | some cs =>
        simp only [hg] at hr
        split at hr
        · rename_i hle
          cases hr
          obtain ⟨h1, h2, h3⟩ := rowsOf_spec cs sz' len off hle
          have hg' : h.get b = some (.cells cs) := by
            unfold cellsOf at hg; split at hg
            · rename_i cs' hh; cases hg; exact hh
            · cases hg
          obtain ⟨hrow, _, hone⟩ := H.row hg' hb
          obtain ⟨l, hl1, hl2, hl3⟩ := (hrow.sub off (len * sz')).list
          refine ⟨some ⟨cb, o + off, none⟩, cap, l, by rw [h1], by rw [h1]; exact hlen, fun r hr => ⟨(h2 r hr).1, fun v hv => hone v ((h2 r hr).2 v hv)⟩, ?_, ?_, by simp⟩
          · rw [h3]; exact ⟨hl1, hl3⟩
          · intro ad had
            cases had
            intro j u hu
            rw [Addr.add_mid]
            exact hl2 j u hu
        · cases hr
    · cases hr

/-- What a slice that is appended, or copied, yields. -/
theorem Rd.src {sz : Nat} {rows : List (List AV)} {a : Option Addr} {l : List Value} (hr : Rd ι I w sz rows a l) {tx e' : TypeId} (hk : P.underlying tx = some (.slice e')) (cap : Nat) :
    Src P sz tx (.slice a rows.length cap) rows.length l w := by
  cases a with
  | none =>
    have := hr.none rfl
    subst this
    have hl : l = [] := by have := hr.len; simp at this; exact this
    subst hl
    exact Src.ofNil w hk cap
  | some ad =>
    exact Src.ofSlice w hk _ _ _ _ hr.len (hr.cell ad rfl) hr.one

theorem slc_bound {ρ : Env} {d n : Nat} {x : Opd} {c : Value} (hx : OR ι I w ρ x c) (hb : boundA ρ d (some x) = some n) : ∃ k, c = .int k n := by
  unfold OR at hx
  simp only [boundA] at hb
  cases hx' : x.ev ρ <;> simp only [hx'] at hb <;> try (cases hb; done)
  rename_i k i
  rw [hx'] at hx
  split at hb
  · rename_i h0
    cases hb
    cases hx
    exact ⟨k, by rw [Int.toNat_of_nonneg h0]⟩
  · cases hb

theorem run_bound (w : World) (k : IntKind) (n y : Nat) (code : BoundsCode) (h : n ≤ y) : (Instr.sliceBound (.int k n) y code).run P w = .ok n w := by
  simp [Instr.sliceBound, asIntOf, h]

/-- The optional operands. -/
def ORo (ι : Inj) (I : Imm) (w : World) (ρ : Env) : Option Opd → Option Value → Prop
  | none, none => True
  | some x, some c => OR ι I w ρ x c
  | _, _ => False

theorem run_bounds {ρ : Env} {lo hi mx : Option Opd} {clo chi cmx : Option Value} (hlo : ORo ι I w ρ lo clo) (hhi : ORo ι I w ρ hi chi) (hmx : ORo ι I w ρ mx cmx)
    {len cap l hh m : Nat} (h1 : boundA ρ len hi = some hh) (h2 : boundA ρ 0 lo = some l) (h3 : boundA ρ cap mx = some m) (hlh : l ≤ hh) (hlen : len ≤ cap)
    (hhm : hh ≤ m) (hm : m ≤ cap) (hhi' : mx.isSome → hi.isSome) (b : Bool) :
    (Instr.sliceBounds b len cap clo chi cmx).run P w = .ok (l, hh, m) w := by
  unfold Instr.sliceBounds
  cases mx with
  | none =>
    cases cmx with
    | some _ => exact hmx.elim
    | none =>
      simp only [boundA, Option.some.injEq] at h3
      subst h3
      cases hi with
      | none =>
        cases chi with
        | some _ => exact hhi.elim
        | none =>
          simp only [boundA, Option.some.injEq] at h1
          subst h1
          cases lo with
          | none =>
            cases clo with
            | some _ => exact hlo.elim
            | none => simp only [boundA, Option.some.injEq] at h2; subst h2; simp
          | some x =>
            cases clo with
            | none => exact hlo.elim
            | some c =>
              obtain ⟨k, rfl⟩ := slc_bound hlo h2
              simp [run_bound (P := P) w k l _ _ hlh]
      | some y =>
        cases chi with
        | none => exact hhi.elim
        | some cy =>
          obtain ⟨ky, rfl⟩ := slc_bound hhi h1
          cases lo with
          | none =>
            cases clo with
            | some _ => exact hlo.elim
            | none => simp only [boundA, Option.some.injEq] at h2; subst h2; simp [run_bound (P := P) w ky hh _ _ hhm]
          | some x =>
            cases clo with
            | none => exact hlo.elim
            | some c =>
              obtain ⟨k, rfl⟩ := slc_bound hlo h2
              simp [run_bound (P := P) w k l _ _ hlh, run_bound (P := P) w ky hh _ _ hhm]
  | some z =>
    cases cmx with
    | none => exact hmx.elim
    | some cz =>
      obtain ⟨kz, rfl⟩ := slc_bound hmx h3
      cases hi with
      | none => simp at hhi'
      | some y =>
        cases chi with
        | none => exact hhi.elim
        | some cy =>
          obtain ⟨ky, rfl⟩ := slc_bound hhi h1
          cases lo with
          | none =>
            cases clo with
            | some _ => exact hlo.elim
            | none => simp only [boundA, Option.some.injEq] at h2; subst h2; simp [run_bound (P := P) w ky hh _ _ hhm, run_bound (P := P) w kz m _ _ hm]
          | some x =>
            cases clo with
            | none => exact hlo.elim
            | some c =>
              obtain ⟨k, rfl⟩ := slc_bound hlo h2
              simp [run_bound (P := P) w k l _ _ hlh, run_bound (P := P) w ky hh _ _ hhm, run_bound (P := P) w kz m _ _ hm]

theorem sub_rows {t' : Tail} {xs : List (List AV)} {cb o s sz l n cap' : Nat} {g : Nat → Nat → Value}
    (hs : ∀ (i : Nat) (row : List AV), xs[i]? = some row → row.length = s)
    (hI : ∀ i j, i < xs.length → j < s → I cb (o + i * s + j))
    (hc : ∀ i j, i < xs.length → j < s → w.cell? ⟨cb, o + i * s + j, none⟩ = some (g i j))
    (hv : ∀ (i : Nat) (row : List AV) (j : Nat) (v : AV), xs[i]? = some row → row[j]? = some v → VR ι I w v (g i j))
    (h1 : ∀ row ∈ xs, ∀ v ∈ row, AV.one v = true) (hk : headOk sz xs = true) (hn : l + n ≤ xs.length) (hcap : n ≤ cap') (o' : Nat) (ho : n ≠ 0 → o' = o + l * sz)
    (ht : (n ≠ 0 → s = sz ∧ o' = o + l * s) → TailOk ι cb o' s n cap' t') :
    VR ι I w (.vs ((xs.drop l).take n) t') (.slice (some ⟨cb, o', none⟩) n cap') := by
  have hlen : ((xs.drop l).take n).length = n := by simp; omega
  have hall := headOk_all hs hk
  have hss : n ≠ 0 → s = sz := by
    intro h0
    have hl : l < xs.length := by omega
    rw [← hs l _ (List.getElem?_eq_getElem hl)]
    exact hall _ (List.getElem_mem hl)
  have hget : ∀ (i : Nat) (row : List AV), ((xs.drop l).take n)[i]? = some row → xs[l + i]? = some row ∧ i < n := by
    intro i row hi
    rw [List.getElem?_take] at hi
    split at hi
    · rename_i hlt; rw [List.getElem?_drop] at hi; exact ⟨hi, hlt⟩
    · cases hi
  have hoff : ∀ i j, i < n → o' + i * s + j = o + (l + i) * s + j := by
    intro i j hi
    have h0 : n ≠ 0 := by omega
    rw [ho h0, ← hss h0, Nat.add_mul]; omega
  have key := VR.vs (ι := ι) (I := I) (w := w) ((xs.drop l).take n) t' cb o' s cap' (fun i j => g (l + i) j) (fun i row hi => hs _ row (hget i row hi).1)
    (fun i j hi hj => by rw [hlen] at hi; rw [hoff i j hi]; exact hI _ _ (by omega) hj)
    (fun i j hi hj => by rw [hlen] at hi; rw [hoff i j hi]; exact hc _ _ (by omega) hj)
    (fun i row j v hi hj => hv _ row j v (hget i row hi).1 hj)
    (fun row hr v hv' => h1 row (List.mem_of_mem_drop (List.mem_of_mem_take hr)) v hv') (by rw [hlen]; exact hcap)
    (by rw [hlen]; exact ht (fun h0 => ⟨hss h0, by rw [ho h0, hss h0]⟩))
  rw [hlen] at key
  exact key

theorem slc_run {t e : TypeId} {sz : Nat} (hu : P.underlying t = some (.slice e)) (hsz : (P.info? e).map (·.size) = some sz) (w : World) {a : Option Addr} {len cap l hh m : Nat} {clo chi cmx : Option Value}
    (hb : (Instr.sliceBounds true len cap clo chi cmx).run P w = .ok (l, hh, m) w) :
    (Instr.sliceAt t (.slice a len cap) clo chi cmx).run P w = .ok (.slice (if m = l then a else a.map (·.add (l * sz))) (hh - l) (m - l)) w := by
  simp [Instr.sliceAt, run_under hu, Instr.slice, hb, run_size hsz]

theorem slc_sim (H : HR ι I h w) {t e : TypeId} {sz : Nat} (hu : P.underlying t = some (.slice e)) (hsz : (P.info? e).map (·.size) = some sz) {ρ : Env} {lo hi mx : Option Opd} {clo chi cmx : Option Value}
    (hlo : ORo ι I w ρ lo clo) (hhi : ORo ι I w ρ hi chi) (hmx : ORo ι I w ρ mx cmx) {x v : AV} {c : Value} (hx : VR ι I w x c) (hv : aslice ρ sz x lo hi mx = some v) :
    PSim P ι I h w v (Instr.sliceAt t c clo chi cmx) := by
  cases hx <;> try (simp only [aslice] at hv; cases hv; done)
  case nils =>
    simp only [aslice, Option.bind_eq_bind, Option.bind_eq_some_iff] at hv
    obtain ⟨hh, h1, l, h2, m, h3, hv⟩ := hv
    split at hv
    · rename_i hc
      obtain ⟨rfl, rfl, rfl, hmh⟩ := hc
      cases hv
      cases mx with
      | none =>
        have hb := run_bounds (P := P) hlo hhi hmx h1 h2 (cap := 0) rfl (Nat.le_refl _) (Nat.le_refl _) (Nat.le_refl _) (Nat.le_refl _) (by simp) true
        exact .same H (slc_run hu hsz w hb) .nils
      | some z =>
        have hb := run_bounds (P := P) hlo hhi hmx h1 h2 (cap := 0) h3 (Nat.le_refl _) (Nat.le_refl _) (Nat.le_refl _) (Nat.le_refl _) hmh true
        exact .same H (slc_run hu hsz w hb) .nils
    · cases hv
  case vsNil t' ht =>
    simp only [aslice, Option.bind_eq_bind, Option.bind_eq_some_iff, List.length_nil] at hv
    obtain ⟨hh, h1, l, h2, hv⟩ := hv
    split at hv
    · rename_i hc
      obtain ⟨hc1, hc2, -⟩ := hc
      have : hh = 0 := by omega
      subst this
      have : l = 0 := by omega
      subst this
      cases mx with
      | none =>
        cases hv
        have hb := run_bounds (P := P) hlo hhi hmx h1 h2 (cap := 0) rfl (Nat.le_refl _) (Nat.le_refl _) (Nat.le_refl _) (Nat.le_refl _) (by simp) true
        refine .same H (slc_run hu hsz w hb) ?_
        simp
        refine .vsNil _ ?_
        rcases ht with rfl | rfl <;> simp [sliceTail]
      | some z =>
        simp only [Option.bind_eq_some_iff] at hv
        obtain ⟨m, h3, hv⟩ := hv
        split at hv
        · rename_i hc
          obtain ⟨hi', hm1, hm2⟩ := hc
          have : m = 0 := by omega
          subst this
          cases hv
          have hb := run_bounds (P := P) hlo hhi hmx h1 h2 (cap := 0) h3 (Nat.le_refl _) (Nat.le_refl _) (Nat.le_refl _) (Nat.le_refl _) (fun _ => hi') true
          refine .same H (slc_run hu hsz w hb) ?_
          simp
          exact .vsNil _ (.inr rfl)
        · cases hv
    · cases hv
  case vsZ t' a cap ht =>
    simp only [aslice, Option.bind_eq_bind, Option.bind_eq_some_iff, List.length_nil] at hv
    obtain ⟨hh, h1, l, h2, hv⟩ := hv
    split at hv
    · rename_i hc
      obtain ⟨hc1, hc2, -⟩ := hc
      have : hh = 0 := by omega
      subst this
      have : l = 0 := by omega
      subst this
      have haddr : ∀ m, (if m = 0 then some a else (some a).map (·.add (0 * sz))) = some a := by intro m; split <;> simp [Addr.add]
      cases mx with
      | none =>
        cases hv
        have hb := run_bounds (P := P) hlo hhi hmx h1 h2 (cap := cap) rfl (Nat.le_refl _) (Nat.zero_le _) (Nat.zero_le _) (Nat.le_refl _) (by simp) true
        refine .same H (slc_run hu hsz w hb) ?_
        rw [haddr]
        simp
        refine .vsZ _ _ _ ?_
        rcases ht with rfl | ⟨rfl, rfl⟩ <;> simp [sliceTail]
      | some z =>
        simp only [Option.bind_eq_some_iff] at hv
        obtain ⟨m, h3, hv⟩ := hv
        split at hv
        · rename_i hc
          obtain ⟨hi', hm1, hm2⟩ := hc
          have : m = 0 := by omega
          subst this
          cases hv
          have h3' : boundA ρ cap (some z) = some 0 := h3
          have hb := run_bounds (P := P) hlo hhi hmx h1 h2 (cap := cap) h3' (Nat.le_refl _) (Nat.zero_le _) (Nat.le_refl _) (Nat.zero_le _) (fun _ => hi') true
          refine .same H (slc_run hu hsz w hb) ?_
          rw [haddr]
          simp
          exact .vsZ _ _ _ (.inr ⟨rfl, rfl⟩)
        · cases hv
    · cases hv
  case vs xs t' cb o s cap g hs hI hc hv' hone hcap ht =>
    simp only [aslice, Option.bind_eq_bind, Option.bind_eq_some_iff] at hv
    obtain ⟨hh, h1, l, h2, hv⟩ := hv
    split at hv
    · rename_i hcond
      obtain ⟨hc1, hc2, hk⟩ := hcond
      cases mx with
      | none =>
        cases hv
        have hb := run_bounds (P := P) hlo hhi hmx h1 h2 (cap := cap) rfl hc1 hcap (by omega) (Nat.le_refl _) (by simp) true
        refine .same H (slc_run hu hsz w hb) ?_
        have haddr : (if cap = l then some (⟨cb, o, none⟩ : Addr) else (some (⟨cb, o, none⟩ : Addr)).map (·.add (l * sz))) = some ⟨cb, if cap = l then o else o + l * sz, none⟩ := by
          split <;> simp [Addr.add_mid]
        rw [haddr]
        refine sub_rows (l := l) (n := hh - l) (cap' := cap - l) hs hI hc hv' hone hk (by omega) (by omega) _ (fun h0 => by rw [if_neg (by omega)]) (fun hfact => ?_)
        cases t' with
        | unk => trivial
        | full =>
          have hcl : cap = xs.length := ht
          simp only [sliceTail]
          by_cases hcc : hh = xs.length
          · rw [if_pos hcc]; show cap - l = hh - l; omega
          · rw [if_neg hcc]; trivial
        | own k =>
          simp only [sliceTail]
          by_cases hcc : hh = xs.length ∧ l < hh
          · rw [if_pos hcc]
            obtain ⟨h5, h6⟩ := hfact (by omega)
            refine ⟨by omega, ?_⟩
            rw [h6, ht.2]
            congr 2
            · rw [hcc.1, Nat.sub_mul]
              have := Nat.mul_le_mul_right s (show l ≤ xs.length by omega)
              omega
            · rw [Nat.sub_mul]
              have := Nat.mul_le_mul_right s (show l ≤ cap by omega)
              omega
          · rw [if_neg hcc]; trivial
      | some z =>
        simp only [Option.bind_eq_some_iff] at hv
        obtain ⟨m, h3, hv⟩ := hv
        split at hv
        · rename_i hcond
          obtain ⟨hi', hm1, hm2⟩ := hcond
          cases hv
          have h3' : boundA ρ cap (some z) = some m := h3
          have hb := run_bounds (P := P) hlo hhi hmx h1 h2 (cap := cap) h3' hc1 hcap hm1 (by omega) (fun _ => hi') true
          refine .same H (slc_run hu hsz w hb) ?_
          have haddr : (if m = l then some (⟨cb, o, none⟩ : Addr) else (some (⟨cb, o, none⟩ : Addr)).map (·.add (l * sz))) = some ⟨cb, if m = l then o else o + l * sz, none⟩ := by
            split <;> simp [Addr.add_mid]
          rw [haddr]
          refine sub_rows (l := l) (n := hh - l) (cap' := m - l) hs hI hc hv' hone hk (by omega) (by omega) _ (fun h0 => by rw [if_neg (by omega)]) (fun _ => ?_)
          by_cases hmh : m = hh
          · rw [if_pos hmh]; show m - l = hh - l; omega
          · rw [if_neg hmh]; trivial
        · cases hv
    · cases hv
  case rs b off len sz' cb o room cap hb' hlen hcap =>
    simp only [aslice, Option.bind_eq_bind, Option.bind_eq_some_iff] at hv
    obtain ⟨hh, h1, l, h2, hv⟩ := hv
    split at hv
    · rename_i hcond
      obtain ⟨hmn, hc1, hc2, rfl⟩ := hcond
      cases mx with
      | some _ => simp at hmn
      | none =>
        have hb := run_bounds (P := P) hlo hhi hmx h1 h2 (cap := cap) rfl hc1 hlen (by omega) (Nat.le_refl _) (by simp) true
        refine .same H (slc_run hu hsz w hb) ?_
        split at hv
        · rename_i hlh
          subst hlh
          have : (if cap = l then some (⟨cb, o + off, none⟩ : Addr) else (some (⟨cb, o + off, none⟩ : Addr)).map (·.add (l * sz'))) = some ⟨cb, if cap = l then o + off else o + off + l * sz', none⟩ := by
            split <;> simp [Addr.add_mid]
          rw [this, Nat.sub_self]
          cases lo with
          | some lo =>
            simp at hv
            subst hv
            exact .vs [] .unk cb _ 0 _ (fun _ _ => undef) (by simp) (by simp) (by simp) (by simp) (by simp) (by simp) trivial
          | none =>
            simp only [boundA, Option.some.injEq] at h2
            subst h2
            simp at hv
            subst hv
            have e : (if cap = 0 then o + off else o + off + 0 * sz') = o + off := by split <;> simp
            rw [e]
            exact .rs b off 0 sz' cb o room (cap - 0) hb' (Nat.zero_le _) (by simpa using hcap)
        · rename_i hlh
          cases hv
          rw [if_neg (by omega)]
          simp only [Option.map_some, Addr.add_mid]
          rw [Nat.add_assoc]
          refine .rs b (off + l * sz') (hh - l) sz' cb o room (cap - l) hb' (by omega) ?_
          rw [Nat.sub_mul]
          have := Nat.mul_le_mul_right sz' (show l ≤ cap by omega)
          omega
    · cases hv
  case rk b off len sz' cap cb o room hb' hlen hcap =>
    simp only [aslice, Option.bind_eq_bind, Option.bind_eq_some_iff] at hv
    obtain ⟨hh, h1, l, h2, m, h3, hv⟩ := hv
    split at hv
    · rename_i hcond
      obtain ⟨hc1, hc2, hc3, rfl, hc5⟩ := hcond
      have hb := run_bounds (P := P) hlo hhi hmx h1 h2 (cap := cap) h3 hc1 hlen hc2 hc3 hc5 true
      refine .same H (slc_run hu hsz w hb) ?_
      by_cases hml : m = l
      · rw [if_pos hml] at hv
        cases hv
        rw [if_pos hml, show hh - l = 0 by omega, show m - l = 0 by omega]
        exact .vsZ _ _ _ (.inr ⟨rfl, rfl⟩)
      · rw [if_neg hml] at hv
        cases hv
        rw [if_neg hml]
        simp only [Option.map_some, Addr.add_mid]
        rw [Nat.add_assoc]
        refine .rk b (off + l * sz') (hh - l) sz' (m - l) cb o room hb' (by omega) ?_
        rw [Nat.sub_mul]
        have := Nat.mul_le_mul_right sz' (show l ≤ m by omega)
        have := Nat.mul_le_mul_right sz' (show m ≤ cap by omega)
        omega
    · cases hv

end
end Go.Proofs.YtjkllffbjeajhaaGreat.Am
