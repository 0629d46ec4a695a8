/- The abstract machine's operations on slices, maps, strings: each does what the model's does. Conditions: none. -/
import Derived.Test.YtjkllffbjeajhaaGreatAmA
import Derived.Deep.Upon
import Derived.Lib.AppendZerosOnto
import Derived.Lib.Overlaps
set_option linter.unusedSimpArgs false
set_option linter.unusedVariables false
set_option linter.unnecessarySimpa false
namespace Go.Proofs.YtjkllffbjeajhaaGreat.Am
open Go

section
variable {P : Program} {ι : Inj} {I : Imm} {h : AHeap} {w : World}

/-- The entries of a map. -/
def ER (ι : Inj) (I : Imm) (w : World) (es : List (AV × AV)) (es' : List MapEntry) : Prop :=
  es.length = es'.length ∧ ∀ (i : Nat) (k v : AV) (e : MapEntry), es[i]? = some (k, v) → es'[i]? = some e → VR ι I w k e.key ∧ VR ι I w v e.val

theorem ER.tail {p : AV × AV} {e : MapEntry} {es : List (AV × AV)} {es' : List MapEntry} (hr : ER ι I w (p :: es) (e :: es')) : ER ι I w es es' :=
  ⟨by simpa using hr.1, fun i k v e h1 h2 => hr.2 (i + 1) k v e (by simpa using h1) (by simpa using h2)⟩

theorem find_rel (kk : IntKind) {kd : IntKind} {n : Int} : ∀ (es : List (AV × AV)) (es' : List MapEntry) (i : Nat) (r : Option Nat), ER ι I w es es' → findA (.int kd n) es i = some r →
    (r = none ∧ Instr.findNow (.int kk) (.int kd n) es' i = some none) ∨
    ∃ j e, r = some (i + j) ∧ es'[j]? = some e ∧ e.key = .int kd n ∧ Instr.findNow (.int kk) (.int kd n) es' i = some (some (i + j, e.val))
  | [], [], i, r, _, h => by simp [findA] at h; subst h; exact .inl ⟨rfl, rfl⟩
  | [], _ :: _, i, r, hr, _ => by simp [ER] at hr
  | _ :: _, [], i, r, hr, _ => by simp [ER] at hr
  | (k', v) :: es, e :: es', i, r, hr, h => by
    have hk := (hr.2 0 k' v e rfl rfl).1
    simp only [findA] at h
    cases hk' : k' <;> simp only [hk'] at h <;> try (cases h; done)
    rename_i kd' n'
    subst hk'
    split at h
    · rename_i hkd
      subst hkd
      have hek : e.key = .int kd n' := by
        generalize he : e.key = ek at hk
        cases hk
        rfl
      split at h
      · rename_i heq
        cases h
        have : n = n' := by simpa using heq
        subst this
        refine .inr ⟨0, e, rfl, rfl, hek, ?_⟩
        simp [Instr.findNow, hek, Instr.sameNow]
      · rename_i hne
        have hne' : (n == n') = false := by simpa using hne
        rcases find_rel kk es es' (i + 1) r hr.tail h with ⟨rfl, hf⟩ | ⟨j, e', rfl, he', hk', hf⟩
        · refine .inl ⟨rfl, ?_⟩
          simp [Instr.findNow, hek, Instr.sameNow, hne', hf]
        · refine .inr ⟨j + 1, e', by congr 1; omega, by simpa using he', hk', ?_⟩
          simp [Instr.findNow, hek, Instr.sameNow, hne', hf]; omega
    · cases h

theorem run_checkKey (w : World) {key : TypeId} {kk : IntKind} (hk : P.underlying key = some (.int kk)) (b : Bool) (k : IntKind) (n : Int) :
    (Instr.checkKey b 10000 key (.int k n)).run P w = .ok () w := by
  suffices key' : ∀ m, (Instr.checkKey b (m + 1) key (.int k n)).run P w = .ok () w from key' 9999
  intro m
  simp [Instr.checkKey, run_under hk]

theorem run_findKey (w : World) {key : TypeId} {kk : IntKind} (hk : P.underlying key = some (.int kk)) {k : Value} {es : List MapEntry} {r : Option (Nat × Value)}
    (hf : Instr.findNow (.int kk) k es 0 = some r) : (Instr.findKey key k es).run P w = .ok r w := by
  simp [Instr.findKey, run_under hk, hf]

theorem run_getMap (w : World) {cb : Nat} {es : Array MapEntry} {clock : Nat} (hm : w.heap[cb]? = some (.map es clock)) : (getObj cb).run P w = .ok (.map es clock) w := by
  simp [getObj, Sem.run, hm]

theorem HR.map (H : HR ι I h w) {b cb : Nat} {es : List (AV × AV)} (hg : h.get b = some (.map es)) (hb : ι b = some (.map cb)) :
    ∃ es' clock, w.heap[cb]? = some (.map es' clock) ∧ ER ι I w es es'.toList ∧ Stamps es' clock := by
  obtain ⟨cb', es', clock, hl, hm, hlen, hv⟩ := H.maps b es _ hg hb
  cases hl
  exact ⟨es', clock, hm, ⟨by simpa using hlen.1, fun i k v e h1 h2 => hv i k v e h1 (by simpa using h2)⟩, hlen.2⟩

theorem run_zero {e : TypeId} {ie : TypeInfo} {z : Value} (hie : P.info? e = some ie) (hz : ie.zero = some z) (w : World) : (zeroValue e).run P w = .ok z w := by
  simp [zeroValue, typeInfo, hie, hz]

theorem LR.two {a b : AV} {c d : Value} (h1 : VR ι I w a c) (h2 : VR ι I w b d) : VR ι I w (.tup [a, b]) (.tuple #[c, d]) :=
  .tup [a, b] [c, d] rfl (LR.cons h1 (LR.cons h2 LR.nil)).2

theorem lookup_sim (H : HR ι I h w) {t key e : TypeId} {kk : IntKind} {ie : TypeInfo} {z : Value} {za : AV} (hu : P.underlying t = some (.map key e)) (hk : P.underlying key = some (.int kk))
    (hie : P.info? e = some ie) (hz : ie.zero = some z) (hza : VR ι I w za z) (ok : Bool) {m k v : AV} {cm ck : Value} (hm : VR ι I w m cm) (hkv : VR ι I w k ck)
    (hv : lookupM za ok h m k = some v) : PSim P ι I h w v (Instr.lookup t cm ck ok) := by
  unfold lookupM at hv
  have hnone : ∀ w', w' = w → (∃ c, (Instr.lookup t (.map none) ck ok).run P w' = .ok c w' ∧ True) ∨ True := fun _ _ => .inr trivial
  cases hm <;> try (simp only [] at hv; cases hv; done)
  case mapNil =>
    cases hkv <;> simp only [] at hv <;> try (cases hv; done)
    rename_i kd n
    cases hv
    refine .same H (c := if ok then .tuple #[z, .bool false] else z) ?_ ?_
    · simp [Instr.lookup, run_under hu, run_checkKey w hk, run_findKey w hk (show Instr.findNow (.int kk) (.int kd n) [] 0 = some none from rfl), run_zero hie hz]
    · cases ok
      · exact hza
      · exact LR.two hza (.bool false)
  case map b cb hb =>
    cases hkv <;> simp only [] at hv <;> try (cases hv; done)
    rename_i kd n
    split at hv
    · rename_i es hg
      obtain ⟨es', clock, hmm, her, -⟩ := H.map hg hb
      cases hl : lookupA (.int kd n) es with
      | none => simp [hl] at hv
      | some r =>
        simp [hl] at hv
        unfold lookupA at hl
        cases hf : findA (.int kd n) es 0 with
        | none => simp [hf] at hl
        | some o =>
          simp [hf] at hl
          rcases find_rel kk es es'.toList 0 o her hf with ⟨rfl, hfn⟩ | ⟨j, ent, rfl, hent, hkey, hfn⟩
          · simp at hl
            subst hl
            simp at hv
            subst hv
            refine .same H (c := if ok then .tuple #[z, .bool false] else z) ?_ ?_
            · simp [Instr.lookup, run_under hu, run_getMap w hmm, run_checkKey w hk, run_findKey w hk hfn, run_zero hie hz]
            · cases ok
              · exact hza
              · exact LR.two hza (.bool false)
          · have hj : j < es.length := by rw [her.1]; exact (List.getElem?_eq_some_iff.1 hent).1
            have hej := List.getElem?_eq_getElem hj
            simp [hej] at hl
            subst hl
            simp at hv
            subst hv
            have hvr := (her.2 j es[j].1 es[j].2 ent (by rw [hej]) hent).2
            refine .same H (c := if ok then .tuple #[ent.val, .bool true] else ent.val) ?_ ?_
            · simp [Instr.lookup, run_under hu, run_getMap w hmm, run_checkKey w hk, run_findKey w hk hfn]
            · cases ok
              · exact hvr
              · exact LR.two hvr (.bool true)
    · cases hv

end
end Go.Proofs.YtjkllffbjeajhaaGreat.Am

namespace Go.Proofs.YtjkllffbjeajhaaGreat.Am
open Go

section
variable {P : Program} {ι : Inj} {I : Imm} {h : AHeap} {w : World}

/-- Fields that are whole numbers, each of one cell. -/
def intFields (P : Program) : List Field → Option (List Nat)
  | [] => some []
  | f :: fs => match P.underlying f.type, intFields P fs with
    | some (.int _), some os => if f.name ≠ "_" then some (f.offset :: os) else none
    | _, _ => none

theorem eqFields_sim (d : Nat) {xs ys : List AV} {xs' ys' : List Value} (hx : LR ι I w xs xs') (hy : LR ι I w ys ys') : ∀ (fs : List Field) (os : List Nat) (b : Bool), intFields P fs = some os →
    eqCells xs ys os = some b → (Op.eqFields (d + 1) xs'.toArray ys'.toArray fs).run P w = .ok b w
  | [], os, b, hf, he => by
    simp [intFields] at hf; subst hf; simp [eqCells] at he; subst he; simp [Op.eqFields]
  | f :: fs, os, b, hf, he => by
    simp only [intFields] at hf
    split at hf
    · rename_i k os' hu hos
      split at hf
      · rename_i hname
        cases hf
        simp only [eqCells] at he
        split at he
        · rename_i k1 a1 k2 b1 h1 h2
          obtain ⟨c1, hc1, hv1⟩ := hx.get h1
          obtain ⟨c2, hc2, hv2⟩ := hy.get h2
          cases hv1; cases hv2
          split at he
          · rename_i hk
            subst hk
            have hp1 : (part f.type xs'.toArray f.offset).run P w = .ok (.int k1 a1) w := by simp [part, run_agg hu, hc1]
            have hp2 : (part f.type ys'.toArray f.offset).run P w = .ok (.int k1 b1) w := by simp [part, run_agg hu, hc2]
            have heq := run_equalIn_int (P := P) w d f.type k1 k a1 b1 hu
            simp only [Op.eqFields, Sem.run_bind, Sem.run_ite, hname, ne_eq, not_false_eq_true, if_true, hp1, hp2, heq, Result.andThen_ok]
            split at he
            · rename_i hab
              rw [hab]
              simpa using eqFields_sim d hx hy fs os' b hos he
            · rename_i hab
              cases he
              have : (a1 == b1) = false := by simpa using hab
              rw [this]
              simp
          · cases he
        · cases he
      · cases hf
    · cases hf

theorem eqAgg_sim (H : HR ι I h w) {t : TypeId} {fs : Array Field} {os : List Nat} (hu : P.underlying t = some (.struct fs)) (hs : P.stoodInHeld t = false) (hf : intFields P fs.toList = some os) (neg : Bool)
    {x y v : AV} {cx cy : Value} (hx : VR ι I w x cx) (hy : VR ι I w y cy)
    (hv : eqAggA neg os x y = some v) :
    PSim P ι I h w v (binOp (if neg then .neq else .eql) t cx cy) := by
  unfold eqAggA at hv
  cases hx <;> try (simp only [] at hv; cases hv; done)
  cases hy <;> simp only [] at hv <;> try (cases hv; done)
  rename_i xs xs' hlx hvx ys ys' hly hvy
  cases he : eqCells xs ys os with
  | none => simp [he] at hv
  | some b =>
    simp [he] at hv
    subst hv
    have hfo : P.fieldsOf t = fs := by simp [Program.fieldsOf, hu]
    have hr : (Op.equal t (.agg xs'.toArray) (.agg ys'.toArray)).run P w = .ok b w := by
      have h1 := run_equalIn_struct (P := P) w 9999 t xs'.toArray ys'.toArray (by rw [hfo]; exact hu) hs
      have h2 := eqFields_sim (P := P) 9998 (xs := xs) (ys := ys) ⟨hlx, hvx⟩ ⟨hly, hvy⟩ fs.toList os b hf he
      rw [hfo] at h1
      exact h1.trans h2
    exact .same H (c := .bool (if neg then !b else b)) (by cases neg <;> simp [binOp, hr]) (.bool _)

theorem loop_bytes (w : World) (f : Value → ByteArray → Sem (ForInStep ByteArray)) (hf : ∀ n s, f (.int .u8 n) s = pure (ForInStep.yield (s.push (UInt8.ofNat n.toNat)))) : ∀ (rows : List (List AV)) (l : List Value) (bs : List UInt8) (s : ByteArray), (∀ r ∈ rows, r.length = 1) → LR ι I w rows.flatten l → bytesRows rows = some bs →
    (forIn (m := Sem) l s f).run P w = .ok ⟨s.data ++ bs.toArray⟩ w
  | [], l, bs, s, _, hl, hb => by
    simp [bytesRows] at hb; subst hb
    have : l = [] := by have := hl.1; simp at this; exact List.eq_nil_of_length_eq_zero this.symm
    subst this
    simp
  | r :: rows, l, bs, s, hu, hl, hb => by
    have hr := hu r (by simp)
    simp only [bytesRows] at hb
    split at hb
    · rename_i b bs' h1 h2
      cases hb
      obtain ⟨a, rfl⟩ : ∃ a, r = [a] := by
        match r, hr with
        | [a], _ => exact ⟨a, rfl⟩
      cases l with
      | nil => have := hl.1; simp at this
      | cons c l =>
        have hv : VR ι I w a c := hl.2 0 a c rfl rfl
        have hl' : LR ι I w rows.flatten l := ⟨by have := hl.1; simpa using this, fun i v c h1 h2 => hl.2 (i + 1) v c (by simpa using h1) (by simpa using h2)⟩
        simp only [byteOf] at h1
        split at h1
        · rename_i n heq
          cases heq
          cases h1
          cases hv
          have ih := loop_bytes w f hf rows l bs' (s.push (UInt8.ofNat n.toNat)) (fun r h => hu r (List.mem_cons_of_mem _ h)) hl' h2
          simp only [List.forIn_cons, hf, Sem.run_bind, Sem.run_pure, Result.andThen_ok]
          rw [ih]
          congr 1
          simp [ByteArray.push]
        · cases h1
    · cases hb

end
end Go.Proofs.YtjkllffbjeajhaaGreat.Am

namespace Go.Proofs.YtjkllffbjeajhaaGreat.Am
open Go

section
variable {P : Program} {ι : Inj} {I : Imm} {h : AHeap} {w : World}

theorem bytesStr_sim (H : HR ι I h w) {src dst e : TypeId} (hs : P.underlying src = some (.slice e)) (he : P.underlying e = some (.int .u8)) (hd : P.underlying dst = some .string)
    {x v : AV} {c : Value} (hx : VR ι I w x c) (hv : (((rowsA 1 h x).bind bytesRows).map fun bs => AV.str ⟨bs.toArray⟩) = some v) : PSim P ι I h w v (convert src dst c) := by
  cases hr : rowsA 1 h x with
  | none => simp [hr] at hv
  | some rows =>
    cases hb : bytesRows rows with
    | none => simp [hr, hb] at hv
    | some bs =>
      simp [hr, hb] at hv
      subst hv
      obtain ⟨a, cap, l, rfl, hle, R⟩ := rows_sim H hx hr
      refine .same H (c := .string ⟨bs.toArray⟩) ?_ (.str _)
      cases a with
      | none =>
        have := R.none rfl
        subst this
        simp [bytesRows] at hb
        subst hb
        simp [convert, run_under hs, run_under hd, run_under he, Conv.bytesToString]
        rfl
      | some ad =>
        have hc := R.cell ad rfl
        have hl : l.length = rows.length := by rw [R.len]; simp
        have hload : (loadCells ad rows.length).run P w = .ok l.toArray w := by
          rw [← hl]
          exact run_loadCells_list (P := P) w ad l (fun j u hu => hc j u hu)
        simp only [convert, Sem.run_bind, run_under hs, run_under hd, run_under he, Result.andThen_ok, Conv.bytesToString, hload]
        rw [← Array.forIn_toList]
        rw [loop_bytes (P := P) w _ (fun _ _ => rfl) rows l bs ByteArray.empty (fun r hr => (R.uni r hr).1) R.lr hb]
        have e : (ByteArray.empty.data ++ bs.toArray) = bs.toArray := by
          show (#[] : Array UInt8) ++ bs.toArray = bs.toArray
          simp
        rw [e]
        rfl

theorem freeze_heap (w : World) (a : Addr) (n : Nat) (k : Nat) (hk : k ≠ a.block) : (w.freeze a n).heap[k]? = w.heap[k]? := by
  unfold World.freeze
  split
  · rfl
  · simp only [Array.getElem?_modify]
    rw [if_neg (by omega)]

theorem strBytes_sim (H : HR ι I h w) {src dst e : TypeId} (hs : P.underlying src = some .string) (hd : P.underlying dst = some (.slice e)) (he : P.underlying e = some (.int .u8))
    {x v : AV} {c : Value} (hx : VR ι I w x c)
    (hv : strBytesA x = some v) : PSim P ι I h w v (convert src dst c) := by
  unfold strBytesA at hv
  cases hx <;> simp only [] at hv <;> try (cases hv; done)
  rename_i s
  split at hv
  · rename_i hsz
    cases hv
    have hfl : (s.data.toList.map fun b => [AV.int .u8 b.toNat]).flatten = s.data.toList.map fun b => AV.int .u8 b.toNat := by
      induction s.data.toList with
      | nil => rfl
      | cons a l ih => simp [ih]
    have hlr : LR ι I w (s.data.toList.map fun b => [AV.int .u8 b.toNat]).flatten (s.data.toList.map fun b => Value.int .u8 b.toNat) := by
      rw [hfl]
      refine ⟨by simp, fun i v c h1 h2 => ?_⟩
      simp only [List.getElem?_map, Option.map_eq_some_iff] at h1 h2
      obtain ⟨a, ha, rfl⟩ := h1
      obtain ⟨b, hb, rfl⟩ := h2
      rw [ha] at hb
      cases hb
      exact .int _ _
    have hlen : (s.data.toList.map fun b => [AV.int .u8 b.toNat]).length = s.size := by rw [List.length_map, Array.length_toList]; rfl
    let q := Question.appendCap s.size 0 e
    let cap := q.cut (w.tape w.drawn q)
    have hcap : s.size ≤ cap := by show s.size ≤ s.size + _; omega
    let arr : Array Value := (s.data.map fun b => Value.int .u8 b.toNat) ++ Array.replicate (cap - s.size) (Value.int .u8 0)
    let w1 : World := { w with drawn := w.drawn + 1, heap := w.heap.push (.cells arr e) }
    let w2 : World := w1.freeze { block := w.heap.size, off := arr.size } 1
    have hsz1 : w1.heap.size = w.heap.size + 1 := by simp [w1]
    have hrun : (convert src dst (.string s)).run P w = .ok (.slice (some ⟨w.heap.size, 0, none⟩) s.size cap) w2 := by
      have hsh : w1.shape? w.heap.size = some (e, arr.size) := by simp [World.shape?, w1]
      simp only [convert, Sem.run_bind, run_under hs, run_under hd, run_under he, Result.andThen_ok, Conv.stringToBytes, run_choose, Question.forced, Bool.false_eq_true, if_false, newRow, run_newObj, Sem.run_pure, markStringish, run_shape]
      have : ({ heap := w.heap.push (.cells arr e), tape := w.tape, drawn := w.drawn + 1, os := w.os, output := w.output } : World).shape? w.heap.size = some (e, arr.size) := hsh
      have hs2 : ({ heap := w.heap.push (.cells arr e), tape := w.tape, drawn := w.drawn + 1, os := w.os, output := w.output } : World).shape? w.heap.size = some (e, arr.size) := hsh
      show ((Sem.run P (match ({ heap := w.heap.push (.cells arr e), tape := w.tape, drawn := w.drawn + 1, os := w.os, output := w.output } : World).shape? w.heap.size with | some (fst, n) => freeze { block := w.heap.size, off := n } 1 | x => pure ()) w1).andThen fun a w' => Result.ok (Value.slice (some { block := w.heap.size, off := 0 }) s.size cap) w') = _
      rw [hs2]
      rfl
    have hheap : w2.heap = w.heap.push (.cells arr e (arr.size, arr.size + 1)) := by
      apply Array.ext
      · simp [w2, World.freeze, w1]
      · intro i h1 h2
        by_cases hi : i = w.heap.size
        · subst hi
          simp [w2, World.freeze, w1, Array.getElem_modify]
        · have hi' : i < w.heap.size := by simp at h2; omega
          simp [w2, World.freeze, w1, Array.getElem_modify, Ne.symm hi, Array.getElem_push, hi']
    have hf : ∀ (f : World → World) , True := fun _ => trivial
    obtain ⟨I', hvr, H', E⟩ := newRows H (w' := w2) (e := e) (fr := (arr.size, arr.size + 1)) (arr := arr) hheap (by simp [w2, World.freeze, w1]) (by simp [w2, World.freeze, w1]) (by simp [w2, World.freeze, w1])
      (rows := s.data.toList.map fun b => [AV.int .u8 b.toNat]) (sz := 1) (cap := cap) (by
        intro x hx
        obtain ⟨b, _, rfl⟩ := List.mem_map.1 hx
        exact ⟨rfl, by simp [AV.one]⟩) hlr (by
        intro i c hc
        have hi : i < s.data.size := by have := (List.getElem?_eq_some_iff.1 hc).1; simpa using this
        simp only [arr]
        rw [Array.getElem?_append_left (by simpa using hi)]
        simpa using hc) (by rw [hlen]; exact hcap) .unk (.inl rfl)
    rw [hlen] at hvr
    exact ⟨_, _, I', hrun, hvr, H', E⟩
  · cases hv

theorem part_sim (H : HR ι I h w) {im : Bool} {x v : AV} {c : Value} (hx : VR ι I w x c) (ts : Array TypeId) (ty : TypeId)
    (hv : partA im x = some v) : PSim P ι I h w v (if im then Builtin.imag_ ts ty #[c] else Builtin.real_ ts ty #[c]) := by
  unfold partA at hv
  cases hx <;> simp only [] at hv <;> try (cases hv; done)
  cases hv
  cases im
  · exact .same H rfl (.flt _ _)
  · exact .same H rfl (.flt _ _)

theorem minmaxL_sim {mx : Bool} {ρ : Env} : ∀ (ys : List Opd) (cys : List Value) (x v : AV) (cx : Value), ys.length = cys.length → (∀ (i : Nat) (y : Opd) (c : Value), ys[i]? = some y → cys[i]? = some c → OR ι I w ρ y c) →
    VR ι I w x cx → minmaxL mx ρ x ys = some v → ∃ c, (cys.foldlM (if mx then Builtin.max2 else Builtin.min2) cx).run P w = .ok c w ∧ VR ι I w v c
  | [], [], x, v, cx, _, _, hx, hv => by simp [minmaxL] at hv; subst hv; exact ⟨cx, by simp, hx⟩
  | [], _ :: _, _, _, _, hl, _, _, _ => by simp at hl
  | _ :: _, [], _, _, _, hl, _, _, _ => by simp at hl
  | y :: ys, cy :: cys, x, v, cx, hl, ho, hx, hv => by
    simp only [minmaxL] at hv
    cases hm : minmaxA mx x (y.ev ρ) with
    | none => simp [hm] at hv
    | some z =>
      simp [hm] at hv
      obtain ⟨c, hc, hvc⟩ := minmax_sim (P := P) hx (ho 0 y cy rfl rfl) hm
      obtain ⟨c', hc', hvc'⟩ := minmaxL_sim ys cys z v c (by simpa using hl) (fun i y c h1 h2 => ho (i + 1) y c (by simpa using h1) (by simpa using h2)) hvc hv
      refine ⟨c', ?_, hvc'⟩
      rw [List.foldlM_cons, Sem.run_bind, hc]
      exact hc'

end
end Go.Proofs.YtjkllffbjeajhaaGreat.Am

namespace Go.Proofs.YtjkllffbjeajhaaGreat.Am
open Go

section
variable {P : Program} {ι : Inj} {I : Imm} {h : AHeap} {w : World}

def Inj.set (ι : Inj) (id : Nat) (l : Loc) : Inj := fun b => if b = id then some l else ι b

theorem Inj.set_same (ι : Inj) (id : Nat) (l : Loc) : ι.set id l id = some l := by simp [Inj.set]
theorem Inj.set_other (ι : Inj) {id b : Nat} (l : Loc) (hb : b ≠ id) : ι.set id l b = ι b := by simp [Inj.set, hb]

theorem Loc.has_block {l : Loc} {k j : Nat} (h : l.has k j) : k = l.block := by
  cases l <;> simp [Loc.has] at h <;> simp [Loc.block, h]

theorem newBlk (H : HR ι I h w) {w' : World} {e : TypeId} {arr : Array Value} (hheap : w'.heap = w.heap.push (.cells arr e))
    (hos : w'.os = w.os) (htape : w'.tape = w.tape) (hout : w'.output = w.output) {id : Nat} (hid : ι id = none) {cs : List AV} (hone : ∀ v ∈ cs, v.one = true) (hle : cs.length ≤ arr.size)
    (hl : ∀ (j : Nat) (v : AV) (c : Value), cs[j]? = some v → arr[j]? = some c → VR ι I w v c) :
    HR (ι.set id (.cells w.heap.size 0 arr.size)) I (h.at id (.cells cs)) w' ∧ Ext (· = id) ι I h w (ι.set id (.cells w.heap.size 0 arr.size)) I (h.at id (.cells cs)) w' := by
  have hsz : w'.heap.size = w.heap.size + 1 := by rw [hheap]; simp
  have hblk : ∀ k, k < w.heap.size → w'.heap[k]? = w.heap[k]? := fun k hk => by rw [hheap, Array.getElem?_push, if_neg (by omega)]
  have hcell : ∀ k j, k < w.heap.size → w'.cell? ⟨k, j, none⟩ = w.cell? ⟨k, j, none⟩ := fun k j hk => by simp [World.cell?, hblk k hk]
  have hfro : ∀ k j, k < w.heap.size → w'.frozen? ⟨k, j, none⟩ = w.frozen? ⟨k, j, none⟩ := fun k j hk => by simp [World.frozen?, hblk k hk]
  have hnew : ∀ j, w'.cell? ⟨w.heap.size, j, none⟩ = arr[j]? := fun j => by simp [World.cell?, hheap]
  have hnewf : ∀ j, w'.frozen? ⟨w.heap.size, j, none⟩ = false := fun j => by simp [World.frozen?, hheap]
  have hget : ∀ b, b ≠ id → (h.at id (.cells cs)).get b = h.get b := fun b hb => by simp [AHeap.at, hb]
  have hgetid : (h.at id (.cells cs)).get id = some (.cells cs) := by simp [AHeap.at]
  have hmore : ∀ b l, ι b = some l → b ≠ id := fun b l hb he => by rw [he, hid] at hb; cases hb
  have E : Ext (· = id) ι I h w (ι.set id (.cells w.heap.size 0 arr.size)) I (h.at id (.cells cs)) w' :=
    { keep := fun b hb => Inj.set_other _ _ hb, more := fun b l hb => by rw [Inj.set_other _ _ (hmore b l hb)]; exact hb, next := by simp [AHeap.at]; omega, imm := fun _ _ h => h
      os := hos, tape := htape, output := hout, size := by omega, block := fun k hk _ => hblk k hk, cell := fun k j hk _ => hcell k j hk, frozen := fun k j hk _ => hfro k j hk
      own := by
        rintro k j ⟨b, l, x, hb, hg, hl'⟩
        by_cases hbi : b = id
        · subst hbi
          rw [Inj.set_same] at hb
          cases hb
          exact .inr (by have : k = w.heap.size := hl'; omega)
        · rw [Inj.set_other _ _ hbi] at hb
          rw [hget b hbi] at hg
          exact .inl ⟨b, l, x, hb, hg, hl'⟩
      inew := fun _ _ h => .inl h, lost := fun b hb _ => hget b hb }
  refine ⟨?_, E⟩
  have hcases : ∀ b l, (ι.set id (.cells w.heap.size 0 arr.size)) b = some l → (b = id ∧ l = .cells w.heap.size 0 arr.size) ∨ (b ≠ id ∧ ι b = some l) := by
    intro b l hb
    by_cases hbi : b = id
    · subst hbi; rw [Inj.set_same] at hb; cases hb; exact .inl ⟨rfl, rfl⟩
    · rw [Inj.set_other _ _ hbi] at hb; exact .inr ⟨hbi, hb⟩
  refine { dom := ?_, inside := ?_, cells := ?_, maps := ?_, tails := ?_, disj := ?_, imm := ?_, Iin := fun k j hk => by have := H.Iin k j hk; omega, pl := ?_ }
  · intro b l hb
    rcases hcases b l hb with ⟨rfl, _⟩ | ⟨_, hb⟩
    · simp [AHeap.at]; omega
    · have := H.dom b l hb; simp [AHeap.at]; omega
  · intro b l hb
    rcases hcases b l hb with ⟨rfl, rfl⟩ | ⟨_, hb⟩
    · simp [Loc.block]; omega
    · have := H.inside b l hb; omega
  · intro b cs' l hg hb
    rcases hcases b l hb with ⟨rfl, rfl⟩ | ⟨hbi, hb⟩
    · rw [hgetid] at hg
      cases hg
      refine ⟨_, _, _, rfl, hle, hone, fun j hj => ⟨arr[j], by rw [Nat.zero_add, hnew]; exact Array.getElem?_eq_getElem hj, hnewf _, fun v hv => ?_⟩⟩
      exact E.vr H (hl j v _ hv (Array.getElem?_eq_getElem hj))
    · rw [hget b hbi] at hg
      obtain ⟨cb, o, room, rfl, hle', h1, hc⟩ := H.cells b cs' l hg hb
      have hin : cb < w.heap.size := H.inside b _ hb
      refine ⟨cb, o, room, rfl, hle', h1, fun j hj => ?_⟩
      obtain ⟨c, hc1, hc2, hc3⟩ := hc j hj
      exact ⟨c, by rw [hcell _ _ hin]; exact hc1, by rw [hfro _ _ hin]; exact hc2, fun v hv => E.vr H (hc3 v hv)⟩
  · intro b es l hg hb
    rcases hcases b l hb with ⟨rfl, rfl⟩ | ⟨hbi, hb⟩
    · rw [hgetid] at hg; cases hg
    · rw [hget b hbi] at hg
      obtain ⟨cb, es', clock, rfl, hm, hl', hv⟩ := H.maps b es l hg hb
      refine ⟨cb, es', clock, rfl, by rw [hblk cb (H.inside b _ hb)]; exact hm, hl', fun i k v e h1 h2 => ?_⟩
      obtain ⟨a, c⟩ := hv i k v e h1 h2
      exact ⟨E.vr H a, E.vr H c⟩
  · intro b l hg hb
    rcases hcases b l hb with ⟨rfl, rfl⟩ | ⟨hbi, hb⟩
    · rw [hgetid] at hg; cases hg
    · rw [hget b hbi] at hg
      obtain ⟨cb, lo, hi, rfl, hc⟩ := H.tails b l hg hb
      have hin : cb < w.heap.size := H.inside b _ hb
      refine ⟨cb, lo, hi, rfl, fun j h1 h2 => ?_⟩
      obtain ⟨c, hc1, hc2⟩ := hc j h1 h2
      exact ⟨c, by rw [hcell _ _ hin]; exact hc1, by rw [hfro _ _ hin]; exact hc2⟩
  · intro b b' l l' x x' k j hne hb hb' hg hg' hl1 hl2
    rcases hcases b l hb with ⟨rfl, rfl⟩ | ⟨hbi, hb2⟩ <;> rcases hcases b' l' hb' with ⟨rfl, rfl⟩ | ⟨hbi', hb2'⟩
    · exact hne rfl
    · have := H.inside b' l' hb2'
      have := Loc.has_block hl2
      have : k = w.heap.size := hl1
      omega
    · have := H.inside b l hb2
      have := Loc.has_block hl1
      have : k = w.heap.size := hl2
      omega
    · rw [hget b hbi] at hg
      rw [hget b' hbi'] at hg'
      exact H.disj b b' l l' x x' k j hne hb2 hb2' hg hg' hl1 hl2
  · intro b l x k j hb hg hl' hI
    rcases hcases b l hb with ⟨rfl, rfl⟩ | ⟨hbi, hb⟩
    · have := H.Iin k j hI
      have : k = w.heap.size := hl'
      omega
    · rw [hget b hbi] at hg
      exact H.imm b l x k j hb hg hl' hI
  · intro b cs' cb o room hg hb n
    rcases hcases b _ hb with ⟨rfl, hl⟩ | ⟨hbi, hb⟩
    · cases hl
      exact hnewf n
    · rw [hget b hbi] at hg
      rw [hfro cb n (H.inside b _ hb)]
      exact H.pl b cs' cb o room hg hb n

/-- An operation that lays one block, or turns the heap. -/
def ESim (P : Program) (ι : Inj) (I : Imm) (h : AHeap) (w : World) (id : Nat) (v : AV) (h' : AHeap) (s : Sem Value) : Prop :=
  ∃ c w' ι' I', s.run P w = .ok c w' ∧ VR ι' I' w' v c ∧ HR ι' I' h' w' ∧ Ext (· = id) ι I h w ι' I' h' w'

theorem box_sim (H : HR ι I h w) {id : Nat} (hid : ι id = none) {x : AV} {c : Value} (hx : VR ι I w x c) (h1 : x.cells.all AV.one = true) (e : TypeId) :
    ESim P ι I h w id (.ptr id 0) (h.at id (.cells x.cells)) (Instr.box e c) := by
  have hc := VR.cells hx (notUndef h1)
  obtain ⟨H', E⟩ := newBlk H (w' := w.alloc (.cells c.cells e)) (arr := c.cells) rfl rfl rfl rfl hid (fun v hv => (List.all_eq_true.1 h1) v hv) (by rw [hc.1]; simp)
    (fun j v c' hv hc' => hc.2 j v c' hv (by simpa using hc'))
  exact ⟨.pointer (some ⟨w.heap.size, 0, none⟩), _, _, _, rfl, .ptr _ _ _ _ _ (Inj.set_same _ _ _), H', E⟩

theorem alloc_sim (H : HR ι I h w) {id : Nat} (hid : ι id = none) {e : TypeId} {ie : TypeInfo} {z : Value} {za : List AV} (hie : P.info? e = some ie) (hz : ie.zero = some z)
    (hza : LR ι I w za z.cells.toList) (h1 : ∀ v ∈ za, v.one = true) : ESim P ι I h w id (.ptr id 0) (h.at id (.cells za)) (Instr.alloc e true (.tuple #[])) := by
  obtain ⟨H', E⟩ := newBlk H (w' := w.alloc (.cells z.cells e)) (arr := z.cells) rfl rfl rfl rfl hid h1 (by rw [hza.1]; simp) (fun j v c' hv hc' => hza.2 j v c' hv (by simpa using hc'))
  exact ⟨.pointer (some ⟨w.heap.size, 0, none⟩), _, _, _, by simp [Instr.alloc, run_zero hie hz, newVar, newRow], .ptr _ _ _ _ _ (Inj.set_same _ _ _), H', E⟩

theorem mksliceR_sim (H : HR ι I h w) {id : Nat} (hid : ι id = none) {t e : TypeId} {ie : TypeInfo} {z : Value} {za : List AV} {n bytes : Nat} {l c : AV} {cl cc : Value}
    (hu : P.underlying t = some (.slice e)) (hie : P.info? e = some ie) (hzz : ie.zero = some z) (hsz : ie.size = z.cells.size) (hb : ie.bytes = bytes)
    (hz : LR ι I w za z.cells.toList) (h1 : ∀ v ∈ za, v.one = true) (h0 : za.length ≠ 0)
    (hl : VR ι I w l cl) (hc : VR ι I w c cc) (hm : makeLen bytes l c = some n) :
    ESim P ι I h w id (.rs id 0 n za.length) (h.at id (.cells (List.replicate n za).flatten)) (Instr.makeSlice t cl cc) := by
  obtain ⟨rfl, rfl, hn, hbn⟩ := makeLen_spec hm
  cases hl; cases hc
  have hr := run_mkslice (P := P) w hu hie hzz hsz hb hn hbn
  have hzl := zeros_LR hz n (.inl h0)
  have hzs : za.length = z.cells.size := by rw [hz.1]; simp
  obtain ⟨H', E⟩ := newBlk H (w' := w.alloc (.cells (madeCells z.cells (n * z.cells.size)) e)) (arr := madeCells z.cells (n * z.cells.size)) rfl rfl rfl rfl hid (cs := (List.replicate n za).flatten)
    (fun v hv => by
      obtain ⟨r, hr, hv⟩ := List.mem_flatten.1 hv
      rw [List.eq_of_mem_replicate hr] at hv
      exact h1 v hv) (by rw [hzl.1]; simp) (fun j v c' hv hc' => hzl.2 j v c' hv (by simpa using hc'))
  refine ⟨_, _, _, _, hr, ?_, H', E⟩
  refine .rs id 0 n za.length w.heap.size 0 _ n (Inj.set_same _ _ _) (Nat.le_refl _) ?_
  rw [size_madeCells, hzs]; omega

theorem bsliceR_sim (H : HR ι I h w) {id : Nat} (hid : ι id = none) {t e : TypeId} {ie : TypeInfo} {z : Value} {za : List AV} {ρ : Env} {n : Nat} {ps : List (Nat × Opd)} {ps' : Array (Nat × Value)} {rows : List (List AV)}
    (hu : P.underlying t = some (.slice e)) (hie : P.info? e = some ie) (hzz : ie.zero = some z) (hsz : ie.size = z.cells.size) (hsmall : n * ie.size ≤ 2 ^ 24)
    (hz : LR ι I w za z.cells.toList) (h1 : ∀ v ∈ za, v.one = true) (h0 : za.length ≠ 0) (hl : ps.length = ps'.size)
    (hp : ∀ (i j k : Nat) (x : Opd) (c : Value), ps[i]? = some (j, x) → ps'[i]? = some (k, c) → j = k ∧ OR ι I w ρ x c)
    (hf : fillR ρ za.length (List.replicate n za) ps = some rows) : ESim P ι I h w id (.rs id 0 n za.length) (h.at id (.cells rows.flatten)) (Instr.buildSlice t n ps') := by
  obtain ⟨hu', hn, cells, hc, hlr⟩ := bslice_cells hz h1 h0 hl hp hf
  have hzl : za.length = z.cells.size := by rw [hz.1]; simp
  have hr := run_bslice (P := P) w (parts := ps') (cells := cells) hu hie hzz hsz hsmall (by rw [hsz, ← hzl]; rw [← hzl] at hc; exact hc)
  obtain ⟨H', E⟩ := newBlk H (w' := w.alloc (.cells cells e)) (arr := cells) rfl rfl rfl rfl hid (cs := rows.flatten)
    (fun v hv => by
      obtain ⟨r, hr, hv⟩ := List.mem_flatten.1 hv
      exact (hu' r hr).2 v hv) (by rw [hlr.1]; simp) (fun j v c' hv hc' => hlr.2 j v c' hv (by simpa using hc'))
  refine ⟨_, _, _, _, hr, ?_, H', E⟩
  refine .rs id 0 n za.length w.heap.size 0 _ n (Inj.set_same _ _ _) (Nat.le_refl _) ?_
  have := hlr.1
  rw [flat_length rows (fun r h => (hu' r h).1), hn] at this
  simp at this
  omega

end
end Go.Proofs.YtjkllffbjeajhaaGreat.Am

namespace Go.Proofs.YtjkllffbjeajhaaGreat.Am
open Go

section
variable {P : Program} {ι : Inj} {I : Imm} {h : AHeap} {w : World}

/-- The world has turned at most at R, of what was there; what is written once may be marked there. -/
structure WCh0 (R : Nat → Nat → Prop) (w w' : World) : Prop where
  os : w'.os = w.os
  tape : w'.tape = w.tape
  output : w'.output = w.output
  size : w.heap.size ≤ w'.heap.size
  block : ∀ k, k < w.heap.size → (∀ j, ¬ R k j) → w'.heap[k]? = w.heap[k]?
  cell : ∀ k j, k < w.heap.size → ¬ R k j → w'.cell? ⟨k, j, none⟩ = w.cell? ⟨k, j, none⟩
  frozen : ∀ k j, k < w.heap.size → ¬ R k j → w'.frozen? ⟨k, j, none⟩ = w.frozen? ⟨k, j, none⟩

/-- The world has turned at most at R, of what was there. -/
structure WCh (R : Nat → Nat → Prop) (w w' : World) : Prop where
  os : w'.os = w.os
  tape : w'.tape = w.tape
  output : w'.output = w.output
  size : w.heap.size ≤ w'.heap.size
  block : ∀ k, k < w.heap.size → (∀ j, ¬ R k j) → w'.heap[k]? = w.heap[k]?
  cell : ∀ k j, k < w.heap.size → ¬ R k j → w'.cell? ⟨k, j, none⟩ = w.cell? ⟨k, j, none⟩
  frozen : ∀ k j, k < w.heap.size → w'.frozen? ⟨k, j, none⟩ = w.frozen? ⟨k, j, none⟩

theorem WCh.weak {R : Nat → Nat → Prop} {w w' : World} (W : WCh R w w') : WCh0 R w w' :=
  ⟨W.os, W.tape, W.output, W.size, W.block, W.cell, fun k j hk _ => W.frozen k j hk⟩

theorem WCh.trans {R R' : Nat → Nat → Prop} {w₁ w₂ w₃ : World} (A : WCh R w₁ w₂) (B : WCh R' w₂ w₃) (hR : ∀ k j, k < w₁.heap.size → R' k j → R k j) : WCh R w₁ w₃ where
  os := B.os.trans A.os
  tape := B.tape.trans A.tape
  output := B.output.trans A.output
  size := Nat.le_trans A.size B.size
  block k hk hr := (B.block k (Nat.lt_of_lt_of_le hk A.size) (fun j hj => hr j (hR k j hk hj))).trans (A.block k hk hr)
  cell k j hk hr := (B.cell k j (Nat.lt_of_lt_of_le hk A.size) (fun hj => hr (hR k j hk hj))).trans (A.cell k j hk hr)
  frozen k j hk := (B.frozen k j (Nat.lt_of_lt_of_le hk A.size)).trans (A.frozen k j hk)

theorem heap_setCells (cb : Nat) : ∀ (vs : List Value) (o : Nat) (w : World) (k : Nat), k ≠ cb → (w.setCells cb o vs).heap[k]? = w.heap[k]?
  | [], _, _, _, _ => rfl
  | v :: vs, o, w, k, hk => by
    rw [World.setCells, heap_setCells cb vs (o + 1) _ k hk, heap_setCell_other _ _ _ _ hk]

theorem size_setCells (cb : Nat) : ∀ (vs : List Value) (o : Nat) (w : World), (w.setCells cb o vs).heap.size = w.heap.size ∧ (w.setCells cb o vs).os = w.os ∧ (w.setCells cb o vs).tape = w.tape ∧ (w.setCells cb o vs).output = w.output
  | [], _, _ => ⟨rfl, rfl, rfl, rfl⟩
  | v :: vs, o, w => by
    obtain ⟨a, b, c, d⟩ := size_setCells cb vs (o + 1) (w.setCell ⟨cb, o, none⟩ v)
    exact ⟨by rw [World.setCells, a]; simp [World.setCell], by rw [World.setCells, b]; rfl, by rw [World.setCells, c]; rfl, by rw [World.setCells, d]; rfl⟩

theorem WCh.setCells (w : World) (cb o : Nat) (vs : List Value) : WCh (fun k j => k = cb ∧ o ≤ j ∧ j < o + vs.length) w (w.setCells cb o vs) := by
  obtain ⟨a, b, c, d⟩ := size_setCells cb vs o w
  refine { os := b, tape := c, output := d, size := by omega, block := fun k hk hr => ?_, cell := fun k j hk hr => ?_, frozen := fun k j hk => World.frozen?_setCells cb vs o w _ }
  · by_cases hkc : k = cb
    · subst hkc
      cases vs with
      | nil => rfl
      | cons v vs => exact (hr o ⟨rfl, Nat.le_refl _, by simp⟩).elim
    · exact heap_setCells cb vs o w k hkc
  · exact World.cell?_setCells_out cb vs o w _ (fun h1 _ => by
      by_cases hj : j < o
      · exact .inl hj
      · refine .inr (Nat.le_of_not_lt fun h2 => hr ⟨h1, by omega, h2⟩))

theorem WCh.push (w : World) (o : Obj) : WCh (fun _ _ => False) w (w.alloc o) := by
  have hblk : ∀ k, k < w.heap.size → (w.alloc o).heap[k]? = w.heap[k]? := fun k hk => by
    show (w.heap.push o)[k]? = _
    rw [Array.getElem?_push, if_neg (by omega)]
  exact { os := rfl, tape := rfl, output := rfl, size := by simp, block := fun k hk _ => hblk k hk
          cell := fun k j hk _ => by simp [World.cell?, hblk k hk], frozen := fun k j hk => by simp [World.frozen?, hblk k hk] }

theorem WCh.drew (w : World) : WCh (fun _ _ => False) w w.drew :=
  { os := rfl, tape := rfl, output := rfl, size := Nat.le_refl _, block := fun _ _ _ => rfl, cell := fun _ _ _ _ => rfl, frozen := fun _ _ _ => rfl }

/-- What may be written to is taken out of the heap: nothing else has turned. -/
theorem HR.away0 (H : HR ι I h w) {w' : World} {R : Nat → Nat → Prop} (W : WCh0 R w w') {h' : AHeap} (hnext : h.next ≤ h'.next) (hsub : ∀ b x, h'.get b = some x → h.get b = some x)
    (hR : ∀ b l x k j, ι b = some l → h'.get b = some x → l.has k j → ¬ R k j) (hI : ∀ k j, R k j → ¬ I k j) : HR ι I h' w' := by
  have hmono : ∀ a v, VR ι I w a v → VR ι I w' a v := fun a v hv => hv.mono (fun _ _ h => h) (fun _ _ h => h) (fun k j hk => W.cell k j (H.Iin k j hk) (fun hr => hI k j hr hk))
  refine { dom := fun b l hb => Nat.lt_of_lt_of_le (H.dom b l hb) hnext, inside := fun b l hb => Nat.lt_of_lt_of_le (H.inside b l hb) W.size, cells := ?_, maps := ?_, tails := ?_
           disj := fun b b' l l' x x' k j hne hb hb' hg hg' => H.disj b b' l l' x x' k j hne hb hb' (hsub _ _ hg) (hsub _ _ hg')
           imm := fun b l x k j hb hg => H.imm b l x k j hb (hsub _ _ hg), Iin := fun k j hk => Nat.lt_of_lt_of_le (H.Iin k j hk) W.size
           pl := fun b cs cb o room hg hb n => by rw [W.frozen cb n (H.inside b _ hb) (hR b _ _ cb n hb hg rfl)]; exact H.pl b cs cb o room (hsub _ _ hg) hb n }
  · intro b cs l hg hb
    obtain ⟨cb, o, room, rfl, hle, h1, hc⟩ := H.cells b cs l (hsub _ _ hg) hb
    have hin : cb < w.heap.size := H.inside b _ hb
    refine ⟨cb, o, room, rfl, hle, h1, fun j hj => ?_⟩
    obtain ⟨c, hc1, hc2, hc3⟩ := hc j hj
    have hnr := hR b _ _ cb (o + j) hb hg rfl
    exact ⟨c, by rw [W.cell _ _ hin hnr]; exact hc1, by rw [W.frozen _ _ hin hnr]; exact hc2, fun v hv => hmono _ _ (hc3 v hv)⟩
  · intro b es l hg hb
    obtain ⟨cb, es', clock, rfl, hm, hl', hv⟩ := H.maps b es l (hsub _ _ hg) hb
    have hin : cb < w.heap.size := H.inside b _ hb
    refine ⟨cb, es', clock, rfl, by rw [W.block cb hin (fun j => hR b _ _ cb j hb hg rfl)]; exact hm, hl', fun i k v e h1 h2 => ?_⟩
    obtain ⟨a, c⟩ := hv i k v e h1 h2
    exact ⟨hmono _ _ a, hmono _ _ c⟩
  · intro b l hg hb
    obtain ⟨cb, lo, hi, rfl, hc⟩ := H.tails b l (hsub _ _ hg) hb
    have hin : cb < w.heap.size := H.inside b _ hb
    refine ⟨cb, lo, hi, rfl, fun j h1 h2 => ?_⟩
    obtain ⟨c, hc1, hc2⟩ := hc j h1 h2
    exact ⟨c, by rw [W.cell _ _ hin (hR b _ _ cb j hb hg ⟨rfl, h1, h2⟩)]; exact hc1, by rw [W.frozen _ _ hin (hR b _ _ cb j hb hg ⟨rfl, h1, h2⟩)]; exact hc2⟩

theorem HR.away (H : HR ι I h w) {w' : World} {R : Nat → Nat → Prop} (W : WCh R w w') {h' : AHeap} (hnext : h.next ≤ h'.next) (hsub : ∀ b x, h'.get b = some x → h.get b = some x)
    (hR : ∀ b l x k j, ι b = some l → h'.get b = some x → l.has k j → ¬ R k j) (hI : ∀ k j, R k j → ¬ I k j) : HR ι I h' w' :=
  H.away0 W.weak hnext hsub hR hI

/-- Cells that nobody owns may be kept for good. -/
theorem HR.keepImm (H : HR ι I h w) {J : Imm} (hJ : ∀ k j, J k j → k < w.heap.size ∧ ¬ Owned ι h k j) : HR ι (fun k j => I k j ∨ J k j) h w := by
  have hmono : ∀ a v, VR ι I w a v → VR ι (fun k j => I k j ∨ J k j) w a v := fun a v hv => hv.mono (fun _ _ h => h) (fun _ _ h => .inl h) (fun k j hk => rfl)
  refine { dom := H.dom, inside := H.inside, cells := ?_, maps := ?_, tails := H.tails, disj := H.disj, imm := ?_, Iin := ?_, pl := H.pl }
  · intro b cs l hg hb
    obtain ⟨cb, o, room, rfl, hle, h1, hc⟩ := H.cells b cs l hg hb
    refine ⟨cb, o, room, rfl, hle, h1, fun j hj => ?_⟩
    obtain ⟨c, hc1, hc2, hc3⟩ := hc j hj
    exact ⟨c, hc1, hc2, fun v hv => hmono _ _ (hc3 v hv)⟩
  · intro b es l hg hb
    obtain ⟨cb, es', clock, rfl, hm, hl', hv⟩ := H.maps b es l hg hb
    exact ⟨cb, es', clock, rfl, hm, hl', fun i k v e h1 h2 => ⟨hmono _ _ (hv i k v e h1 h2).1, hmono _ _ (hv i k v e h1 h2).2⟩⟩
  · intro b l x k j hb hg hl hk
    rcases hk with hk | hk
    · exact H.imm b l x k j hb hg hl hk
    · exact (hJ k j hk).2 ⟨b, l, x, hb, hg, hl⟩
  · intro k j hk
    rcases hk with hk | hk
    · exact H.Iin k j hk
    · exact (hJ k j hk).1

/-- What a new block must find in the world. -/
def Fits (ι : Inj) (I : Imm) (w : World) : Loc → Blk → Prop
  | .cells cb o room, .cells cs => cs.length ≤ room ∧ (∀ v ∈ cs, v.one = true) ∧
      (∀ j, j < room → ∃ c, w.cell? ⟨cb, o + j, none⟩ = some c ∧ w.frozen? ⟨cb, o + j, none⟩ = false ∧ ∀ v, cs[j]? = some v → VR ι I w v c) ∧ ∀ n, w.frozen? ⟨cb, n, none⟩ = false
  | .map cb, .map es => ∃ es' clock, w.heap[cb]? = some (.map es' clock) ∧ ER ι I w es es'.toList ∧ Stamps es' clock
  | .tail cb lo hi, .tail => ∀ j, lo ≤ j → j < hi → ∃ c, w.cell? ⟨cb, j, none⟩ = some c ∧ w.frozen? ⟨cb, j, none⟩ = false
  | _, _ => False

/-- Memory that nobody owns gets a name. -/
theorem HR.claim (H : HR ι I h w) {id : Nat} {l : Loc} {x : Blk} (hid : ∀ l', ι id = some l' → l' = l) (hin : l.block < w.heap.size) (hfit : Fits ι I w l x)
    (hfree : ∀ k j, l.has k j → ¬ Owned ι h k j ∧ ¬ I k j) : HR (ι.set id l) I (h.at id x) w := by
  have hget : ∀ b, b ≠ id → (h.at id x).get b = h.get b := fun b hb => by simp [AHeap.at, hb]
  have hgetid : (h.at id x).get id = some x := by simp [AHeap.at]
  have hcases : ∀ b l', (ι.set id l) b = some l' → (b = id ∧ l' = l) ∨ (b ≠ id ∧ ι b = some l') := by
    intro b l' hb
    by_cases hbi : b = id
    · subst hbi; rw [Inj.set_same] at hb; cases hb; exact .inl ⟨rfl, rfl⟩
    · rw [Inj.set_other _ _ hbi] at hb; exact .inr ⟨hbi, hb⟩
  have hmono : ∀ a v, VR ι I w a v → VR (ι.set id l) I w a v := fun a v hv => hv.mono (fun b l' hb => by
    by_cases he : b = id
    · subst he; rw [Inj.set_same, hid _ hb]
    · rw [Inj.set_other _ _ he]; exact hb) (fun _ _ h => h) (fun k j hk => rfl)
  refine { dom := ?_, inside := ?_, cells := ?_, maps := ?_, tails := ?_, disj := ?_, imm := ?_, Iin := H.Iin, pl := ?_ }
  · intro b l' hb
    rcases hcases b l' hb with ⟨rfl, _⟩ | ⟨_, hb⟩
    · simp [AHeap.at]; omega
    · have := H.dom b l' hb; simp [AHeap.at]; omega
  · intro b l' hb
    rcases hcases b l' hb with ⟨rfl, rfl⟩ | ⟨_, hb⟩
    · exact hin
    · exact H.inside b l' hb
  · intro b cs l' hg hb
    rcases hcases b l' hb with ⟨rfl, rfl⟩ | ⟨hbi, hb⟩
    · rw [hgetid] at hg
      cases hg
      cases l' with
      | cells cb o room =>
        obtain ⟨h1, h2, h3, -⟩ := hfit
        refine ⟨cb, o, room, rfl, h1, h2, fun j hj => ?_⟩
        obtain ⟨c, hc1, hc2, hc3⟩ := h3 j hj
        exact ⟨c, hc1, hc2, fun v hv => hmono _ _ (hc3 v hv)⟩
      | map _ => exact hfit.elim
      | tail _ _ _ => exact hfit.elim
    · rw [hget b hbi] at hg
      obtain ⟨cb, o, room, rfl, hle', h1, hc⟩ := H.cells b cs l' hg hb
      refine ⟨cb, o, room, rfl, hle', h1, fun j hj => ?_⟩
      obtain ⟨c, hc1, hc2, hc3⟩ := hc j hj
      exact ⟨c, hc1, hc2, fun v hv => hmono _ _ (hc3 v hv)⟩
  · intro b es l' hg hb
    rcases hcases b l' hb with ⟨rfl, rfl⟩ | ⟨hbi, hb⟩
    · rw [hgetid] at hg
      cases hg
      cases l' with
      | map cb =>
        obtain ⟨es', clock, hm, her, hst⟩ := hfit
        exact ⟨cb, es', clock, rfl, hm, ⟨by simpa using her.1, hst⟩, fun i k v e h1 h2 => by
          have := her.2 i k v e h1 (by simpa using h2)
          exact ⟨hmono _ _ this.1, hmono _ _ this.2⟩⟩
      | cells _ _ _ => exact hfit.elim
      | tail _ _ _ => exact hfit.elim
    · rw [hget b hbi] at hg
      obtain ⟨cb, es', clock, rfl, hm, hl', hv⟩ := H.maps b es l' hg hb
      exact ⟨cb, es', clock, rfl, hm, hl', fun i k v e h1 h2 => ⟨hmono _ _ (hv i k v e h1 h2).1, hmono _ _ (hv i k v e h1 h2).2⟩⟩
  · intro b l' hg hb
    rcases hcases b l' hb with ⟨rfl, rfl⟩ | ⟨hbi, hb⟩
    · rw [hgetid] at hg
      cases hg
      cases l' with
      | tail cb lo hi => exact ⟨cb, lo, hi, rfl, hfit⟩
      | cells _ _ _ => exact hfit.elim
      | map _ => exact hfit.elim
    · rw [hget b hbi] at hg
      exact H.tails b l' hg hb
  · intro b b' l1 l2 x1 x2 k j hne hb hb' hg hg' hl1 hl2
    rcases hcases b l1 hb with ⟨rfl, rfl⟩ | ⟨hbi, hb2⟩ <;> rcases hcases b' l2 hb' with ⟨rfl, rfl⟩ | ⟨hbi', hb2'⟩
    · exact hne rfl
    · rw [hget b' hbi'] at hg'
      exact (hfree k j hl1).1 ⟨b', l2, x2, hb2', hg', hl2⟩
    · rw [hget b hbi] at hg
      exact (hfree k j hl2).1 ⟨b, l1, x1, hb2, hg, hl1⟩
    · rw [hget b hbi] at hg
      rw [hget b' hbi'] at hg'
      exact H.disj b b' l1 l2 x1 x2 k j hne hb2 hb2' hg hg' hl1 hl2
  · intro b l1 x1 k j hb hg hl hI
    rcases hcases b l1 hb with ⟨rfl, rfl⟩ | ⟨hbi, hb2⟩
    · exact (hfree k j hl).2 hI
    · rw [hget b hbi] at hg
      exact H.imm b l1 x1 k j hb2 hg hl hI
  · intro b cs cb o room hg hb n
    rcases hcases b _ hb with ⟨rfl, hl⟩ | ⟨hbi, hb2⟩
    · rw [hgetid] at hg
      cases hg
      subst hl
      exact hfit.2.2.2 n
    · rw [hget b hbi] at hg
      exact H.pl b cs cb o room hg hb2 n

/-- The extension of a step that writes at R (owned before), drops some, keeps J, and may name id. -/
theorem Ext.of0 {N : Nat → Prop} {ι' : Inj} {I' : Imm} {h' : AHeap} {w' : World} {R : Nat → Nat → Prop} (W : WCh0 R w w') (hR : ∀ k j, k < w.heap.size → R k j → Owned ι h k j)
    (hkeep : ∀ b, ¬ N b → ι' b = ι b) (hmore : ∀ b l, ι b = some l → ι' b = some l) (hnext : h.next ≤ h'.next) (himm : ∀ k j, I k j → I' k j)
    (hown : ∀ k j, Owned ι' h' k j → Owned ι h k j ∨ w.heap.size ≤ k) (hinew : ∀ k j, I' k j → I k j ∨ Owned ι h k j ∨ w.heap.size ≤ k)
    (hlost : ∀ b, ¬ N b → ι b = none → h'.get b = h.get b) : Ext N ι I h w ι' I' h' w' :=
  { keep := hkeep, more := hmore, next := hnext, imm := himm, os := W.os, tape := W.tape, output := W.output, size := W.size
    block := fun k hk ho => W.block k hk (fun j hj => ho j (hR k j hk hj)), cell := fun k j hk ho => W.cell k j hk (fun hj => ho (hR k j hk hj)), frozen := fun k j hk ho => W.frozen k j hk (fun hj => ho (hR k j hk hj))
    own := hown, inew := hinew, lost := hlost }

theorem Ext.of {N : Nat → Prop} {ι' : Inj} {I' : Imm} {h' : AHeap} {w' : World} {R : Nat → Nat → Prop} (W : WCh R w w') (hR : ∀ k j, k < w.heap.size → R k j → Owned ι h k j)
    (hkeep : ∀ b, ¬ N b → ι' b = ι b) (hmore : ∀ b l, ι b = some l → ι' b = some l) (hnext : h.next ≤ h'.next) (himm : ∀ k j, I k j → I' k j)
    (hown : ∀ k j, Owned ι' h' k j → Owned ι h k j ∨ w.heap.size ≤ k) (hinew : ∀ k j, I' k j → I k j ∨ Owned ι h k j ∨ w.heap.size ≤ k)
    (hlost : ∀ b, ¬ N b → ι b = none → h'.get b = h.get b) : Ext N ι I h w ι' I' h' w' :=
  Ext.of0 W.weak hR hkeep hmore hnext himm hown hinew hlost

end
end Go.Proofs.YtjkllffbjeajhaaGreat.Am

namespace Go.Proofs.YtjkllffbjeajhaaGreat.Am
open Go

section
variable {P : Program} {ι : Inj} {I : Imm} {h : AHeap} {w : World}

theorem AHeap.drop_at (h : AHeap) {b : Nat} (hb : b < h.next) (x : Blk) : (h.set b none).at b x = h.set b (some x) := by
  unfold AHeap.at AHeap.set
  congr 1
  · funext i; by_cases hi : i = b <;> simp [hi]
  · simp; omega

theorem Inj.set_eq {ι : Inj} {b : Nat} {l : Loc} (hb : ι b = some l) : ι.set b l = ι := by
  funext i
  by_cases hi : i = b
  · subst hi; rw [Inj.set_same, hb]
  · rw [Inj.set_other _ _ hi]

theorem drop_get {h : AHeap} {b i : Nat} {x : Blk} (hg : (h.set b none).get i = some x) : i ≠ b ∧ h.get i = some x := by
  simp only [AHeap.set] at hg
  split at hg
  · cases hg
  · exact ⟨by assumption, hg⟩

/-- A live block's content is turned, in place. -/
theorem HR.turn (H : HR ι I h w) {w' : World} {R : Nat → Nat → Prop} (W : WCh R w w') {b : Nat} {l : Loc} {x x' : Blk} (hb : ι b = some l) (hg : h.get b = some x)
    (hR : ∀ k j, R k j → l.has k j) (hfit : HR ι I (h.set b none) w' → Fits ι I w' l x') :
    HR ι I (h.set b (some x')) w' ∧ Ext (fun _ => False) ι I h w ι I (h.set b (some x')) w' := by
  have H1 : HR ι I (h.set b none) w' := H.away W (Nat.le_refl _) (fun i y hi => (drop_get hi).2)
    (fun i l' y k j hi hgi hl hr => (H.disj i b l' l y x k j (drop_get hgi).1 hi hb (drop_get hgi).2 hg hl (hR k j hr)).elim)
    (fun k j hr => H.imm b l x k j hb hg (hR k j hr))
  have H2 := H1.claim (id := b) (l := l) (x := x') (fun l' hl' => by rw [hb] at hl'; cases hl'; rfl) (Nat.lt_of_lt_of_le (H.inside b l hb) W.size) (hfit H1)
    (fun k j hl => ⟨fun ⟨i, l', y, hi, hgi, hli⟩ => H.disj i b l' l y x k j (drop_get hgi).1 hi hb (drop_get hgi).2 hg hli hl, H.imm b l x k j hb hg hl⟩)
  rw [Inj.set_eq hb, AHeap.drop_at h (H.dom b l hb)] at H2
  refine ⟨H2, Ext.of W (fun k j _ hr => ⟨b, l, x, hb, hg, hR k j hr⟩) (fun _ _ => rfl) (fun _ _ h => h) (Nat.le_refl _) (fun _ _ h => h) ?_ (fun _ _ h => .inl h) ?_⟩
  · rintro k j ⟨i, l', y, hi, hgi, hl⟩
    by_cases hib : i = b
    · subst hib
      rw [hb] at hi; cases hi
      exact .inl ⟨i, _, x, hb, hg, hl⟩
    · exact .inl ⟨i, l', y, hi, by simpa [AHeap.set, hib] using hgi, hl⟩
  · intro i _ hi
    have : i ≠ b := fun he => by rw [he, hb] at hi; cases hi
    simp [AHeap.set, this]

/-- Cells written into a live block. -/
theorem HR.writeX (H : HR ι I h w) {b cb o room off : Nat} {cs vs : List AV} {vals : List Value} (hb : ι b = some (.cells cb o room)) (hg : h.get b = some (.cells cs))
    (hle : off ≤ cs.length) (hle2 : off + vs.length ≤ room) (hv : LR ι I w vs vals) (hone : ∀ v ∈ vs, v.one = true) :
    HR ι I (h.set b (some (.cells (setAt cs off vs)))) (w.setCells cb (o + off) vals) ∧
    Ext (fun _ => False) ι I h w ι I (h.set b (some (.cells (setAt cs off vs)))) (w.setCells cb (o + off) vals) := by
  obtain ⟨_, _, _, hl, hroom, h1, hc⟩ := H.cells b cs _ hg hb
  cases hl
  have hvl := hv.1
  refine H.turn (WCh.setCells w cb (o + off) vals) hb hg (fun k j ⟨h1, h2, h3⟩ => h1) (fun H1 => ?_)
  have hmono : ∀ a c, VR ι I w a c → VR ι I (w.setCells cb (o + off) vals) a c := fun a c hac => hac.mono (fun _ _ h => h) (fun _ _ h => h) (fun k j hk =>
    (WCh.setCells w cb (o + off) vals).cell k j (H.Iin k j hk) (fun ⟨e1, e2, e3⟩ => H.imm b _ _ k j hb hg e1 hk))
  refine ⟨by rw [setAt_lengthX _ _ _ hle]; omega, ?_, fun j hj => ?_, fun n => by rw [World.frozen?_setCells]; exact H.pl b cs cb o room hg hb n⟩
  · intro v hv'
    obtain ⟨i, hi, rfl⟩ := List.getElem_of_mem hv'
    have hget := setAt_getX cs off vs hle i
    rw [List.getElem?_eq_getElem hi] at hget
    split at hget
    · exact hone _ (List.mem_of_getElem? hget.symm)
    · exact h1 _ (List.mem_of_getElem? hget.symm)
  · obtain ⟨c, hc1, hc2, hc3⟩ := hc j hj
    by_cases hin : off ≤ j ∧ j < off + vals.length
    · have hex : ∀ i, i < vals.length → (w.cell? ⟨cb, o + off + i, none⟩).isSome = true := fun i hi => by
        obtain ⟨c', hc', _⟩ := hc (off + i) (by omega)
        rw [Nat.add_assoc, hc']; rfl
      have := World.cell?_setCells_in cb vals (o + off) w hex (j - off) (by omega)
      rw [show o + off + (j - off) = o + j by omega] at this
      refine ⟨_, this, by rw [World.frozen?_setCells]; exact hc2, fun v hv' => ?_⟩
      rw [setAt_getX _ _ _ hle, if_pos (by omega)] at hv'
      exact hmono _ _ (hv.2 _ v _ hv' (List.getElem?_eq_getElem (by omega)))
    · refine ⟨c, ?_, by rw [World.frozen?_setCells]; exact hc2, fun v hv' => ?_⟩
      · rw [World.cell?_setCells_out cb vals (o + off) w _ (fun _ _ => by simp; omega)]
        exact hc1
      · rw [setAt_getX _ _ _ hle, if_neg (by omega)] at hv'
        exact hmono _ _ (hc3 v hv')

theorem HR.write (H : HR ι I h w) {b cb o room off : Nat} {cs vs : List AV} {vals : List Value} (hb : ι b = some (.cells cb o room)) (hg : h.get b = some (.cells cs))
    (hle : off + vs.length ≤ cs.length) (hv : LR ι I w vs vals) (hone : ∀ v ∈ vs, v.one = true) :
    HR ι I (h.set b (some (.cells (setAt cs off vs)))) (w.setCells cb (o + off) vals) ∧
    Ext (fun _ => False) ι I h w ι I (h.set b (some (.cells (setAt cs off vs)))) (w.setCells cb (o + off) vals) := by
  obtain ⟨_, _, _, hl, hroom, -, -⟩ := H.cells b cs _ hg hb
  cases hl
  exact H.writeX hb hg (by omega) (by omega) hv hone

theorem cellsOf_some {b : Nat} {cs : List AV} (hg : cellsOf h b = some cs) : h.get b = some (.cells cs) := by
  unfold cellsOf at hg
  split at hg
  · rename_i cs' hh; cases hg; exact hh
  · cases hg

theorem store_sim (H : HR ι I h w) {t : TypeId} {sz : Nat} (hs : (P.info? t).map (·.size) = some sz) {a v : AV} {ca cv : Value} (ha : VR ι I w a ca) (hv : VR ι I w v cv) {h' : AHeap} {r : AV}
    (he : storeA sz h a v = some (r, h')) :
    r = .undef ∧ ∃ w', (Instr.storeAt t ca cv).run P w = .ok () w' ∧ HR ι I h' w' ∧ Ext (fun _ => False) ι I h w ι I h' w' := by
  unfold storeA at he
  cases ha <;> simp only [] at he <;> try (cases he; done)
  rename_i b off cb o room hb
  split at he
  · rename_i cs hg
    split at he
    · rename_i hcond
      obtain ⟨h1, h2, h3⟩ := hcond
      cases he
      have hg' := cellsOf_some hg
      have hc := VR.cells hv (notUndef h3)
      obtain ⟨_, _, _, hl, hroom, _, hcell⟩ := H.cells b cs _ hg' hb
      cases hl
      have hone : ∀ u ∈ cv.cells.toList, u.oneCell' = true := by
        intro u hu
        obtain ⟨i, hi, rfl⟩ := List.getElem_of_mem hu
        have hi' : i < v.cells.length := by rw [hc.1]; exact hi
        exact (hc.2 i _ _ (List.getElem?_eq_getElem hi') (List.getElem?_eq_getElem hi)).one ((List.all_eq_true.1 h3) _ (List.getElem_mem hi'))
      have hlen : cv.cells.toList.length = sz := by rw [← h1, hc.1]
      have hrun := run_storeCells_cells (P := P) cb (o + off) cv.cells.toList 0 w
        (fun j hj => by obtain ⟨c, hc', _⟩ := hcell (off + j) (by omega); simp only [Nat.add_zero]; rw [Nat.add_assoc, hc']; rfl)
        (fun j hj => by obtain ⟨c, _, hc', _⟩ := hcell (off + j) (by omega); simp only [Nat.add_zero]; rw [Nat.add_assoc]; exact hc') hone
      obtain ⟨H', E⟩ := H.write (off := off) hb hg' (by omega) hc (fun u hu => (List.all_eq_true.1 h3) u hu)
      refine ⟨rfl, w.setCells cb (o + off) cv.cells.toList, ?_, H', E⟩
      have hsz : cv.cells.size = sz := by simpa using hlen
      simp only [Nat.add_zero] at hrun
      simp [Instr.storeAt, Instr.sureAddr, storeVar, run_size hs, hsz, hrun]
    · cases he
  · cases he

end
end Go.Proofs.YtjkllffbjeajhaaGreat.Am

namespace Go.Proofs.YtjkllffbjeajhaaGreat.Am
open Go

section
variable {P : Program} {ι : Inj} {I : Imm} {h : AHeap} {w : World}

theorem WCh.refl (w : World) : WCh (fun _ _ => False) w w :=
  { os := rfl, tape := rfl, output := rfl, size := Nat.le_refl _, block := fun _ _ _ => rfl, cell := fun _ _ _ _ => rfl, frozen := fun _ _ _ => rfl }

/-- A block is given up. -/
theorem HR.drop (H : HR ι I h w) {b : Nat} {l : Loc} (hb : ι b = some l) : HR ι I (h.set b none) w ∧ Ext (fun _ => False) ι I h w ι I (h.set b none) w := by
  refine ⟨H.away (WCh.refl w) (Nat.le_refl _) (fun i y hi => (drop_get hi).2) (fun _ _ _ _ _ _ _ _ h => h) (fun _ _ h => h.elim), ?_⟩
  refine Ext.of (WCh.refl w) (fun _ _ _ h => h.elim) (fun _ _ => rfl) (fun _ _ h => h) (Nat.le_refl _) (fun _ _ h => h) ?_ (fun _ _ h => .inl h) ?_
  · rintro k j ⟨i, l', y, hi, hg, hl⟩
    exact .inl ⟨i, l', y, hi, (drop_get hg).2, hl⟩
  · intro i _ hi
    have : i ≠ b := fun he => by rw [he, hb] at hi; cases hi
    simp [AHeap.set, this]

theorem grow_fit {need cap bytes : Nat} (hg : cap < need) (hb : need * bytes < 2 ^ 40) : Builtin.nextslicecap need cap * bytes ≤ 281474976710656 := by
  have h1 := nextslicecap_le hg
  have h2 := Nat.mul_le_mul_right bytes h1
  rw [Nat.mul_assoc] at h2
  omega

/-- The types of an append. -/
structure AppT (P : Program) (t tx e : TypeId) (sz bytes : Nat) : Prop where
  ht : P.underlying t = some (.slice e)
  htx : P.underlying tx = some (.slice e)
  info : ∃ ie z, P.info? e = some ie ∧ ie.zero = some z ∧ ie.size = sz ∧ ie.bytes = bytes ∧ z.cells.size = sz
  pos : sz ≠ 0

theorem rd_first {sz : Nat} {rows : List (List AV)} {a : Option Addr} {l : List Value} (R : Rd ι I w sz rows a l) (cap : Nat) (w' : World)
    (hw : ∀ a, w'.cell? a = w.cell? a) : (Builtin.firstCells sz rows.length (.slice a rows.length cap)).run P w' = .ok l.toArray w' := by
  cases a with
  | none =>
    have := R.none rfl
    subst this
    have : l = [] := by have := R.len; simpa using this
    subst this
    exact run_firstCells_none w' sz 0 _ cap
  | some ad =>
    exact run_firstCells_some w' sz _ _ _ _ l R.len (fun j v hv => by rw [hw]; exact R.cell ad rfl j v hv)

/-- The arm that grows: the new row is kept for good, the room behind it is named. -/
theorem grow_sim (H : HR ι I h w) {id : Nat} (hid : ι id = none) {t tx ty e : TypeId} {sz bytes : Nat} (T : AppT P t tx e sz bytes) {xs ys : List (List AV)} {a b : Option Addr} {lx ly : List Value} {cap capy : Nat}
    (Rx : Rd ι I w sz xs a lx) (Ry : Rd ι I w sz ys b ly) (hg : cap < xs.length + ys.length) (hb : (xs.length + ys.length) * bytes < 2 ^ 40) (hn : xs.length + ys.length < 2 ^ 40) :
    ∃ (c : Nat) (w' : World), (Builtin.append_ #[t, tx] ty #[.slice a xs.length cap, .slice b ys.length capy]).run P w = .ok (.slice (some ⟨w.heap.size, 0, none⟩) (xs.length + ys.length) c) w' ∧
      xs.length + ys.length ≤ c ∧ w'.heap.size = w.heap.size + 1 ∧ WCh (fun _ _ => False) w w' ∧ (∀ j, w'.frozen? ⟨w.heap.size, j, none⟩ = false) ∧
      (∀ j, j < c * sz → ∃ u, w'.cell? ⟨w.heap.size, j, none⟩ = some u) ∧ (∀ (j : Nat) (u : Value), (lx ++ ly)[j]? = some u → w'.cell? ⟨w.heap.size, j, none⟩ = some u) := by
  obtain ⟨ie, z, hie, hz, hsz, hbytes, hzs⟩ := T.info
  have hold := rd_first (P := P) Rx cap w.drew (fun _ => rfl)
  have hsrc := Ry.src (P := P) T.htx capy
  rw [← hsz] at hold hsrc
  have hfit := grow_fit hg hb
  rw [← hbytes] at hfit
  have hrun := run_append_grow_src (P := P) w t tx ty e ie z T.ht hie hz a xs.length cap lx hold (.slice b ys.length capy) ys.length ly hsrc hg (by omega) hfit
  have hge := grownCap_ge w (xs.length + ys.length) cap e
  refine ⟨_, _, hrun, hge, by simp, (WCh.drew w).trans (WCh.push _ _) (fun _ _ _ h => h), ?_, ?_, ?_⟩
  · intro j; exact World.frozen?_alloc_new (w := w.drew) _ _ j
  · intro j hj
    have hsize : ((lx ++ ly).toArray ++ Builtin.zeroCells z.cells (grownCap w (xs.length + ys.length) cap e - (xs.length + ys.length))).size = grownCap w (xs.length + ys.length) cap e * sz := by
      rw [Array.size_append, size_zeroCells, hzs]
      simp only [List.size_toArray, List.length_append, Rx.len, Ry.len]
      rw [← Nat.add_mul, ← Nat.add_mul]
      congr 1; omega
    exact ⟨_, (World.cell?_alloc_new (w := w.drew) _ _ j).trans (Array.getElem?_eq_getElem (by rw [hsize]; exact hj))⟩
  · intro j u hu
    refine (World.cell?_alloc_new (w := w.drew) _ _ j).trans ?_
    rw [Array.getElem?_append_left (by have := (List.getElem?_eq_some_iff.1 hu).1; simpa using this)]
    simpa using hu

theorem Rd.append {sz : Nat} {xs ys : List (List AV)} {a b : Option Addr} {lx ly : List Value} (Rx : Rd ι I w sz xs a lx) (Ry : Rd ι I w sz ys b ly) :
    (∀ r ∈ xs ++ ys, r.length = sz ∧ ∀ v ∈ r, v.one = true) ∧ LR ι I w (xs ++ ys).flatten (lx ++ ly) := by
  refine ⟨fun r hr => ?_, ?_⟩
  · rcases List.mem_append.1 hr with h | h
    · exact Rx.uni r h
    · exact Ry.uni r h
  · rw [List.flatten_append]
    exact Rx.lr.append Ry.lr

/-- A slice by value whose rows lie behind an address, kept for good, the room behind it named. -/
theorem vs_own {ι' : Inj} {I' : Imm} {w' : World} {rows : List (List AV)} {l : List Value} {sz cb o cap : Nat} {t : Tail} (hu : ∀ r ∈ rows, r.length = sz ∧ ∀ v ∈ r, v.one = true) (hl : LR ι' I' w' rows.flatten l)
    (hc : ∀ (j : Nat) (u : Value), l[j]? = some u → w'.cell? ⟨cb, o + j, none⟩ = some u) (hI : ∀ j, j < rows.length * sz → I' cb (o + j)) (hcap : rows.length ≤ cap)
    (ht : TailOk ι' cb o sz rows.length cap t) : VR ι' I' w' (.vs rows t) (.slice (some ⟨cb, o, none⟩) rows.length cap) := by
  have hfl := flat_length rows (fun r hr => (hu r hr).1)
  have hll : l.length = rows.length * sz := by rw [← hl.1, hfl]
  have hidx : ∀ i j, i < rows.length → j < sz → i * sz + j < rows.length * sz := fun i j hi hj => by
    have := Nat.mul_le_mul_right sz (show i + 1 ≤ rows.length by omega)
    rw [Nat.succ_mul] at this; omega
  refine .vs rows t cb o sz cap (fun i j => l.getD (i * sz + j) undef) (fun i row hi => (hu row (List.mem_of_getElem? hi)).1) (fun i j hi hj => ?_) (fun i j hi hj => ?_) (fun i row j v hi hj => ?_) (fun row hr => (hu row hr).2) hcap ht
  · rw [Nat.add_assoc]; exact hI _ (hidx i j hi hj)
  · have hlt := hidx i j hi hj
    rw [Nat.add_assoc]
    refine hc _ _ ?_
    rw [← hll] at hlt
    simp [List.getD, List.getElem?_eq_getElem hlt]
  · have hi' := (List.getElem?_eq_some_iff.1 hi).1
    have hj' := (List.getElem?_eq_some_iff.1 hj).1
    have hr := (hu row (List.mem_of_getElem? hi)).1
    have := flat_get rows (fun r hr => (hu r hr).1) i j row hi (by omega)
    rw [hj] at this
    obtain ⟨c, hc1, hc2⟩ := hl.get this
    have e : l.getD (i * sz + j) undef = c := by simp [List.getD, hc1]
    rw [e]; exact hc2

theorem append_grow (H : HR ι I h w) {id : Nat} (hid : ι id = none) {t tx ty e : TypeId} {sz bytes : Nat} (T : AppT P t tx e sz bytes) {xs ys : List (List AV)} {a b : Option Addr} {lx ly : List Value} {cap capy : Nat}
    (Rx : Rd ι I w sz xs a lx) (Ry : Rd ι I w sz ys b ly) (hg : cap < xs.length + ys.length) (hb : (xs.length + ys.length) * bytes < 2 ^ 40) (hn : xs.length + ys.length < 2 ^ 40) (hy : ys ≠ []) :
    ESim P ι I h w id (.vs (xs ++ ys) (.own id)) (h.at id .tail) (Builtin.append_ #[t, tx] ty #[.slice a xs.length cap, .slice b ys.length capy]) := by
  obtain ⟨c, w', hrun, hc, hsz, W, hfro, hex, hcell⟩ := grow_sim H hid T Rx Ry hg hb hn (capy := capy) (ty := ty)
  obtain ⟨hu, hl⟩ := Rx.append Ry
  have hpos : 0 < xs.length + ys.length := by
    have := List.length_pos_iff.2 hy; omega
  have hlen : (xs ++ ys).length = xs.length + ys.length := by simp
  let J : Imm := fun k j => k = w.heap.size ∧ j < (xs.length + ys.length) * sz
  let l0 : Loc := .tail w.heap.size ((xs.length + ys.length) * sz) (c * sz)
  have hown : ∀ k j, Owned ι h k j → k < w.heap.size := fun k j ⟨i, l, x, hi, _, hl⟩ => by rw [Loc.has_block hl]; exact H.inside i l hi
  have H1 : HR ι I h w' := H.away W (Nat.le_refl _) (fun _ _ h => h) (fun _ _ _ _ _ _ _ _ h => h) (fun _ _ h => h.elim)
  have H2 : HR ι (fun k j => I k j ∨ J k j) h w' := H1.keepImm (fun k j hj => ⟨by rw [hj.1]; omega, fun ho => by have := hown k j ho; have := hj.1; omega⟩)
  have H3 := H2.claim (id := id) (l := l0) (x := .tail) (fun l' hl' => by rw [hid] at hl'; cases hl') (by simp [l0, Loc.block]; omega)
    (fun j h1 h2 => by obtain ⟨u, hu⟩ := hex j h2; exact ⟨u, hu, hfro j⟩)
    (fun k j hl => ⟨fun ho => by have := hown k j ho; have := hl.1; omega, fun hI => by
      rcases hI with hI | hI
      · have := H.Iin k j hI; have := hl.1; omega
      · have := hI.2; have := hl.2.1; omega⟩)
  have hmono : ∀ a v, VR ι I w a v → VR (ι.set id l0) (fun k j => I k j ∨ J k j) w' a v := fun a v hv => hv.mono
    (fun b l hb => by rw [Inj.set_other _ _ (fun he => by rw [he, hid] at hb; cases hb)]; exact hb) (fun _ _ h => .inl h) (fun k j hk => W.cell k j (H.Iin k j hk) (fun h => h))
  refine ⟨_, w', _, _, hrun, ?_, H3, ?_⟩
  · rw [← hlen]
    refine vs_own (sz := sz) (l := lx ++ ly) hu (hl.mono hmono) (fun j u hu' => by rw [Nat.zero_add]; exact hcell j u hu') (fun j hj => .inr ⟨rfl, by rw [Nat.zero_add]; rw [hlen] at hj; exact hj⟩) (by rw [hlen]; exact hc) ?_
    rw [hlen]
    refine ⟨hpos, ?_⟩
    rw [Inj.set_same]
    simp [l0]
  · refine Ext.of W (fun _ _ _ h => h.elim) (fun b hb => Inj.set_other _ _ hb) (fun b l hb => by rw [Inj.set_other _ _ (fun he => by rw [he, hid] at hb; cases hb)]; exact hb) (by simp [AHeap.at]; omega) (fun _ _ h => .inl h) ?_ ?_ (fun b hb _ => by simp [AHeap.at, hb])
    · rintro k j ⟨i, l, x, hi, hgi, hl⟩
      by_cases hii : i = id
      · subst hii; rw [Inj.set_same] at hi; cases hi; exact .inr (by have := hl.1; omega)
      · rw [Inj.set_other _ _ hii] at hi
        exact .inl ⟨i, l, x, hi, by simpa [AHeap.at, hii] using hgi, hl⟩
    · intro k j hk
      rcases hk with hk | hk
      · exact .inl hk
      · exact .inr (.inr (by have := hk.1; omega))

end
end Go.Proofs.YtjkllffbjeajhaaGreat.Am

namespace Go.Proofs.YtjkllffbjeajhaaGreat.Am
open Go

section
variable {P : Program} {ι : Inj} {I : Imm} {h : AHeap} {w : World}

theorem ESim.of_drop {id : Nat} {v : AV} {h' : AHeap} {s : Sem Value} {b : Nat} {l : Loc} (H : HR ι I h w) (hb : ι b = some l) (hs : ESim P ι I (h.set b none) w id v h' s) (hbid : ι id = none) :
    ESim P ι I h w id v h' s := by
  obtain ⟨c, w', ι', I', hr, hv, H', E⟩ := hs
  obtain ⟨H1, E1⟩ := H.drop hb
  exact ⟨c, w', ι', I', hr, hv, H', (E1.mono (fun _ h => h.elim)).trans E (fun _ h => h)⟩

theorem append_room (H : HR ι I h w) {id : Nat} (hid : ι id = none) {t tx ty e : TypeId} {sz bytes : Nat} (T : AppT P t tx e sz bytes) {xs ys : List (List AV)} {b : Option Addr} {lx ly : List Value} {cb o cap capy t0 : Nat}
    (Rx : Rd ι I w sz xs (some ⟨cb, o, none⟩) lx) (Ry : Rd ι I w sz ys b ly) (hI : ∀ j, j < xs.length * sz → I cb (o + j)) (ht : ι t0 = some (.tail cb (o + xs.length * sz) (o + cap * sz))) (hg : h.get t0 = some .tail)
    (hroom : xs.length + ys.length ≤ cap) (hx : 0 < xs.length) :
    ESim P ι I h w id (.vs (xs ++ ys) (.own id)) ((h.set t0 none).at id .tail) (Builtin.append_ #[t, tx] ty #[.slice (some ⟨cb, o, none⟩) xs.length cap, .slice b ys.length capy]) := by
  obtain ⟨ie, z, hie, hz, hsz, hbytes, hzs⟩ := T.info
  have hsrc := Ry.src (P := P) T.htx capy
  rw [← hsz] at hsrc
  have hmul : xs.length * sz + ys.length * sz ≤ cap * sz := by rw [← Nat.add_mul]; exact Nat.mul_le_mul_right _ hroom
  have hly := Ry.len
  have hlx := Rx.len
  obtain ⟨cb', lo', hi', hl', htail⟩ := H.tails t0 _ hg ht
  cases hl'
  have hrun := run_append_room_src (P := P) w t tx ty e ie T.ht hie cb o xs.length cap (.slice b ys.length capy) ys.length ly hsrc hroom
    (fun j hj => by rw [hsz]; obtain ⟨u, hu, _⟩ := htail (o + xs.length * sz + j) (by omega) (by omega); rw [hu]; rfl)
    (fun j hj => by rw [hsz]; obtain ⟨u, _, hu⟩ := htail (o + xs.length * sz + j) (by omega) (by omega); exact hu)
  rw [hsz] at hrun
  have W := WCh.setCells w cb (o + xs.length * sz) ly
  have hR : ∀ k j, (k = cb ∧ o + xs.length * sz ≤ j ∧ j < o + xs.length * sz + ly.length) → (Loc.tail cb (o + xs.length * sz) (o + cap * sz)).has k j := fun k j ⟨h1, h2, h3⟩ => ⟨h1, h2, by omega⟩
  have hout : ∀ k j, (Loc.tail cb (o + xs.length * sz) (o + cap * sz)).has k j → ¬ Owned ι (h.set t0 none) k j := fun k j hl ⟨i, l, x, hi, hgi, hli⟩ =>
    H.disj i t0 l _ x .tail k j (drop_get hgi).1 hi ht (drop_get hgi).2 hg hli hl
  have hnI : ∀ k j, (Loc.tail cb (o + xs.length * sz) (o + cap * sz)).has k j → ¬ I k j := fun k j hl => H.imm t0 _ .tail k j ht hg hl
  have hin : cb < w.heap.size := H.inside t0 _ ht
  have H1 : HR ι I (h.set t0 none) (w.setCells cb (o + xs.length * sz) ly) := H.away W (Nat.le_refl _) (fun i y hi => (drop_get hi).2)
    (fun i l y k j hi hgi hl hr => hout k j (hR k j hr) ⟨i, l, y, hi, hgi, hl⟩) (fun k j hr => hnI k j (hR k j hr))
  let J : Imm := fun k j => k = cb ∧ o + xs.length * sz ≤ j ∧ j < o + (xs.length + ys.length) * sz
  have hJ : ∀ k j, J k j → (Loc.tail cb (o + xs.length * sz) (o + cap * sz)).has k j := fun k j ⟨h1, h2, h3⟩ => ⟨h1, h2, by rw [Nat.add_mul] at h3; omega⟩
  have H2 := H1.keepImm (J := J) (fun k j hj => ⟨by rw [hj.1]; exact Nat.lt_of_lt_of_le hin W.size, hout k j (hJ k j hj)⟩)
  let l0 : Loc := .tail cb (o + (xs.length + ys.length) * sz) (o + cap * sz)
  have hl0 : ∀ k j, l0.has k j → (Loc.tail cb (o + xs.length * sz) (o + cap * sz)).has k j := fun k j ⟨h1, h2, h3⟩ => ⟨h1, by rw [Nat.add_mul] at h2; omega, h3⟩
  have H3 := H2.claim (id := id) (l := l0) (x := .tail) (fun l' hl' => by rw [hid] at hl'; cases hl') (Nat.lt_of_lt_of_le hin W.size)
    (fun j h1 h2 => by
      have h1' : o + xs.length * sz + ly.length ≤ j := by rw [Nat.add_mul] at h1; omega
      obtain ⟨u, hu, hf⟩ := htail j (by omega) h2
      exact ⟨u, by rw [W.cell _ _ hin (fun hr => by have := hr.2.2; omega)]; exact hu, by rw [W.frozen _ _ hin]; exact hf⟩)
    (fun k j hl => ⟨hout k j (hl0 k j hl), fun hI' => by
      rcases hI' with hI' | hI'
      · exact hnI k j (hl0 k j hl) hI'
      · have := hI'.2.2; have := hl.2.1; omega⟩)
  have hmono : ∀ a v, VR ι I w a v → VR (ι.set id l0) (fun k j => I k j ∨ J k j) (w.setCells cb (o + xs.length * sz) ly) a v := fun a v hv => hv.mono
    (fun b l hb => by rw [Inj.set_other _ _ (fun he => by rw [he, hid] at hb; cases hb)]; exact hb) (fun _ _ h => .inl h) (fun k j hk => W.cell k j (H.Iin k j hk) (fun hr => hnI k j (hR k j hr) hk))
  obtain ⟨hu, hl⟩ := Rx.append Ry
  have hlen : (xs ++ ys).length = xs.length + ys.length := by simp
  refine ⟨_, _, _, _, hrun, ?_, H3, ?_⟩
  · rw [← hlen]
    refine vs_own (sz := sz) (l := lx ++ ly) hu (hl.mono hmono) (fun j u hu' => ?_) (fun j hj => ?_) (by rw [hlen]; exact hroom) ?_
    · by_cases hj : j < lx.length
      · rw [List.getElem?_append_left hj] at hu'
        have hc := Rx.cell _ rfl j u hu'
        rw [Addr.add_mid] at hc
        rw [W.cell _ _ hin (fun hr => by have := hr.2.1; omega)]
        exact hc
      · rw [List.getElem?_append_right (by omega)] at hu'
        have hjl := (List.getElem?_eq_some_iff.1 hu').1
        have := World.cell?_setCells_in cb ly (o + xs.length * sz) w (fun i hi => by
          obtain ⟨u', hu', _⟩ := htail (o + xs.length * sz + i) (by omega) (by omega); rw [hu']; rfl) (j - lx.length) hjl
        rw [show o + xs.length * sz + (j - lx.length) = o + j by omega] at this
        rw [this, ← hu', List.getElem?_eq_getElem hjl]
    · rw [hlen, Nat.add_mul] at hj
      by_cases hjx : j < xs.length * sz
      · exact .inl (hI j hjx)
      · exact .inr ⟨rfl, by omega, by rw [Nat.add_mul]; omega⟩
    · rw [hlen]
      exact ⟨by omega, by rw [Inj.set_same]⟩
  · refine Ext.of W (fun k j _ hr => ⟨t0, _, .tail, ht, hg, hR k j hr⟩) (fun b hb => Inj.set_other _ _ hb) (fun b l hb => by rw [Inj.set_other _ _ (fun he => by rw [he, hid] at hb; cases hb)]; exact hb)
      (by simp [AHeap.at, AHeap.set]; omega) (fun _ _ h => .inl h) ?_ ?_ ?_
    · rintro k j ⟨i, l, x, hi, hgi, hli⟩
      by_cases hii : i = id
      · subst hii; rw [Inj.set_same] at hi; cases hi; exact .inl ⟨t0, _, .tail, ht, hg, hl0 k j hli⟩
      · rw [Inj.set_other _ _ hii] at hi
        have hgi' : (h.set t0 none).get i = some x := by simpa [AHeap.at, hii] using hgi
        exact .inl ⟨i, l, x, hi, (drop_get hgi').2, hli⟩
    · intro k j hk
      rcases hk with hk | hk
      · exact .inl hk
      · exact .inr (.inl ⟨t0, _, .tail, ht, hg, hJ k j hk⟩)
    · intro i hi hin'
      have : i ≠ t0 := fun he => by rw [he, ht] at hin'; cases hin'
      simp [AHeap.at, AHeap.set, hi, this]

theorem append_sim (H : HR ι I h w) {id : Nat} (hid : ι id = none) {t tx ty e : TypeId} {sz bytes : Nat} (T : AppT P t tx e sz bytes) {x y v : AV} {cx cy : Value} (hx : VR ι I w x cx) (hy : VR ι I w y cy) {ρ : Env} {ox oy : Opd} (hox : ox.ev ρ = x) (hoy : oy.ev ρ = y)
    {h' : AHeap} (he : aeff (.append bytes sz ox oy) ρ id h = some (v, h')) : ESim P ι I h w id v h' (Builtin.append_ #[t, tx] ty #[cx, cy]) := by
  simp only [aeff, hox, hoy] at he
  cases hry : rowsA sz h y with
  | none => simp [hry] at he
  | some ys =>
    simp only [hry] at he
    obtain ⟨b, capy, ly, rfl, hley, Ry⟩ := rows_sim H hy hry
    obtain ⟨ie, z, hie, hz, hsz, hbytes, hzs⟩ := T.info
    have hnothing : ∀ (a : Option Addr) (n cap : Nat), n ≤ cap → ys = [] → (Builtin.append_ #[t, tx] ty #[.slice a n cap, .slice b ys.length capy]).run P w = .ok (.slice a n cap) w := by
      intro a n cap hle h0
      subst h0
      have hs := Ry.src (P := P) T.htx capy
      have : ly = [] := by have := Ry.len; simpa using this
      subst this
      rw [← hsz] at hs
      exact run_append_nothing w t tx ty e ie T.ht hie a n cap hle _ hs
    have hsame : ∀ (c : Value) (v : AV), VR ι I w v c → (Builtin.append_ #[t, tx] ty #[c, .slice b ys.length capy]).run P w = .ok c w → ESim P ι I h w id v h (Builtin.append_ #[t, tx] ty #[c, .slice b ys.length capy]) :=
      fun c v hv hr => ⟨c, w, ι, I, hr, hv, H, Ext.refl _ _ _ _ _⟩
    cases hx <;> (try simp only [] at he) <;> try (cases he; done)
    case nils =>
      by_cases h0 : ys = []
      · rw [if_pos h0] at he
        cases he
        exact hsame _ _ .nils (hnothing none 0 0 (Nat.le_refl _) h0)
      · rw [if_neg h0] at he
        split at he
        · rename_i hc
          cases he
          have Rx : Rd ι I w sz [] none [] := ⟨by simp, LR.nil, by simp, fun _ => rfl⟩
          have := append_grow H hid T Rx Ry (cap := 0) (capy := capy) (ty := ty) (by have := List.length_pos_iff.2 h0; simp; omega) (by simpa using hc.1) (by simpa using hc.2) h0
          simpa using this
        · cases he
    case vsNil t' ht =>
      by_cases h0 : ys = []
      · rw [if_pos h0] at he
        cases he
        exact hsame _ _ (.vsNil _ ht) (hnothing none 0 0 (Nat.le_refl _) h0)
      · rw [if_neg h0] at he
        split at he
        · rename_i hc
          rcases ht with rfl | rfl
          · simp at he
          · cases he
            have Rx : Rd ι I w sz [] none [] := ⟨by simp, LR.nil, by simp, fun _ => rfl⟩
            have := append_grow H hid T Rx Ry (cap := 0) (capy := capy) (ty := ty) (by have := List.length_pos_iff.2 h0; simp; omega) (by simpa using hc.2.1) (by simpa using hc.2.2) h0
            simpa using this
        · cases he
    case vsZ t' a cap ht =>
      by_cases h0 : ys = []
      · rw [if_pos h0] at he
        cases he
        exact hsame _ _ (.vsZ _ _ _ ht) (hnothing _ 0 cap (Nat.zero_le _) h0)
      · rw [if_neg h0] at he
        split at he
        · rename_i hc
          rcases ht with rfl | ⟨rfl, rfl⟩
          · simp at he
          · cases he
            have Rx : Rd ι I w sz [] (some a) [] := ⟨by simp, LR.nil, fun ad _ j u hu => by simp at hu, fun h => by cases h⟩
            have := append_grow H hid T Rx Ry (cap := 0) (capy := capy) (ty := ty) (by have := List.length_pos_iff.2 h0; simp; omega) (by simpa using hc.2.1) (by simpa using hc.2.2) h0
            simpa using this
        · cases he
    case vs xs t' cb o s cap g hs hI hc hv' hone hcap ht =>
      by_cases h0 : ys = []
      · rw [if_pos h0] at he
        cases he
        exact hsame _ _ (.vs xs t' cb o s cap g hs hI hc hv' hone hcap ht) (hnothing _ _ _ hcap h0)
      · rw [if_neg h0] at he
        split at he
        · rename_i hcond
          obtain ⟨hk, hb1, hb2⟩ := hcond
          obtain ⟨a', cap', lx, heq, _, Rx⟩ := rows_sim H (.vs xs t' cb o s cap g hs hI hc hv' hone hcap ht) (show rowsA sz h (.vs xs t') = some xs by simp [rowsA, hk])
          cases heq
          have hypos := List.length_pos_iff.2 h0
          cases t' with
          | unk => simp at he
          | full =>
            cases he
            have hcl : cap = xs.length := ht
            exact append_grow H hid T Rx Ry (cap := cap) (by omega) hb1 hb2 h0
          | own t0 =>
            simp only [] at he
            cases hg : h.get t0 with
            | none => simp [hg] at he
            | some x =>
              cases x with
              | cells cs => simp [hg] at he
              | map es => simp [hg] at he
              | tail =>
                simp only [hg] at he
                cases he
                obtain ⟨hxpos, hloc⟩ := ht
                have hss : s = sz := by
                  rw [← hs 0 _ (List.getElem?_eq_getElem hxpos)]
                  exact headOk_all hs hk _ (List.getElem_mem hxpos)
                subst hss
                by_cases hroom : xs.length + ys.length ≤ cap
                · refine append_room H hid T Rx Ry (fun j hj => ?_) hloc hg hroom hxpos
                  have hpos : 0 < s := Nat.pos_of_ne_zero T.pos
                  have := hI (j / s) (j % s) ((Nat.div_lt_iff_lt_mul hpos).2 hj) (Nat.mod_lt _ hpos)
                  rwa [Nat.add_assoc, Nat.div_add_mod' j s] at this
                · obtain ⟨H1, E1⟩ := H.drop hloc
                  exact ESim.of_drop H hloc (append_grow H1 hid T Rx Ry (cap := cap) (by omega) hb1 hb2 h0) hid
        · cases he

end
end Go.Proofs.YtjkllffbjeajhaaGreat.Am

namespace Go.Proofs.YtjkllffbjeajhaaGreat.Am
open Go

section
variable {P : Program} {ι : Inj} {I : Imm} {h : AHeap} {w : World}

theorem appendR_grow (H : HR ι I h w) {id : Nat} (hid : ι id = none) {t tx ty e : TypeId} {sz bytes : Nat} (T : AppT P t tx e sz bytes) {xs ys : List (List AV)} {a b : Option Addr} {lx ly : List Value} {cap capy : Nat}
    (Rx : Rd ι I w sz xs a lx) (Ry : Rd ι I w sz ys b ly) (hg : cap < xs.length + ys.length) (hb : (xs.length + ys.length) * bytes < 2 ^ 40) (hn : xs.length + ys.length < 2 ^ 40) :
    ESim P ι I h w id (.rs id 0 (xs.length + ys.length) sz) (h.at id (.cells (xs ++ ys).flatten)) (Builtin.append_ #[t, tx] ty #[.slice a xs.length cap, .slice b ys.length capy]) := by
  obtain ⟨c, w', hrun, hc, hsz, W, hfro, hex, hcell⟩ := grow_sim H hid T Rx Ry hg hb hn (capy := capy) (ty := ty)
  obtain ⟨hu, hl⟩ := Rx.append Ry
  have hown : ∀ k j, Owned ι h k j → k < w.heap.size := fun k j ⟨i, l, x, hi, _, hl⟩ => by rw [Loc.has_block hl]; exact H.inside i l hi
  have H1 : HR ι I h w' := H.away W (Nat.le_refl _) (fun _ _ h => h) (fun _ _ _ _ _ _ _ _ h => h) (fun _ _ h => h.elim)
  have hmono : ∀ a v, VR ι I w a v → VR ι I w' a v := fun a v hv => hv.mono (fun _ _ h => h) (fun _ _ h => h) (fun k j hk => W.cell k j (H.Iin k j hk) (fun h => h))
  have hfl := flat_length (xs ++ ys) (fun r hr => (hu r hr).1)
  let l0 : Loc := .cells w.heap.size 0 (c * sz)
  have H3 := H1.claim (id := id) (l := l0) (x := .cells (xs ++ ys).flatten) (fun l' hl' => by rw [hid] at hl'; cases hl') (by simp [l0, Loc.block]; omega)
    ⟨by rw [hfl]; simp only [List.length_append]; exact Nat.mul_le_mul_right _ hc, fun v hv => by
      obtain ⟨r, hr, hv⟩ := List.mem_flatten.1 hv
      exact (hu r hr).2 v hv, fun j hj => by
      obtain ⟨u, hu'⟩ := hex j hj
      refine ⟨u, by rw [Nat.zero_add]; exact hu', by rw [Nat.zero_add]; exact hfro j, fun v hv => ?_⟩
      obtain ⟨c', hc1, hc2⟩ := hl.get hv
      have := hcell j c' hc1
      rw [hu'] at this
      cases this
      exact hmono _ _ hc2, hfro⟩
    (fun k j hl => ⟨fun ho => by have := hown k j ho; have : k = w.heap.size := hl; omega, fun hI => by have := H.Iin k j hI; have : k = w.heap.size := hl; omega⟩)
  refine ⟨_, w', _, _, hrun, ?_, H3, ?_⟩
  · exact .rs id 0 _ sz w.heap.size 0 (c * sz) c (by rw [Inj.set_same]) hc (by omega)
  · refine Ext.of W (fun _ _ _ h => h.elim) (fun b hb => Inj.set_other _ _ hb) (fun b l hb => by rw [Inj.set_other _ _ (fun he => by rw [he, hid] at hb; cases hb)]; exact hb) (by simp [AHeap.at]; omega) (fun _ _ h => h) ?_ (fun _ _ h => .inl h) (fun b hb _ => by simp [AHeap.at, hb])
    rintro k j ⟨i, l, x, hi, hgi, hl⟩
    by_cases hii : i = id
    · subst hii; rw [Inj.set_same] at hi; cases hi; exact .inr (by have : k = w.heap.size := hl; omega)
    · rw [Inj.set_other _ _ hii] at hi
      exact .inl ⟨i, l, x, hi, by simpa [AHeap.at, hii] using hgi, hl⟩

theorem appendR_room (H : HR ι I h w) {id : Nat} (hid : ι id = none) {t tx ty e : TypeId} {sz bytes : Nat} (T : AppT P t tx e sz bytes) {cs : List AV} {ys : List (List AV)} {b : Option Addr} {ly : List Value} {cb o room len cap capy t0 : Nat}
    (Ry : Rd ι I w sz ys b ly) (ht : ι t0 = some (.cells cb o room)) (hg : h.get t0 = some (.cells cs)) (hcs : cs.length = len * sz)
    (hroom : len + ys.length ≤ cap) (hcap : cap * sz ≤ room) :
    ESim P ι I h w id (.rs id 0 (len + ys.length) sz) ((h.set t0 none).at id (.cells (cs ++ ys.flatten))) (Builtin.append_ #[t, tx] ty #[.slice (some ⟨cb, o, none⟩) len cap, .slice b ys.length capy]) := by
  obtain ⟨ie, z, hie, hz, hsz, hbytes, hzs⟩ := T.info
  have hsrc := Ry.src (P := P) T.htx capy
  rw [← hsz] at hsrc
  have hmul : len * sz + ys.length * sz ≤ cap * sz := by rw [← Nat.add_mul]; exact Nat.mul_le_mul_right _ hroom
  have hly := Ry.len
  obtain ⟨cb', o', room', hl', hle', hone', hcell⟩ := H.cells t0 cs _ hg ht
  cases hl'
  have hrun := run_append_room_src (P := P) w t tx ty e ie T.ht hie cb o len cap (.slice b ys.length capy) ys.length ly hsrc hroom
    (fun j hj => by rw [hsz]; obtain ⟨u, hu, _⟩ := hcell (len * sz + j) (by omega); rw [Nat.add_assoc, hu]; rfl)
    (fun j hj => by rw [hsz]; obtain ⟨u, _, hu, _⟩ := hcell (len * sz + j) (by omega); rw [Nat.add_assoc]; exact hu)
  rw [hsz] at hrun
  have W := WCh.setCells w cb (o + len * sz) ly
  have hR : ∀ k j, (k = cb ∧ o + len * sz ≤ j ∧ j < o + len * sz + ly.length) → (Loc.cells cb o room).has k j := fun k j ⟨h1, h2, h3⟩ => h1
  have hout : ∀ k j, (Loc.cells cb o room).has k j → ¬ Owned ι (h.set t0 none) k j := fun k j hl ⟨i, l, x, hi, hgi, hli⟩ =>
    H.disj i t0 l _ x _ k j (drop_get hgi).1 hi ht (drop_get hgi).2 hg hli hl
  have hnI : ∀ k j, (Loc.cells cb o room).has k j → ¬ I k j := fun k j hl => H.imm t0 _ _ k j ht hg hl
  have hin : cb < w.heap.size := H.inside t0 _ ht
  have H1 : HR ι I (h.set t0 none) (w.setCells cb (o + len * sz) ly) := H.away W (Nat.le_refl _) (fun i y hi => (drop_get hi).2)
    (fun i l y k j hi hgi hl hr => hout k j (hR k j hr) ⟨i, l, y, hi, hgi, hl⟩) (fun k j hr => hnI k j (hR k j hr))
  have hmono : ∀ a v, VR ι I w a v → VR ι I (w.setCells cb (o + len * sz) ly) a v := fun a v hv => hv.mono (fun _ _ h => h) (fun _ _ h => h)
    (fun k j hk => W.cell k j (H.Iin k j hk) (fun hr => hnI k j (hR k j hr) hk))
  have hyl : ys.flatten.length = ys.length * sz := flat_length ys (fun r hr => (Ry.uni r hr).1)
  have H3 := H1.claim (id := id) (l := .cells cb o room) (x := .cells (cs ++ ys.flatten)) (fun l' hl' => by rw [hid] at hl'; cases hl') (Nat.lt_of_lt_of_le hin W.size)
    ⟨by rw [List.length_append, hyl]; omega, fun v hv => by
      rcases List.mem_append.1 hv with hv | hv
      · exact hone' v hv
      · obtain ⟨r, hr, hv⟩ := List.mem_flatten.1 hv
        exact (Ry.uni r hr).2 v hv, fun j hj => by
      obtain ⟨c, hc1, hc2, hc3⟩ := hcell j hj
      by_cases hjr : len * sz ≤ j ∧ j < len * sz + ly.length
      · have := World.cell?_setCells_in cb ly (o + len * sz) w (fun i hi => by
          obtain ⟨u', hu', _⟩ := hcell (len * sz + i) (by omega); rw [Nat.add_assoc, hu']; rfl) (j - len * sz) (by omega)
        rw [show o + len * sz + (j - len * sz) = o + j by omega] at this
        refine ⟨_, this, by rw [W.frozen _ _ hin]; exact hc2, fun v hv => ?_⟩
        rw [List.getElem?_append_right (by omega), hcs] at hv
        obtain ⟨c', e1, e2⟩ := Ry.lr.get hv
        rw [List.getElem?_eq_getElem (by omega)] at e1
        cases e1
        exact hmono _ _ e2
      · refine ⟨c, by rw [W.cell _ _ hin (fun hr => hjr ⟨by have := hr.2.1; omega, by have := hr.2.2; omega⟩)]; exact hc1, by rw [W.frozen _ _ hin]; exact hc2, fun v hv => ?_⟩
        have hjl := (List.getElem?_eq_some_iff.1 hv).1
        rw [List.length_append, hyl] at hjl
        rw [List.getElem?_append_left (by omega)] at hv
        exact hmono _ _ (hc3 v hv), fun n => by rw [W.frozen _ _ hin]; exact H.pl t0 cs cb o room hg ht n⟩
    (fun k j hl => ⟨hout k j hl, hnI k j hl⟩)
  refine ⟨_, _, _, _, hrun, ?_, H3, ?_⟩
  · have := VR.rs (ι := ι.set id (.cells cb o room)) (I := I) (w := w.setCells cb (o + len * sz) ly) id 0 (len + ys.length) sz cb o room cap (by rw [Inj.set_same]) hroom (by omega)
    simpa using this
  · refine Ext.of W (fun k j _ hr => ⟨t0, _, _, ht, hg, hR k j hr⟩) (fun b hb => Inj.set_other _ _ hb) (fun b l hb => by rw [Inj.set_other _ _ (fun he => by rw [he, hid] at hb; cases hb)]; exact hb)
      (by simp [AHeap.at, AHeap.set]; omega) (fun _ _ h => h) ?_ (fun _ _ h => .inl h) ?_
    · rintro k j ⟨i, l, x, hi, hgi, hli⟩
      by_cases hii : i = id
      · subst hii; rw [Inj.set_same] at hi; cases hi; exact .inl ⟨t0, _, _, ht, hg, hli⟩
      · rw [Inj.set_other _ _ hii] at hi
        have hgi' : (h.set t0 none).get i = some x := by simpa [AHeap.at, hii] using hgi
        exact .inl ⟨i, l, x, hi, (drop_get hgi').2, hli⟩
    · intro i hi hin'
      have : i ≠ t0 := fun he => by rw [he, ht] at hin'; cases hin'
      simp [AHeap.at, AHeap.set, hi, this]

theorem rd_of_rk {len sz cb o off : Nat} {cs : List AV} (hr : RowAt ι I w cb o cs) (h1 : ∀ v ∈ cs, v.one = true) (hl : off + len * sz ≤ cs.length) :
    ∃ l, Rd ι I w sz (rowsOf cs off sz len) (some ⟨cb, o + off, none⟩) l ∧ (rowsOf cs off sz len).length = len ∧ (rowsOf cs off sz len).flatten = (cs.drop off).take (len * sz) := by
  obtain ⟨e1, e2, e3⟩ := rowsOf_spec cs sz len off hl
  obtain ⟨l, hl1, hl2, hl3⟩ := (hr.sub off (len * sz)).list
  refine ⟨l, ⟨fun r hr => ⟨(e2 r hr).1, fun v hv => h1 v ((e2 r hr).2 v hv)⟩, by rw [e3]; exact ⟨hl1, hl3⟩, fun ad had => by cases had; intro j u hu; rw [Addr.add_mid]; exact hl2 j u hu, fun h => by cases h⟩, e1, e3⟩

theorem HR.trunc (H : HR ι I h w) {b cb o room : Nat} {cs : List AV} (hb : ι b = some (.cells cb o room)) (hg : h.get b = some (.cells cs)) (k : Nat) :
    HR ι I (h.set b (some (.cells (cs.take k)))) w ∧ Ext (fun _ => False) ι I h w ι I (h.set b (some (.cells (cs.take k)))) w := by
  have W : WCh (fun _ _ => False) w w := { os := rfl, tape := rfl, output := rfl, size := Nat.le_refl _, block := fun _ _ _ => rfl, cell := fun _ _ _ _ => rfl, frozen := fun _ _ _ => rfl }
  obtain ⟨_, _, _, hl, hroom, h1, hc⟩ := H.cells b cs _ hg hb
  cases hl
  refine H.turn W hb hg (fun _ _ h => h.elim) (fun _ => ⟨by simp; omega, fun v hv => h1 v (List.mem_of_mem_take hv), fun j hj => ?_, H.pl b cs cb o room hg hb⟩)
  obtain ⟨c, e1, e2, e3⟩ := hc j hj
  refine ⟨c, e1, e2, fun v hv => e3 v ?_⟩
  rw [List.getElem?_take] at hv
  split at hv
  · exact hv
  · cases hv

theorem set_set (h : AHeap) (b : Nat) (x y : Option Blk) : (h.set b x).set b y = h.set b y := by
  unfold AHeap.set
  congr 1
  funext i
  by_cases hi : i = b <;> simp [hi]

theorem appendR_rk (H : HR ι I h w) (id : Nat) {t tx ty e : TypeId} {sz bytes : Nat} (T : AppT P t tx e sz bytes) {cs : List AV} {ys : List (List AV)} {b : Option Addr} {ly : List Value} {cb o room len cap capy b0 off : Nat}
    (Ry : Rd ι I w sz ys b ly) (hb : ι b0 = some (.cells cb o room)) (hg : h.get b0 = some (.cells cs)) (hle : off + len * sz ≤ cs.length)
    (hroom : len + ys.length ≤ cap) (hcap : off + cap * sz ≤ room) :
    ESim P ι I h w id (.rk b0 off (len + ys.length) sz cap) (h.set b0 (some (.cells (setAt cs (off + len * sz) ys.flatten)))) (Builtin.append_ #[t, tx] ty #[.slice (some ⟨cb, o + off, none⟩) len cap, .slice b ys.length capy]) := by
  obtain ⟨ie, z, hie, hz, hsz, hbytes, hzs⟩ := T.info
  have hsrc := Ry.src (P := P) T.htx capy
  rw [← hsz] at hsrc
  have hmul : len * sz + ys.length * sz ≤ cap * sz := by rw [← Nat.add_mul]; exact Nat.mul_le_mul_right _ hroom
  have hly := Ry.len
  obtain ⟨cb', o', room', hl', hle', hone', hcell⟩ := H.cells b0 cs _ hg hb
  cases hl'
  have hrun := run_append_room_src (P := P) w t tx ty e ie T.ht hie cb (o + off) len cap (.slice b ys.length capy) ys.length ly hsrc hroom
    (fun j hj => by rw [hsz]; obtain ⟨u, hu, _⟩ := hcell (off + len * sz + j) (by omega); rw [show o + off + len * sz + j = o + (off + len * sz + j) by omega, hu]; rfl)
    (fun j hj => by rw [hsz]; obtain ⟨u, _, hu, _⟩ := hcell (off + len * sz + j) (by omega); rw [show o + off + len * sz + j = o + (off + len * sz + j) by omega]; exact hu)
  rw [hsz] at hrun
  have hyl : ys.flatten.length = ys.length * sz := flat_length ys (fun r hr => (Ry.uni r hr).1)
  obtain ⟨H', E⟩ := H.writeX (off := off + len * sz) hb hg hle (by rw [hyl]; omega) Ry.lr (fun u hu => by
    obtain ⟨r, hr, hv⟩ := List.mem_flatten.1 hu
    exact (Ry.uni r hr).2 u hv)
  rw [show o + (off + len * sz) = o + off + len * sz by omega] at H' E
  exact ⟨_, _, ι, I, hrun, .rk b0 off _ sz cap cb o room hb hroom hcap, H', E.mono (fun _ h => h.elim)⟩

theorem appendR_sim (H : HR ι I h w) {id : Nat} (hid : ι id = none) {t tx ty e : TypeId} {sz bytes : Nat} (T : AppT P t tx e sz bytes) {x y v : AV} {cx cy : Value} (hx : VR ι I w x cx) (hy : VR ι I w y cy) {ρ : Env} {ox oy : Opd} (hox : ox.ev ρ = x) (hoy : oy.ev ρ = y)
    {h' : AHeap} (he : aeff (.appendR bytes sz ox oy) ρ id h = some (v, h')) : ESim P ι I h w id v h' (Builtin.append_ #[t, tx] ty #[cx, cy]) := by
  simp only [aeff, hox, hoy] at he
  cases hry : rowsA sz h y with
  | none => simp [hry] at he
  | some ys =>
    simp only [hry] at he
    obtain ⟨b, capy, ly, rfl, hley, Ry⟩ := rows_sim H hy hry
    obtain ⟨ie, z, hie, hz, hsz, hbytes, hzs⟩ := T.info
    have Rn : Rd ι I w sz [] none [] := ⟨by simp, LR.nil, by simp, fun _ => rfl⟩
    have hnothing : ∀ (a : Option Addr) (n cap : Nat), n ≤ cap → ys = [] → (Builtin.append_ #[t, tx] ty #[.slice a n cap, .slice b ys.length capy]).run P w = .ok (.slice a n cap) w := by
      intro a n cap hle h0
      subst h0
      have hs := Ry.src (P := P) T.htx capy
      have : ly = [] := by have := Ry.len; simpa using this
      subst this
      rw [← hsz] at hs
      exact run_append_nothing w t tx ty e ie T.ht hie a n cap hle _ hs
    have hsame : ∀ (c : Value) (v : AV), VR ι I w v c → (Builtin.append_ #[t, tx] ty #[c, .slice b ys.length capy]).run P w = .ok c w → ESim P ι I h w id v h (Builtin.append_ #[t, tx] ty #[c, .slice b ys.length capy]) :=
      fun c v hv hr => ⟨c, w, ι, I, hr, hv, H, Ext.refl _ _ _ _ _⟩
    have hnew : ∀ (a : Option Addr), Rd ι I w sz [] a [] → ¬ ys = [] → ys.length * bytes < 2 ^ 40 ∧ ys.length < 2 ^ 40 → ESim P ι I h w id (.rs id 0 ys.length sz) (h.at id (.cells ys.flatten)) (Builtin.append_ #[t, tx] ty #[.slice a 0 0, .slice b ys.length capy]) := by
      intro a Rx h0 hc
      have := appendR_grow H hid T Rx Ry (cap := 0) (capy := capy) (ty := ty) (by have := List.length_pos_iff.2 h0; simp; omega) (by simpa using hc.1) (by simpa using hc.2)
      simpa using this
    cases hx <;> (try simp only [] at he) <;> try (cases he; done)
    case nils =>
      split at he
      · rename_i h0
        cases he
        exact hsame _ _ .nils (hnothing none 0 0 (Nat.le_refl _) h0)
      · rename_i h0
        split at he
        · rename_i hc
          cases he
          exact hnew none Rn h0 hc
        · cases he
    case vsNil t' ht =>
      rcases ht with rfl | rfl
      · simp at he
      · simp only [] at he
        split at he
        · rename_i h0
          cases he
          exact hsame _ _ (.vsNil _ (.inr rfl)) (hnothing none 0 0 (Nat.le_refl _) h0)
        · rename_i h0
          split at he
          · rename_i hc
            cases he
            exact hnew none Rn h0 hc
          · cases he
    case vsZ t' a cap ht =>
      rcases ht with rfl | ⟨rfl, rfl⟩
      · simp at he
      · simp only [] at he
        split at he
        · rename_i h0
          cases he
          exact hsame _ _ (.vsZ _ _ _ (.inr ⟨rfl, rfl⟩)) (hnothing _ 0 0 (Nat.le_refl _) h0)
        · rename_i h0
          split at he
          · rename_i hc
            cases he
            exact hnew (some a) ⟨by simp, LR.nil, fun ad _ j u hu => by simp at hu, fun _ => rfl⟩ h0 hc
          · cases he
    case vs xs t' cb o s cap g hs hI hc hv' hone hcap ht =>
      cases xs with
      | cons a b => simp at he
      | nil =>
        cases t' with
        | unk => simp at he
        | own t0 => simp at he
        | full =>
          (try simp only [] at he)
          have hcap0 : cap = 0 := ht
          subst hcap0
          split at he
          · rename_i h0
            cases he
            exact hsame _ _ (.vs [] .full cb o s 0 g hs hI hc hv' hone hcap ht) (hnothing _ 0 0 (Nat.le_refl _) h0)
          · rename_i h0
            split at he
            · rename_i hc'
              cases he
              exact hnew (some ⟨cb, o, none⟩) ⟨by simp, LR.nil, fun ad _ j u hu => by simp at hu, fun _ => rfl⟩ h0 hc'
            · cases he
    case rs b' off len sz' cb o room cap hb' hlen hcap =>
      split at he
      · rename_i h0
        cases he
        exact hsame _ _ (.rs b' off len sz' cb o room cap hb' hlen hcap) (hnothing _ len cap hlen h0)
      · rename_i hne
        split at he
        · rename_i cs hg
          split at he
          · rename_i hc
            obtain ⟨rfl, rfl, hcs, hb1, hb2⟩ := hc
            cases he
            have hg' := cellsOf_some hg
            obtain ⟨hrow, hroomle, hone⟩ := H.row hg' hb'
            by_cases hroom : len + ys.length ≤ cap
            · obtain ⟨H1, E1⟩ := H.trunc hb' hg' (len * sz')
              have hg1 : (h.set b' (some (.cells (cs.take (len * sz'))))).get b' = some (.cells (cs.take (len * sz'))) := by simp [AHeap.set]
              obtain ⟨c, w', ι', I', h1, h2, h3, h4⟩ := appendR_room H1 hid T Ry (ty := ty) (capy := capy) hb' hg1 (by rw [List.length_take]; exact Nat.min_eq_left hcs) hroom (by simpa using hcap)
              rw [set_set] at h3 h4
              exact ⟨c, w', ι', I', h1, h2, h3, (E1.mono (fun _ h => h.elim)).trans h4 (fun _ h => h)⟩
            · obtain ⟨H1, E1⟩ := H.drop hb'
              obtain ⟨l, Rx, e1, e2⟩ := rd_of_rk (off := 0) (sz := sz') (len := len) hrow hone (by simpa using hcs)
              have := appendR_grow H1 hid T Rx Ry (cap := cap) (capy := capy) (ty := ty) (by rw [e1]; omega) (by rw [e1]; exact hb1) (by rw [e1]; exact hb2)
              rw [e1, List.flatten_append, e2, List.drop_zero] at this
              exact ESim.of_drop H hb' this hid
          · cases he
        · cases he
    case rk b' off len sz' cap cb o room hb' hlen hcap =>
      split at he
      · rename_i cs hg
        split at he
        · rename_i hc
          obtain ⟨rfl, hroom, hcs⟩ := hc
          cases he
          exact appendR_rk H id T Ry hb' (cellsOf_some hg) hcs hroom hcap
        · cases he
      · cases he

theorem flat_take {sz : Nat} : ∀ (zs : List (List AV)) (n : Nat), (∀ r ∈ zs, r.length = sz) → (zs.take n).flatten = zs.flatten.take (n * sz)
  | [], n, _ => by simp
  | z :: zs, 0, _ => by simp
  | z :: zs, n + 1, hz => by
    have h0 := hz z (by simp)
    have e : (n + 1) * sz = z.length + n * sz := by rw [h0, Nat.succ_mul]; omega
    have e2 : z.take (z.length + n * sz) = z := List.take_of_length_le (by omega)
    rw [List.take_succ_cons, List.flatten_cons, List.flatten_cons, flat_take zs n (fun r hr => hz r (List.mem_cons_of_mem _ hr)), e, List.take_append, e2]
    simp

theorem copy_sim (H : HR ι I h w) {t tx ty e : TypeId} {sz : Nat} (ht : P.underlying t = some (.slice e)) (hs : (P.info? e).map (·.size) = some sz) (id : Nat) {x y v : AV} {cx cy : Value} (hx : VR ι I w x cx) (hy : VR ι I w y cy) {ρ : Env} {ox oy : Opd} (hox : ox.ev ρ = x) (hoy : oy.ev ρ = y)
    {h' : AHeap} (he : aeff (.copy sz ox oy) ρ id h = some (v, h')) (htx : ∃ e', P.underlying tx = some (.slice e')) (hyl : ∃ a n c, cy = .slice a n c) : ESim P ι I h w id v h' (Builtin.copy_ #[t, tx] ty #[cx, cy]) := by
  simp only [aeff, hox, hoy] at he
  have hzero : ∀ a n c, (Builtin.copy_ #[t, tx] ty #[.slice a 0 n, c]).run P w = .ok (.int .i64 0) w ∨ ¬ (∃ x y z, c = .slice x y z) := by
    intro a n c
    by_cases hc : ∃ x y z, c = .slice x y z
    · obtain ⟨x, y, z, rfl⟩ := hc
      refine .inl ?_
      cases x <;> cases a <;> simp [Builtin.copy_, run_under ht, run_size hs, Builtin.lenOf, Builtin.firstCells, loadCells, loadCellsFrom, storeCells, goInt]
    · exact .inr hc
  cases hx <;> (try simp only [] at he) <;> try (cases he; done)
  case nils =>
    split at he <;> cases he
    rcases hzero none 0 cy with h | h
    · exact ⟨_, w, ι, I, h, .int _ _, H, Ext.refl _ _ _ _ _⟩
    · exact (h hyl).elim
  case vsNil t' ht' =>
    split at he <;> cases he
    rcases hzero none 0 cy with h | h
    · exact ⟨_, w, ι, I, h, .int _ _, H, Ext.refl _ _ _ _ _⟩
    · exact (h hyl).elim
  case vsZ t' a cap ht' =>
    split at he <;> cases he
    rcases hzero (some a) cap cy with h | h
    · exact ⟨_, w, ι, I, h, .int _ _, H, Ext.refl _ _ _ _ _⟩
    · exact (h hyl).elim
  case vs xs t' cb o s cap g hs' hI hc hv' hone hcap ht' =>
    cases xs with
    | cons a b => simp at he
    | nil =>
      simp only [] at he
      split at he <;> cases he
      rcases hzero (some ⟨cb, o, none⟩) cap cy with h | h
      · exact ⟨_, w, ι, I, h, .int _ _, H, Ext.refl _ _ _ _ _⟩
      · exact (h hyl).elim
  case rs b off len sz' cb o room cap hb hlen hcap =>
    cases hry : rowsA sz h y with
    | none => simp [hry] at he
    | some ys =>
      cases hgc : cellsOf h b with
      | none => simp [hry, hgc] at he
      | some cs =>
        simp only [hry, hgc] at he
        split at he
        · rename_i hc
          obtain ⟨rfl, hle⟩ := hc
          cases he
          have hg := cellsOf_some hgc
          obtain ⟨a, capy, ly, rfl, hley, Ry⟩ := rows_sim H hy hry
          obtain ⟨_, _, _, hl, hroom, _, hcell⟩ := H.cells b cs _ hg hb
          cases hl
          have hsub : (ys.take (min ys.length len)).flatten = ys.flatten.take (min ys.length len * sz') := by
            exact flat_take ys _ (fun r hr => (Ry.uni r hr).1)
          have hlr : LR ι I w (ys.take (min ys.length len)).flatten (ly.take (min ys.length len * sz')) := by rw [hsub]; exact Ry.lr.take _
          have hlen' : (ly.take (min ys.length len * sz')).length = min ys.length len * sz' := by
            rw [List.length_take, Ry.len]; exact Nat.min_eq_left (Nat.mul_le_mul_right _ (Nat.min_le_left _ _))
          have hmn : min ys.length len * sz' ≤ len * sz' := Nat.mul_le_mul_right _ (Nat.min_le_right _ _)
          have hone : ∀ u ∈ (ly.take (min ys.length len * sz')), u.oneCell' = true := fun u hu => Ry.one u (List.mem_of_mem_take hu)
          have hfirst : (Builtin.firstCells sz' (min ys.length len) (.slice a ys.length capy)).run P w = .ok (ly.take (min ys.length len * sz')).toArray w := by
            cases a with
            | none =>
              have := Ry.none rfl
              subst this
              have : ly = [] := by have := Ry.len; simpa using this
              subst this
              simpa using run_firstCells_none (P := P) w sz' 0 0 capy
            | some ad =>
              have hcc := Ry.cell ad rfl
              refine run_firstCells_some w sz' _ _ _ _ _ hlen' (fun j u hu => ?_)
              rw [List.getElem?_take] at hu
              split at hu
              · exact hcc j u hu
              · cases hu
          have hst := run_storeCells_cells (P := P) cb (o + off) (ly.take (min ys.length len * sz')) 0 w
            (fun j hj => by simp only [Nat.add_zero]; obtain ⟨c, hc', _⟩ := hcell (off + j) (by omega); rw [Nat.add_assoc, hc']; rfl)
            (fun j hj => by simp only [Nat.add_zero]; obtain ⟨c, _, hc', _⟩ := hcell (off + j) (by omega); rw [Nat.add_assoc]; exact hc') hone
          simp only [Nat.add_zero] at hst
          obtain ⟨H', E⟩ := H.write (off := off) hb hg (by rw [hlr.1, hlen']; omega) hlr (fun u hu => by
            obtain ⟨r, hr, hv⟩ := List.mem_flatten.1 hu
            exact (Ry.uni r (List.mem_of_mem_take hr)).2 u hv)
          refine ⟨_, _, ι, I, ?_, .int _ _, H', E.mono (fun _ h => h.elim)⟩
          have hmin : Nat.min ys.length len = min ys.length len := rfl
          simp [Builtin.copy_, run_under ht, run_size hs, Builtin.lenOf, hmin, hfirst, hst, goInt]
        · cases he

end
end Go.Proofs.YtjkllffbjeajhaaGreat.Am

namespace Go.Proofs.YtjkllffbjeajhaaGreat.Am
open Go

section
variable {P : Program} {ι : Inj} {I : Imm} {h : AHeap} {w : World}

theorem mkmap_sim (H : HR ι I h w) {id : Nat} (hid : ι id = none) (t : TypeId) : ESim P ι I h w id (.map (some id)) (h.at id (.map [])) (Instr.makeMap t none) := by
  have W := WCh.push w (.map #[] 0)
  have hown : ∀ k j, Owned ι h k j → k < w.heap.size := fun k j ⟨i, l, x, hi, _, hl⟩ => by rw [Loc.has_block hl]; exact H.inside i l hi
  have H1 : HR ι I h (w.alloc (.map #[] 0)) := H.away W (Nat.le_refl _) (fun _ _ h => h) (fun _ _ _ _ _ _ _ _ h => h) (fun _ _ h => h.elim)
  have H3 := H1.claim (id := id) (l := .map w.heap.size) (x := .map []) (fun l' hl' => by rw [hid] at hl'; cases hl') (by simp [Loc.block])
    ⟨#[], 0, heap_alloc_new w _, ⟨rfl, fun i k v e h => by simp at h⟩, ⟨fun e he => by simp at he, by simp⟩⟩
    (fun k j hl => ⟨fun ho => by have := hown k j ho; have := (show k = w.heap.size from hl); omega, fun hI => by have := H.Iin k j hI; have := (show k = w.heap.size from hl); omega⟩)
  refine ⟨.map (some w.heap.size), _, _, _, rfl, .map id w.heap.size (by rw [Inj.set_same]), H3, ?_⟩
  refine Ext.of W (fun _ _ _ h => h.elim) (fun b hb => Inj.set_other _ _ hb) (fun b l hb => by rw [Inj.set_other _ _ (fun he => by rw [he, hid] at hb; cases hb)]; exact hb) (by simp [AHeap.at]; omega) (fun _ _ h => h) ?_ (fun _ _ h => .inl h) (fun b hb _ => by simp [AHeap.at, hb])
  rintro k j ⟨i, l, x, hi, hgi, hl⟩
  by_cases hii : i = id
  · subst hii; rw [Inj.set_same] at hi; cases hi; exact .inr (by have := (show k = w.heap.size from hl); omega)
  · rw [Inj.set_other _ _ hii] at hi
    exact .inl ⟨i, l, x, hi, by simpa [AHeap.at, hii] using hgi, hl⟩

theorem WCh.setMap (w : World) {cb : Nat} {es : Array MapEntry} {clock : Nat} (hm : w.heap[cb]? = some (.map es clock)) (es' : Array MapEntry) (clock' : Nat) :
    WCh (fun k _ => k = cb) w { w with heap := w.heap.setIfInBounds cb (.map es' clock') } := by
  have hother : ∀ k, k ≠ cb → (w.heap.setIfInBounds cb (.map es' clock'))[k]? = w.heap[k]? := fun k hk => Array.getElem?_setIfInBounds_ne (Ne.symm hk)
  have hlt : cb < w.heap.size := (Array.getElem?_eq_some_iff.1 hm).1
  have hself : (w.heap.setIfInBounds cb (.map es' clock'))[cb]? = some (.map es' clock') := by simp [hlt]
  refine { os := rfl, tape := rfl, output := rfl, size := by simp, block := fun k hk hr => hother k (fun he => hr 0 he), cell := fun k j hk hr => ?_, frozen := fun k j hk => ?_ }
  · simp [World.cell?, hother k hr]
  · by_cases hkc : k = cb
    · subst hkc; simp only [World.frozen?, hself, hm]
    · simp [World.frozen?, hother k hkc]

theorem run_setMap (w : World) {cb : Nat} {es : Array MapEntry} {clock : Nat} (hm : w.heap[cb]? = some (.map es clock)) (o : Obj) :
    (setObj cb o).run P w = .ok () { w with heap := w.heap.setIfInBounds cb o } := by
  simp [setObj, Sem.run, hm]

theorem turnMap (H : HR ι I h w) {b cb : Nat} {es : List (AV × AV)} {es' : Array MapEntry} {clock : Nat} (hb : ι b = some (.map cb)) (hg : h.get b = some (.map es)) (hm : w.heap[cb]? = some (.map es' clock))
    {fs : List (AV × AV)} {fs' : Array MapEntry} (clock' : Nat) (her : ER ι I w fs fs'.toList) (hst : Stamps fs' clock') :
    HR ι I (h.set b (some (.map fs))) { w with heap := w.heap.setIfInBounds cb (.map fs' clock') } ∧
    Ext (fun _ => False) ι I h w ι I (h.set b (some (.map fs))) { w with heap := w.heap.setIfInBounds cb (.map fs' clock') } := by
  have W := WCh.setMap w hm fs' clock'
  refine H.turn W hb hg (fun k j hk => hk) (fun H1 => ?_)
  have hlt : cb < w.heap.size := (Array.getElem?_eq_some_iff.1 hm).1
  have hmono : ∀ a c, VR ι I w a c → VR ι I { w with heap := w.heap.setIfInBounds cb (.map fs' clock') } a c := fun a c hac => hac.mono (fun _ _ h => h) (fun _ _ h => h) (fun k j hk =>
    W.cell k j (H.Iin k j hk) (fun hkc => H.imm b _ _ k j hb hg hkc hk))
  exact ⟨fs', clock', by simp [hlt], ⟨her.1, fun i k v e h1 h2 => ⟨hmono _ _ (her.2 i k v e h1 h2).1, hmono _ _ (her.2 i k v e h1 h2).2⟩⟩, hst⟩

theorem Stamps.push {es : Array MapEntry} {clock : Nat} (hs : Stamps es clock) {k v : Value} : Stamps (es.push { key := k, val := v, born := clock }) (clock + 1) := by
  refine ⟨fun e he => ?_, ?_⟩
  · simp only [Array.toList_push, List.mem_append, List.mem_singleton] at he
    rcases he with he | rfl
    · exact Nat.lt_succ_of_lt (hs.1 e he)
    · exact Nat.lt_succ_self _
  · simp only [Array.toList_push, List.map_append, List.map_cons, List.map_nil]
    refine List.nodup_append.2 ⟨hs.2, by simp, fun a ha b hb => ?_⟩
    simp only [List.mem_singleton] at hb
    obtain ⟨e, he, rfl⟩ := List.mem_map.1 ha
    have := hs.1 e he
    omega

theorem map_modify_born {f : MapEntry → MapEntry} (hf : ∀ e, (f e).born = e.born) : ∀ (l : List MapEntry) (j : Nat), (l.modify j f).map (·.born) = l.map (·.born)
  | [], j => by simp
  | e :: l, 0 => by simp [hf]
  | e :: l, j + 1 => by simp [map_modify_born hf l j]

theorem Stamps.modify {es : Array MapEntry} {clock j : Nat} (hs : Stamps es clock) {f : MapEntry → MapEntry} (hf : ∀ e, (f e).born = e.born) : Stamps (es.modify j f) clock := by
  have hb : (es.modify j f).toList.map (·.born) = es.toList.map (·.born) := by rw [Array.toList_modify]; exact map_modify_born hf _ _
  refine ⟨fun e he => ?_, by rw [hb]; exact hs.2⟩
  have : e.born ∈ (es.modify j f).toList.map (·.born) := List.mem_map.2 ⟨e, he, rfl⟩
  rw [hb] at this
  obtain ⟨e', he', h⟩ := List.mem_map.1 this
  rw [← h]; exact hs.1 e' he'

theorem Stamps.erase {es : Array MapEntry} {clock j : Nat} (hs : Stamps es clock) : Stamps (es.eraseIdxIfInBounds j) clock := by
  have hsub : (es.eraseIdxIfInBounds j).toList.Sublist es.toList := by rw [Array.toList_eraseIdxIfInBounds]; exact List.eraseIdx_sublist _ _
  exact ⟨fun e he => hs.1 e (hsub.subset he), (hsub.map _).nodup hs.2⟩

theorem run_keyStays (w : World) (k : IntKind) (n : Int) : (Instr.keyThatStays (.int k n) (.int k n)).run P w = .ok (.int k n) w := by
  simp [Instr.keyThatStays, Instr.sameBits]

theorem mapupd_sim (H : HR ι I h w) (id : Nat) {t key e : TypeId} {kk : IntKind} (hu : P.underlying t = some (.map key e)) (hk : P.underlying key = some (.int kk)) {m k v r : AV} {cm ck cv : Value}
    (hm : VR ι I w m cm) (hkv : VR ι I w k ck) (hv : VR ι I w v cv) {ρ : Env} {om ok ov : Opd} (hom : om.ev ρ = m) (hok : ok.ev ρ = k) (hov : ov.ev ρ = v) {h' : AHeap} (he : aeff (.mapupd om ok ov) ρ id h = some (r, h')) :
    r = .undef ∧ ∃ w', (Instr.mapUpdate t cm ck cv).run P w = .ok () w' ∧ HR ι I h' w' ∧ Ext (fun _ => False) ι I h w ι I h' w' := by
  simp only [aeff, hom, hok, hov] at he
  replace hv := hv.strip
  generalize v.strip = v at *
  cases hm <;> (try simp only [] at he) <;> try (cases he; done)
  rename_i b cb hb
  cases hkv <;> (try simp only [] at he) <;> try (cases he; done)
  rename_i kd n
  split at he
  · rename_i es hg
    obtain ⟨es', clock, hmm, her, hst⟩ := H.map hg hb
    cases hms : mapSet (.int kd n) v es with
    | none => simp [hms] at he
    | some fs =>
      simp [hms] at he
      obtain ⟨rfl, rfl⟩ := he
      unfold mapSet at hms
      cases hf : findA (.int kd n) es 0 with
      | none => simp [hf] at hms
      | some o =>
        simp only [hf, Option.map_some, Option.some.injEq] at hms
        rcases find_rel kk es es'.toList 0 o her hf with ⟨rfl, hfn⟩ | ⟨j, ent, rfl, hent, hkey, hfn⟩
        · simp only [] at hms
          subst hms
          obtain ⟨H', E⟩ := turnMap H hb hg hmm (fs := es ++ [(.int kd n, v)]) (fs' := es'.push { key := .int kd n, val := cv, born := clock }) (clock + 1) (by
            refine ⟨by simp [her.1], fun i k1 v1 e1 h1 h2 => ?_⟩
            simp only [Array.toList_push] at h2
            rw [List.getElem?_append] at h1 h2
            rw [← her.1] at h2
            split at h1
            · rename_i hlt; rw [if_pos hlt] at h2; exact her.2 i k1 v1 e1 h1 h2
            · rename_i hlt
              rw [if_neg hlt] at h2
              have h0 : i - es.length = 0 := by have := (List.getElem?_eq_some_iff.1 h1).1; simpa using this
              rw [h0] at h1 h2
              simp at h1 h2
              obtain ⟨rfl, rfl⟩ := h1
              subst h2
              exact ⟨.int _ _, hv⟩) hst.push
          refine ⟨rfl, _, ?_, H', E⟩
          simp [Instr.mapUpdate, run_under hu, run_getMap w hmm, run_checkKey w hk, run_findKey w hk hfn, run_setMap w hmm]
        · simp only [Nat.zero_add] at hms hfn
          subst hms
          have hj : j < es'.size := by have := (List.getElem?_eq_some_iff.1 hent).1; simpa using this
          have hent' : es'[j]? = some ent := by simpa using hent
          obtain ⟨H', E⟩ := turnMap H hb hg hmm (fs := es.set j (.int kd n, v)) (fs' := es'.modify j fun e => { e with key := .int kd n, val := cv }) clock (by
            refine ⟨by simp [her.1], fun i k1 v1 e1 h1 h2 => ?_⟩
            simp only [Array.getElem?_toList, Array.getElem?_modify] at h2
            rw [List.getElem?_set] at h1
            by_cases hij : j = i
            · subst hij
              rw [if_pos rfl] at h1
              have hjl : j < es.length := by rw [her.1]; simpa using hj
              rw [if_pos hjl] at h1
              rw [if_pos rfl] at h2
              simp at h1
              obtain ⟨rfl, rfl⟩ := h1
              rw [hent'] at h2
              simp at h2
              subst h2
              exact ⟨.int _ _, hv⟩
            · rw [if_neg hij] at h1 h2
              exact her.2 i k1 v1 e1 h1 (by simpa using h2)) (hst.modify (fun _ => rfl))
          refine ⟨rfl, _, ?_, H', E⟩
          simp [Instr.mapUpdate, run_under hu, run_getMap w hmm, run_checkKey w hk, run_findKey w hk hfn, hent', hkey, run_keyStays, run_setMap w hmm]
  · cases he

theorem mapdel_sim (H : HR ι I h w) (id : Nat) {t tx ty key e : TypeId} {kk : IntKind} (hu : P.underlying t = some (.map key e)) (hk : P.underlying key = some (.int kk)) {m k r : AV} {cm ck : Value}
    (hm : VR ι I w m cm) (hkv : VR ι I w k ck) {ρ : Env} {om ok : Opd} (hom : om.ev ρ = m) (hok : ok.ev ρ = k) {h' : AHeap} (he : aeff (.mapdel om ok) ρ id h = some (r, h')) :
    ESim P ι I h w id r h' (Builtin.delete_ #[t, tx] ty #[cm, ck]) := by
  simp only [aeff, hom, hok] at he
  cases hm <;> (try simp only [] at he) <;> try (cases he; done)
  rename_i b cb hb
  cases hkv <;> (try simp only [] at he) <;> try (cases he; done)
  rename_i kd n
  split at he
  · rename_i es hg
    obtain ⟨es', clock, hmm, her, hst⟩ := H.map hg hb
    cases hms : mapDel (.int kd n) es with
    | none => simp [hms] at he
    | some fs =>
      simp [hms] at he
      obtain ⟨rfl, rfl⟩ := he
      unfold mapDel at hms
      cases hf : findA (.int kd n) es 0 with
      | none => simp [hf] at hms
      | some o =>
        simp only [hf, Option.map_some, Option.some.injEq] at hms
        have hnil : VR ι I w (.tup []) (.tuple #[]) := .tup [] [] rfl (fun i v c h => by simp at h)
        rcases find_rel kk es es'.toList 0 o her hf with ⟨rfl, hfn⟩ | ⟨j, ent, rfl, hent, hkey, hfn⟩
        · simp only [] at hms
          subst hms
          obtain ⟨H', E⟩ := turnMap H hb hg hmm (fs := es) (fs' := es') clock her hst
          refine ⟨_, _, ι, I, ?_, E.vr H hnil, H', E.mono (fun _ h => h.elim)⟩
          simp [Builtin.delete_, run_under hu, run_getMap w hmm, run_checkKey w hk, run_findKey w hk hfn, run_setMap w hmm]
        · simp only [Nat.zero_add] at hms hfn
          subst hms
          obtain ⟨H', E⟩ := turnMap H hb hg hmm (fs := es.eraseIdx j) (fs' := es'.eraseIdxIfInBounds j) clock (by
            have hj : j < es'.size := by have := (List.getElem?_eq_some_iff.1 hent).1; simpa using this
            have hjl : j < es.length := by rw [her.1]; simpa using hj
            have hl := her.1
            refine ⟨by simp [List.length_eraseIdx, hj, hjl, hl], fun i k1 v1 e1 h1 h2 => ?_⟩
            rw [List.getElem?_eraseIdx] at h1
            simp only [Array.toList_eraseIdxIfInBounds, List.getElem?_eraseIdx] at h2
            split at h1
            · rename_i hlt; rw [if_pos hlt] at h2; exact her.2 i k1 v1 e1 h1 h2
            · rename_i hlt; rw [if_neg hlt] at h2; exact her.2 _ k1 v1 e1 h1 h2) hst.erase
          refine ⟨_, _, ι, I, ?_, E.vr H hnil, H', E.mono (fun _ h => h.elim)⟩
          simp [Builtin.delete_, run_under hu, run_getMap w hmm, run_checkKey w hk, run_findKey w hk hfn, run_setMap w hmm]
  · cases he

end
end Go.Proofs.YtjkllffbjeajhaaGreat.Am

namespace Go.Proofs.YtjkllffbjeajhaaGreat.Am
open Go

section
variable {P : Program} {ι : Inj} {I : Imm} {h : AHeap} {w : World}

theorem cap_sim (H : HR ι I h w) {t e ty : TypeId} (hu : P.underlying t = some (.slice e)) {x : AV} {c : Value} (hx : VR ι I w x c) {n : Nat} (hn : capA x = some n) :
    PSim P ι I h w (.int .i64 n) (Builtin.cap_ #[t] ty #[c]) := by
  have run : ∀ a l k, (Builtin.cap_ #[t] ty #[.slice a l k]).run P w = .ok (.int .i64 k) w := fun a l k => by
    simp [Builtin.cap_, run_under hu, goInt]
  unfold capA at hn
  cases hx <;> (try simp only [] at hn) <;> try (cases hn; done)
  case nils => cases hn; exact .same H (run _ _ _) (.int _ _)
  case vsNil t' ht =>
    rcases ht with rfl | rfl
    · cases hn
    · cases hn; exact .same H (run _ _ _) (.int _ _)
  case vsZ t' a cap ht =>
    rcases ht with rfl | ⟨rfl, rfl⟩
    · cases hn
    · cases hn; exact .same H (run _ _ _) (.int _ _)
  case vs xs t' cb o s cap g hs hI hc hv h1 hcap ht =>
    cases t' with
    | unk => cases hn
    | own t => cases hn
    | full =>
      cases hn
      have : cap = xs.length := ht
      subst this
      exact .same H (run _ _ _) (.int _ _)
  case rk b off len sz cap cb o room hb hlen hcap =>
    cases hn
    exact .same H (run _ _ _) (.int _ _)

theorem idxStr_sim (H : HR ι I h w) {t : TypeId} (hu : P.underlying t = some .string) {x i v : AV} {c ci : Value} (hx : VR ι I w x c) (hi : VR ι I w i ci) (hv : idxStrA x i = some v) :
    PSim P ι I h w v (Instr.index t c ci) := by
  unfold idxStrA at hv
  cases hx <;> (try simp only [] at hv) <;> try (cases hv; done)
  rename_i s
  cases hi <;> (try simp only [] at hv) <;> try (cases hv; done)
  rename_i k n
  split at hv
  · rename_i h0
    cases hb : s[n.toNat]? with
    | none => simp [hb] at hv
    | some b =>
      simp [hb] at hv
      subst hv
      refine .same H (c := .int .u8 b.toNat) ?_ (.int _ _)
      simp [Instr.index, asIntOf, run_under hu, h0, hb]
  · cases hv

/-- A slice whose first bytes are read. -/
theorem firstN (H : HR ι I h w) {y : AV} {cy : Value} (hy : VR ι I w y cy) {sz n m : Nat} {ys : List (List AV)} (hr : rowsN sz n h y = some ys) (hm : lenA y = some m) (hnm : n ≤ m) :
    ∃ a cap l, cy = .slice a m cap ∧ ys.length = n ∧ (∀ r ∈ ys, r.length = sz ∧ ∀ v ∈ r, v.one = true) ∧ LR ι I w ys.flatten l ∧ l.length = n * sz ∧ (Builtin.firstCells sz n (.slice a m cap)).run P w = .ok l.toArray w := by
  unfold rowsN at hr
  have vsc : ∀ xs t, y = .vs xs t → ∃ a cap l, cy = .slice a m cap ∧ ys.length = n ∧ (∀ r ∈ ys, r.length = sz ∧ ∀ v ∈ r, v.one = true) ∧ LR ι I w ys.flatten l ∧ l.length = n * sz ∧ (Builtin.firstCells sz n (.slice a m cap)).run P w = .ok l.toArray w := by
    rintro xs t rfl
    simp only [] at hr
    split at hr
    · rename_i hk
      cases hr
      simp only [lenA, Option.some.injEq] at hm
      subst hm
      obtain ⟨a, cap, l, rfl, hle, R⟩ := rows_sim H hy (show rowsA sz h (.vs xs t) = some xs by simp [rowsA, hk])
      have hsub : (xs.take n).flatten = xs.flatten.take (n * sz) := flat_take xs _ (fun r hr => (R.uni r hr).1)
      have hlen' : (l.take (n * sz)).length = n * sz := by rw [List.length_take, R.len]; exact Nat.min_eq_left (Nat.mul_le_mul_right _ hnm)
      refine ⟨a, cap, l.take (n * sz), rfl, by simp; omega, fun r hr => R.uni r (List.mem_of_mem_take hr), by rw [hsub]; exact R.lr.take _, hlen', ?_⟩
      cases a with
      | none =>
        have := R.none rfl
        subst this
        have hl0 : l = [] := by have := R.len; simpa using this
        subst hl0
        have hn0 : n = 0 := by simpa using hnm
        subst hn0
        simpa using run_firstCells_none (P := P) w sz 0 0 cap
      | some ad =>
        refine run_firstCells_some w sz _ _ _ _ _ hlen' (fun j u hu => ?_)
        rw [List.getElem?_take] at hu
        split at hu
        · exact R.cell ad rfl j u hu
        · cases hu
    · cases hr
  cases hy <;> (try simp only [] at hr) <;> try (cases hr; done)
  case vs xs t _ _ _ _ _ _ _ _ _ _ _ _ => exact vsc xs t rfl
  case vsNil t _ => exact vsc [] t rfl
  case vsZ t _ _ _ => exact vsc [] t rfl
  case rk b off len sz' cap cb o room hb hlen hcap =>
    split at hr
    · rename_i hc
      obtain ⟨rfl, hn⟩ := hc
      cases hg : cellsOf h b with
      | none => simp [hg] at hr
      | some cs =>
        simp only [hg] at hr
        split at hr
        · rename_i hle
          cases hr
          simp only [lenA, Option.some.injEq] at hm
          subst hm
          obtain ⟨hrow, _, hone⟩ := H.row (cellsOf_some hg) hb
          obtain ⟨l, R, e1, e2⟩ := rd_of_rk (len := n) hrow hone hle
          refine ⟨_, cap, l, rfl, e1, R.uni, R.lr, by rw [R.len, e1], ?_⟩
          exact run_firstCells_some w sz' _ _ _ _ _ (by rw [R.len, e1]) (fun j u hu => R.cell _ rfl j u hu)
        · cases hr
    · cases hr

theorem copyK_sim (H : HR ι I h w) {t tx ty e : TypeId} {sz : Nat} (ht : P.underlying t = some (.slice e)) (hs : (P.info? e).map (·.size) = some sz) (id : Nat) {x y v : AV} {cx cy : Value} (hx : VR ι I w x cx) (hy : VR ι I w y cy) {ρ : Env} {ox oy : Opd} (hox : ox.ev ρ = x) (hoy : oy.ev ρ = y)
    {h' : AHeap} (he : aeff (.copyK sz ox oy) ρ id h = some (v, h')) : ESim P ι I h w id v h' (Builtin.copy_ #[t, tx] ty #[cx, cy]) := by
  simp only [aeff, hox, hoy] at he
  cases hx <;> (try simp only [] at he) <;> try (cases he; done)
  case rk b off len sz' cap cb o room hb hlen hcap =>
    cases hm : lenA y with
    | none => simp [hm] at he
    | some m =>
      simp only [hm] at he
      cases hry : rowsN sz (min m len) h y with
      | none => simp [hry] at he
      | some ys =>
        cases hgc : cellsOf h b with
        | none => simp [hry, hgc] at he
        | some cs =>
          simp only [hry, hgc] at he
          split at he
          · rename_i hc
            obtain ⟨rfl, hle⟩ := hc
            cases he
            have hg := cellsOf_some hgc
            obtain ⟨a, capy, l, rfl, hyl, huni, hlr, hll, hfirst⟩ := firstN (P := P) H hy hry hm (Nat.min_le_left _ _)
            obtain ⟨_, _, _, hl, hroom, _, hcell⟩ := H.cells b cs _ hg hb
            cases hl
            have hmn : min m len * sz' ≤ cap * sz' := Nat.mul_le_mul_right _ (Nat.le_trans (Nat.min_le_right _ _) hlen)
            have hone : ∀ u ∈ l, u.oneCell' = true := by
              intro u hu
              obtain ⟨i, hi, rfl⟩ := List.getElem_of_mem hu
              have hi' : i < ys.flatten.length := by rw [hlr.1]; exact hi
              refine (hlr.2 i _ _ (List.getElem?_eq_getElem hi') (List.getElem?_eq_getElem hi)).one ?_
              obtain ⟨r, hr, hv⟩ := List.mem_flatten.1 (List.getElem_mem hi')
              exact (huni r hr).2 _ hv
            have hst := run_storeCells_cells (P := P) cb (o + off) l 0 w
              (fun j hj => by simp only [Nat.add_zero]; obtain ⟨c, hc', _⟩ := hcell (off + j) (by omega); rw [Nat.add_assoc, hc']; rfl)
              (fun j hj => by simp only [Nat.add_zero]; obtain ⟨c, _, hc', _⟩ := hcell (off + j) (by omega); rw [Nat.add_assoc]; exact hc') hone
            simp only [Nat.add_zero] at hst
            obtain ⟨H', E⟩ := H.writeX (off := off) hb hg hle (by rw [hlr.1, hll]; omega) hlr (fun u hu => by
              obtain ⟨r, hr, hv⟩ := List.mem_flatten.1 hu
              exact (huni r hr).2 u hv)
            refine ⟨_, _, ι, I, ?_, .int _ _, H', E.mono (fun _ h => h.elim)⟩
            have hmin : Nat.min m len = min m len := rfl
            simp [Builtin.copy_, run_under ht, run_size hs, Builtin.lenOf, hmin, hfirst, hst, goInt]
          · cases he

theorem clearK_sim (H : HR ι I h w) {t ty e : TypeId} {ie : TypeInfo} {z : Value} {za : List AV} (ht : P.underlying t = some (.slice e)) (hie : P.info? e = some ie) (hz : ie.zero = some z) (hza : LR ι I w za z.cells.toList) (h1 : ∀ v ∈ za, v.one = true) (h0 : za.length ≠ 0)
    (id : Nat) {x v : AV} {cx : Value} (hx : VR ι I w x cx) {ρ : Env} {ox : Opd} (hox : ox.ev ρ = x)
    {h' : AHeap} (he : aeff (.clearK za ox) ρ id h = some (v, h')) : ESim P ι I h w id v h' (Builtin.clear_ #[t] ty #[cx]) := by
  have hnil : ∀ w : World, VR ι I w (.tup []) (.tuple #[]) := fun w => .tup [] [] rfl (fun i v c h => by simp at h)
  have zero : ∀ a cap, (Builtin.clear_ #[t] ty #[.slice a 0 cap]).run P w = .ok (.tuple #[]) w := fun a cap => by
    cases a <;> simp [Builtin.clear_, run_under ht]
  have same0 : ∀ a cap, ESim P ι I h w id (.tup []) h (Builtin.clear_ #[t] ty #[.slice a 0 cap]) := fun a cap => ⟨_, w, ι, I, zero a cap, hnil w, H, Ext.refl _ _ _ _ _⟩
  simp only [aeff, hox] at he
  cases hx <;> (try simp only [] at he) <;> try (cases he; done)
  case nils => cases he; exact same0 _ _
  case vsNil => cases he; exact same0 _ _
  case vsZ => cases he; exact same0 _ _
  case vs xs t' cb o s cap g hs hI hc hv' hone hcap ht' =>
    cases xs with
    | cons a b => cases he
    | nil => cases he; exact same0 _ _
  case rk b off len sz' cap cb o room hb hlen hcap =>
    cases hgc : cellsOf h b with
    | none => simp [hgc] at he
    | some cs =>
      simp only [hgc] at he
      split at he
      · rename_i hc
        obtain ⟨rfl, hle⟩ := hc
        cases he
        have hg := cellsOf_some hgc
        obtain ⟨_, _, _, hl, hroom, _, hcell⟩ := H.cells b cs _ hg hb
        cases hl
        have hzl := zeros_LR hza len (.inl h0)
        have hsz : za.length = z.cells.size := by rw [hza.1]; simp
        have hfl : (List.replicate len za).flatten.length = len * za.length := by
          rw [flat_length (sz := za.length) _ (fun r hr => by rw [List.eq_of_mem_replicate hr])]; simp
        have hu1 : ∀ u ∈ (List.replicate len za).flatten, u.one = true := fun u hu => by
          obtain ⟨r, hr, hv⟩ := List.mem_flatten.1 hu
          rw [List.eq_of_mem_replicate hr] at hv
          exact h1 u hv
        obtain ⟨l, hleq⟩ : ∃ l, l = (madeCells z.cells (len * z.cells.size)).toList := ⟨_, rfl⟩
        rw [← hleq] at hzl
        have hll : l.length = len * za.length := by rw [← hzl.1, hfl]
        have hone : ∀ u ∈ l, u.oneCell' = true := by
          intro u hu
          obtain ⟨i, hi, rfl⟩ := List.getElem_of_mem hu
          have hi' : i < (List.replicate len za).flatten.length := by rw [hzl.1]; exact hi
          exact (hzl.2 i _ _ (List.getElem?_eq_getElem hi') (List.getElem?_eq_getElem hi)).one (hu1 _ (List.getElem_mem hi'))
        have hst := run_storeCells_cells (P := P) cb (o + off) l 0 w
          (fun j hj => by simp only [Nat.add_zero]; obtain ⟨c, hc', _⟩ := hcell (off + j) (by omega); rw [Nat.add_assoc, hc']; rfl)
          (fun j hj => by simp only [Nat.add_zero]; obtain ⟨c, _, hc', _⟩ := hcell (off + j) (by omega); rw [Nat.add_assoc]; exact hc') hone
        simp only [Nat.add_zero] at hst
        obtain ⟨H', E⟩ := H.writeX (off := off) hb hg (by omega) (by rw [hfl]; omega) hzl hu1
        refine ⟨_, _, ι, I, ?_, hnil _, H', E.mono (fun _ h => h.elim)⟩
        cases len with
        | zero =>
          have : l = [] := by simpa using hll
          subst this
          exact zero _ _
        | succ n =>
          have hzc : (Builtin.zeroCells z.cells (n + 1)).toList = l := hleq.symm
          simp [Builtin.clear_, run_under ht, run_zero hie hz, hzc, hst]
      · cases he

theorem ovl_sim (H : HR ι I h w) {t rt e : TypeId} {sz : Nat} (ht : P.underlying t = some (.slice e)) (hs : (P.info? e).map (·.size) = some sz) {x y v : AV} {cx cy : Value} (hx : VR ι I w x cx) (hy : VR ι I w y cy) (hv : ovlA sz h x y = some v) {t2 : TypeId} :
    PSim P ι I h w v (Extern.SlicesOverlaps.overlaps #[t, t2] #[rt] #[cx, cy]) := by
  unfold ovlA at hv
  cases hx <;> (try simp only [] at hv) <;> try (cases hv; done)
  case vs xs t' ca oa s capa g hrow hI hc hvv h1 hcap htl =>
    cases xs with
    | nil => cases hv
    | cons r xs =>
      cases hy <;> (try simp only [] at hv) <;> try (cases hv; done)
      case rk b off len sz' capb cb ob room hb hlen hcapb =>
        cases len with
        | zero => cases hv
        | succ len =>
          simp only [] at hv
          cases hq : (r.length == sz && sz' == sz && (cellsOf h b).isSome) with
          | false => rw [hq] at hv; cases hv
          | true =>
            rw [hq] at hv
            cases hv
            simp only [Bool.and_eq_true, beq_iff_eq] at hq
            obtain ⟨⟨hrl, rfl⟩, hcs⟩ := hq
            obtain ⟨cs, hcs⟩ := Option.isSome_iff_exists.1 hcs
            have hg := cellsOf_some hcs
            have hs0 : s = sz' := by rw [← hrow 0 r rfl]; exact hrl
            subst hs0
            refine .same H (c := .bool false) ?_ (.bool _)
            obtain ⟨_, _, _, hl, hroom, _, hcell⟩ := H.cells b cs _ hg hb
            cases hl
            have hpl := H.pl b cs cb ob room hg hb
            have e1 := fun w' => run_under ht w'
            have e2 := fun w' => run_size (P := P) hs w'
            by_cases hs0 : s = 0
            · subst hs0
              delta Extern.SlicesOverlaps.overlaps
              delta Extern.SlicesOverlaps.overlaps.match_4
              dsimp only []
              rw [dif_pos (show (#[Value.slice (some ⟨ca, oa, none⟩) (r :: xs).length capa, Value.slice (some ⟨cb, ob + off, none⟩) (len + 1) capb] : Array Value).size = 2 from rfl)]
              delta Extern.SlicesOverlaps.overlaps._sparseCasesOn_4
              delta Array.getLit
              simp only [List.getElem_toArray, List.getElem_cons_zero, List.getElem_cons_succ]
              simp [e1, e2]
            have hmul : (len + 1) * s ≤ capb * s := Nat.mul_le_mul_right _ hlen
            have hpos : 0 < (len + 1) * s := Nat.mul_pos (by omega) (by omega)
            have hposa : 0 < (xs.length + 1) * s := Nat.mul_pos (by omega) (by omega)
            by_cases hbl : ca = cb
            · subst hbl
              have hdis : ∀ j, oa ≤ j → j < oa + (xs.length + 1) * s → ob + off ≤ j → j < ob + off + (len + 1) * s → False := fun j q1 q2 q3 q4 => by
                have hd := (Nat.div_lt_iff_lt_mul (k := s) (x := j - oa) (y := xs.length + 1) (by omega)).2 (by omega)
                have hI' := hI ((j - oa) / s) ((j - oa) % s) (by simpa using hd) (Nat.mod_lt _ (by omega))
                rw [Nat.add_assoc, Nat.div_add_mod' (j - oa) s, show oa + (j - oa) = j by omega] at hI'
                exact H.imm b _ _ ca j hb hg rfl hI'
              have key : ¬ (oa < ob + off + (len + 1) * s ∧ ob + off < oa + (xs.length + 1) * s) := fun ⟨q1, q2⟩ =>
                hdis (max oa (ob + off)) (by omega) (by omega) (by omega) (by omega)
              delta Extern.SlicesOverlaps.overlaps
              delta Extern.SlicesOverlaps.overlaps.match_4
              dsimp only []
              rw [dif_pos (show (#[Value.slice (some ⟨ca, oa, none⟩) (r :: xs).length capa, Value.slice (some ⟨ca, ob + off, none⟩) (len + 1) capb] : Array Value).size = 2 from rfl)]
              delta Extern.SlicesOverlaps.overlaps._sparseCasesOn_4
              delta Array.getLit
              simp only [List.getElem_toArray, List.getElem_cons_zero, List.getElem_cons_succ]
              simp [e1, e2, hs0]
              omega
            · have ca0 : w.cell? ⟨ca, oa, none⟩ = some (g 0 0) := by simpa using hc 0 0 (by simp) (by omega)
              obtain ⟨cb0, hcb0, -⟩ := hcell off (by omega)
              have shp : ∀ (k o : Nat) (c : Value), w.cell? ⟨k, o, none⟩ = some c → ∃ el n, w.shape? k = some (el, n + 1) := fun k o c hk => by
                unfold World.cell? at hk
                unfold World.shape?
                split at hk
                · rename_i cells el fr hh
                  simp at hk
                  have := (Array.getElem?_eq_some_iff.1 hk).1
                  simp only [] at hh
                  rw [hh]
                  exact ⟨el, cells.size - 1, by simp; omega⟩
                · cases hk
              obtain ⟨ea, na, sa⟩ := shp _ _ _ ca0
              obtain ⟨eb, nb, sb⟩ := shp _ _ _ hcb0
              have hfb : w.frozen? ⟨cb, ob + off, none⟩ = false := hpl _
              have hfn : w.frozen? ⟨cb, nb + 1, none⟩ = false := hpl _
              delta Extern.SlicesOverlaps.overlaps
              delta Extern.SlicesOverlaps.overlaps.match_4
              dsimp only []
              rw [dif_pos (show (#[Value.slice (some ⟨ca, oa, none⟩) (r :: xs).length capa, Value.slice (some ⟨cb, ob + off, none⟩) (len + 1) capb] : Array Value).size = 2 from rfl)]
              delta Extern.SlicesOverlaps.overlaps._sparseCasesOn_4
              delta Array.getLit
              simp only [List.getElem_toArray, List.getElem_cons_zero, List.getElem_cons_succ]
              simp [e1, e2, hs0, hbl, frozen, noView, viewAt, mayBeOne, stringish, shape, Sem.run, sa, sb, hfb, hfn]

theorem appendZ_new (H : HR ι I h w) {id : Nat} (hid : ι id = none) {t tn ty e : TypeId} {ie : TypeInfo} {z : Value} {za : List AV} {kn kq : IntKind} (ht : P.underlying t = some (.slice e)) (htn : P.underlying tn = some (.int kn)) (hie : P.info? e = some ie) (hz : ie.zero = some z)
    (hsz : ie.size = z.cells.size) (hza : LR ι I w za z.cells.toList) (h1 : ∀ v ∈ za, v.one = true) (h0 : za.length ≠ 0) {xs : List (List AV)} {a : Option Addr} {lx : List Value} {cap m : Nat}
    (Rx : Rd ι I w za.length xs a lx) (hm : 0 < m) (hg : cap < xs.length + m) (hb : (xs.length + m) * ie.bytes < 2 ^ 40) (hn : xs.length + m < 2 ^ 40) :
    ESim P ι I h w id (.rs id 0 (xs.length + m) za.length) (h.at id (.cells (xs ++ List.replicate m za).flatten)) (Builtin.append_ #[t, tn] ty #[.slice a xs.length cap, .int kq m]) := by
  have hzl : za.length = z.cells.size := by rw [hza.1]; simp
  have hold := rd_first (P := P) Rx cap w.drew (fun _ => rfl)
  rw [hzl, ← hsz] at hold
  have hfit := grow_fit hg hb
  have hmb : m * ie.bytes ≤ (xs.length + m) * ie.bytes := Nat.mul_le_mul_right _ (by omega)
  have hrun := Go.Lib.run_append_grow_zeros (P := P) (ty := ty) w t tn e ie z kq kn ht htn hie hz a xs.length cap lx hold m hm (by omega) hg (by omega) (by omega) hfit
  have hge := grownCap_ge w (xs.length + m) cap e
  have hzm := zeros_LR hza m (.inl h0)
  have hmc : madeCells z.cells (m * z.cells.size) = Builtin.zeroCells z.cells m := rfl
  rw [hmc] at hzm
  generalize grownCap w (xs.length + m) cap e = c at *
  have hsize : (lx.toArray ++ Builtin.zeroCells z.cells m ++ Builtin.zeroCells z.cells (c - (xs.length + m))).size = c * za.length := by
    rw [Array.size_append, Array.size_append, size_zeroCells, size_zeroCells, ← hzl]
    simp only [List.size_toArray, Rx.len]
    rw [← Nat.add_mul, ← Nat.add_mul]
    congr 1; omega
  have hlr : LR ι I w (xs ++ List.replicate m za).flatten (lx ++ (Builtin.zeroCells z.cells m).toList) := by
    rw [List.flatten_append]; exact Rx.lr.append hzm
  obtain ⟨H', E⟩ := newBlk H (w' := w.drew.alloc (.cells (lx.toArray ++ Builtin.zeroCells z.cells m ++ Builtin.zeroCells z.cells (c - (xs.length + m))) e)) rfl rfl rfl rfl hid (cs := (xs ++ List.replicate m za).flatten)
    (fun v hv => by
      obtain ⟨r, hr, hv⟩ := List.mem_flatten.1 hv
      rcases List.mem_append.1 hr with hr | hr
      · exact (Rx.uni r hr).2 v hv
      · rw [List.eq_of_mem_replicate hr] at hv; exact h1 v hv)
    (by
      have hz2 : (Builtin.zeroCells z.cells m).toList.length = m * za.length := by rw [Array.length_toList, size_zeroCells, ← hzl]
      rw [hlr.1, hsize, List.length_append, Rx.len, hz2, ← Nat.add_mul]
      exact Nat.mul_le_mul_right _ hge)
    (fun j v u hv hu => by
      have hj := (List.getElem?_eq_some_iff.1 hv).1
      rw [hlr.1] at hj
      refine hlr.2 j v u hv ?_
      rw [Array.getElem?_append_left (by simp at hj ⊢; omega)] at hu
      rw [← hu, ← Array.getElem?_toList]
      simp)
  refine ⟨_, _, _, _, hrun, ?_, H', E⟩
  exact .rs id 0 _ za.length w.heap.size 0 _ c (Inj.set_same _ _ _) hge (by rw [hsize]; omega)

theorem appendZ_sim (H : HR ι I h w) {id : Nat} (hid : ι id = none) {t tn ty e : TypeId} {ie : TypeInfo} {z : Value} {za : List AV} {kn : IntKind} (ht : P.underlying t = some (.slice e)) (htn : P.underlying tn = some (.int kn)) (hie : P.info? e = some ie) (hz : ie.zero = some z)
    (hsz : ie.size = z.cells.size) (hza : LR ι I w za z.cells.toList) (h1 : ∀ v ∈ za, v.one = true) (h0 : za.length ≠ 0) {x n v : AV} {cx cn : Value} (hx : VR ι I w x cx) (hn : VR ι I w n cn) {ρ : Env} {ox on : Opd} (hox : ox.ev ρ = x) (hon : on.ev ρ = n)
    {h' : AHeap} (he : aeff (.appendZ ie.bytes za ox on) ρ id h = some (v, h')) : ESim P ι I h w id v h' (Builtin.append_ #[t, tn] ty #[cx, cn]) := by
  simp only [aeff, hox, hon] at he
  cases hn <;> (try simp only [] at he) <;> try (cases he; done)
  rename_i kq m
  split at he
  · rename_i hm
    obtain ⟨k, rfl⟩ : ∃ k : Nat, m = k := ⟨m.toNat, by omega⟩
    simp only [Int.toNat_natCast] at he
    cases hx <;> (try simp only [] at he) <;> try (cases he; done)
    case nils =>
      split at he
      · rename_i hb
        cases he
        have Rn : Rd ι I w za.length [] none [] := ⟨by simp, LR.nil, by simp, fun _ => rfl⟩
        have := appendZ_new (P := P) (ty := ty) (kq := kq) (cap := 0) (m := k) H hid ht htn hie hz hsz hza h1 h0 Rn (by omega) (by simp; omega) (by simpa using hb) (by simp; omega)
        simpa using this
      · cases he
    case rk b off len sz' cap cb o room hb hlen hcap =>
      split at he
      · rename_i cs hg
        split at he
        · rename_i hc
          obtain ⟨rfl, hg1, hle, hb1, hb2⟩ := hc
          cases he
          obtain ⟨hrow, _, hone⟩ := H.row (cellsOf_some hg) hb
          obtain ⟨l, R, e1, e2⟩ := rd_of_rk (len := len) hrow hone hle
          have := appendZ_new (P := P) (ty := ty) (kq := kq) (cap := cap) (m := k) H hid ht htn hie hz hsz hza h1 h0 R (by omega) (by rw [e1]; omega) (by rw [e1]; exact hb1) (by rw [e1]; exact hb2)
          rw [e1] at this
          exact this
        · cases he
      · cases he
  · cases he

end
end Go.Proofs.YtjkllffbjeajhaaGreat.Am

/- The slices of a block by value, for good; a slice of bytes of a constant text. -/
namespace Go.Proofs.YtjkllffbjeajhaaGreat.Am
open Go

section
variable {P : Program}

mutual
/-- The slices of a block, by value. -/
def AV.frz (b : Nat) (cs : List AV) : AV → AV
  | .rs b' off len sz => if b' = b then (if off + len * sz ≤ cs.length then .vs (rowsOf cs off sz len) .unk else .undef) else .rs b' off len sz
  | .rk b' off len sz cap => if b' = b then .undef else .rk b' off len sz cap
  | .agg xs => .agg (AV.frzL b cs xs)
  | .tup xs => .tup (AV.frzL b cs xs)
  | v => v
def AV.frzL (b : Nat) (cs : List AV) : List AV → List AV
  | [] => []
  | x :: xs => AV.frz b cs x :: AV.frzL b cs xs
end

theorem frzL_len {b : Nat} {cs : List AV} : ∀ {l : List AV}, (AV.frzL b cs l).length = l.length
  | [] => rfl
  | x :: xs => by simp [AV.frzL, frzL_len (l := xs)]
theorem frzL_get {b : Nat} {cs : List AV} : ∀ {l : List AV} {i : Nat} {v : AV}, (AV.frzL b cs l)[i]? = some v → ∃ u, l[i]? = some u ∧ v = AV.frz b cs u
  | [], i, v, h => by simp [AV.frzL] at h
  | x :: xs, i, v, h => by
    cases i with
    | zero => simp [AV.frzL] at h; exact ⟨x, rfl, h.symm⟩
    | succ i => obtain ⟨u, h1, h2⟩ := frzL_get (l := xs) (i := i) (by simpa [AV.frzL] using h); exact ⟨u, by simpa using h1, h2⟩

section
variable {ι : Inj} {I : Imm} {h : AHeap} {w : World} {b cb o room : Nat} {cs : List AV}

/-- The cells of a block, for good. -/
def frzI (I : Imm) (cb o n : Nat) : Imm := fun k j => I k j ∨ (k = cb ∧ o ≤ j ∧ j < o + n)

theorem VR.frz (H : HR ι I h w) (hg : h.get b = some (.cells cs)) (hb : ι b = some (.cells cb o room)) {a : AV} {v : Value} (hv : VR ι I w a v) : VR ι (frzI I cb o room) w (AV.frz b cs a) v := by
  obtain ⟨hrow, hroom, hone⟩ := H.row hg hb
  have hmono : ∀ a v, VR ι I w a v → VR ι (frzI I cb o room) w a v := fun a v h => h.mono (fun _ _ h => h) (fun _ _ h => .inl h) (fun _ _ _ => rfl)
  induction hv with
  | rk b' off len sz cap cb' o' room' h1 h2 h3 =>
    unfold AV.frz
    by_cases hbb : b' = b
    · rw [if_pos hbb]; exact .undef _
    · rw [if_neg hbb]; exact .rk b' off len sz cap cb' o' room' h1 h2 h3
  | rs b' off len sz cb' o' room' cap h1 h2 h3 =>
    unfold AV.frz
    by_cases hbb : b' = b
    · subst hbb
      rw [hb] at h1; cases h1
      rw [if_pos rfl]
      split
      · rename_i hle
        obtain ⟨e1, e2, e3⟩ := rowsOf_spec cs sz len off hle
        rcases Nat.eq_zero_or_pos len with h0 | h0
        · subst h0
          exact .vsZ _ _ _ (.inl rfl)
        rcases Nat.eq_zero_or_pos sz with hz | hz
        · subst hz
          have := VR.vs (ι := ι) (I := frzI I cb o room) (w := w) (rowsOf cs off 0 len) .unk cb (o + off) 0 cap (fun _ _ => Go.undef) (fun i row hi => (e2 row (List.mem_of_getElem? hi)).1) (fun i j _ hj => by omega) (fun i j _ hj => by omega)
            (fun i row j v hi hj => by
              have := (e2 row (List.mem_of_getElem? hi)).1
              have := (List.getElem?_eq_some_iff.1 hj).1; omega)
            (fun row hr v hv => by have := (e2 row hr).1; have := List.length_eq_zero_iff.1 this; subst this; simp at hv) (by rw [e1]; exact h2) trivial
          rw [e1] at this
          exact this
        have hfl : ∀ i j, i < len → j < sz → off + i * sz + j < cs.length := fun i j hi hj => by
          have : i * sz + j < len * sz := by
            have := Nat.mul_le_mul_right sz (show i + 1 ≤ len by omega)
            rw [Nat.succ_mul] at this
            omega
          omega
        have hcell : ∀ i j, i < len → j < sz → ∃ u, w.cell? ⟨cb, o + off + i * sz + j, none⟩ = some u ∧ ∀ v, cs[off + i * sz + j]? = some v → VR ι I w v u := fun i j hi hj => by
          have hlt := hfl i j hi hj
          obtain ⟨u, h5, h6⟩ := hrow (off + i * sz + j) _ (List.getElem?_eq_getElem hlt)
          refine ⟨u, by rw [show o + off + i * sz + j = o + (off + i * sz + j) by omega]; exact h5, fun v hv => ?_⟩
          rw [List.getElem?_eq_getElem hlt] at hv
          cases hv
          exact h6
        have hget : ∀ (i j : Nat) (row : List AV) (v : AV), (rowsOf cs off sz len)[i]? = some row → row[j]? = some v → cs[off + i * sz + j]? = some v := fun i j row v hi hj => by
          have hr := (e2 row (List.mem_of_getElem? hi)).1
          have hj' : j < sz := by have := (List.getElem?_eq_some_iff.1 hj).1; omega
          have := flat_get (rowsOf cs off sz len) (fun r hr => (e2 r hr).1) i j row hi hj'
          rw [hj, e3, List.getElem?_take_of_lt (by
            have := hfl i j (by have := (List.getElem?_eq_some_iff.1 hi).1; omega) hj'
            have h7 := (List.getElem?_eq_some_iff.1 hi).1
            have := Nat.mul_le_mul_right sz (show i + 1 ≤ len by omega)
            rw [Nat.succ_mul] at this
            omega), List.getElem?_drop] at this
          rw [← this]; congr 1; omega
        have := VR.vs (ι := ι) (I := frzI I cb o room) (w := w) (rowsOf cs off sz len) .unk cb (o + off) sz cap (fun i j => (w.cell? ⟨cb, o + off + i * sz + j, none⟩).getD Go.undef)
          (fun i row hi => (e2 row (List.mem_of_getElem? hi)).1)
          (fun i j hi hj => .inr ⟨rfl, by omega, by rw [e1] at hi; have := hfl i j hi hj; omega⟩)
          (fun i j hi hj => by rw [e1] at hi; obtain ⟨u, h5, _⟩ := hcell i j hi hj; simp [h5])
          (fun i row j v hi hj => by
            have hi' : i < len := by have := (List.getElem?_eq_some_iff.1 hi).1; omega
            have hj' : j < sz := by have := (e2 row (List.mem_of_getElem? hi)).1; have := (List.getElem?_eq_some_iff.1 hj).1; omega
            obtain ⟨u, h5, h6⟩ := hcell i j hi' hj'
            simp only [h5, Option.getD_some]
            exact hmono _ _ (h6 v (hget i j row v hi hj)))
          (fun row hr v hv => hone v ((e2 row hr).2 v hv)) (by rw [e1]; exact h2) trivial
        rw [e1] at this
        exact this
      · exact .undef _
    · rw [if_neg hbb]
      exact .rs b' off len sz cb' o' room' cap h1 h2 h3
  | agg xs xs' hl hv ih => exact .agg _ _ (by rw [frzL_len]; exact hl) (fun i v c h1 h2 => by obtain ⟨u, e1, rfl⟩ := frzL_get h1; exact ih i u c e1 h2)
  | tup xs xs' hl hv ih => exact .tup _ _ (by rw [frzL_len]; exact hl) (fun i v c h1 h2 => by obtain ⟨u, e1, rfl⟩ := frzL_get h1; exact ih i u c e1 h2)
  | vs xs t cb' o' s cap g hs hI hc hv h1 hcap ht ih => exact hmono _ _ (.vs xs t cb' o' s cap g hs hI hc hv h1 hcap ht)
  | vsNil t ht => exact .vsNil t ht
  | vsZ t a cap ht => exact .vsZ t a cap ht
  | undef v => exact .undef v
  | int k n => exact .int k n
  | bool b => exact .bool b
  | flt k b => exact .flt k b
  | cpx k a b => exact .cpx k a b
  | str s => exact .str s
  | nil => exact .nil
  | ptr b off cb o room h => exact .ptr b off cb o room h
  | vp xs off cb' o' g hI hc hv h1 ih => exact hmono _ _ (.vp xs off cb' o' g hI hc hv h1)
  | nils => exact .nils
  | vz a cap => exact .vz a cap
  | mapNil => exact .mapNil
  | map b cb h => exact .map b cb h
  | fn f fs cs fs' cs' hf hc h1 h2 ih1 ih2 => exact hmono _ _ (.fn f fs cs fs' cs' hf hc h1 h2)
  | nilfn => exact .nilfn
  | any1 v h => exact .any1 v h
end

theorem cell_freeze (w : World) (a : Addr) (n : Nat) (c : Addr) : (w.freeze a n).cell? c = w.cell? c := by
  unfold World.freeze
  split
  · rfl
  · simp only [World.cell?, Array.getElem?_modify]
    by_cases hc : a.block = c.block
    · rw [if_pos hc]
      cases hk : w.heap[c.block]? with
      | none => simp
      | some o => cases o <;> simp
    · rw [if_neg hc]

theorem WCh0.freeze (w : World) (cb n : Nat) : WCh0 (fun k _ => k = cb) w (w.freeze ⟨cb, n, none⟩ 1) := by
  have hb : ∀ k, k ≠ cb → (w.freeze ⟨cb, n, none⟩ 1).heap[k]? = w.heap[k]? := fun k hk => by
    unfold World.freeze
    simp only [Nat.one_ne_zero, if_false, Array.getElem?_modify]
    rw [if_neg (fun h => hk h.symm)]
  refine { os := rfl, tape := rfl, output := rfl, size := by simp [World.freeze], block := fun k _ hr => hb k (hr 0), cell := fun k j _ _ => cell_freeze _ _ _ _, frozen := fun k j _ hr => ?_ }
  simp only [World.frozen?, hb k hr]

theorem mark_sim {ι : Inj} {I : Imm} {h : AHeap} {w : World} (H : HR ι I h w) {src e : TypeId} (hu : P.underlying src = some (.slice e)) (he8 : P.underlying e = some (.int .u8))
    (id : Nat) {x v : AV} {cx : Value} (hx : VR ι I w x cx) {ρ : Env} {ox : Opd} (hox : ox.ev ρ = x)
    {h' : AHeap} (he : aeff (.mark ox) ρ id h = some (v, h')) : ESim P ι I h w id v h' (convert src src cx) := by
  simp only [aeff, hox] at he
  have hx0 := hx
  cases hx <;> (try simp only [] at he) <;> try (cases he; done)
  rename_i b off len sz cb o room cap hb hlen hcap
  cases hgc : cellsOf h b with
  | none => simp [hgc] at he
  | some cs =>
    simp only [hgc] at he
    split at he
    · rename_i hle
      cases he
      have hg := cellsOf_some hgc
      have hv := VR.frz H hg hb hx0
      have hfrz : AV.frz b cs (.rs b off len sz) = .vs (rowsOf cs off sz len) .unk := by
        unfold AV.frz; rw [if_pos rfl, if_pos hle]
      rw [hfrz] at hv
      have main : ∀ w', WCh0 (fun k _ => k = cb) w w' → (∀ c, w'.cell? c = w.cell? c) → (convert src src (.slice (some ⟨cb, o + off, none⟩) len cap)).run P w = .ok (.slice (some ⟨cb, o + off, none⟩) len cap) w' →
          ESim P ι I h w id (.vs (rowsOf cs off sz len) .unk) (h.set b none) (convert src src (.slice (some ⟨cb, o + off, none⟩) len cap)) := by
        intro w' W hcell hrun
        have H1 : HR ι I (h.set b none) w' := H.away0 W (Nat.le_refl _) (fun i y hi => (drop_get hi).2)
          (fun i l' y k j hi hgi hl hr => (H.disj i b l' (.cells cb o room) y _ k j (drop_get hgi).1 hi hb (drop_get hgi).2 hg hl hr).elim)
          (fun k j hr => H.imm b _ _ k j hb hg hr)
        have H2 := H1.keepImm (J := fun k j => k = cb ∧ o ≤ j ∧ j < o + room) (fun k j ⟨h1, h2, h3⟩ => ⟨by rw [h1]; exact Nat.lt_of_lt_of_le (H.inside b _ hb) W.size, fun ⟨i, l', y, hi, hgi, hl⟩ =>
          H.disj i b l' (.cells cb o room) y _ k j (drop_get hgi).1 hi hb (drop_get hgi).2 hg hl h1⟩)
        refine ⟨_, w', ι, frzI I cb o room, hrun, hv.mono (fun _ _ h => h) (fun _ _ h => h) (fun k j _ => hcell _), H2, ?_⟩
        refine Ext.of0 W (fun k j _ hr => ⟨b, _, _, hb, hg, hr⟩) (fun _ _ => rfl) (fun _ _ h => h) (Nat.le_refl _) (fun _ _ h => .inl h) ?_ ?_ ?_
        · rintro k j ⟨i, l', y, hi, hgi, hl⟩
          exact .inl ⟨i, l', y, hi, (drop_get hgi).2, hl⟩
        · rintro k j (hk | ⟨h1, _, _⟩)
          · exact .inl hk
          · exact .inr (.inl ⟨b, _, _, hb, hg, h1⟩)
        · intro i _ hi
          have : i ≠ b := fun he => by rw [he, hb] at hi; cases hi
          simp [AHeap.set, this]
      cases hs : w.shape? cb with
      | none =>
        refine main w { os := rfl, tape := rfl, output := rfl, size := Nat.le_refl _, block := fun _ _ _ => rfl, cell := fun _ _ _ _ => rfl, frozen := fun _ _ _ _ => rfl } (fun _ => rfl) ?_
        have hsh : Sem.run P (Sem.shape cb Sem.pure) w = .ok (w.shape? cb) w := rfl
        simp [convert, run_under hu, run_under he8, markStringish, shape, hsh, hs, Result.andThen]
      | some q =>
        obtain ⟨el, n⟩ := q
        refine main _ (WCh0.freeze w cb n) (fun _ => cell_freeze _ _ _ _) ?_
        have hsh : Sem.run P (Sem.shape cb Sem.pure) w = .ok (w.shape? cb) w := rfl
        have hfr : Sem.run P (Sem.freeze ⟨cb, n, none⟩ 1 (Sem.pure ())) w = .ok () (w.freeze ⟨cb, n, none⟩ 1) := rfl
        simp [convert, run_under hu, run_under he8, markStringish, shape, freeze, hsh, hs, hfr, Result.andThen]
    · cases he
end
end Go.Proofs.YtjkllffbjeajhaaGreat.Am
