/- From the program's code to the abstract machine's; each operation of the one is the other's. Conditions: none. -/
import Derived.Test.YtjkllffbjeajhaaGreatAmB
import Derived.Scope
import Derived.Orders
set_option linter.unusedSimpArgs false
set_option linter.unusedVariables false
set_option linter.unnecessarySimpa false
/- From the program's operations to the abstract machine's. -/
namespace Go.Proofs.YtjkllffbjeajhaaGreat.Am
open Go

structure RO where
  dst : Option Nat
  guard : Option (Nat × Bool)
  op : ROp
  deriving Inhabited

/-- How a function is to be read: nil slices told apart; which slots hold slices that are written to. -/
structure Mode where
  pr : Bool
  refs : List Nat

section
variable (P : Program) (md : Mode)

def cOpd (pr : Bool) : Operand → Option Opd
  | .tmp t => some (.tmp t)
  | .const v => (constV pr v).map .const
  | .func f => some (.const (.fn f [] []))
  | .global _ => none

def cOpds (pr : Bool) : List Operand → Option (List Opd)
  | [] => some []
  | x :: xs => match cOpd pr x, cOpds pr xs with
    | some a, some l => some (a :: l)
    | _, _ => none

def cOpt (pr : Bool) : Option Operand → Option (Option Opd)
  | none => some none
  | some x => (cOpd pr x).map some

def szOf (t : TypeId) : Option Nat := (P.info? t).map (·.size)

/-- A type's zero, cell by cell. -/
def zeroOf (t : TypeId) : Option (List AV) :=
  match P.info? t with
  | some i => match i.zero with
    | some z => if i.size = z.cells.size then constList md.pr z.cells.toList else none
    | none => none
  | none => none

def cParts (places : List (Nat × Nat)) : List (Nat × Operand) → Option (List (Nat × Nat × Opd))
  | [] => some []
  | (i, x) :: ps => match places[i]?, cOpd md.pr x, cParts places ps with
    | some (off, sz), some o, some l => some ((off, sz, o) :: l)
    | _, _, _ => none

def cRows : List (Nat × Operand) → Option (List (Nat × Opd))
  | [] => some []
  | (i, x) :: ps => match cOpd md.pr x, cRows ps with
    | some o, some l => some ((i, o) :: l)
    | _, _ => none

def isRef (d : Option Nat) : Bool := match d with | some d => md.refs.contains d | none => false

def nilConst : Operand → Option Value
  | .const v => match v with
    | .pointer none => some v
    | .slice none 0 0 => some v
    | .nilFunc => some v
    | .map none => some v
    | _ => none
  | _ => none

def negOf : BinOp → Option Bool
  | .eql => some false
  | .neq => some true
  | _ => none

def cBin (op : BinOp) (t : TypeId) (x y : Operand) : Option POp := do
  let d ← P.underlying t
  let a ← cOpd md.pr x
  match nilConst y with
  | some nv =>
    let kd ← nilKind d nv
    let neg ← negOf op
    some (.eqNil kd neg a)
  | none =>
    let b ← cOpd md.pr y
    match d with
    | .bool => some (.bin true op a b)
    | .int _ | .float _ | .complex _ | .string => some (.bin false op a b)
    | .struct fs =>
      let neg ← negOf op
      let os ← intFields P fs.toList
      if P.stoodInHeld t = false ∧ P.eqGuardType P.depth t = false then some (.eqAgg neg os a b) else none
    | _ => none

def cBuiltin (dst : Option Nat) (b : Builtin) (args : List Operand) (ts : List TypeId) : Option ROp :=
  match b, args, ts with
  | .len, [x], [t] => do
    let a ← cOpd md.pr x
    match ← P.underlying t with
    | .slice _ => some (.p (.lenS a))
    | .string => some (.p (.lenStr a))
    | .array n _ => some (.p (.lenC n))
    | _ => none
  | .append, [x, y], [t, tx] => do
    let a ← cOpd md.pr x
    let c ← cOpd md.pr y
    match ← P.underlying t, ← P.underlying tx with
    | .slice e, .slice e' =>
      let i ← P.info? e
      let z ← i.zero
      if e = e' ∧ z.cells.size = i.size ∧ i.size ≠ 0 then
        some (.e (if isRef md dst then .appendR i.bytes i.size a c else .append i.bytes i.size a c))
      else none
    | _, _ => none
  | .copy, [x, y], [t, tx] => do
    let a ← cOpd md.pr x
    let c ← cOpd md.pr y
    match ← P.underlying t, ← P.underlying tx with
    | .slice e, .slice _ => some (.e (.copy (← szOf P e) a c))
    | _, _ => none
  | .delete, [m, k], [t, _] => do
    let a ← cOpd md.pr m
    let c ← cOpd md.pr k
    match ← P.underlying t with
    | .map key _ =>
      match ← P.underlying key with
      | .int _ => some (.e (.mapdel a c))
      | _ => none
    | _ => none
  | .min, x :: rest, _ => do some (.p (.minmax false (← cOpd md.pr x) (← cOpds md.pr rest)))
  | .max, x :: rest, _ => do some (.p (.minmax true (← cOpd md.pr x) (← cOpds md.pr rest)))
  | .real, [x], _ => do some (.p (.part false (← cOpd md.pr x)))
  | .imag, [x], _ => do some (.p (.part true (← cOpd md.pr x)))
  | _, _, _ => none

def callable (f : Nat) : Bool :=
  match P.funcs[f]? with
  | some fn => fn.name != "runtime.NumGoroutine" && fn.body.isSome
  | none => false

def cOp0 (dst : Option Nat) (op : Op) : Option ROp :=
  match op with
  | .move x | .assign x => do some (.p (.mov (← cOpd md.pr x)))
  | .pick c a b => do some (.p (.pick (← cOpd md.pr c) (← cOpd md.pr a) (← cOpd md.pr b)))
  | .alloc e => do some (.a (.alloc (← zeroOf P md e)))
  | .box _ x => do some (.a (.box (← cOpd md.pr x)))
  | .build t parts => do
    let z ← zeroOf P md t
    match ← P.underlying t with
    | .struct fs =>
      let places ← fs.toList.mapM (fun f => (P.info? f.type).map fun i => (f.offset, i.size))
      some (.p (.build z (← cParts md places parts.toList)))
    | _ => none
  | .buildSlice t n parts => do
    match ← P.underlying t with
    | .slice e =>
      let z ← zeroOf P md e
      let ps ← cRows md parts.toList
      if z.length ≠ 0 ∧ n * z.length ≤ 2 ^ 24 then
        some (if isRef md dst then .a (.bsliceR n z ps) else .p (.bslice n z ps))
      else none
    | _ => none
  | .load t a => do
    let d ← P.underlying t
    some (.p (.load d.isRow (← szOf P t) (← cOpd md.pr a)))
  | .store t a v => do some (.e (.store (← szOf P t) (← cOpd md.pr a) (← cOpd md.pr v)))
  | .nilCheck x => do some (.p (.nilchk (← cOpd md.pr x)))
  | .binOp op t x y _ => do some (.p (← cBin P md op t x y))
  | .unOp op _ x => do some (.p (.un op (← cOpd md.pr x)))
  | .convert src dst x => do
    let a ← cOpd md.pr x
    match ← P.underlying src, ← P.underlying dst with
    | _, .int k => some (.p (.toInt k a))
    | .slice e, .string =>
      match ← P.underlying e with
      | .int .u8 => some (.p (.bytesStr a))
      | _ => none
    | .string, .slice e =>
      match ← P.underlying e with
      | .int .u8 => some (.p (.strBytes a))
      | _ => none
    | .slice e, .slice _ =>
      match ← P.underlying e with
      | .int .u8 => if src = dst then some (.e (.mark a)) else none
      | _ => none
    | _, _ => none
  | .makeFunc (.func f) first captured => do some (.p (.mkfn f (← cOpds md.pr first.toList) (← cOpds md.pr captured.toList)))
  | .makeMap _ none => some (.a .mkmap)
  | .makeSlice t l c => do
    match ← P.underlying t with
    | .slice e =>
      let z ← zeroOf P md e
      let i ← P.info? e
      if z.length ≠ 0 then
        let a ← cOpd md.pr l
        let b ← cOpd md.pr c
        some (if isRef md dst then .a (.mksliceR z i.bytes a b) else .p (.mkslice z i.bytes a b))
      else none
    | _ => none
  | .slice t x lo hi mx => do
    match ← P.underlying t with
    | .slice e => some (.p (.slc (← szOf P e) (← cOpd md.pr x) (← cOpt md.pr lo) (← cOpt md.pr hi) (← cOpt md.pr mx)))
    | _ => none
  | .fieldAddr s x f => do
    match ← P.underlying s with
    | .struct fs =>
      let fd ← fs[f]?
      let sz ← szOf P fd.type
      if sz ≠ 0 then some (.p (.faddr fd.offset (← cOpd md.pr x))) else none
    | _ => none
  | .field s x f => do
    match ← P.underlying s with
    | .struct fs =>
      let fd ← fs[f]?
      let d ← P.underlying fd.type
      some (.p (.fld d.isRow (← szOf P fd.type) fd.offset (← cOpd md.pr x)))
    | _ => none
  | .indexAddr t x i => do
    match ← P.underlying t with
    | .slice e => some (.p (.iaddrS (← szOf P e) (← cOpd md.pr x) (← cOpd md.pr i)))
    | .array n e => some (.p (.iaddrA (← szOf P e) n (← cOpd md.pr x) (← cOpd md.pr i)))
    | _ => none
  | .index t x i => do
    match ← P.underlying t with
    | .array n e =>
      let d ← P.underlying e
      some (.p (.idxA d.isRow (← szOf P e) n (← cOpd md.pr x) (← cOpd md.pr i)))
    | _ => none
  | .lookup t m k ok => do
    match ← P.underlying t with
    | .map key e =>
      match ← P.underlying key with
      | .int _ =>
        let i ← P.info? e
        let z ← i.zero
        some (.p (.lookup (← constV md.pr z) ok (← cOpd md.pr m) (← cOpd md.pr k)))
      | _ => none
    | _ => none
  | .mapUpdate t m k v => do
    match ← P.underlying t with
    | .map key _ =>
      match ← P.underlying key with
      | .int _ => some (.e (.mapupd (← cOpd md.pr m) (← cOpd md.pr k) (← cOpd md.pr v)))
      | _ => none
    | _ => none
  | .extract x i => do some (.p (.ext i (← cOpd md.pr x)))
  | .call c => do
    match c.callee with
    | .value (.func f) => if callable P f then some (.call f (← cOpds md.pr c.args.toList)) else none
    | .value x => some (.dyn (← cOpd md.pr x) (← cOpds md.pr c.args.toList))
    | .builtin b => cBuiltin P md dst b c.args.toList c.argTypes.toList
    | _ => none
  | _ => none

/-- Builtins where the room behind a slice is asked for, or zero values are appended. -/
def cK (dst : Option Nat) (b : Builtin) (args : List Operand) (ts : List TypeId) : Option ROp :=
  match b, args, ts with
  | .append, [x, y], [t, tx] => do
    let a ← cOpd md.pr x
    let c ← cOpd md.pr y
    match ← P.underlying t, ← P.underlying tx with
    | .slice e, .int _ =>
      let za ← zeroOf P md e
      let i ← P.info? e
      if za.length ≠ 0 then some (.e (.appendZ i.bytes za a c)) else none
    | _, _ => none
  | .cap, [x], [t] => do
    let a ← cOpd md.pr x
    match ← P.underlying t with
    | .slice _ => some (.p (.capS a))
    | _ => none
  | .clear, [x], [t] => do
    let a ← cOpd md.pr x
    match ← P.underlying t with
    | .slice e =>
      let za ← zeroOf P md e
      if za.length ≠ 0 then some (.e (.clearK za a)) else none
    | _ => none
  | .copy, [x, y], [t, _] =>
    if isRef md dst then do
      let a ← cOpd md.pr x
      let c ← cOpd md.pr y
      match ← P.underlying t with
      | .slice e => some (.e (.copyK (← szOf P e) a c))
      | _ => none
    else none
  | _, _, _ => none

/-- Is it what asks whether two slices share memory? -/
def isOvl (f : Nat) : Option TypeId :=
  match P.funcs[f]? with
  | some fn =>
    match fn.params.toList, fn.resultTypes.toList with
    | [t, _], [_] => if fn.name != "runtime.NumGoroutine" && fn.body.isNone && fn.origin == "slices.overlaps" && (Extern.allGenericRows.lookup fn.name).isNone && (Extern.allTypedRows.lookup fn.name).isNone && (Extern.allRows.lookup fn.name).isNone && (Extern.allNextRows.lookup fn.name).isNone then some t else none
    | _, _ => none
  | none => none

def cX (dst : Option Nat) (op : Op) : Option ROp :=
  match op with
  | .index t x i => do
    match ← P.underlying t with
    | .string => some (.p (.idxStr (← cOpd md.pr x) (← cOpd md.pr i)))
    | _ => none
  | .range t x => do
    match ← P.underlying t with
    | .map _ _ => some (.p (.rng (← cOpd md.pr x)))
    | _ => none
  | .next x s => if s then none else (cOpd md.pr x).map fun x => .p (.nxt x)
  | .entry x => (cOpd md.pr x).map fun x => .p (.ent x)
  | .call c =>
    match c.callee with
    | .value (.func f) =>
      match isOvl P f, c.args.toList with
      | some t, [x, y] => do
        match ← P.underlying t with
        | .slice e => some (.p (.ovl (← szOf P e) (← cOpd md.pr x) (← cOpd md.pr y)))
        | _ => none
      | _, _ => none
    | .builtin b => cK P md dst b c.args.toList c.argTypes.toList
    | _ => none
  | _ => none

def cOp (dst : Option Nat) (op : Op) : Option ROp :=
  match cX P md dst op with
  | some r => some r
  | none => match cOp0 P md dst op with
    | some r => some r
    | none => some (.p .stuck)

end

inductive RCode where
  | skip
  | reg (ops : List RO)
  | regD (ops : List RO) (un : List (List Nat))
  | seq (a b : RCode)
  | rseq (a b : RCode)
  | cond (c : Opd) (t e : RCode)
  | block (id : Nat) (c : RCode)
  | loop (c : RCode)
  | exit (id : Nat)
  | scope (c : RCode)
  | inScope (body cur : RCode)
  | label (l : Nat)
  | goto (l : Nat)
  | ret
  deriving Inhabited

inductive RRes where
  | tmp (t : Nat)
  | cell (t : Nat) (ag : Bool) (sz : Nat)
  deriving Inhabited

structure RFunc where
  code : RCode
  ntmps : Nat
  results : List RRes
  deriving Inhabited

end Go.Proofs.YtjkllffbjeajhaaGreat.Am

/- Regions and code. -/
namespace Go.Proofs.YtjkllffbjeajhaaGreat.Am
open Go

def ROp.eff : ROp → Bool
  | .e _ | .call _ _ | .dyn _ _ => true
  | _ => false

def POp.reads : POp → Bool
  | .load _ _ _ | .bytesStr _ | .lookup _ _ _ _ | .ovl _ _ _ => true
  | _ => false

def ROp.reads : ROp → Bool
  | .p o => o.reads
  | _ => false

/-- The operations that must come first, for each. -/
def predsL : List Oper → List (List Nat) → List (List Nat)
  | [], acc => acc
  | o :: os, acc => predsL os (acc ++ [(o.after.toList.filter fun e => Region.binds .any e).flatMap fun e => e.on :: acc.getD e.on []])

def Opd.slot : Opd → List Nat
  | .tmp t => [t]
  | .const _ => []

def optOpd : Option Opd → List Opd
  | some x => [x]
  | none => []

def POp.opds : POp → List Opd
  | .mov x | .load _ _ x | .nilchk x | .eqNil _ _ x | .un _ x | .toInt _ x | .bytesStr x | .strBytes x | .faddr _ x | .fld _ _ _ x | .ext _ x | .lenS x | .lenStr x | .part _ x | .capS x | .rng x | .nxt x | .ent x => [x]
  | .pick c a b => [c, a, b]
  | .build _ ps => ps.map fun p => p.2.2
  | .bslice _ _ ps => ps.map fun p => p.2
  | .bin _ _ x y | .eqAgg _ _ x y | .iaddrS _ x y | .iaddrA _ _ x y | .idxA _ _ _ x y | .lookup _ _ x y | .mkslice _ _ x y | .idxStr x y | .ovl _ x y => [x, y]
  | .slc _ x lo hi mx => x :: (optOpd lo ++ optOpd hi ++ optOpd mx)
  | .lenC _ | .stuck => []
  | .mkfn _ a b => a ++ b
  | .minmax _ x r => x :: r

def AOp.opds : AOp → List Opd
  | .box x => [x]
  | .alloc _ | .mkmap => []
  | .mksliceR _ _ x y => [x, y]
  | .bsliceR _ _ ps => ps.map fun p => p.2

def EOp.opds : EOp → List Opd
  | .store _ x y | .append _ _ x y | .appendR _ _ x y | .copy _ x y | .mapdel x y | .appendZ _ _ x y | .copyK _ x y => [x, y]
  | .clearK _ x | .mark x => [x]
  | .mapupd x y z => [x, y, z]

def ROp.opds : ROp → List Opd
  | .p o => o.opds
  | .a o => o.opds
  | .e o => o.opds
  | .call _ as => as
  | .dyn x as => x :: as

def RO.slots (o : RO) : List Nat := o.op.opds.flatMap Opd.slot ++ (match o.guard with | some (g, _) => [g] | none => [])

def ordL (pl : List (List Nat)) (i j : Nat) : Bool := (pl.getD j []).contains i

/-- What is read is read through a slot. -/
def POp.keyTmp : POp → Bool
  | .load _ _ (.const _) | .bytesStr (.const _) | .lookup _ _ (.const _) _ | .ovl _ _ (.const _) => false
  | _ => true

def ROp.keyTmp : ROp → Bool
  | .p o => o.keyTmp
  | _ => true

/-- The same as bits. -/
def maskOf (acc : List Nat) : List Edge → Nat
  | [] => 0
  | e :: es => (2 ^ e.on ||| acc.getD e.on 0) ||| maskOf acc es

def predsM : List Oper → List Nat → List Nat
  | [], acc => acc
  | o :: os, acc => predsM os (acc ++ [maskOf acc (o.after.toList.filter fun e => Region.binds .any e)])

def pairs (ros : List RO) (ms : List Nat) : List ((RO × Nat) × Nat) := (ros.zip ms).zipIdx

/-- May the region's operations be taken in the text's order for every order? -/
def okD (ops : Array Oper) (ros : List RO) : Bool :=
  let ms := predsM ops.toList []
  let rs := pairs ros ms
  (ms.length == ros.length) &&
  (rs.all fun p => rs.all fun q => p.1.1.dst.isNone || p.1.1.dst != q.1.1.dst || p.2 == q.2) &&
  (ops.toList.zipIdx.all fun (o, i) => o.after.toList.all fun e => !Region.binds .any e || decide (e.on < i)) &&
  (rs.all fun p => p.1.1.slots.all fun t => rs.all fun q => p.2 == q.2 || q.1.1.dst != some t || (if q.2 < p.2 then p.1.2.testBit q.2 else q.1.2.testBit p.2)) &&
  (rs.all fun p => !p.1.1.op.eff || rs.all fun q => !q.1.1.op.eff || !decide (q.2 < p.2) || p.1.2.testBit q.2) &&
  (ros.all fun o => o.op.keyTmp)

def unD (ops : Array Oper) (ros : List RO) : List (List Nat) :=
  let rs := pairs ros (predsM ops.toList [])
  rs.map fun p => if p.1.1.op.reads || p.1.1.op.eff then
    (rs.filter fun q => decide (q.2 < p.2) && ((p.1.1.op.reads && q.1.1.op.eff) || (p.1.1.op.eff && q.1.1.op.reads)) && !p.1.2.testBit q.2).map (·.2) else []

def cGuard (ops : Array Oper) : Option (Nat × Bool) → Option (Option (Nat × Bool))
  | none => some none
  | some (j, want) => ((ops[j]?).bind (·.dst)).map fun d => some (d, want)

def dstOk (n : Nat) : Option Nat → Bool
  | some d => decide (d < n)
  | none => true

section
variable (P : Program) (md : Mode)

def cRO (n : Nat) (ops : Array Oper) (o : Oper) : Option RO :=
  (cOp P md o.dst o.op).bind fun op => (cGuard ops o.guard).bind fun g => if dstOk n o.dst then some { dst := o.dst, guard := g, op } else none

def cROs (n : Nat) (ops : Array Oper) : List Oper → Option (List RO)
  | [] => some []
  | o :: os => match cRO P md n ops o, cROs n ops os with
    | some a, some l => some (a :: l)
    | _, _ => none

/-- Is it a region in which a range over a map begins? -/
def RCode.rngs : RCode → Bool
  | .reg ros => ros.any fun o => match o.op with | .p (.rng _) => true | _ => false
  | _ => false

def cCode (n : Nat) : Code → Option RCode
  | .skip => some .skip
  | .region _ ops false => (cROs P md n ops ops.toList).map .reg
  | .region _ ops true => do
    let ros ← cROs P md n ops ops.toList
    if okD ops ros then some (.regD ros (unD ops ros)) else none
  | .seq a b => do
    let x ← cCode n a
    let y ← cCode n b
    some (if x.rngs then .rseq x y else .seq x y)
  | .cond c t e => do some (.cond (← cOpd md.pr c) (← cCode n t) (← cCode n e))
  | .block id c => do some (.block id (← cCode n c))
  | .loop c => do some (.loop (← cCode n c))
  | .exit id => some (.exit id)
  | .scope c => do some (.scope (← cCode n c))
  | .label l => some (.label l)
  | .goto l => some (.goto l)
  | .ret => some .ret
  | _ => none

def cRes : ResultVar → Option RRes
  | .tmp t => some (.tmp t)
  | .cell t ty => do
    let d ← P.underlying ty
    some (.cell t d.isRow (← szOf P ty))

def cResults : List ResultVar → Option (List RRes)
  | [] => some []
  | x :: xs => match cRes P x, cResults xs with
    | some a, some l => some (a :: l)
    | _, _ => none

def cFunc (fn : Func) : Option RFunc := do
  let c ← fn.body
  let code ← cCode P md fn.ntmps c
  let rs ← cResults P fn.results.toList
  some { code, ntmps := fn.ntmps, results := rs }

end

inductive AExit where
  | normal
  | exit (id : Nat)
  | goto (l : Nat)
  | ret
  deriving DecidableEq, Inhabited

def put (ρ : Env) (d : Option Nat) (v : AV) : Env :=
  match d with
  | some d => fun i => if i = d then v else ρ i
  | none => ρ

def findLabelR : RCode → Nat → Option RCode
  | .seq a b, l =>
    match findLabelR a l with
    | some rest => some (.seq rest b)
    | none => findLabelR b l
  | .rseq _ b, l => findLabelR b l
  | .label l', l => if l' == l then some .skip else none
  | _, _ => none

end Go.Proofs.YtjkllffbjeajhaaGreat.Am

/- Short words for code. -/
namespace Go.Proofs.YtjkllffbjeajhaaGreat.Am
open Go
abbrev t (n : Nat) : Opd := .tmp n
abbrev z (n : Int) : Opd := .const (.int .i64 n)
abbrev kb (b : Bool) : Opd := .const (.bool b)
abbrev u8 (n : Int) : Opd := .const (.int .u8 n)
abbrev u16 (n : Int) : Opd := .const (.int .u16 n)
abbrev u64 (n : Int) : Opd := .const (.int .u64 n)
/-- Pure steps: of a slot, a copy, a binary one, a field's address, a load, an element's address. -/
abbrev p (d : Nat) (q : POp) : RO := ⟨some d, none, .p q⟩
abbrev m (d s : Nat) : RO := ⟨some d, none, .p (.mov (.tmp s))⟩
abbrev b (d : Nat) (op : BinOp) (x y : Opd) : RO := ⟨some d, none, .p (.bin false op x y)⟩
abbrev fa (d off s : Nat) : RO := ⟨some d, none, .p (.faddr off (.tmp s))⟩
abbrev ld (d s : Nat) : RO := ⟨some d, none, .p (.load false 1 (.tmp s))⟩
abbrev la (d n s : Nat) : RO := ⟨some d, none, .p (.load true n (.tmp s))⟩
abbrev ia (d n s i : Nat) : RO := ⟨some d, none, .p (.iaddrS n (.tmp s) (.tmp i))⟩
abbrev ln (d s : Nat) : RO := ⟨some d, none, .p (.lenS (.tmp s))⟩
abbrev ex (d i s : Nat) : RO := ⟨some d, none, .p (.ext i (.tmp s))⟩
/-- The same, behind a guard. -/
abbrev gp (d g : Nat) (w : Bool) (q : POp) : RO := ⟨some d, some (g, w), .p q⟩
abbrev gm (d g : Nat) (w : Bool) (s : Nat) : RO := ⟨some d, some (g, w), .p (.mov (.tmp s))⟩
abbrev gb (d g : Nat) (w : Bool) (op : BinOp) (x y : Opd) : RO := ⟨some d, some (g, w), .p (.bin false op x y)⟩
abbrev gfa (d g : Nat) (w : Bool) (off s : Nat) : RO := ⟨some d, some (g, w), .p (.faddr off (.tmp s))⟩
abbrev gld (d g : Nat) (w : Bool) (s : Nat) : RO := ⟨some d, some (g, w), .p (.load false 1 (.tmp s))⟩
abbrev gia (d g : Nat) (w : Bool) (n s i : Nat) : RO := ⟨some d, some (g, w), .p (.iaddrS n (.tmp s) (.tmp i))⟩
abbrev gc (d g : Nat) (w : Bool) (f : Nat) (as : List Opd) : RO := ⟨some d, some (g, w), .call f as⟩
/-- Stores, calls, blocks. -/
abbrev s1 (a v : Opd) : RO := ⟨none, none, .e (.store 1 a v)⟩
abbrev sn (n : Nat) (a v : Opd) : RO := ⟨none, none, .e (.store n a v)⟩
abbrev c (d f : Nat) (as : List Opd) : RO := ⟨some d, none, .call f as⟩
abbrev c0 (f : Nat) (as : List Opd) : RO := ⟨none, none, .call f as⟩
abbrev e (d : Nat) (o : EOp) : RO := ⟨some d, none, .e o⟩
abbrev a (d : Nat) (o : AOp) : RO := ⟨some d, none, .a o⟩
end Go.Proofs.YtjkllffbjeajhaaGreat.Am

/- One operation: the model's and the abstract machine's. -/
namespace Go.Proofs.YtjkllffbjeajhaaGreat.Am
open Go

section
variable {P : Program} {md : Mode} {ι : Inj} {I : Imm} {h : AHeap} {w : World}

/-- The abstract slots and the frame's. -/
structure AR (ι : Inj) (I : Imm) (w : World) (n : Nat) (ρ : Env) (a : Act) : Prop where
  defers : a.defers = []
  size : a.tmps.size = n
  get : ∀ t, VR ι I w (ρ t) (a.tmps.getD t Go.undef)

theorem AR.mono {n : Nat} {ρ : Env} {a : Act} (A : AR ι I w n ρ a) {ι' : Inj} {I' : Imm} {w' : World} (hm : ∀ x v, VR ι I w x v → VR ι' I' w' x v) : AR ι' I' w' n ρ a :=
  ⟨A.defers, A.size, fun t => hm _ _ (A.get t)⟩

theorem constV_sim {pr : Bool} {v : Value} {x : AV} (hc : constV pr v = some x) : VR ι I w x v := by
  unfold constV at hc
  split at hc
  · rename_i cs
    cases hq : constList pr cs.toList with
    | none => simp [hq] at hc
    | some l =>
      simp [hq] at hc
      subst hc
      have := constList_sim (ι := ι) (I := I) (w := w) hq
      have h2 := VR.agg (ι := ι) (I := I) (w := w) l cs.toList this.1.1 this.1.2
      simpa using h2
  · exact (constAV_sim hc).1

theorem cOpd_sim {n : Nat} {ρ : Env} {a : Act} (A : AR ι I w n ρ a) {pr : Bool} {x : Operand} {o : Opd} (hc : cOpd pr x = some o) : OR ι I w ρ o (a.eval x) := by
  cases x with
  | tmp t => simp [cOpd] at hc; subst hc; exact A.get t
  | const v =>
    simp only [cOpd] at hc
    cases hq : constV pr v with
    | none => simp [hq] at hc
    | some y => simp [hq] at hc; subst hc; exact constV_sim hq
  | func f =>
    simp [cOpd] at hc; subst hc
    exact .fn f [] [] [] [] rfl rfl (fun i v c h => by simp at h) (fun i v c h => by simp at h)
  | global g => simp [cOpd] at hc

theorem cOpds_sim {n : Nat} {ρ : Env} {a : Act} (A : AR ι I w n ρ a) {pr : Bool} : ∀ {xs : List Operand} {os : List Opd}, cOpds pr xs = some os → LR ι I w (os.map (Opd.ev ρ)) (xs.map a.eval)
  | [], os, hc => by simp [cOpds] at hc; subst hc; exact LR.nil
  | x :: xs, os, hc => by
    simp only [cOpds] at hc
    split at hc
    · rename_i o l h1 h2
      cases hc
      exact LR.cons (cOpd_sim A h1) (cOpds_sim A h2)
    · cases hc

theorem cOpt_sim {n : Nat} {ρ : Env} {a : Act} (A : AR ι I w n ρ a) {pr : Bool} {x : Option Operand} {o : Option Opd} (hc : cOpt pr x = some o) : ORo ι I w ρ o (x.map a.eval) := by
  cases x with
  | none => simp [cOpt] at hc; subst hc; trivial
  | some x =>
    simp only [cOpt] at hc
    cases hq : cOpd pr x with
    | none => simp [hq] at hc
    | some y => simp [hq] at hc; subst hc; exact cOpd_sim A hq

/-- A value comes, the abstract heap stands. -/
def NP (P : Program) (ι : Inj) (I : Imm) (h : AHeap) (w : World) (v : AV) (s : Sem Next) : Prop :=
  ∃ c w' I', s.run P w = .ok (.value c) w' ∧ VR ι I' w' v c ∧ HR ι I' h w' ∧ Ext (fun _ => False) ι I h w ι I' h w'

theorem PSim.next {v : AV} {s : Sem Value} (hs : PSim P ι I h w v s) : NP P ι I h w v (do pure (.value (← s))) := by
  obtain ⟨c, w', I', hr, hv, H, E⟩ := hs
  exact ⟨c, w', I', by simp [hr], hv, H, E⟩

/-- A value comes, one block is new. -/
def NE (P : Program) (ι : Inj) (I : Imm) (h : AHeap) (w : World) (id : Nat) (v : AV) (h' : AHeap) (s : Sem Next) : Prop :=
  ∃ x c w' ι' I', s.run P w = .ok x w' ∧ (x = .value c ∨ (x = .skip ∧ v = .undef)) ∧ VR ι' I' w' v c ∧ HR ι' I' h' w' ∧ Ext (· = id) ι I h w ι' I' h' w'

theorem ESim.next {id : Nat} {v : AV} {h' : AHeap} {s : Sem Value} (hs : ESim P ι I h w id v h' s) : NE P ι I h w id v h' (do pure (.value (← s))) := by
  obtain ⟨c, w', ι', I', hr, hv, H, E⟩ := hs
  exact ⟨_, c, w', ι', I', by simp [hr], .inl rfl, hv, H, E⟩

theorem szOf_some {t : TypeId} {sz : Nat} (h : szOf P t = some sz) : (P.info? t).map (·.size) = some sz := h

theorem zeroOf_some {t : TypeId} {za : List AV} (hz : zeroOf P md t = some za) : ∃ i z, P.info? t = some i ∧ i.zero = some z ∧ i.size = z.cells.size ∧ constList md.pr z.cells.toList = some za := by
  unfold zeroOf at hz
  split at hz
  · rename_i i hi
    split at hz
    · rename_i z hzz
      split at hz
      · rename_i hsz
        exact ⟨i, z, hi, hzz, hsz, hz⟩
      · cases hz
    · cases hz
  · cases hz

theorem cParts_sim {n : Nat} {ρ : Env} {a : Act} (A : AR ι I w n ρ a) {places : List (Nat × Nat)} : ∀ {ps : List (Nat × Operand)} {l : List (Nat × Nat × Opd)}, cParts md places ps = some l →
    l.length = ps.length ∧ ∀ (i off sz j : Nat) (x : Opd) (c : Value), l[i]? = some (off, sz, x) → (ps.map fun p => (p.1, a.eval p.2))[i]? = some (j, c) → places[j]? = some (off, sz) ∧ OR ι I w ρ x c
  | [], l, hc => by simp [cParts] at hc; subst hc; exact ⟨rfl, fun i off sz j x c h => by simp at h⟩
  | (k, y) :: ps, l, hc => by
    simp only [cParts] at hc
    split at hc
    · rename_i off sz o l' h1 h2 h3
      cases hc
      obtain ⟨e1, e2⟩ := cParts_sim A h3
      refine ⟨by simp [e1], fun i off' sz' j x c hi hj => ?_⟩
      cases i with
      | zero =>
        simp at hi hj
        obtain ⟨rfl, rfl, rfl⟩ := hi
        obtain ⟨rfl, rfl⟩ := hj
        exact ⟨h1, cOpd_sim A h2⟩
      | succ i => exact e2 i off' sz' j x c (by simpa using hi) (by simpa using hj)
    · cases hc

theorem cRows_sim {n : Nat} {ρ : Env} {a : Act} (A : AR ι I w n ρ a) : ∀ {ps : List (Nat × Operand)} {l : List (Nat × Opd)}, cRows md ps = some l →
    l.length = ps.length ∧ ∀ (i j k : Nat) (x : Opd) (c : Value), l[i]? = some (j, x) → (ps.map fun p => (p.1, a.eval p.2))[i]? = some (k, c) → j = k ∧ OR ι I w ρ x c
  | [], l, hc => by simp [cRows] at hc; subst hc; exact ⟨rfl, fun i j k x c h => by simp at h⟩
  | (m, y) :: ps, l, hc => by
    simp only [cRows] at hc
    split at hc
    · rename_i o l' h1 h2
      cases hc
      obtain ⟨e1, e2⟩ := cRows_sim A h2
      refine ⟨by simp [e1], fun i j k x c hi hj => ?_⟩
      cases i with
      | zero =>
        simp at hi hj
        obtain ⟨rfl, rfl⟩ := hi
        obtain ⟨rfl, rfl⟩ := hj
        exact ⟨rfl, cOpd_sim A h1⟩
      | succ i => exact e2 i j k x c (by simpa using hi) (by simpa using hj)
    · cases hc

theorem nilConst_some {y : Operand} {nv : Value} (h : nilConst y = some nv) : y = .const nv := by
  unfold nilConst at h
  split at h
  · split at h <;> first | (cases h; rfl) | (cases h)
  · cases h

theorem eqGuard_nil (op : BinOp) (t : TypeId) (x y : Operand) (a b : Value) (w : World) (hb : b ≠ .nilIface ∧ ∀ cs, b ≠ .agg cs) : (eqGuard op t x y a b).run P w = .ok () w := by
  cases op <;> first
    | rfl
    | (cases a <;> cases b <;> first | rfl | (exact (hb.1 rfl).elim) | (exact (hb.2 _ rfl).elim))

theorem cBin_sim (H : HR ι I h w) {n : Nat} {ρ : Env} {a : Act} (A : AR ι I w n ρ a) {op : BinOp} {t : TypeId} {x y : Operand} {q : POp} {v : AV} (hc : cBin P md op t x y = some q) (hv : apure q ρ h = some v) :
    NP P ι I h w v (do pure (.value (← (do eqGuard op t x y (a.eval x) (a.eval y); binOp op t (a.eval x) (a.eval y))))) := by
  simp only [cBin, Option.bind_eq_bind, Option.bind_eq_some_iff] at hc
  obtain ⟨d, hd, o, ho, hc⟩ := hc
  have hxv := cOpd_sim A ho
  have fin : ∀ {s : Sem Value}, PSim P ι I h w v s → (eqGuard op t x y (a.eval x) (a.eval y)).run P w = .ok () w → s = binOp op t (a.eval x) (a.eval y) →
      NP P ι I h w v (do pure (.value (← (do eqGuard op t x y (a.eval x) (a.eval y); binOp op t (a.eval x) (a.eval y))))) := by
    intro s hs hg he
    obtain ⟨c, w', I', hr, hv', H', E⟩ := hs
    rw [he] at hr
    exact ⟨c, w', I', by simp [hg, hr], hv', H', E⟩
  split at hc
  · rename_i nv hnv
    simp only [Option.bind_eq_some_iff] at hc
    obtain ⟨kd, hkd, neg, hneg, hc⟩ := hc
    cases hc
    have hy := nilConst_some hnv
    subst hy
    have hop : op = (if neg then .neq else .eql) := by
      unfold negOf at hneg
      split at hneg <;> cases hneg <;> rfl
    have hnot : nv ≠ .nilIface ∧ ∀ cs, nv ≠ .agg cs := by
      unfold nilKind at hkd
      split at hkd <;> first | (cases hkd; done) | exact ⟨by simp, by simp⟩
    refine fin (eqNil_sim (P := P) H hd hkd neg hxv hv) (eqGuard_nil op t x (.const nv) (a.eval x) nv w hnot) ?_
    rw [hop]; rfl
  · rename_i hnv
    simp only [Option.bind_eq_some_iff] at hc
    obtain ⟨o2, ho2, hc⟩ := hc
    have hyv := cOpd_sim A ho2
    have plain : ∀ tb, (tb = true → P.underlying t = some .bool) → q = .bin tb op o o2 → NP P ι I h w v (do pure (.value (← (do eqGuard op t x y (a.eval x) (a.eval y); binOp op t (a.eval x) (a.eval y))))) := by
      intro tb htb hq
      subst hq
      simp only [apure] at hv
      refine fin (bin_sim (P := P) H hxv hyv hv t htb) (eqGuard_nil op t x y _ _ w ?_) rfl
      have : (o2.ev ρ) ≠ .undef ∧ (∀ cs, o2.ev ρ ≠ .agg cs) ∧ (o2.ev ρ) ≠ .any1 := by
        refine ⟨?_, ?_, ?_⟩
        · intro he; rw [he] at hv; cases ho' : o.ev ρ <;> simp [abin, ho'] at hv
        · intro cs he; rw [he] at hv; cases ho' : o.ev ρ <;> simp [abin, ho'] at hv
        · intro he; rw [he] at hv; cases ho' : o.ev ρ <;> simp [abin, ho'] at hv
      have hy2 : VR ι I w (o2.ev ρ) (a.eval y) := hyv
      generalize o2.ev ρ = z at this hy2
      generalize a.eval y = c at hy2
      cases hy2 <;> first | (exact (this.1 rfl).elim) | (exact (this.2.1 _ rfl).elim) | (exact (this.2.2 rfl).elim) | (exact ⟨by simp, by simp⟩)
    split at hc
    · cases hc; exact plain true (fun _ => hd) rfl
    · cases hc; exact plain false (fun h => by cases h) rfl
    · cases hc; exact plain false (fun h => by cases h) rfl
    · cases hc; exact plain false (fun h => by cases h) rfl
    · cases hc; exact plain false (fun h => by cases h) rfl
    · rename_i fs
      simp only [Option.bind_eq_some_iff] at hc
      obtain ⟨neg, hneg, os, hos, hc⟩ := hc
      split at hc
      · rename_i hst
        cases hc
        have hop : op = (if neg then .neq else .eql) := by
          unfold negOf at hneg
          split at hneg <;> cases hneg <;> rfl
        simp only [apure] at hv
        have hs := eqAgg_sim (P := P) H hd hst.1 hos neg hxv hyv hv
        refine fin hs ?_ (by rw [hop])
        have hshape : ∃ cs cs', a.eval x = .agg cs ∧ a.eval y = .agg cs' := by
          have hx2 : VR ι I w (o.ev ρ) (a.eval x) := hxv
          have hy2 : VR ι I w (o2.ev ρ) (a.eval y) := hyv
          unfold eqAggA at hv
          split at hv
          · rename_i xs ys e1 e2
            rw [e1] at hx2
            rw [e2] at hy2
            generalize a.eval x = c1 at hx2
            generalize a.eval y = c2 at hy2
            cases hx2; cases hy2
            exact ⟨_, _, rfl, rfl⟩
          · cases hv
        obtain ⟨cs, cs', e1, e2⟩ := hshape
        rw [e1, e2]
        unfold eqGuard
        rw [hop]
        cases neg <;> simp [hst.2]
      · cases hc
    · cases hc

end
end Go.Proofs.YtjkllffbjeajhaaGreat.Am

namespace Go.Proofs.YtjkllffbjeajhaaGreat.Am
open Go

section
variable {P : Program} {md : Mode} {ι : Inj} {I : Imm} {h : AHeap} {w : World}

theorem LR.toArr {l : List AV} {l' : List Value} (hl : LR ι I w l l') : l.length = l'.length ∧ ∀ (i : Nat) (v : AV) (c : Value), l[i]? = some v → l'[i]? = some c → VR ι I w v c := hl

theorem cBuiltin_p (H : HR ι I h w) {n : Nat} {ρ : Env} {a : Act} (A : AR ι I w n ρ a) {dst : Option Nat} {b : Builtin} {args : Array Operand} {ts : Array TypeId} {ty : TypeId} {q : POp} {v : AV}
    (hc : cBuiltin P md dst b args.toList ts.toList = some (.p q)) (hv : apure q ρ h = some v) (cs : Array Bool) : NP P ι I h w v (builtin b ts ty cs (args.map a.eval)) := by
  obtain ⟨args⟩ := args
  obtain ⟨ts⟩ := ts
  simp only [List.map_toArray] at *
  unfold cBuiltin at hc
  split at hc
  · rename_i x t
    simp only [Option.bind_eq_bind, Option.bind_eq_some_iff] at hc
    obtain ⟨o, ho, d, hd, hc⟩ := hc
    have hxv := cOpd_sim A ho
    split at hc
    · cases hc; simp only [apure] at hv; exact (lenS_sim (P := P) H #[t] ty rfl hd hxv hv).next
    · cases hc; simp only [apure] at hv; exact (lenStr_sim (P := P) H #[t] ty rfl hd hxv hv).next
    · cases hc
      simp only [apure] at hv
      cases hv
      exact (PSim.same (P := P) H (c := .int .i64 _) (by simp [Builtin.len_, run_under hd, goInt]) (.int _ _)).next
    · cases hc
  · simp only [Option.bind_eq_bind, Option.bind_eq_some_iff] at hc
    obtain ⟨o, ho, o2, ho2, d, hd, d2, hd2, hc⟩ := hc
    split at hc
    · simp only [Option.bind_eq_some_iff] at hc
      obtain ⟨i, hi, z, hz, hc⟩ := hc
      split at hc
      · split at hc <;> cases hc
      · cases hc
    · cases hc
  · simp only [Option.bind_eq_bind, Option.bind_eq_some_iff] at hc
    obtain ⟨o, ho, o2, ho2, d, hd, d2, hd2, hc⟩ := hc
    split at hc
    · simp only [Option.bind_eq_some_iff] at hc
      obtain ⟨sz, hsz, hc⟩ := hc
      cases hc
    · cases hc
  · simp only [Option.bind_eq_bind, Option.bind_eq_some_iff] at hc
    obtain ⟨o, ho, o2, ho2, d, hd, hc⟩ := hc
    split at hc
    · simp only [Option.bind_eq_some_iff] at hc
      obtain ⟨dk, hdk, hc⟩ := hc
      split at hc <;> cases hc
    · cases hc
  · rename_i x rest
    simp only [Option.bind_eq_bind, Option.bind_eq_some_iff] at hc
    obtain ⟨o, ho, os, hos, hc⟩ := hc
    cases hc
    have hl := cOpds_sim A hos
    obtain ⟨c, hr, hcv⟩ := minmaxL_sim (P := P) os (rest.map a.eval) _ _ _ (by have := hl.1; simpa using this) (fun i y c h1 h2 => hl.2 i _ c (by rw [List.getElem?_map, h1]; rfl) h2) (cOpd_sim A ho) hv
    exact (PSim.same (P := P) (s := Builtin.min_ _ ty _) H (by simp only [Builtin.min_, List.map_cons]; exact hr) hcv).next
  · rename_i x rest
    simp only [Option.bind_eq_bind, Option.bind_eq_some_iff] at hc
    obtain ⟨o, ho, os, hos, hc⟩ := hc
    cases hc
    have hl := cOpds_sim A hos
    obtain ⟨c, hr, hcv⟩ := minmaxL_sim (P := P) os (rest.map a.eval) _ _ _ (by have := hl.1; simpa using this) (fun i y c h1 h2 => hl.2 i _ c (by rw [List.getElem?_map, h1]; rfl) h2) (cOpd_sim A ho) hv
    exact (PSim.same (P := P) (s := Builtin.max_ _ ty _) H (by simp only [Builtin.max_, List.map_cons]; exact hr) hcv).next
  · rename_i x
    simp only [Option.bind_eq_bind, Option.bind_eq_some_iff] at hc
    obtain ⟨o, ho, hc⟩ := hc
    cases hc
    exact (part_sim (P := P) H (im := false) (cOpd_sim A ho) ⟨ts⟩ ty hv).next
  · rename_i x
    simp only [Option.bind_eq_bind, Option.bind_eq_some_iff] at hc
    obtain ⟨o, ho, hc⟩ := hc
    cases hc
    exact (part_sim (P := P) H (im := true) (cOpd_sim A ho) ⟨ts⟩ ty hv).next
  · cases hc

theorem cOp0_p (H : HR ι I h w) {n : Nat} {ρ : Env} {a : Act} (A : AR ι I w n ρ a) {o : Oper} {q : POp} {v : AV} (hc : cOp0 P md o.dst o.op = some (.p q)) (hv : apure q ρ h = some v) :
    NP P ι I h w v (execOp a.eval o) := by
  obtain ⟨dst, op, ty, pos, after, guard⟩ := o
  simp only at hc
  unfold cOp0 at hc
  split at hc
  case h_1 x => -- move
    simp only [Option.bind_eq_bind, Option.bind_eq_some_iff] at hc
    obtain ⟨o, ho, hc⟩ := hc
    cases hc; cases hv
    exact ⟨_, w, I, rfl, cOpd_sim A ho, H, .refl _ _ _ _ _⟩
  case h_2 x => -- assign
    simp only [Option.bind_eq_bind, Option.bind_eq_some_iff] at hc
    obtain ⟨o, ho, hc⟩ := hc
    cases hc; cases hv
    exact ⟨_, w, I, rfl, cOpd_sim A ho, H, .refl _ _ _ _ _⟩
  case h_3 c x y => -- pick
    simp only [Option.bind_eq_bind, Option.bind_eq_some_iff] at hc
    obtain ⟨oc, hoc, ox, hox, oy, hoy, hc⟩ := hc
    cases hc
    simp only [apure] at hv
    have hcv : VR ι I w (oc.ev ρ) (a.eval c) := cOpd_sim A hoc
    unfold pickA at hv
    split at hv
    · rename_i t ht
      rw [ht] at hcv
      cases hv
      generalize hec : a.eval c = cc at hcv
      cases hcv
      refine ⟨if t then a.eval x else a.eval y, w, I, ?_, ?_, H, .refl _ _ _ _ _⟩
      · simp [execOp, hec, asBool]
      · cases t
        · exact cOpd_sim A hoy
        · exact cOpd_sim A hox
    · cases hv
  case h_4 e => simp only [Option.bind_eq_bind, Option.bind_eq_some_iff] at hc; obtain ⟨_, _, hc⟩ := hc; cases hc
  case h_5 e x => simp only [Option.bind_eq_bind, Option.bind_eq_some_iff] at hc; obtain ⟨_, _, hc⟩ := hc; cases hc
  case h_6 t parts => -- build
    simp only [Option.bind_eq_bind, Option.bind_eq_some_iff] at hc
    obtain ⟨za, hza, d, hd, hc⟩ := hc
    split at hc
    · rename_i fs
      simp only [Option.bind_eq_some_iff] at hc
      obtain ⟨places, hp, ps, hps, hc⟩ := hc
      cases hc
      simp only [apure] at hv
      cases hf : fillA ρ za ps with
      | none => simp [hf] at hv
      | some r =>
        simp [hf] at hv
        subst hv
        obtain ⟨i, z, hi, hz, hsz, hcl⟩ := zeroOf_some hza
        obtain ⟨e1, e2⟩ := cParts_sim A hps
        refine (build_sim (P := P) H (t := t) (z := z) (za := za) (ps := ps) (ps' := parts.map fun (p : Nat × Operand) => (p.1, a.eval p.2)) (place := (places.toArray[·]?)) ?_ (constList_sim hcl).1 (by simpa using e1) ?_ hf).next
        · intro cells hcells
          unfold Program.built
          simp only [hi, hd, hz, hp]
          exact hcells
        · intro i' off sz j x c h1 h2
          obtain ⟨h3, h4⟩ := e2 i' off sz j x c h1 (by simpa using h2)
          exact ⟨by simpa using h3, h4⟩
    · cases hc
  case h_7 t n parts => -- buildSlice
    simp only [Option.bind_eq_bind, Option.bind_eq_some_iff] at hc
    obtain ⟨d, hd, hc⟩ := hc
    split at hc
    · rename_i e
      simp only [Option.bind_eq_some_iff] at hc
      obtain ⟨za, hza, ps, hps, hc⟩ := hc
      split at hc
      · rename_i hcond
        split at hc
        · cases hc
        · cases hc
          simp only [apure] at hv
          cases hf : fillR ρ za.length (List.replicate n za) ps with
          | none => simp [hf] at hv
          | some rows =>
            simp [hf] at hv
            subst hv
            obtain ⟨i, z, hi, hz, hsz, hcl⟩ := zeroOf_some hza
            obtain ⟨e1, e2⟩ := cRows_sim A hps
            have hlr := constList_sim (ι := ι) (I := I) (w := w) hcl
            have hzl : za.length = i.size := by rw [hsz, hlr.1.1]; simp
            exact (bslice_sim (P := P) H hd hi hz hsz (by rw [← hzl]; exact hcond.2) hlr.1 hlr.2 hcond.1 (ps' := parts.map fun (p : Nat × Operand) => (p.1, a.eval p.2)) (by simpa using e1)
              (fun i' j k x c h1 h2 => e2 i' j k x c h1 (by simpa using h2)) hf).next
      · cases hc
    · cases hc
  case h_8 t x => -- load
    simp only [Option.bind_eq_bind, Option.bind_eq_some_iff] at hc
    obtain ⟨d, hd, sz, hsz, ox, hox, hc⟩ := hc
    cases hc
    exact (load_sim (P := P) H hd hsz (cOpd_sim A hox) hv).next
  case h_9 t x y => simp only [Option.bind_eq_bind, Option.bind_eq_some_iff] at hc; obtain ⟨_, _, _, _, _, _, hc⟩ := hc; cases hc
  case h_10 x => -- nilCheck
    simp only [Option.bind_eq_bind, Option.bind_eq_some_iff] at hc
    obtain ⟨ox, hox, hc⟩ := hc
    cases hc
    obtain ⟨h1, h2, h3, h4, h5⟩ := nilchk_sim H (cOpd_sim A hox) hv
    refine ⟨a.eval x, w, I, ?_, h5, H, .refl _ _ _ _ _⟩
    simp only [execOp]
    generalize a.eval x = c at h1 h2 h3 h4 ⊢
    rfl
  case h_11 op t x y _ => -- binOp
    simp only [Option.bind_eq_bind, Option.bind_eq_some_iff] at hc
    obtain ⟨q', hq', hc⟩ := hc
    cases hc
    exact cBin_sim H A hq' hv
  case h_12 op _ x =>
    simp only [Option.bind_eq_bind, Option.bind_eq_some_iff] at hc
    obtain ⟨ox, hox, hc⟩ := hc
    cases hc
    exact (aun_sim (P := P) H (cOpd_sim A hox) hv).next
  case h_13 src dst' x => -- convert
    simp only [Option.bind_eq_bind, Option.bind_eq_some_iff] at hc
    obtain ⟨ox, hox, ds, hds, dd, hdd, hc⟩ := hc
    split at hc
    · cases hc
      exact (toInt_sim (P := P) H hds hdd (cOpd_sim A hox) hv).next
    · simp only [Option.bind_eq_some_iff] at hc
      obtain ⟨de, hde, hc⟩ := hc
      split at hc
      · cases hc; exact (bytesStr_sim (P := P) H hds hde hdd (cOpd_sim A hox) hv).next
      · cases hc
    · simp only [Option.bind_eq_some_iff] at hc
      obtain ⟨de, hde, hc⟩ := hc
      split at hc
      · cases hc; exact (strBytes_sim (P := P) H hds hdd hde (cOpd_sim A hox) hv).next
      · cases hc
    · simp only [Option.bind_eq_some_iff] at hc
      obtain ⟨de, hde, hc⟩ := hc
      split at hc
      · split at hc <;> cases hc
      · cases hc
    · cases hc
  case h_14 f first captured => -- makeFunc
    simp only [Option.bind_eq_bind, Option.bind_eq_some_iff] at hc
    obtain ⟨os, hos, cs, hcs, hc⟩ := hc
    cases hc; cases hv
    have h1 := cOpds_sim A hos
    have h2 := cOpds_sim A hcs
    refine ⟨_, w, I, rfl, ?_, H, .refl _ _ _ _ _⟩
    have := VR.fn (ι := ι) (I := I) (w := w) f _ _ _ _ h1.1 h2.1 h1.2 h2.2
    have e1 : (first.toList.map a.eval).toArray = first.map a.eval := by apply Array.ext'; simp
    have e2 : (captured.toList.map a.eval).toArray = captured.map a.eval := by apply Array.ext'; simp
    rw [e1, e2] at this
    exact this
  case h_15 t => cases hc
  case h_16 t l c => -- makeSlice
    simp only [Option.bind_eq_bind, Option.bind_eq_some_iff] at hc
    obtain ⟨d, hd, hc⟩ := hc
    split at hc
    · rename_i e
      simp only [Option.bind_eq_some_iff] at hc
      obtain ⟨za, hza, i, hi, hc⟩ := hc
      split at hc
      · rename_i hcond
        simp only [Option.bind_eq_some_iff] at hc
        obtain ⟨ol, hol, oc, hoc, hc⟩ := hc
        split at hc
        · cases hc
        · cases hc
          simp only [apure] at hv
          cases hm : makeLen i.bytes (ol.ev ρ) (oc.ev ρ) with
          | none => simp [hm] at hv
          | some k =>
            simp [hm] at hv
            subst hv
            obtain ⟨i', z, hi', hz, hsz, hcl⟩ := zeroOf_some hza
            rw [hi] at hi'
            cases hi'
            have hlr := constList_sim (ι := ι) (I := I) (w := w) hcl
            exact (mkslice_sim (P := P) H hd hi hz hsz rfl hlr.1 hlr.2 hcond (cOpd_sim A hol) (cOpd_sim A hoc) hm).next
      · cases hc
    · cases hc
  case h_17 t x lo hi mx => -- slice
    simp only [Option.bind_eq_bind, Option.bind_eq_some_iff] at hc
    obtain ⟨d, hd, hc⟩ := hc
    split at hc
    · rename_i e
      simp only [Option.bind_eq_some_iff] at hc
      obtain ⟨sz, hsz, ox, hox, olo, holo, ohi, hohi, omx, homx, hc⟩ := hc
      cases hc
      exact (slc_sim (P := P) H hd hsz (cOpt_sim A holo) (cOpt_sim A hohi) (cOpt_sim A homx) (cOpd_sim A hox) hv).next
    · cases hc
  case h_18 s x f => -- fieldAddr
    simp only [Option.bind_eq_bind, Option.bind_eq_some_iff] at hc
    obtain ⟨d, hd, hc⟩ := hc
    split at hc
    · simp only [Option.bind_eq_some_iff] at hc
      obtain ⟨fd, hfd, sz, hsz, hc⟩ := hc
      split at hc
      · rename_i h0
        simp only [Option.bind_eq_some_iff] at hc
        obtain ⟨ox, hox, hc⟩ := hc
        cases hc
        exact (faddr_sim (P := P) H hd hfd hsz h0 (cOpd_sim A hox) hv).next
      · cases hc
    · cases hc
  case h_19 s x f => -- field
    simp only [Option.bind_eq_bind, Option.bind_eq_some_iff] at hc
    obtain ⟨d, hd, hc⟩ := hc
    split at hc
    · simp only [Option.bind_eq_some_iff] at hc
      obtain ⟨fd, hfd, dd, hdd, sz, hsz, ox, hox, hc⟩ := hc
      cases hc
      exact (fld_sim (P := P) H hd hfd hdd hsz (cOpd_sim A hox) hv).next
    · cases hc
  case h_20 t x i => -- indexAddr
    simp only [Option.bind_eq_bind, Option.bind_eq_some_iff] at hc
    obtain ⟨d, hd, hc⟩ := hc
    split at hc
    · simp only [Option.bind_eq_some_iff] at hc
      obtain ⟨sz, hsz, ox, hox, oi, hoi, hc⟩ := hc
      cases hc
      exact (iaddrS_sim (P := P) H hd hsz (cOpd_sim A hox) (cOpd_sim A hoi) hv).next
    · simp only [Option.bind_eq_some_iff] at hc
      obtain ⟨sz, hsz, ox, hox, oi, hoi, hc⟩ := hc
      cases hc
      exact (iaddrA_sim (P := P) H hd hsz (cOpd_sim A hox) (cOpd_sim A hoi) hv).next
    · cases hc
  case h_21 t x i => -- index
    simp only [Option.bind_eq_bind, Option.bind_eq_some_iff] at hc
    obtain ⟨d, hd, hc⟩ := hc
    split at hc
    · simp only [Option.bind_eq_some_iff] at hc
      obtain ⟨dd, hdd, sz, hsz, ox, hox, oi, hoi, hc⟩ := hc
      cases hc
      exact (idxA_sim (P := P) H hd hdd hsz (cOpd_sim A hox) (cOpd_sim A hoi) hv).next
    · cases hc
  case h_22 t m k ok => -- lookup
    simp only [Option.bind_eq_bind, Option.bind_eq_some_iff] at hc
    obtain ⟨d, hd, hc⟩ := hc
    split at hc
    · simp only [Option.bind_eq_some_iff] at hc
      obtain ⟨dk, hdk, hc⟩ := hc
      split at hc
      · simp only [Option.bind_eq_some_iff] at hc
        obtain ⟨i, hi, z, hz, za, hza, om, hom, ok', hok', hc⟩ := hc
        cases hc
        exact (lookup_sim (P := P) H hd hdk hi hz (constV_sim hza) ok (cOpd_sim A hom) (cOpd_sim A hok') hv).next
      · cases hc
    · cases hc
  case h_23 t m k x =>
    simp only [Option.bind_eq_bind, Option.bind_eq_some_iff] at hc
    obtain ⟨d, hd, hc⟩ := hc
    split at hc
    · simp only [Option.bind_eq_some_iff] at hc
      obtain ⟨dk, hdk, hc⟩ := hc
      split at hc
      · simp only [Option.bind_eq_some_iff] at hc
        obtain ⟨_, _, _, _, _, _, hc⟩ := hc
        cases hc
      · cases hc
    · cases hc
  case h_24 x i =>
    simp only [Option.bind_eq_bind, Option.bind_eq_some_iff] at hc
    obtain ⟨ox, hox, hc⟩ := hc
    cases hc
    exact (ext_sim (P := P) H (cOpd_sim A hox) hv).next
  case h_25 c => -- call
    split at hc
    · split at hc
      · simp only [Option.bind_eq_bind, Option.bind_eq_some_iff] at hc; obtain ⟨_, _, hc⟩ := hc; cases hc
      · cases hc
    · simp only [Option.bind_eq_bind, Option.bind_eq_some_iff] at hc; obtain ⟨_, _, _, _, hc⟩ := hc; cases hc
    · rename_i b hb
      obtain ⟨c1, v1, I1, hr, hrest⟩ := cBuiltin_p H A hc hv (c.args.map fun | .const _ => true | _ => false)
      refine ⟨c1, v1, I1, ?_, hrest⟩
      simp only [execOp, resolve, hb, Sem.run_bind, Sem.run_pure, Result.andThen_ok, invoke]
      exact hr
    · cases hc
  case h_26 => cases hc

theorem cOp_cases {dst : Option Nat} {op : Op} {r : ROp} (hc : cOp P md dst op = some r) : cX P md dst op = some r ∨ cOp0 P md dst op = some r ∨ r = .p .stuck := by
  unfold cOp at hc
  split at hc
  · rename_i r' h; cases hc; exact .inl h
  · split at hc
    · rename_i r' h; cases hc; exact .inr (.inl h)
    · cases hc; exact .inr (.inr rfl)

/-- What the new operations come of. -/
theorem cK_cases {dst : Option Nat} {b : Builtin} {args : List Operand} {ts : List TypeId} {r : ROp} (hc : cK P md dst b args ts = some r) :
    (∃ x y t tx a c e k za i, b = .append ∧ args = [x, y] ∧ ts = [t, tx] ∧ cOpd md.pr x = some a ∧ cOpd md.pr y = some c ∧ P.underlying t = some (.slice e) ∧ P.underlying tx = some (.int k) ∧ zeroOf P md e = some za ∧ P.info? e = some i ∧ za.length ≠ 0 ∧ r = .e (.appendZ i.bytes za a c)) ∨
    (∃ x t a e, b = .cap ∧ args = [x] ∧ ts = [t] ∧ cOpd md.pr x = some a ∧ P.underlying t = some (.slice e) ∧ r = .p (.capS a)) ∨
    (∃ x t a e za, b = .clear ∧ args = [x] ∧ ts = [t] ∧ cOpd md.pr x = some a ∧ P.underlying t = some (.slice e) ∧ zeroOf P md e = some za ∧ za.length ≠ 0 ∧ r = .e (.clearK za a)) ∨
    (∃ x y t tx a c e sz, b = .copy ∧ args = [x, y] ∧ ts = [t, tx] ∧ cOpd md.pr x = some a ∧ cOpd md.pr y = some c ∧ P.underlying t = some (.slice e) ∧ szOf P e = some sz ∧ r = .e (.copyK sz a c)) := by
  unfold cK at hc
  split at hc
  · rename_i x y t tx
    simp only [Option.bind_eq_bind, Option.bind_eq_some_iff] at hc
    obtain ⟨a, ha, c, hcc, d, hd, d2, hd2, hc⟩ := hc
    split at hc
    · rename_i e k
      simp only [Option.bind_eq_some_iff] at hc
      obtain ⟨za, hza, i, hi, hc⟩ := hc
      split at hc
      · rename_i h0
        cases hc
        exact .inl ⟨x, y, t, tx, a, c, e, k, za, i, rfl, rfl, rfl, ha, hcc, hd, hd2, hza, hi, h0, rfl⟩
      · cases hc
    · cases hc
  · rename_i x t
    simp only [Option.bind_eq_bind, Option.bind_eq_some_iff] at hc
    obtain ⟨a, ha, d, hd, hc⟩ := hc
    split at hc
    · rename_i e
      cases hc
      exact .inr (.inl ⟨x, t, a, e, rfl, rfl, rfl, ha, hd, rfl⟩)
    · cases hc
  · rename_i x t
    simp only [Option.bind_eq_bind, Option.bind_eq_some_iff] at hc
    obtain ⟨a, ha, d, hd, hc⟩ := hc
    split at hc
    · rename_i e
      simp only [Option.bind_eq_some_iff] at hc
      obtain ⟨za, hza, hc⟩ := hc
      split at hc
      · rename_i h0
        cases hc
        exact .inr (.inr (.inl ⟨x, t, a, e, za, rfl, rfl, rfl, ha, hd, hza, h0, rfl⟩))
      · cases hc
    · cases hc
  · rename_i x y t tx
    split at hc
    · simp only [Option.bind_eq_bind, Option.bind_eq_some_iff] at hc
      obtain ⟨a, ha, c, hcc, d, hd, hc⟩ := hc
      split at hc
      · rename_i e
        simp only [Option.bind_eq_some_iff] at hc
        obtain ⟨sz, hsz, hc⟩ := hc
        cases hc
        exact .inr (.inr (.inr ⟨x, y, t, tx, a, c, e, sz, rfl, rfl, rfl, ha, hcc, hd, hsz, rfl⟩))
      · cases hc
    · cases hc
  · cases hc

theorem isOvl_run {f : Nat} {t : TypeId} (hf : isOvl P f = some t) (args : Array Value) (w : World) :
    ∃ t2 rt, (callFunc f args).run P w = ((Extern.SlicesOverlaps.overlaps #[t, t2] #[rt] args).run P w).andThen fun v w' => .ok (.value v) w' := by
  unfold isOvl at hf
  split at hf
  · rename_i fn hfn
    split at hf
    · rename_i t' t2 rt hp hr
      split at hf
      · rename_i hcond
        rw [Option.some.injEq] at hf
        subst hf
        simp only [Bool.and_eq_true, bne_iff_ne, ne_eq, beq_iff_eq, Option.isNone_iff_eq_none] at hcond
        obtain ⟨⟨⟨⟨⟨⟨h1, h2⟩, h3⟩, h4⟩, h5⟩, h6⟩, h7⟩ := hcond
        have ep : fn.params = #[t', t2] := by apply Array.ext'; simpa using hp
        have er : fn.resultTypes = #[rt] := by apply Array.ext'; simpa using hr
        have g1 : Extern.allGenericRows.lookup "slices.overlaps" = none := by kernel_rfl
        have g2 : Extern.allTypedRows.lookup "slices.overlaps" = some Extern.SlicesOverlaps.overlaps := by kernel_rfl
        have g3 : Extern.allNextRows.lookup "slices.overlaps" = none := by kernel_rfl
        have e1 : Extern.findNext fn = none := by simp [Extern.findNext, h3, h7, g3]
        have e2 : Extern.find fn = some (Extern.SlicesOverlaps.overlaps #[t', t2] #[rt]) := by simp [Extern.find, h3, h4, h5, h6, g1, g2, ep, er]
        exact ⟨t2, rt, run_callFunc_extern hfn (by simpa using h1) (by simp [h2]) e1 e2 args w⟩
      · cases hf
    · cases hf
  · cases hf

theorem cOp_p (H : HR ι I h w) {n : Nat} {ρ : Env} {a : Act} (A : AR ι I w n ρ a) {o : Oper} {q : POp} {v : AV} (hc : cOp P md o.dst o.op = some (.p q)) (hv : apure q ρ h = some v) :
    NP P ι I h w v (execOp a.eval o) := by
  replace hc := cOp_cases hc
  rcases hc with hc | hc | hc
  · obtain ⟨dst, op, ty, pos, after, guard⟩ := o
    simp only at hc
    unfold cX at hc
    split at hc
    · rename_i t x i
      simp only [Option.bind_eq_bind, Option.bind_eq_some_iff] at hc
      obtain ⟨d, hd, hc⟩ := hc
      split at hc
      · simp only [Option.bind_eq_some_iff] at hc
        obtain ⟨ox, hox, oi, hoi, hc⟩ := hc
        cases hc
        exact (idxStr_sim (P := P) H hd (cOpd_sim A hox) (cOpd_sim A hoi) hv).next
      · cases hc
    · simp only [Option.bind_eq_bind, Option.bind_eq_some_iff] at hc
      obtain ⟨d, hd, hc⟩ := hc
      split at hc
      · simp only [Option.bind_eq_some_iff] at hc
        obtain ⟨ox, hox, hc⟩ := hc
        cases hc
        simp only [apure] at hv
        cases hv
      · cases hc
    · split at hc
      · cases hc
      · simp only [Option.map_eq_some_iff] at hc
        obtain ⟨ox, hox, hc⟩ := hc
        cases hc
        simp only [apure] at hv
        cases hv
    · simp only [Option.map_eq_some_iff] at hc
      obtain ⟨ox, hox, hc⟩ := hc
      cases hc
      simp only [apure] at hv
      cases hv
    · rename_i c
      split at hc
      · rename_i f hf
        split at hc
        · rename_i t x y ht hargs
          simp only [Option.bind_eq_bind, Option.bind_eq_some_iff] at hc
          obtain ⟨d, hd, hc⟩ := hc
          split at hc
          · simp only [Option.bind_eq_some_iff] at hc
            obtain ⟨sz, hsz, ox, hox, oy, hoy, hc⟩ := hc
            cases hc
            obtain ⟨t2, rt, hrun⟩ := isOvl_run (P := P) ht #[a.eval x, a.eval y] w
            obtain ⟨c1, w1, I1, hr, hcv, H1, E1⟩ := ovl_sim (P := P) (t2 := t2) (rt := rt) H hd hsz (cOpd_sim A hox) (cOpd_sim A hoy) hv
            refine ⟨c1, w1, I1, ?_, hcv, H1, E1⟩
            have ea : c.args = #[x, y] := by apply Array.ext'; simpa using hargs
            simp only [execOp, resolve, hf, Act.eval, Deferred.ofValue, Sem.run_bind, Sem.run_pure, Result.andThen_ok, invoke, ea]
            simp only [List.map_toArray, List.map_cons, List.map_nil]
            have := hrun
            rw [hr] at this
            simpa using this
          · cases hc
        · cases hc
      · rename_i b hb
        rcases cK_cases hc with ⟨_, _, _, _, _, _, _, _, _, _, _, _, _, _, _, _, _, _, _, _, h⟩ | ⟨x, t, o, e, rfl, hargs, hts, ho, ht, h⟩ | ⟨_, _, _, _, _, _, _, _, _, _, _, _, h⟩ | ⟨_, _, _, _, _, _, _, _, _, _, _, _, _, _, _, h⟩
        · cases h
        · cases h
          simp only [apure] at hv
          cases hcap : capA (o.ev ρ) with
          | none => simp [hcap] at hv
          | some k =>
            simp [hcap] at hv
            subst hv
            obtain ⟨c1, w1, I1, hr, hcv, H1, E1⟩ := cap_sim (P := P) (ty := ty) H ht (cOpd_sim A ho) hcap
            refine ⟨c1, w1, I1, ?_, hcv, H1, E1⟩
            have ea : c.args = #[x] := by apply Array.ext'; simpa using hargs
            have et : c.argTypes = #[t] := by apply Array.ext'; simpa using hts
            simp only [execOp, resolve, hb, Sem.run_bind, Sem.run_pure, Result.andThen_ok, invoke, ea, et, List.map_toArray, List.map_cons, List.map_nil, builtin]
            simp [hr]
        · cases h
        · cases h
      · cases hc
    · cases hc
  · exact cOp0_p H A hc hv
  · cases hc; cases hv

end
end Go.Proofs.YtjkllffbjeajhaaGreat.Am

namespace Go.Proofs.YtjkllffbjeajhaaGreat.Am
open Go

section
variable {P : Program} {md : Mode} {ι : Inj} {I : Imm} {h : AHeap} {w : World}

theorem cOp0_a (H : HR ι I h w) {n : Nat} {ρ : Env} {a : Act} (A : AR ι I w n ρ a) {o : Oper} {q : AOp} {id : Nat} (hid : ι id = none) {b : Blk} {v : AV} (hc : cOp0 P md o.dst o.op = some (.a q)) (hv : aalloc q ρ id = some (b, v)) :
    NE P ι I h w id v (h.at id b) (execOp a.eval o) := by
  obtain ⟨dst, op, ty, pos, after, guard⟩ := o
  simp only at hc
  unfold cOp0 at hc
  split at hc
  case h_4 e =>
    simp only [Option.bind_eq_bind, Option.bind_eq_some_iff] at hc
    obtain ⟨za, hza, hc⟩ := hc
    cases hc
    simp only [aalloc, Option.some.injEq, Prod.mk.injEq] at hv
    obtain ⟨rfl, rfl⟩ := hv
    obtain ⟨i, z, hi, hz, hsz, hcl⟩ := zeroOf_some hza
    have hlr := constList_sim (ι := ι) (I := I) (w := w) hcl
    exact (alloc_sim (P := P) H hid hi hz hlr.1 hlr.2).next
  case h_5 e x =>
    simp only [Option.bind_eq_bind, Option.bind_eq_some_iff] at hc
    obtain ⟨ox, hox, hc⟩ := hc
    cases hc
    simp only [aalloc] at hv
    split at hv
    · rename_i hall
      simp only [Option.some.injEq, Prod.mk.injEq] at hv
      obtain ⟨rfl, rfl⟩ := hv
      exact (box_sim (P := P) H hid (cOpd_sim A hox) hall e).next
    · cases hv
  case h_7 t n parts =>
    simp only [Option.bind_eq_bind, Option.bind_eq_some_iff] at hc
    obtain ⟨d, hd, hc⟩ := hc
    split at hc
    · rename_i e
      simp only [Option.bind_eq_some_iff] at hc
      obtain ⟨za, hza, ps, hps, hc⟩ := hc
      split at hc
      · rename_i hcond
        split at hc
        · cases hc
          simp only [aalloc] at hv
          cases hf : fillR ρ za.length (List.replicate n za) ps with
          | none => simp [hf] at hv
          | some rows =>
            simp [hf] at hv
            obtain ⟨rfl, rfl⟩ := hv
            obtain ⟨i, z, hi, hz, hsz, hcl⟩ := zeroOf_some hza
            obtain ⟨e1, e2⟩ := cRows_sim A hps
            have hlr := constList_sim (ι := ι) (I := I) (w := w) hcl
            have hzl : za.length = i.size := by rw [hsz, hlr.1.1]; simp
            exact (bsliceR_sim (P := P) H hid hd hi hz hsz (by rw [← hzl]; exact hcond.2) hlr.1 hlr.2 hcond.1 (ps' := parts.map fun (p : Nat × Operand) => (p.1, a.eval p.2)) (by simpa using e1)
              (fun i' j k x c h1 h2 => e2 i' j k x c h1 (by simpa using h2)) hf).next
        · cases hc
      · cases hc
    · cases hc
  case h_13 src dst' x =>
    simp only [Option.bind_eq_bind, Option.bind_eq_some_iff] at hc
    obtain ⟨ox, hox, ds, hds, dd, hdd, hc⟩ := hc
    split at hc
    · cases hc
    · simp only [Option.bind_eq_some_iff] at hc
      obtain ⟨de, hde, hc⟩ := hc
      split at hc <;> cases hc
    · simp only [Option.bind_eq_some_iff] at hc
      obtain ⟨de, hde, hc⟩ := hc
      split at hc <;> cases hc
    · simp only [Option.bind_eq_some_iff] at hc
      obtain ⟨de, hde, hc⟩ := hc
      split at hc
      · split at hc
        · cases hc
        · cases hc
      · cases hc
    · cases hc
  case h_15 t =>
    cases hc
    simp only [aalloc, Option.some.injEq, Prod.mk.injEq] at hv
    obtain ⟨rfl, rfl⟩ := hv
    exact (mkmap_sim (P := P) H hid t).next
  case h_16 t l c =>
    simp only [Option.bind_eq_bind, Option.bind_eq_some_iff] at hc
    obtain ⟨d, hd, hc⟩ := hc
    split at hc
    · rename_i e
      simp only [Option.bind_eq_some_iff] at hc
      obtain ⟨za, hza, i, hi, hc⟩ := hc
      split at hc
      · rename_i hcond
        simp only [Option.bind_eq_some_iff] at hc
        obtain ⟨ol, hol, oc, hoc, hc⟩ := hc
        split at hc
        · cases hc
          simp only [aalloc] at hv
          cases hm : makeLen i.bytes (ol.ev ρ) (oc.ev ρ) with
          | none => simp [hm] at hv
          | some k =>
            simp [hm] at hv
            obtain ⟨rfl, rfl⟩ := hv
            obtain ⟨i', z, hi', hz, hsz, hcl⟩ := zeroOf_some hza
            rw [hi] at hi'
            cases hi'
            have hlr := constList_sim (ι := ι) (I := I) (w := w) hcl
            exact (mksliceR_sim (P := P) H hid hd hi hz hsz rfl hlr.1 hlr.2 hcond (cOpd_sim A hol) (cOpd_sim A hoc) hm).next
        · cases hc
      · cases hc
    · cases hc
  case h_25 c =>
    split at hc
    · split at hc
      · simp only [Option.bind_eq_bind, Option.bind_eq_some_iff] at hc; obtain ⟨_, _, hc⟩ := hc; cases hc
      · cases hc
    · simp only [Option.bind_eq_bind, Option.bind_eq_some_iff] at hc; obtain ⟨_, _, _, _, hc⟩ := hc; cases hc
    · rename_i b' hb
      unfold cBuiltin at hc
      split at hc <;> try simp only [Option.bind_eq_bind, Option.bind_eq_some_iff] at hc
      · obtain ⟨_, _, _, _, hc⟩ := hc; split at hc <;> cases hc
      · obtain ⟨_, _, _, _, _, _, _, _, hc⟩ := hc
        split at hc
        · simp only [Option.bind_eq_some_iff] at hc
          obtain ⟨_, _, _, _, hc⟩ := hc
          split at hc
          · split at hc <;> cases hc
          · cases hc
        · cases hc
      · obtain ⟨_, _, _, _, _, _, _, _, hc⟩ := hc
        split at hc
        · simp only [Option.bind_eq_some_iff] at hc; obtain ⟨_, _, hc⟩ := hc; cases hc
        · cases hc
      · obtain ⟨_, _, _, _, _, _, hc⟩ := hc
        split at hc
        · simp only [Option.bind_eq_some_iff] at hc; obtain ⟨_, _, hc⟩ := hc; split at hc <;> cases hc
        · cases hc
      · obtain ⟨_, _, _, _, hc⟩ := hc; cases hc
      · obtain ⟨_, _, _, _, hc⟩ := hc; cases hc
      · obtain ⟨_, _, hc⟩ := hc; cases hc
      · obtain ⟨_, _, hc⟩ := hc; cases hc
      · cases hc
    · cases hc
  all_goals (first
    | (cases hc; done)
    | (simp only [Option.bind_eq_bind, Option.bind_eq_some_iff] at hc
       first
       | (obtain ⟨_, _, hc⟩ := hc; cases hc; done)
       | (obtain ⟨_, _, _, _, hc⟩ := hc; cases hc; done)
       | (obtain ⟨_, _, _, _, _, _, hc⟩ := hc; cases hc; done)
       | (obtain ⟨_, _, hc⟩ := hc
          split at hc <;> first
            | (cases hc; done)
            | (simp only [Option.bind_eq_some_iff] at hc
               first
               | (obtain ⟨_, _, _, _, _, _, hc⟩ := hc; cases hc; done)
               | (obtain ⟨_, _, _, _, _, _, _, _, hc⟩ := hc; cases hc; done)
               | (obtain ⟨_, _, _, _, _, _, _, _, _, _, hc⟩ := hc; cases hc; done)
               | (obtain ⟨_, _, _, _, hc⟩ := hc; cases hc; done)
               | (obtain ⟨_, _, _, _, hc⟩ := hc
                  split at hc
                  · simp only [Option.bind_eq_some_iff] at hc; obtain ⟨_, _, hc⟩ := hc; cases hc
                  · cases hc)
               | (obtain ⟨_, _, hc⟩ := hc
                  split at hc <;> first
                    | (cases hc; done)
                    | (simp only [Option.bind_eq_some_iff] at hc
                       first
                       | (obtain ⟨_, _, _, _, _, _, _, _, _, _, hc⟩ := hc; cases hc; done)
                       | (obtain ⟨_, _, _, _, _, _, hc⟩ := hc; cases hc; done)))))
       | (obtain ⟨_, _, _, _, _, _, hc⟩ := hc
          split at hc <;> first
            | (cases hc; done)
            | (simp only [Option.bind_eq_some_iff] at hc
               obtain ⟨_, _, hc⟩ := hc
               split at hc <;> cases hc))
       | (obtain ⟨_, _, _, _, hc⟩ := hc
          split at hc
          · simp only [Option.bind_eq_some_iff] at hc; obtain ⟨_, _, _, _, hc⟩ := hc; cases hc
          · cases hc)))

theorem copy_rows {ρ : Env} {sz id : Nat} {x y : Opd} {v : AV} {h h' : AHeap} (hv : aeff (.copy sz x y) ρ id h = some (v, h')) : ∃ u, rowsA sz h (y.ev ρ) = some u := by
  simp only [aeff] at hv
  split at hv
  · split at hv
    · rename_i ys cs h1 h2; exact ⟨ys, h1⟩
    · cases hv
  · split at hv
    · rename_i ys h1; exact ⟨ys, h1⟩
    · cases hv
  · split at hv
    · rename_i ys h1; exact ⟨ys, h1⟩
    · cases hv
  · cases hv

theorem cBuiltin_e (H : HR ι I h w) {n : Nat} {ρ : Env} {a : Act} (A : AR ι I w n ρ a) {dst : Option Nat} {b : Builtin} {args : Array Operand} {ts : Array TypeId} {ty : TypeId} {q : EOp} {id : Nat} (hid : ι id = none) {v : AV} {h' : AHeap}
    (hc : cBuiltin P md dst b args.toList ts.toList = some (.e q)) (hv : aeff q ρ id h = some (v, h')) (cs : Array Bool) : NE P ι I h w id v h' (builtin b ts ty cs (args.map a.eval)) := by
  obtain ⟨args⟩ := args
  obtain ⟨ts⟩ := ts
  simp only [List.map_toArray] at *
  unfold cBuiltin at hc
  split at hc <;> try simp only [Option.bind_eq_bind, Option.bind_eq_some_iff] at hc
  · obtain ⟨_, _, _, _, hc⟩ := hc; split at hc <;> cases hc
  · rename_i x y t tx
    obtain ⟨ox, hox, oy, hoy, d, hd, d2, hd2, hc⟩ := hc
    split at hc
    · rename_i e e'
      simp only [Option.bind_eq_some_iff] at hc
      obtain ⟨i, hi, z, hz, hc⟩ := hc
      split at hc
      · rename_i hcond
        obtain ⟨rfl, hzs, h0⟩ := hcond
        have T : AppT P t tx e i.size i.bytes := ⟨hd, hd2, ⟨i, z, hi, hz, rfl, rfl, hzs⟩, h0⟩
        split at hc
        · cases hc
          exact (appendR_sim (P := P) H hid T (cOpd_sim A hox) (cOpd_sim A hoy) rfl rfl hv).next
        · cases hc
          exact (append_sim (P := P) H hid T (cOpd_sim A hox) (cOpd_sim A hoy) rfl rfl hv).next
      · cases hc
    · cases hc
  · rename_i x y t tx
    obtain ⟨ox, hox, oy, hoy, d, hd, d2, hd2, hc⟩ := hc
    split at hc
    · rename_i e e'
      simp only [Option.bind_eq_some_iff] at hc
      obtain ⟨sz, hsz, hc⟩ := hc
      cases hc
      have hyv : VR ι I w (oy.ev ρ) (a.eval y) := cOpd_sim A hoy
      have hsl : (∃ u, rowsA sz h (oy.ev ρ) = some u) → ∃ p q r, a.eval y = .slice p q r := by
        rintro ⟨u, hu⟩
        obtain ⟨p, q, r, hq, _⟩ := rows_sim H hyv hu
        exact ⟨_, _, _, hq⟩
      exact (copy_sim (P := P) H hd hsz id (cOpd_sim A hox) hyv rfl rfl hv ⟨_, hd2⟩ (hsl (copy_rows hv))).next
    · cases hc
  · rename_i m k t tx
    obtain ⟨om, hom, ok, hok, d, hd, hc⟩ := hc
    split at hc
    · simp only [Option.bind_eq_some_iff] at hc
      obtain ⟨dk, hdk, hc⟩ := hc
      split at hc
      · cases hc
        exact (mapdel_sim (P := P) H id hd hdk (cOpd_sim A hom) (cOpd_sim A hok) rfl rfl hv).next
      · cases hc
    · cases hc
  · obtain ⟨_, _, _, _, hc⟩ := hc; cases hc
  · obtain ⟨_, _, _, _, hc⟩ := hc; cases hc
  · obtain ⟨_, _, hc⟩ := hc; cases hc
  · obtain ⟨_, _, hc⟩ := hc; cases hc
  · cases hc

theorem cOp0_e (H : HR ι I h w) {n : Nat} {ρ : Env} {a : Act} (A : AR ι I w n ρ a) {o : Oper} {q : EOp} {id : Nat} (hid : ι id = none) {v : AV} {h' : AHeap} (hc : cOp0 P md o.dst o.op = some (.e q)) (hv : aeff q ρ id h = some (v, h')) :
    NE P ι I h w id v h' (execOp a.eval o) := by
  obtain ⟨dst, op, ty, pos, after, guard⟩ := o
  simp only at hc
  unfold cOp0 at hc
  split at hc
  case h_7 t n parts =>
    simp only [Option.bind_eq_bind, Option.bind_eq_some_iff] at hc
    obtain ⟨d, hd, hc⟩ := hc
    split at hc
    · simp only [Option.bind_eq_some_iff] at hc
      obtain ⟨_, _, _, _, hc⟩ := hc
      split at hc
      · split at hc <;> cases hc
      · cases hc
    · cases hc
  case h_9 t x y =>
    simp only [Option.bind_eq_bind, Option.bind_eq_some_iff] at hc
    obtain ⟨sz, hsz, ox, hox, oy, hoy, hc⟩ := hc
    cases hc
    obtain ⟨rfl, w', hr, H', E⟩ := store_sim (P := P) H hsz (cOpd_sim A hox) (cOpd_sim A hoy) hv
    exact ⟨_, .bool true, w', ι, I, by simp [execOp, hr], .inr ⟨rfl, rfl⟩, .undef _, H', E.mono (fun _ h => h.elim)⟩
  case h_13 src dst' x =>
    simp only [Option.bind_eq_bind, Option.bind_eq_some_iff] at hc
    obtain ⟨ox, hox, ds, hds, dd, hdd, hc⟩ := hc
    split at hc
    · cases hc
    · simp only [Option.bind_eq_some_iff] at hc
      obtain ⟨de, hde, hc⟩ := hc
      split at hc <;> cases hc
    · simp only [Option.bind_eq_some_iff] at hc
      obtain ⟨de, hde, hc⟩ := hc
      split at hc <;> cases hc
    · simp only [Option.bind_eq_some_iff] at hc
      obtain ⟨de, hde, hc⟩ := hc
      split at hc
      · split at hc
        · rename_i hsd
          cases hc
          subst hsd
          exact (mark_sim (P := P) H hds hde id (cOpd_sim A hox) rfl hv).next
        · cases hc
      · cases hc
    · cases hc
  case h_16 t l c =>
    simp only [Option.bind_eq_bind, Option.bind_eq_some_iff] at hc
    obtain ⟨d, hd, hc⟩ := hc
    split at hc
    · simp only [Option.bind_eq_some_iff] at hc
      obtain ⟨_, _, _, _, hc⟩ := hc
      split at hc
      · simp only [Option.bind_eq_some_iff] at hc
        obtain ⟨_, _, _, _, hc⟩ := hc
        split at hc <;> cases hc
      · cases hc
    · cases hc
  case h_23 t m k x =>
    simp only [Option.bind_eq_bind, Option.bind_eq_some_iff] at hc
    obtain ⟨d, hd, hc⟩ := hc
    split at hc
    · simp only [Option.bind_eq_some_iff] at hc
      obtain ⟨dk, hdk, hc⟩ := hc
      split at hc
      · simp only [Option.bind_eq_some_iff] at hc
        obtain ⟨om, hom, ok, hok, ov, hov, hc⟩ := hc
        cases hc
        obtain ⟨rfl, w', hr, H', E⟩ := mapupd_sim (P := P) H id hd hdk (cOpd_sim A hom) (cOpd_sim A hok) (cOpd_sim A hov) rfl rfl rfl hv
        exact ⟨_, .bool true, w', ι, I, by simp [execOp, hr], .inr ⟨rfl, rfl⟩, .undef _, H', E.mono (fun _ h => h.elim)⟩
      · cases hc
    · cases hc
  case h_25 c =>
    split at hc
    · split at hc
      · simp only [Option.bind_eq_bind, Option.bind_eq_some_iff] at hc; obtain ⟨_, _, hc⟩ := hc; cases hc
      · cases hc
    · simp only [Option.bind_eq_bind, Option.bind_eq_some_iff] at hc; obtain ⟨_, _, _, _, hc⟩ := hc; cases hc
    · rename_i b hb
      obtain ⟨x1, c1, w1, ι1, I1, hr, hrest⟩ := cBuiltin_e H A (ty := ty) hid hc hv (c.args.map fun | .const _ => true | _ => false)
      refine ⟨x1, c1, w1, ι1, I1, ?_, hrest⟩
      simp only [execOp, resolve, hb, Sem.run_bind, Sem.run_pure, Result.andThen_ok, invoke]
      exact hr
    · cases hc
  all_goals (first
    | (cases hc; done)
    | (simp only [Option.bind_eq_bind, Option.bind_eq_some_iff] at hc
       first
       | (obtain ⟨_, _, hc⟩ := hc; cases hc; done)
       | (obtain ⟨_, _, _, _, hc⟩ := hc; cases hc; done)
       | (obtain ⟨_, _, _, _, _, _, hc⟩ := hc; cases hc; done)
       | (obtain ⟨_, _, hc⟩ := hc
          split at hc <;> first
            | (cases hc; done)
            | (simp only [Option.bind_eq_some_iff] at hc
               first
               | (obtain ⟨_, _, _, _, _, _, hc⟩ := hc; cases hc; done)
               | (obtain ⟨_, _, _, _, _, _, _, _, hc⟩ := hc; cases hc; done)
               | (obtain ⟨_, _, _, _, _, _, _, _, _, _, hc⟩ := hc; cases hc; done)
               | (obtain ⟨_, _, _, _, hc⟩ := hc; cases hc; done)
               | (obtain ⟨_, _, _, _, hc⟩ := hc
                  split at hc
                  · simp only [Option.bind_eq_some_iff] at hc; obtain ⟨_, _, hc⟩ := hc; cases hc
                  · cases hc)
               | (obtain ⟨_, _, hc⟩ := hc
                  split at hc <;> first
                    | (cases hc; done)
                    | (simp only [Option.bind_eq_some_iff] at hc
                       first
                       | (obtain ⟨_, _, _, _, _, _, _, _, _, _, hc⟩ := hc; cases hc; done)
                       | (obtain ⟨_, _, _, _, _, _, hc⟩ := hc; cases hc; done)))))
       | (obtain ⟨_, _, _, _, _, _, hc⟩ := hc
          split at hc <;> first
            | (cases hc; done)
            | (simp only [Option.bind_eq_some_iff] at hc
               obtain ⟨_, _, hc⟩ := hc
               split at hc <;> cases hc))
       | (obtain ⟨_, _, _, _, hc⟩ := hc
          split at hc
          · simp only [Option.bind_eq_some_iff] at hc; obtain ⟨_, _, _, _, hc⟩ := hc; cases hc
          · cases hc)))

theorem cX_cases {dst : Option Nat} {op : Op} {r : ROp} (hc : cX P md dst op = some r) :
    (∃ q, r = .p q) ∨ ∃ c b, op = .call c ∧ c.callee = .builtin b ∧ cK P md dst b c.args.toList c.argTypes.toList = some r := by
  unfold cX at hc
  split at hc
  · simp only [Option.bind_eq_bind, Option.bind_eq_some_iff] at hc
    obtain ⟨d, hd, hc⟩ := hc
    split at hc
    · simp only [Option.bind_eq_some_iff] at hc
      obtain ⟨ox, hox, oi, hoi, hc⟩ := hc
      cases hc
      exact .inl ⟨_, rfl⟩
    · cases hc
  · simp only [Option.bind_eq_bind, Option.bind_eq_some_iff] at hc
    obtain ⟨d, hd, hc⟩ := hc
    split at hc
    · simp only [Option.bind_eq_some_iff] at hc
      obtain ⟨ox, hox, hc⟩ := hc
      cases hc
      exact .inl ⟨_, rfl⟩
    · cases hc
  · split at hc
    · cases hc
    · simp only [Option.map_eq_some_iff] at hc
      obtain ⟨ox, hox, hc⟩ := hc
      cases hc
      exact .inl ⟨_, rfl⟩
  · simp only [Option.map_eq_some_iff] at hc
    obtain ⟨ox, hox, hc⟩ := hc
    cases hc
    exact .inl ⟨_, rfl⟩
  · rename_i c
    split at hc
    · split at hc
      · simp only [Option.bind_eq_bind, Option.bind_eq_some_iff] at hc
        obtain ⟨d, hd, hc⟩ := hc
        split at hc
        · simp only [Option.bind_eq_some_iff] at hc
          obtain ⟨_, _, _, _, _, _, hc⟩ := hc
          cases hc
          exact .inl ⟨_, rfl⟩
        · cases hc
      · cases hc
    · rename_i b hb
      exact .inr ⟨c, b, rfl, hb, hc⟩
    · cases hc
  · cases hc

theorem cOp_a (H : HR ι I h w) {n : Nat} {ρ : Env} {a : Act} (A : AR ι I w n ρ a) {o : Oper} {q : AOp} {id : Nat} (hid : ι id = none) {b : Blk} {v : AV} (hc : cOp P md o.dst o.op = some (.a q)) (hv : aalloc q ρ id = some (b, v)) :
    NE P ι I h w id v (h.at id b) (execOp a.eval o) := by
  rcases cOp_cases hc with h1 | h1 | h1
  · rcases cX_cases h1 with ⟨q, h⟩ | ⟨c, b', -, -, hk⟩
    · cases h
    · rcases cK_cases hk with ⟨_, _, _, _, _, _, _, _, _, _, _, _, _, _, _, _, _, _, _, _, h⟩ | ⟨_, _, _, _, _, _, _, _, _, h⟩ | ⟨_, _, _, _, _, _, _, _, _, _, _, _, h⟩ | ⟨_, _, _, _, _, _, _, _, _, _, _, _, _, _, _, h⟩ <;> cases h
  · exact cOp0_a H A hid h1 hv
  · cases h1

theorem cOp_e (H : HR ι I h w) {n : Nat} {ρ : Env} {a : Act} (A : AR ι I w n ρ a) {o : Oper} {q : EOp} {id : Nat} (hid : ι id = none) {v : AV} {h' : AHeap} (hc : cOp P md o.dst o.op = some (.e q)) (hv : aeff q ρ id h = some (v, h')) :
    NE P ι I h w id v h' (execOp a.eval o) := by
  rcases cOp_cases hc with h1 | h1 | h1
  · rcases cX_cases h1 with ⟨q, h⟩ | ⟨c, b', hop, hb, hk⟩
    · cases h
    · obtain ⟨dst, op, ty, pos, after, guard⟩ := o
      simp only at hop
      subst hop
      have key : NE P ι I h w id v h' (builtin b' c.argTypes ty (c.args.map fun | .const _ => true | _ => false) (c.args.map a.eval)) := by
        rcases cK_cases hk with ⟨x, y, t, tx, ox, oy, e, k, za, i, rfl, hargs, hts, hox, hoy, ht, htx, hza, hi, h0, h⟩ | ⟨_, _, _, _, _, _, _, _, _, h⟩ | ⟨x, t, ox, e, za, rfl, hargs, hts, hox, ht, hza, h0, h⟩ | ⟨x, y, t, tx, ox, oy, e, sz, rfl, hargs, hts, hox, hoy, ht, hsz, h⟩
        · cases h
          have ea : c.args = #[x, y] := by apply Array.ext'; simpa using hargs
          have et : c.argTypes = #[t, tx] := by apply Array.ext'; simpa using hts
          obtain ⟨i', z, hi', hz, hsz, hcl⟩ := zeroOf_some hza
          rw [hi] at hi'
          cases hi'
          have hlr := constList_sim (ι := ι) (I := I) (w := w) hcl
          have := (appendZ_sim (P := P) (ty := ty) H hid ht htx hi hz hsz hlr.1 hlr.2 h0 (cOpd_sim A hox) (cOpd_sim A hoy) rfl rfl hv).next
          rw [ea, et]
          simpa [builtin] using this
        · cases h
        · cases h
          have ea : c.args = #[x] := by apply Array.ext'; simpa using hargs
          have et : c.argTypes = #[t] := by apply Array.ext'; simpa using hts
          obtain ⟨i, z, hi, hz, hsz, hcl⟩ := zeroOf_some hza
          have hlr := constList_sim (ι := ι) (I := I) (w := w) hcl
          have := (clearK_sim (P := P) (ty := ty) H ht hi hz hlr.1 hlr.2 h0 id (cOpd_sim A hox) rfl hv).next
          rw [ea, et]
          simpa [builtin] using this
        · cases h
          have ea : c.args = #[x, y] := by apply Array.ext'; simpa using hargs
          have et : c.argTypes = #[t, tx] := by apply Array.ext'; simpa using hts
          have := (copyK_sim (P := P) (ty := ty) (tx := tx) H ht hsz id (cOpd_sim A hox) (cOpd_sim A hoy) rfl rfl hv).next
          rw [ea, et]
          simpa [builtin] using this
      obtain ⟨x1, c1, w1, ι1, I1, hr, hrest⟩ := key
      refine ⟨x1, c1, w1, ι1, I1, ?_, hrest⟩
      simp only [execOp, resolve, hb, Sem.run_bind, Sem.run_pure, Result.andThen_ok, invoke]
      exact hr
  · exact cOp0_e H A hid h1 hv
  · cases h1

end
end Go.Proofs.YtjkllffbjeajhaaGreat.Am

namespace Go.Proofs.YtjkllffbjeajhaaGreat.Am
open Go

section
variable {P : Program} {md : Mode} {ι : Inj} {I : Imm} {h : AHeap} {w : World}

/-- Which operations a call comes of. -/
theorem cOp0_calls {dst : Option Nat} {op : Op} {r : ROp} (hc : cOp0 P md dst op = some r) (hr : (∃ f as, r = .call f as) ∨ ∃ x as, r = .dyn x as) :
    ∃ c x, op = .call c ∧ c.callee = .value x ∧
      ((∃ f as, r = .call f as ∧ x = .func f ∧ callable P f = true ∧ cOpds md.pr c.args.toList = some as) ∨
       ∃ ox as, r = .dyn ox as ∧ cOpd md.pr x = some ox ∧ cOpds md.pr c.args.toList = some as) := by
  have hn : ∀ q, r = .p q → False := by rintro q rfl; rcases hr with ⟨_, _, h⟩ | ⟨_, _, h⟩ <;> cases h
  have hna : ∀ q, r = .a q → False := by rintro q rfl; rcases hr with ⟨_, _, h⟩ | ⟨_, _, h⟩ <;> cases h
  have hne : ∀ q, r = .e q → False := by rintro q rfl; rcases hr with ⟨_, _, h⟩ | ⟨_, _, h⟩ <;> cases h
  unfold cOp0 at hc
  split at hc
  case h_25 c =>
    split at hc
    · rename_i f hf
      split at hc
      · rename_i hcall
        simp only [Option.bind_eq_bind, Option.bind_eq_some_iff] at hc
        obtain ⟨as, has, hc⟩ := hc
        cases hc
        exact ⟨c, _, rfl, hf, .inl ⟨f, as, rfl, rfl, hcall, has⟩⟩
      · cases hc
    · rename_i x hx1 hx
      simp only [Option.bind_eq_bind, Option.bind_eq_some_iff] at hc
      obtain ⟨ox, hox, as, has, hc⟩ := hc
      cases hc
      exact ⟨c, x, rfl, hx, .inr ⟨ox, as, rfl, hox, has⟩⟩
    · rename_i b hb
      exfalso
      unfold cBuiltin at hc
      split at hc <;> try simp only [Option.bind_eq_bind, Option.bind_eq_some_iff] at hc
      · obtain ⟨_, _, _, _, hc⟩ := hc; split at hc <;> first | (exact hn _ (Option.some.inj hc).symm) | (cases hc)
      · obtain ⟨_, _, _, _, _, _, _, _, hc⟩ := hc
        split at hc
        · simp only [Option.bind_eq_some_iff] at hc
          obtain ⟨_, _, _, _, hc⟩ := hc
          split at hc
          · split at hc <;> exact hne _ (Option.some.inj hc).symm
          · cases hc
        · cases hc
      · obtain ⟨_, _, _, _, _, _, _, _, hc⟩ := hc
        split at hc
        · simp only [Option.bind_eq_some_iff] at hc; obtain ⟨_, _, hc⟩ := hc; exact hne _ (Option.some.inj hc).symm
        · cases hc
      · obtain ⟨_, _, _, _, _, _, hc⟩ := hc
        split at hc
        · simp only [Option.bind_eq_some_iff] at hc; obtain ⟨_, _, hc⟩ := hc; split at hc <;> first | (exact hne _ (Option.some.inj hc).symm) | (cases hc)
        · cases hc
      · obtain ⟨_, _, _, _, hc⟩ := hc; exact hn _ (Option.some.inj hc).symm
      · obtain ⟨_, _, _, _, hc⟩ := hc; exact hn _ (Option.some.inj hc).symm
      · obtain ⟨_, _, hc⟩ := hc; exact hn _ (Option.some.inj hc).symm
      · obtain ⟨_, _, hc⟩ := hc; exact hn _ (Option.some.inj hc).symm
      · cases hc
    · cases hc
  all_goals exfalso
  case h_7 t n parts =>
    simp only [Option.bind_eq_bind, Option.bind_eq_some_iff] at hc
    obtain ⟨d, hd, hc⟩ := hc
    split at hc
    · simp only [Option.bind_eq_some_iff] at hc
      obtain ⟨_, _, _, _, hc⟩ := hc
      split at hc
      · split at hc <;> first | (exact hn _ (Option.some.inj hc).symm) | (exact hna _ (Option.some.inj hc).symm)
      · cases hc
    · cases hc
  case h_13 src dst' x =>
    simp only [Option.bind_eq_bind, Option.bind_eq_some_iff] at hc
    obtain ⟨ox, hox, ds, hds, dd, hdd, hc⟩ := hc
    split at hc
    · first | (exact hn _ (Option.some.inj hc).symm) | (exact hne _ (Option.some.inj hc).symm) | (cases hc; done)
    · simp only [Option.bind_eq_some_iff] at hc
      obtain ⟨de, hde, hc⟩ := hc
      split at hc <;> first | (exact hn _ (Option.some.inj hc).symm) | (exact hne _ (Option.some.inj hc).symm) | (cases hc; done)
    · simp only [Option.bind_eq_some_iff] at hc
      obtain ⟨de, hde, hc⟩ := hc
      split at hc <;> first | (exact hn _ (Option.some.inj hc).symm) | (exact hne _ (Option.some.inj hc).symm) | (cases hc; done)
    · simp only [Option.bind_eq_some_iff] at hc
      obtain ⟨de, hde, hc⟩ := hc
      split at hc
      · split at hc <;> first | (exact hn _ (Option.some.inj hc).symm) | (exact hne _ (Option.some.inj hc).symm) | (cases hc; done)
      · cases hc
    · cases hc
  case h_16 t l c =>
    simp only [Option.bind_eq_bind, Option.bind_eq_some_iff] at hc
    obtain ⟨d, hd, hc⟩ := hc
    split at hc
    · simp only [Option.bind_eq_some_iff] at hc
      obtain ⟨_, _, _, _, hc⟩ := hc
      split at hc
      · simp only [Option.bind_eq_some_iff] at hc
        obtain ⟨_, _, _, _, hc⟩ := hc
        split at hc <;> first | (exact hn _ (Option.some.inj hc).symm) | (exact hna _ (Option.some.inj hc).symm)
      · cases hc
    · cases hc
  all_goals (first
    | (first | (exact hn _ (Option.some.inj hc).symm) | (exact hna _ (Option.some.inj hc).symm) | (exact hne _ (Option.some.inj hc).symm) | (cases hc; done))
    | (simp only [Option.bind_eq_bind, Option.bind_eq_some_iff] at hc
       first
       | (obtain ⟨_, _, hc⟩ := hc; first | (exact hn _ (Option.some.inj hc).symm) | (exact hna _ (Option.some.inj hc).symm) | (exact hne _ (Option.some.inj hc).symm) | (cases hc; done))
       | (obtain ⟨_, _, _, _, hc⟩ := hc; first | (exact hn _ (Option.some.inj hc).symm) | (exact hna _ (Option.some.inj hc).symm) | (exact hne _ (Option.some.inj hc).symm) | (cases hc; done))
       | (obtain ⟨_, _, _, _, _, _, hc⟩ := hc; first | (exact hn _ (Option.some.inj hc).symm) | (exact hna _ (Option.some.inj hc).symm) | (exact hne _ (Option.some.inj hc).symm) | (cases hc; done))
       | (obtain ⟨_, _, hc⟩ := hc
          split at hc <;> first
            | (first | (exact hn _ (Option.some.inj hc).symm) | (exact hna _ (Option.some.inj hc).symm) | (exact hne _ (Option.some.inj hc).symm) | (cases hc; done))
            | (simp only [Option.bind_eq_some_iff] at hc
               first
               | (obtain ⟨_, _, _, _, _, _, hc⟩ := hc; first | (exact hn _ (Option.some.inj hc).symm) | (exact hna _ (Option.some.inj hc).symm) | (exact hne _ (Option.some.inj hc).symm) | (cases hc; done))
               | (obtain ⟨_, _, _, _, _, _, _, _, hc⟩ := hc; first | (exact hn _ (Option.some.inj hc).symm) | (exact hna _ (Option.some.inj hc).symm) | (exact hne _ (Option.some.inj hc).symm) | (cases hc; done))
               | (obtain ⟨_, _, _, _, _, _, _, _, _, _, hc⟩ := hc; first | (exact hn _ (Option.some.inj hc).symm) | (exact hna _ (Option.some.inj hc).symm) | (exact hne _ (Option.some.inj hc).symm) | (cases hc; done))
               | (obtain ⟨_, _, _, _, hc⟩ := hc; first | (exact hn _ (Option.some.inj hc).symm) | (exact hna _ (Option.some.inj hc).symm) | (exact hne _ (Option.some.inj hc).symm) | (cases hc; done))
               | (obtain ⟨_, _, _, _, hc⟩ := hc
                  split at hc
                  · simp only [Option.bind_eq_some_iff] at hc; obtain ⟨_, _, hc⟩ := hc; first | (exact hn _ (Option.some.inj hc).symm) | (exact hna _ (Option.some.inj hc).symm) | (exact hne _ (Option.some.inj hc).symm)
                  · first | (exact hn _ (Option.some.inj hc).symm) | (exact hna _ (Option.some.inj hc).symm) | (exact hne _ (Option.some.inj hc).symm) | (cases hc))
               | (obtain ⟨_, _, hc⟩ := hc
                  split at hc <;> first
                    | (first | (exact hn _ (Option.some.inj hc).symm) | (exact hna _ (Option.some.inj hc).symm) | (exact hne _ (Option.some.inj hc).symm) | (cases hc; done))
                    | (simp only [Option.bind_eq_some_iff] at hc
                       first
                       | (obtain ⟨_, _, _, _, _, _, _, _, _, _, hc⟩ := hc; first | (exact hn _ (Option.some.inj hc).symm) | (exact hna _ (Option.some.inj hc).symm) | (exact hne _ (Option.some.inj hc).symm) | (cases hc; done))
                       | (obtain ⟨_, _, _, _, _, _, hc⟩ := hc; first | (exact hn _ (Option.some.inj hc).symm) | (exact hna _ (Option.some.inj hc).symm) | (exact hne _ (Option.some.inj hc).symm) | (cases hc; done))))))
       | (obtain ⟨_, _, _, _, _, _, hc⟩ := hc
          split at hc <;> first
            | (first | (exact hn _ (Option.some.inj hc).symm) | (exact hna _ (Option.some.inj hc).symm) | (exact hne _ (Option.some.inj hc).symm) | (cases hc; done))
            | (simp only [Option.bind_eq_some_iff] at hc
               obtain ⟨_, _, hc⟩ := hc
               split at hc <;> first | (exact hn _ (Option.some.inj hc).symm) | (exact hna _ (Option.some.inj hc).symm) | (exact hne _ (Option.some.inj hc).symm) | (cases hc)))
       | (obtain ⟨_, _, _, _, hc⟩ := hc
          split at hc
          · simp only [Option.bind_eq_some_iff] at hc; obtain ⟨_, _, _, _, hc⟩ := hc; first | (exact hn _ (Option.some.inj hc).symm) | (exact hna _ (Option.some.inj hc).symm) | (exact hne _ (Option.some.inj hc).symm)
          · first | (exact hn _ (Option.some.inj hc).symm) | (exact hna _ (Option.some.inj hc).symm) | (exact hne _ (Option.some.inj hc).symm) | (cases hc))))

theorem cOp_calls {dst : Option Nat} {op : Op} {r : ROp} (hc : cOp P md dst op = some r) (hr : (∃ f as, r = .call f as) ∨ ∃ x as, r = .dyn x as) :
    ∃ c x, op = .call c ∧ c.callee = .value x ∧
      ((∃ f as, r = .call f as ∧ x = .func f ∧ callable P f = true ∧ cOpds md.pr c.args.toList = some as) ∨
       ∃ ox as, r = .dyn ox as ∧ cOpd md.pr x = some ox ∧ cOpds md.pr c.args.toList = some as) := by
  rcases cOp_cases hc with h1 | h1 | h1
  · exfalso
    rcases cX_cases h1 with ⟨q, rfl⟩ | ⟨c, b', -, -, hk⟩
    · rcases hr with ⟨_, _, h⟩ | ⟨_, _, h⟩ <;> cases h
    · rcases cK_cases hk with ⟨_, _, _, _, _, _, _, _, _, _, _, _, _, _, _, _, _, _, _, _, rfl⟩ | ⟨_, _, _, _, _, _, _, _, _, rfl⟩ | ⟨_, _, _, _, _, _, _, _, _, _, _, _, rfl⟩ | ⟨_, _, _, _, _, _, _, _, _, _, _, _, _, _, _, rfl⟩ <;> (rcases hr with ⟨_, _, h⟩ | ⟨_, _, h⟩ <;> cases h)
  · exact cOp0_calls h1 hr
  · subst h1; rcases hr with ⟨_, _, h⟩ | ⟨_, _, h⟩ <;> cases h

theorem run_callFunc {f : Nat} (hf : callable P f = true) (args : Array Value) (w : World) : (callFunc f args).run P w = .ok (.enter f args) w := by
  unfold callable at hf
  split at hf
  · rename_i fn hfn
    simp only [Bool.and_eq_true, bne_iff_ne, ne_eq] at hf
    obtain ⟨h1, h2⟩ := hf
    obtain ⟨c, hcb⟩ := Option.isSome_iff_exists.1 h2
    simp [callFunc, hfn, h1, hcb]
  · cases hf

theorem cOp_call {n : Nat} {ρ : Env} {a : Act} (A : AR ι I w n ρ a) {o : Oper} {f : Nat} {as : List Opd} (hc : cOp P md o.dst o.op = some (.call f as)) :
    ∃ cargs : Array Value, (execOp a.eval o).run P w = .ok (.enter f cargs) w ∧ LR ι I w (as.map (Opd.ev ρ)) cargs.toList := by
  obtain ⟨dst, op, ty, pos, after, guard⟩ := o
  obtain ⟨c, x, rfl, hx, ⟨f', as', h1, rfl, hcall, has⟩ | ⟨_, _, h1, _, _⟩⟩ := cOp_calls hc (.inl ⟨f, as, rfl⟩)
  · cases h1
    refine ⟨c.args.map a.eval, ?_, by have := cOpds_sim A has; simpa using this⟩
    simp only [execOp, resolve, hx, Act.eval, Deferred.ofValue, Sem.run_bind, Sem.run_pure, Result.andThen_ok, invoke]
    have := run_callFunc hcall (#[] ++ Array.map (Act.eval a) c.args ++ #[]) w
    simpa using this
  · cases h1

theorem cOp_dyn {n : Nat} {ρ : Env} {a : Act} (A : AR ι I w n ρ a) {o : Oper} {x : Opd} {as : List Opd} (hc : cOp P md o.dst o.op = some (.dyn x as)) {f : Nat} {fs cs : List AV} (hx : x.ev ρ = .fn f fs cs) (hf : callable P f = true) :
    ∃ cargs : Array Value, (execOp a.eval o).run P w = .ok (.enter f cargs) w ∧ LR ι I w (fs ++ as.map (Opd.ev ρ) ++ cs) cargs.toList := by
  obtain ⟨dst, op, ty, pos, after, guard⟩ := o
  obtain ⟨c, y, rfl, hy, ⟨_, _, h1, _, _, _⟩ | ⟨ox, as', h1, hox, has⟩⟩ := cOp_calls hc (.inr ⟨x, as, rfl⟩)
  · cases h1
  · cases h1
    have hv : VR ι I w (x.ev ρ) (a.eval y) := cOpd_sim A hox
    rw [hx] at hv
    generalize hey : a.eval y = cy at hv
    cases hv
    rename_i fs' cs' hl1 hv1 hl2 hv2
    refine ⟨fs'.toArray ++ c.args.map a.eval ++ cs'.toArray, ?_, ?_⟩
    · simp only [execOp, resolve, hy, hey, Deferred.ofValue, Sem.run_bind, Sem.run_pure, Result.andThen_ok, invoke]
      exact run_callFunc hf _ w
    · have h2 := cOpds_sim A has
      have h3 := (LR.append (show LR ι I w fs fs' from ⟨hl1, hv1⟩) h2).append (show LR ι I w cs cs' from ⟨hl2, hv2⟩)
      simpa using h3

end
end Go.Proofs.YtjkllffbjeajhaaGreat.Am

/- Calls, regions, code: what the abstract machine does, and that the model does so too. -/
namespace Go.Proofs.YtjkllffbjeajhaaGreat.Am
open Go

/-- In whatever world: the function comes to this value and this heap. -/
def ACalls (P : Program) (f : Nat) (args : List AV) (h : AHeap) (r : AV) (h' : AHeap) : Prop :=
  ∀ (ι : Inj) (I : Imm) (w : World) (cargs : Array Value), HR ι I h w → LR ι I w args cargs.toList →
    Calls P f cargs w fun e w' => ∃ v ι' I', e = .returned v ∧ VR ι' I' w' r v ∧ HR ι' I' h' w' ∧ Ext (h.next ≤ ·) ι I h w ι' I' h' w'

def guardVal (o : RO) (ρ : Env) : Option Bool :=
  match o.guard with
  | none => some true
  | some (g, b) => match ρ g with
    | .bool c => some (c == b)
    | .tup [] => some false
    | _ => none

def AOpRun (P : Program) (op : ROp) (id : Nat) (ρ : Env) (h : AHeap) (v : AV) (h' : AHeap) : Prop :=
  match op with
  | .p q => apure q ρ h = some v ∧ h' = h
  | .a q => ∃ b, aalloc q ρ id = some (b, v) ∧ h' = h.at id b
  | .e q => aeff q ρ id h = some (v, h')
  | .call f as => ACalls P f (as.map (Opd.ev ρ)) h v h'
  | .dyn x as => ∃ f fs cs, x.ev ρ = .fn f fs cs ∧ callable P f = true ∧ ACalls P f (fs ++ as.map (Opd.ev ρ) ++ cs) h v h'

def AStep (P : Program) (o : RO) (id : Nat) (ρ : Env) (h : AHeap) (r : Option AV) (h' : AHeap) : Prop :=
  match guardVal o ρ with
  | some true => ∃ v, r = some v ∧ AOpRun P o.op id ρ h v h'
  | some false => r = none ∧ h' = h
  | none => False

def resOf (r : Option AV) : AV := r.getD (.tup [])

def exec (P : Program) : List RO → Env → AHeap → (Env → AHeap → Prop) → Prop
  | [], ρ, h, K => K ρ h
  | o :: os, ρ, h, K => ∃ r h', AStep P o h.next ρ h r h' ∧ exec P os (put ρ o.dst (resOf r)) h' K

section
variable {P : Program} {md : Mode} {ι : Inj} {I : Imm} {h : AHeap} {w : World}

theorem AR.put {n : Nat} {ρ : Env} {a : Act} (A : AR ι I w n ρ a) {d : Option Nat} {v : AV} {c : Value} (hd : ∀ x, d = some x → x < n) (hv : VR ι I w v c) : AR ι I w n (put ρ d v) (a.put d c) := by
  cases d with
  | none => exact A
  | some d =>
    have hdn := hd d rfl
    refine ⟨A.defers, by simp [Act.put, A.size], fun t => ?_⟩
    simp only [Am.put, Act.put]
    by_cases ht : t = d
    · subst ht
      simp only [if_true]
      have : (a.tmps.setIfInBounds t c).getD t Go.undef = c := by simp [Array.getD, A.size, hdn]
      rw [this]; exact hv
    · simp only [ht, if_false]
      have : (a.tmps.setIfInBounds d c).getD t Go.undef = a.tmps.getD t Go.undef := by
        simp only [Array.getD_eq_getD_getElem?, Array.getElem?_setIfInBounds_ne (Ne.symm ht)]
      rw [this]; exact A.get t

theorem undef_VR : VR ι I w (.tup []) Go.undef := .tup [] [] rfl (fun i v c h => by simp at h)

theorem cRO_parts {n : Nat} {ops : Array Oper} {o : Oper} {ro : RO} (hc : cRO P md n ops o = some ro) : cOp P md o.dst o.op = some ro.op ∧ ro.dst = o.dst ∧ (∀ x, o.dst = some x → x < n) ∧
    (match o.guard with | none => ro.guard = none | some (j, want) => ∃ d, (ops[j]?).bind (·.dst) = some d ∧ ro.guard = some (d, want)) := by
  simp only [cRO, Option.bind_eq_some_iff] at hc
  obtain ⟨op, hop, g, hg, hc⟩ := hc
  split at hc
  · rename_i hd
    cases hc
    refine ⟨hop, rfl, ?_, ?_⟩
    · intro x hx
      rw [hx] at hd
      simpa [dstOk] using hd
    · cases hgd : o.guard with
      | none => simp [hgd, cGuard] at hg ⊢; exact hg.symm
      | some p =>
        obtain ⟨j, want⟩ := p
        simp only [hgd, cGuard, Option.map_eq_some_iff] at hg ⊢
        obtain ⟨d, hd1, hg⟩ := hg
        exact ⟨d, hd1, hg.symm⟩
  · cases hc

theorem guard_sim {n : Nat} {ρ : Env} {a : Act} (A : AR ι I w n ρ a) {ops : Array Oper} {o : Oper} {ro : RO} (hc : cRO P md n ops o = some ro) {b : Bool} (hg : guardVal ro ρ = some b) : Region.wanted o (yielded ops a.tmps) = b := by
  obtain ⟨_, _, _, hgd⟩ := cRO_parts hc
  unfold Region.wanted
  cases hog : o.guard with
  | none =>
    rw [hog] at hgd
    simp [guardVal, hgd] at hg
    simp [hg]
  | some p =>
    obtain ⟨j, want⟩ := p
    rw [hog] at hgd
    obtain ⟨d, hd, hgd⟩ := hgd
    simp only [guardVal, hgd] at hg
    have hv := A.get d
    simp only [yielded, hd, Option.bind_some]
    split at hg
    · rename_i c hρ
      rw [hρ] at hv
      cases hg
      have : a.tmps[d]? = some (.bool c) := by
        generalize hq : a.tmps.getD d Go.undef = u at hv
        cases hv
        cases hx : a.tmps[d]? with
        | none => simp [Array.getD_eq_getD_getElem?, hx, Go.undef] at hq
        | some y => simp [Array.getD_eq_getD_getElem?, hx] at hq; rw [hq]
      simp only [this]
      cases c <;> cases want <;> rfl
    · rename_i hρ
      rw [hρ] at hv
      cases hg
      generalize hq : a.tmps.getD d Go.undef = u at hv
      cases hv
      rename_i cs' hl hcv
      cases hx : a.tmps[d]? with
      | none => rfl
      | some y =>
        simp [Array.getD_eq_getD_getElem?, hx] at hq
        rw [hq]
        rfl
    · cases hg

/-- One operation. -/
theorem step_sound (H : HR ι I h w) {n : Nat} {ρ : Env} {a : Act} (A : AR ι I w n ρ a) {ops : Array Oper} {o : Oper} {ro : RO} (hc : cRO P md n ops o = some ro) {id : Nat} (hid : ι id = none)
    {r : Option AV} {h' : AHeap} (hs : AStep P ro id ρ h r h') {K : Act → World → Prop} {Q : Exit → Act → World → Prop}
    (hK : ∀ a' w' ι' I', AR ι' I' w' n (put ρ ro.dst (resOf r)) a' → HR ι' I' h' w' → Ext (fun b => b = id ∨ h.next ≤ b) ι I h w ι' I' h' w' → K a' w') :
    if Region.wanted o (yielded ops a.tmps) then o.wp P a w K Q ∨ (o.asks P a w ∧ LetsOut Q) else K (a.put o.dst Go.undef) w := by
  obtain ⟨hop, hdst, hdn, _⟩ := cRO_parts hc
  unfold AStep at hs
  split at hs
  · rename_i hg
    obtain ⟨v, rfl, hrun⟩ := hs
    rw [guard_sim A hc hg]
    simp only [if_true]
    left
    unfold Oper.wp
    have hnext : ∀ c w' ι' I', VR ι' I' w' v c → HR ι' I' h' w' → Ext (fun b => b = id ∨ h.next ≤ b) ι I h w ι' I' h' w' → K (a.put o.dst c) w' := by
      intro c w' ι' I' hv H' E
      refine hK _ w' ι' I' ?_ H' E
      rw [hdst]
      exact (A.mono (fun x v => E.vr H)).put hdn hv
    unfold AOpRun at hrun
    split at hrun
    · rename_i q hq
      obtain ⟨hv, rfl⟩ := hrun
      rw [hq] at hop
      obtain ⟨c, w', I', hr, hvr, H', E⟩ := cOp_p H A hop hv
      rw [hr]
      exact hnext c w' ι I' hvr H' (E.mono (fun _ h => h.elim))
    · rename_i q hq
      obtain ⟨b, hv, rfl⟩ := hrun
      rw [hq] at hop
      obtain ⟨x, c, w', ι', I', hr, hx, hvr, H', E⟩ := cOp_a H A hid hop hv
      rw [hr]
      rcases hx with rfl | ⟨rfl, rfl⟩
      · exact hnext c w' ι' I' hvr H' (E.mono (fun _ h => .inl h))
      · exact hnext _ w' ι' I' (.undef _) H' (E.mono (fun _ h => .inl h))
    · rename_i q hq
      rw [hq] at hop
      obtain ⟨x, c, w', ι', I', hr, hx, hvr, H', E⟩ := cOp_e H A hid hop hrun
      rw [hr]
      rcases hx with rfl | ⟨rfl, rfl⟩
      · exact hnext c w' ι' I' hvr H' (E.mono (fun _ h => .inl h))
      · exact hnext _ w' ι' I' (.undef _) H' (E.mono (fun _ h => .inl h))
    · rename_i f as hq
      rw [hq] at hop
      obtain ⟨cargs, hr, hl⟩ := cOp_call A hop
      rw [hr]
      refine (hrun ι I w cargs H hl).mono ?_
      rintro e w' ⟨v', ι', I', rfl, hvr, H', E⟩
      exact hnext v' w' ι' I' hvr H' (E.mono (fun _ h => .inr h))
    · rename_i x as hq
      rw [hq] at hop
      obtain ⟨f, fs, cs, hx, hcall, hrun⟩ := hrun
      obtain ⟨cargs, hr, hl⟩ := cOp_dyn A hop hx hcall
      rw [hr]
      refine (hrun ι I w cargs H hl).mono ?_
      rintro e w' ⟨v', ι', I', rfl, hvr, H', E⟩
      exact hnext v' w' ι' I' hvr H' (E.mono (fun _ h => .inr h))
  · rename_i hg
    obtain ⟨rfl, rfl⟩ := hs
    rw [guard_sim A hc hg]
    simp only [Bool.false_eq_true, if_false]
    refine hK _ w ι I ?_ H (.refl _ _ _ _ _)
    rw [hdst]
    exact A.put hdn undef_VR
  · exact hs.elim

theorem cROs_get {n : Nat} {ops : Array Oper} : ∀ {os : List Oper} {ros : List RO}, cROs P md n ops os = some ros → os.length = ros.length ∧ ∀ (i : Nat) (o : Oper) (ro : RO), os[i]? = some o → ros[i]? = some ro → cRO P md n ops o = some ro
  | [], ros, hc => by simp [cROs] at hc; subst hc; exact ⟨rfl, fun i o ro h => by simp at h⟩
  | o :: os, ros, hc => by
    simp only [cROs] at hc
    split at hc
    · rename_i ro l h1 h2
      cases hc
      obtain ⟨e1, e2⟩ := cROs_get h2
      refine ⟨by simp [e1], fun i o' ro' h3 h4 => ?_⟩
      cases i with
      | zero => simp at h3 h4; subst h3; subst h4; exact h1
      | succ i => exact e2 i o' ro' (by simpa using h3) (by simpa using h4)
    · cases hc

theorem exec_sound {n : Nat} {ops : Array Oper} {Q : Exit → Act → World → Prop} {K : Env → AHeap → Prop} : ∀ (ros : List RO) (k : Nat) {ι : Inj} {I : Imm} {h : AHeap} {w : World} {ρ : Env} {a : Act}, HR ι I h w → AR ι I w n ρ a →
    (∀ i ro, ros[i]? = some ro → ∃ o, ops[k + i]? = some o ∧ cRO P md n ops o = some ro) → exec P ros ρ h K →
    (∀ ρ' h' a' w' ι' I', K ρ' h' → AR ι' I' w' n ρ' a' → HR ι' I' h' w' → Ext (h.next ≤ ·) ι I h w ι' I' h' w' → Q .normal a' w') →
    wpOps P ops Q (List.range' k ros.length) a w
  | [], k, ι, I, h, w, ρ, a, H, A, _, he, hQ => by
    simp only [List.length_nil, List.range'_zero, wpOps]
    exact hQ ρ h a w ι I he A H (.refl _ _ _ _ _)
  | ro :: ros, k, ι, I, h, w, ρ, a, H, A, hco, he, hQ => by
    obtain ⟨r, h', hs, he'⟩ := he
    obtain ⟨o, ho, hc⟩ := hco 0 ro rfl
    simp only [List.length_cons, List.range'_succ, wpOps]
    rw [Nat.add_zero] at ho
    rw [ho]
    simp only []
    have hid : ι h.next = none := by
      cases hq : ι h.next with
      | none => rfl
      | some l => have := H.dom _ _ hq; omega
    refine step_sound (Q := Q) H A hc hid hs ?_
    intro a' w' ι' I' A' H' E
    have E' : Ext (h.next ≤ ·) ι I h w ι' I' h' w' := E.mono (fun b hb => by rcases hb with rfl | hb; exact Nat.le_refl _; exact hb)
    refine exec_sound ros (k + 1) H' A' (fun i ro' hi => ?_) he' ?_
    · obtain ⟨o', ho', hc'⟩ := hco (i + 1) ro' (by simpa using hi)
      exact ⟨o', by rw [show k + 1 + i = k + (i + 1) by omega]; exact ho', hc'⟩
    · intro ρ2 h2 a2 w2 ι2 I2 hK A2 H2 E2
      exact hQ ρ2 h2 a2 w2 ι2 I2 hK A2 H2 (E'.trans E2 (fun b hb => Nat.le_trans E'.next hb))

end
end Go.Proofs.YtjkllffbjeajhaaGreat.Am

namespace Go.Proofs.YtjkllffbjeajhaaGreat.Am
open Go

section
variable {P : Program} {md : Mode} {ι : Inj} {I : Imm} {h : AHeap} {w : World}

/-- Fewer blocks, or the same, at the places that count. -/
theorem HR.onDom (H : HR ι I h w) {h' : AHeap} (hnext : ∀ b l, ι b = some l → b < h'.next) (hsub : ∀ b l x, ι b = some l → h'.get b = some x → h.get b = some x) : HR ι I h' w where
  dom := hnext
  inside := H.inside
  cells b cs l hg hb := H.cells b cs l (hsub b l _ hb hg) hb
  maps b es l hg hb := H.maps b es l (hsub b l _ hb hg) hb
  tails b l hg hb := H.tails b l (hsub b l _ hb hg) hb
  disj b b' l l' x x' k j hne hb hb' hg hg' := H.disj b b' l l' x x' k j hne hb hb' (hsub b l x hb hg) (hsub b' l' x' hb' hg')
  imm b l x k j hb hg := H.imm b l x k j hb (hsub b l x hb hg)
  Iin := H.Iin
  pl b cs cb o room hg hb := H.pl b cs cb o room (hsub b _ _ hb hg) hb

/-- Blocks that were set aside come back. -/
theorem HR.join {N : Nat → Prop} {ι' : Inj} {I' : Imm} {g0 g J : AHeap} {w' : World} (H : HR ι I h w) (G : HR ι' I' g w') (E : Ext N ι I g0 w ι' I' g w')
    (h0 : ∀ b l x, ι b = some l → g0.get b = some x → h.get b = some x)
    (hnext : g.next ≤ J.next)
    (hJ : ∀ b x, J.get b = some x → g.get b = some x ∨ (h.get b = some x ∧ g0.get b = none ∧ ∃ l, ι b = some l) ∨ ι' b = none) : HR ι' I' J w' := by
  have hmono : ∀ a v, VR ι I w a v → VR ι' I' w' a v := fun a v hv => hv.mono E.more E.imm (fun k j hk => E.cell k j (H.Iin k j hk) (fun ⟨b, l, x, hb, hg, hl⟩ => H.imm b l x k j hb (h0 b l x hb hg) hl hk))
  have hnot : ∀ b l x k j, ι b = some l → h.get b = some x → g0.get b = none → l.has k j → ¬ Owned ι g0 k j := by
    rintro b l x k j hb hg hn hl ⟨b', l', x', hb', hg', hl'⟩
    by_cases hbb : b' = b
    · subst hbb; rw [hn] at hg'; cases hg'
    · exact H.disj b' b l' l x' x k j hbb hb' hb (h0 b' l' x' hb' hg') hg hl' hl
  have hlt : ∀ b l k j, ι b = some l → l.has k j → k < w.heap.size := fun b l k j hb hl => by rw [Loc.has_block hl]; exact H.inside b l hb
  have key : ∀ b l x, ι' b = some l → J.get b = some x → g.get b = some x ∨ (h.get b = some x ∧ g0.get b = none ∧ ι b = some l) := by
    intro b l x hb hg
    rcases hJ b x hg with h1 | ⟨h1, h2, l', h3⟩ | h1
    · exact .inl h1
    · have := E.more b l' h3
      rw [hb] at this
      cases this
      exact .inr ⟨h1, h2, h3⟩
    · rw [hb] at h1; cases h1
  refine { dom := fun b l hb => Nat.lt_of_lt_of_le (G.dom b l hb) hnext, inside := G.inside, cells := ?_, maps := ?_, tails := ?_, disj := ?_, imm := ?_, Iin := G.Iin
           pl := fun b cs cb o room hg hb n => by
             rcases key b _ _ hb hg with h1 | ⟨h1, h2, h3⟩
             · exact G.pl b cs cb o room h1 hb n
             · rw [E.frozen cb n (H.inside b _ h3) (hnot b _ _ cb n h3 h1 h2 rfl)]; exact H.pl b cs cb o room h1 h3 n }
  · intro b cs l hg hb
    rcases key b l _ hb hg with h1 | ⟨h1, h2, h3⟩
    · exact G.cells b cs l h1 hb
    · obtain ⟨cb, o, room, rfl, hle, hone, hc⟩ := H.cells b cs l h1 h3
      have hin : cb < w.heap.size := H.inside b _ h3
      refine ⟨cb, o, room, rfl, hle, hone, fun j hj => ?_⟩
      obtain ⟨c, hc1, hc2, hc3⟩ := hc j hj
      exact ⟨c, by rw [E.cell _ _ hin (hnot b _ _ cb (o + j) h3 h1 h2 rfl)]; exact hc1, by rw [E.frozen _ _ hin (hnot b _ _ cb (o + j) h3 h1 h2 rfl)]; exact hc2, fun v hv => hmono _ _ (hc3 v hv)⟩
  · intro b es l hg hb
    rcases key b l _ hb hg with h1 | ⟨h1, h2, h3⟩
    · exact G.maps b es l h1 hb
    · obtain ⟨cb, es', clock, rfl, hm, hl', hv⟩ := H.maps b es l h1 h3
      have hin : cb < w.heap.size := H.inside b _ h3
      exact ⟨cb, es', clock, rfl, by rw [E.block cb hin (fun j => hnot b _ _ cb j h3 h1 h2 rfl)]; exact hm, hl', fun i k v e e1 e2 => ⟨hmono _ _ (hv i k v e e1 e2).1, hmono _ _ (hv i k v e e1 e2).2⟩⟩
  · intro b l hg hb
    rcases key b l _ hb hg with h1 | ⟨h1, h2, h3⟩
    · exact G.tails b l h1 hb
    · obtain ⟨cb, lo, hi, rfl, hc⟩ := H.tails b l h1 h3
      have hin : cb < w.heap.size := H.inside b _ h3
      refine ⟨cb, lo, hi, rfl, fun j e1 e2 => ?_⟩
      obtain ⟨c, hc1, hc2⟩ := hc j e1 e2
      exact ⟨c, by rw [E.cell _ _ hin (hnot b _ _ cb j h3 h1 h2 ⟨rfl, e1, e2⟩)]; exact hc1, by rw [E.frozen _ _ hin (hnot b _ _ cb j h3 h1 h2 ⟨rfl, e1, e2⟩)]; exact hc2⟩
  · intro b b' l l' x x' k j hne hb hb' hg hg' hl hl'
    have mix : ∀ b b' l l' x x', b ≠ b' → ι' b = some l → g.get b = some x → l.has k j → h.get b' = some x' → g0.get b' = none → ι b' = some l' → l'.has k j → False := by
      intro b b' l l' x x' hne hb hg hl h1 h2 h3 hl'
      rcases E.own k j ⟨b, l, x, hb, hg, hl⟩ with ho | ho
      · exact hnot b' l' x' k j h3 h1 h2 hl' ho
      · have := hlt b' l' k j h3 hl'; omega
    rcases key b l x hb hg with h1 | ⟨h1, h2, h3⟩ <;> rcases key b' l' x' hb' hg' with h1' | ⟨h1', h2', h3'⟩
    · exact G.disj b b' l l' x x' k j hne hb hb' h1 h1' hl hl'
    · exact mix b b' l l' x x' hne hb h1 hl h1' h2' h3' hl'
    · exact mix b' b l' l x' x (Ne.symm hne) hb' h1' hl' h1 h2 h3 hl
    · exact H.disj b b' l l' x x' k j hne h3 h3' h1 h1' hl hl'
  · intro b l x k j hb hg hl hI
    rcases key b l x hb hg with h1 | ⟨h1, h2, h3⟩
    · exact G.imm b l x k j hb h1 hl hI
    · rcases E.inew k j hI with h4 | h4 | h4
      · exact H.imm b l x k j h3 h1 hl h4
      · exact hnot b l x k j h3 h1 h2 hl h4
      · have := hlt b l k j h3 hl; omega

/-! What an operation looks at. -/

def Agree (ρ ρ' : Env) (l : List Opd) : Prop := ∀ x ∈ l, x.ev ρ = x.ev ρ'

theorem fillA_congr {ρ ρ' : Env} : ∀ (ps : List (Nat × Nat × Opd)) (cs : List AV), Agree ρ ρ' (ps.map fun p => p.2.2) → fillA ρ cs ps = fillA ρ' cs ps
  | [], cs, _ => rfl
  | (off, sz, x) :: ps, cs, ha => by
    have hx := ha x (by simp)
    simp only [fillA, hx]
    split
    · exact fillA_congr ps _ (fun y hy => ha y (by simp at hy ⊢; exact .inr hy))
    · rfl

theorem fillR_congr {ρ ρ' : Env} {sz : Nat} : ∀ (ps : List (Nat × Opd)) (rows : List (List AV)), Agree ρ ρ' (ps.map fun p => p.2) → fillR ρ sz rows ps = fillR ρ' sz rows ps
  | [], rows, _ => rfl
  | (i, x) :: ps, rows, ha => by
    have hx := ha x (by simp)
    simp only [fillR, hx]
    split
    · exact fillR_congr ps _ (fun y hy => ha y (by simp at hy ⊢; exact .inr hy))
    · rfl

theorem map_congr {ρ ρ' : Env} {l : List Opd} (ha : Agree ρ ρ' l) : l.map (Opd.ev ρ) = l.map (Opd.ev ρ') := List.map_congr_left fun x hx => ha x hx

theorem minmaxL_congr {mx : Bool} {ρ ρ' : Env} : ∀ (ys : List Opd) (x : AV), Agree ρ ρ' ys → minmaxL mx ρ x ys = minmaxL mx ρ' x ys
  | [], x, _ => rfl
  | y :: ys, x, ha => by
    simp only [minmaxL, ha y (by simp)]
    congr 1
    funext z
    exact minmaxL_congr ys z (fun y hy => ha y (by simp [hy]))

theorem boundA_congr {ρ ρ' : Env} {d : Nat} {x : Option Opd} (ha : Agree ρ ρ' (optOpd x)) : boundA ρ d x = boundA ρ' d x := by
  cases x with
  | none => rfl
  | some x => simp only [boundA, ha x (by simp [optOpd])]

theorem apure_congr (q : POp) {ρ ρ' : Env} (h : AHeap) (ha : Agree ρ ρ' q.opds) : apure q ρ h = apure q ρ' h := by
  cases q <;> simp only [apure]
  case build z ps => rw [fillA_congr ps _ ha]
  case bslice n z ps => rw [fillR_congr ps _ ha]
  case mkfn f a b => rw [map_congr (fun x hx => ha x (by simp [POp.opds, hx])), map_congr (l := b) (fun x hx => ha x (by simp [POp.opds, hx]))]
  case minmax mx x r => rw [ha x (by simp [POp.opds]), minmaxL_congr r _ (fun y hy => ha y (by simp [POp.opds, hy]))]
  case slc sz x lo hi mx =>
    have e1 := ha x (by simp [POp.opds])
    have e2 : ∀ d, boundA ρ d lo = boundA ρ' d lo := fun d => boundA_congr (fun y hy => ha y (by simp [POp.opds, hy]))
    have e3 : ∀ d, boundA ρ d hi = boundA ρ' d hi := fun d => boundA_congr (fun y hy => ha y (by simp [POp.opds, hy]))
    have e4 : ∀ d, boundA ρ d mx = boundA ρ' d mx := fun d => boundA_congr (fun y hy => ha y (by simp [POp.opds, hy]))
    simp only [aslice, e1, e2, e3, e4]
  case pick c a b => rw [ha c (by simp [POp.opds]), ha a (by simp [POp.opds]), ha b (by simp [POp.opds])]
  all_goals first
    | rfl
    | (rename_i x y; rw [ha x (by simp [POp.opds]), ha y (by simp [POp.opds])]; done)
    | (rename_i x; rw [ha x (by simp [POp.opds])]; done)

theorem aalloc_congr (q : AOp) {ρ ρ' : Env} (id : Nat) (ha : Agree ρ ρ' q.opds) : aalloc q ρ id = aalloc q ρ' id := by
  cases q <;> simp only [aalloc]
  case box x => rw [ha x (by simp [AOp.opds])]
  case mksliceR z b l c => rw [ha l (by simp [AOp.opds]), ha c (by simp [AOp.opds])]
  case bsliceR n z ps => rw [fillR_congr ps _ ha]

theorem aeff_congr (q : EOp) {ρ ρ' : Env} (id : Nat) (h : AHeap) (ha : Agree ρ ρ' q.opds) : aeff q ρ id h = aeff q ρ' id h := by
  cases q <;> simp only [aeff]
  case mapupd m k v => rw [ha m (by simp [EOp.opds]), ha k (by simp [EOp.opds]), ha v (by simp [EOp.opds])]
  case clearK z x => rw [ha x (by simp [EOp.opds])]
  case mark x => rw [ha x (by simp [EOp.opds])]
  all_goals (rename_i x y; rw [ha x (by simp [EOp.opds]), ha y (by simp [EOp.opds])])

theorem AStep_congr {o : RO} {id : Nat} {ρ ρ' : Env} {h h' : AHeap} {r : Option AV} (ha : ∀ t ∈ o.slots, ρ t = ρ' t) (hs : AStep P o id ρ h r h') : AStep P o id ρ' h r h' := by
  have hag : Agree ρ ρ' o.op.opds := by
    intro x hx
    cases x with
    | const v => rfl
    | tmp t => exact ha t (by simp only [RO.slots, List.mem_append, List.mem_flatMap]; exact .inl ⟨_, hx, by simp [Opd.slot]⟩)
  have hg : guardVal o ρ = guardVal o ρ' := by
    unfold guardVal
    cases hgd : o.guard with
    | none => rfl
    | some p =>
      obtain ⟨g, b⟩ := p
      simp only []
      rw [ha g (by simp [RO.slots, hgd])]
  unfold AStep at *
  rw [← hg]
  split
  · rename_i hq
    rw [hq] at hs
    obtain ⟨v, hr, hrun⟩ := hs
    refine ⟨v, hr, ?_⟩
    unfold AOpRun at *
    cases hop : o.op with
    | p q => rw [hop] at hrun hag; exact ⟨by rw [← apure_congr q h hag]; exact hrun.1, hrun.2⟩
    | a q => rw [hop] at hrun hag; obtain ⟨b, h1, h2⟩ := hrun; exact ⟨b, by rw [← aalloc_congr q id hag]; exact h1, h2⟩
    | e q => rw [hop] at hrun hag; simp only at *; rw [← aeff_congr q id h hag]; exact hrun
    | call f as => rw [hop] at hrun hag; simp only at *; rw [← map_congr (l := as) hag]; exact hrun
    | dyn x as =>
      rw [hop] at hrun hag
      obtain ⟨f, fs, cs, h1, h2, h3⟩ := hrun
      refine ⟨f, fs, cs, by rw [← hag x (by simp [ROp.opds])]; exact h1, h2, ?_⟩
      rw [← map_congr (l := as) (fun y hy => hag y (by simp [ROp.opds, hy]))]
      exact h3
  · rename_i hq; rw [hq] at hs; exact hs
  · rename_i hq; rw [hq] at hs; exact hs

end
end Go.Proofs.YtjkllffbjeajhaaGreat.Am

/- Regions that draw their order: one run in the text's order serves every order. -/
namespace Go.Proofs.YtjkllffbjeajhaaGreat.Am
open Go

def chk (o : RO) (ρ : Env) (r : Option AV) (h' : AHeap) (ok : RO) (d : Env × AHeap × Option AV) : Prop :=
  if o.op.eff then (match d.2.2, ok.op with | some v, .p q => apure q d.1 h' = some v | _, _ => True)
  else (match r, o.op with | some v, .p q => apure q ρ d.2.1 = some v | _, _ => True)

def execD (P : Program) (ros : List RO) (un : List (List Nat)) (base : Nat) : List RO → Nat → Env → AHeap → List (Env × AHeap × Option AV) → (Env → AHeap → Prop) → Prop
  | [], _, ρ, h, _, K => K ρ h
  | o :: os, i, ρ, h, done, K => ∃ r h', AStep P o (base + i) ρ h r h' ∧
      (∀ k ∈ un.getD i [], ∀ ok d, ros[k]? = some ok → done[k]? = some d → chk o ρ r h' ok d) ∧
      (o.op.eff = true → ∀ j, i < j → j < ros.length → h'.get (base + j) = none) ∧
      execD P ros un base os (i + 1) (put ρ o.dst (resOf r)) h' (done ++ [(ρ, h, r)]) K

def stOf (tr : List (Env × AHeap × Option AV)) (ρ : Env) (h : AHeap) (i : Nat) : Env × AHeap :=
  match tr[i]? with
  | some d => (d.1, d.2.1)
  | none => (ρ, h)

def AllOK (P : Program) (ros : List RO) (un : List (List Nat)) (base : Nat) (tr : List (Env × AHeap × Option AV)) (ρ : Env) (h : AHeap) : Prop :=
  ∀ (i : Nat) (ro : RO) (d : Env × AHeap × Option AV), ros[i]? = some ro → tr[i]? = some d →
    AStep P ro (base + i) (stOf tr ρ h i).1 (stOf tr ρ h i).2 d.2.2 (stOf tr ρ h (i + 1)).2 ∧
    (stOf tr ρ h (i + 1)).1 = put (stOf tr ρ h i).1 ro.dst (resOf d.2.2) ∧
    (ro.op.eff = true → ∀ j, i < j → j < ros.length → (stOf tr ρ h (i + 1)).2.get (base + j) = none) ∧
    ∀ k ∈ un.getD i [], ∀ ok dk, ros[k]? = some ok → tr[k]? = some dk → k < i → chk ro (stOf tr ρ h i).1 d.2.2 (stOf tr ρ h (i + 1)).2 ok dk

theorem trace_of {P : Program} {ros : List RO} {un : List (List Nat)} {base : Nat} {K : Env → AHeap → Prop} : ∀ (os pre : List RO) (ρ : Env) (h : AHeap) (done : List (Env × AHeap × Option AV)),
    ros = pre ++ os → done.length = pre.length → AllOK P ros un base done ρ h → execD P ros un base os pre.length ρ h done K →
    ∃ (tr : List (Env × AHeap × Option AV)) (ρn : Env) (hn : AHeap), tr.length = ros.length ∧ K ρn hn ∧ AllOK P ros un base tr ρn hn ∧ (∀ (i : Nat) (d : Env × AHeap × Option AV), done[i]? = some d → tr[i]? = some d) ∧ (done.length = 0 → stOf tr ρn hn 0 = (ρ, h))
  | [], pre, ρ, h, done, hr, hl, ha, he => by
    refine ⟨done, ρ, h, by rw [hl, hr]; simp, he, ha, fun i d hd => hd, fun h0 => ?_⟩
    have : done = [] := List.eq_nil_of_length_eq_zero h0
    subst this
    rfl
  | o :: os, pre, ρ, h, done, hr, hl, ha, he => by
    obtain ⟨r, h', hs, hc, hfr, he'⟩ := he
    have hget : ros[pre.length]? = some o := by rw [hr]; simp
    have hst : ∀ i, i ≤ done.length → stOf (done ++ [(ρ, h, r)]) (put ρ o.dst (resOf r)) h' i = stOf done ρ h i := by
      intro i hi
      unfold stOf
      by_cases hlt : i < done.length
      · rw [List.getElem?_append_left hlt, List.getElem?_eq_getElem hlt]
      · have : i = done.length := by omega
        subst this
        simp
    have hst2 : stOf (done ++ [(ρ, h, r)]) (put ρ o.dst (resOf r)) h' (done.length + 1) = (put ρ o.dst (resOf r), h') := by simp [stOf]
    have ha' : AllOK P ros un base (done ++ [(ρ, h, r)]) (put ρ o.dst (resOf r)) h' := by
      intro i ro d hi hd
      by_cases hlt : i < done.length
      · rw [List.getElem?_append_left hlt] at hd
        obtain ⟨a1, a2, a4, a3⟩ := ha i ro d hi hd
        rw [hst i (by omega), hst (i + 1) (by omega)]
        refine ⟨a1, a2, a4, fun k hk ok dk hok hdk hki => a3 k hk ok dk hok ?_ hki⟩
        rwa [List.getElem?_append_left (by omega)] at hdk
      · have hi' := (List.getElem?_eq_some_iff.1 hd).1
        simp at hi'
        have : i = done.length := by omega
        subst this
        simp at hd
        subst hd
        rw [hl, hget] at hi
        cases hi
        rw [hst _ (Nat.le_refl _), hst2]
        have h0 : stOf done ρ h done.length = (ρ, h) := by simp [stOf]
        rw [h0]
        refine ⟨by rw [hl]; exact hs, rfl, by rw [hl]; exact hfr, fun k hk ok dk hok hdk hki => ?_⟩
        rw [List.getElem?_append_left hki] at hdk
        rw [hl] at hk
        exact hc k hk ok dk hok hdk
    obtain ⟨tr, ρn, hn, e1, e2, e3, e4, e5⟩ := trace_of os (pre ++ [o]) _ h' (done ++ [(ρ, h, r)]) (by rw [hr]; simp) (by simp [hl]) ha' (by simpa using he')
    refine ⟨tr, ρn, hn, e1, e2, e3, fun i d hd => e4 i d (by rw [List.getElem?_append_left (List.getElem?_eq_some_iff.1 hd).1]; exact hd), fun h0 => ?_⟩
    have := e4 done.length (ρ, h, r) (by simp)
    rw [h0] at this
    simp [stOf, this]

/-! The order. -/

theorem predsL_prefix : ∀ (os : List Oper) (acc : List (List Nat)), ∃ rest, predsL os acc = acc ++ rest
  | [], acc => ⟨[], by simp [predsL]⟩
  | o :: os, acc => by
    obtain ⟨rest, hr⟩ := predsL_prefix os (acc ++ [(o.after.toList.filter fun e => Region.binds .any e).flatMap fun e => e.on :: acc.getD e.on []])
    exact ⟨_, by rw [predsL, hr, List.append_assoc]⟩

theorem predsL_mem : ∀ (os : List Oper) (acc : List (List Nat)) (i j : Nat), acc.length ≤ j → i ∈ (predsL os acc).getD j [] →
    (∀ k o, os[k]? = some o → ∀ e ∈ o.after.toList, Region.binds .any e = true → e.on < acc.length + k) →
    ∃ o e, os[j - acc.length]? = some o ∧ e ∈ o.after.toList ∧ Region.binds .any e = true ∧ (i = e.on ∨ i ∈ (predsL os acc).getD e.on [])
  | [], acc, i, j, hj, hi, _ => by
    simp [predsL, List.getD, List.getElem?_eq_none hj] at hi
  | o :: os, acc, i, j, hj, hi, hb => by
    by_cases hjj : j = acc.length
    · subst hjj
      obtain ⟨rest, hr⟩ := predsL_prefix os (acc ++ [(o.after.toList.filter fun e => Region.binds .any e).flatMap fun e => e.on :: acc.getD e.on []])
      have hpl : predsL (o :: os) acc = acc ++ ([(o.after.toList.filter fun e => Region.binds .any e).flatMap fun e => e.on :: acc.getD e.on []] ++ rest) := by rw [predsL, hr, List.append_assoc]
      rw [hpl] at hi
      simp only [List.getD, List.getElem?_append_right (Nat.le_refl _), Nat.sub_self, List.singleton_append, List.getElem?_cons_zero, Option.getD_some, List.mem_flatMap, List.mem_filter] at hi
      obtain ⟨e, ⟨he1, he2⟩, he3⟩ := hi
      refine ⟨o, e, by simp, he1, he2, ?_⟩
      rcases List.mem_cons.1 he3 with h | h
      · exact .inl h
      · right
        have hlt : e.on < acc.length := by have := hb 0 o rfl e he1 he2; omega
        rw [hpl]
        simp only [List.getD]
        rw [List.getElem?_append_left hlt]
        exact h
    · have hj' : acc.length + 1 ≤ j := by omega
      obtain ⟨o', e, h1, h2, h3, h4⟩ := predsL_mem os _ i j (by simp; omega) (show i ∈ (predsL os (acc ++ [(o.after.toList.filter fun e => Region.binds .any e).flatMap fun e => e.on :: acc.getD e.on []])).getD j [] from hi)
        (fun k o' ho' e he hbd => by have := hb (k + 1) o' (by simpa using ho') e he hbd; simp; omega)
      refine ⟨o', e, ?_, h2, h3, h4⟩
      simp at h1
      rw [show j - acc.length = (j - (acc.length + 1)) + 1 by omega, List.getElem?_cons_succ]
      exact h1

/-- What comes before a member of a closed set is in it. -/
theorem ord_closed {ops : Array Oper} (hb : ∀ k o, ops.toList[k]? = some o → ∀ e ∈ o.after.toList, Region.binds .any e = true → e.on < k) {S : Nat → Prop}
    (hS : ∀ j o, S j → ops.toList[j]? = some o → ∀ e ∈ o.after.toList, Region.binds .any e = true → S e.on) :
    ∀ (j i : Nat), ordL (predsL ops.toList []) i j = true → ((∃ o, ops.toList[j]? = some o ∧ ∀ e ∈ o.after.toList, Region.binds .any e = true → S e.on) ∨ S j) → S i := by
  intro j
  induction j using Nat.strongRecOn with
  | _ j ih =>
    intro i ho hj
    have hi : i ∈ (predsL ops.toList []).getD j [] := by simpa [ordL] using ho
    obtain ⟨o, e, h1, h2, h3, h4⟩ := predsL_mem ops.toList [] i j (by simp) hi (fun k o ho e he hbd => by simpa using hb k o ho e he hbd)
    simp at h1
    have h1' : ops.toList[j]? = some o := by simpa using h1
    have hse : S e.on := by
      rcases hj with ⟨o', ho', h⟩ | h
      · rw [h1'] at ho'; cases ho'; exact h e h2 h3
      · exact hS j o h h1' e h2 h3
    rcases h4 with rfl | h4
    · exact hse
    · exact ih e.on (hb j o h1' e h2 h3) i (by simpa [ordL] using h4) (.inr hse)

end Go.Proofs.YtjkllffbjeajhaaGreat.Am
