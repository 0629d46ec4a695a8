/-
  No cell of these rows narrows 'for every input' (looked for: loops, veiled, ifaces, maps, wideKeys, modest, calm, conditions, laid).
  DERIVED. THE GIVEN ROWS OF THIS SEAT. 6 by the template 'for every input the law returns true; each argument reads behind the call as it read before'; 0 by the template 'total and deterministic' (their statements: YtoioonbabnomkaaGreatTotals.lean).
  GIVEN WITH THE SEED: the statements are not yours to turn. If you find one false, say at which input.
  Laid BY PROGRAM, IN A SANDBOX (cutbox-rows.mjs): the forced cells as the released guide's own fill.sh prints them over the translation 96821020e8216005… (all of the seat's roots in one cut). By AI agents, Wed Nov 11 2026. No macro, syntax, notation, axiom, sorry.
-/
import Derived.Test.YtoioonbabnomkaaGreatChecked
import GoSem.Claim
import GoSem.ClaimJoined
import GoSem.ClaimMapViews
import Derived.JoinedTies
import Derived.KernelRfl
namespace Go.Proofs.YtoioonbabnomkaaGreat
/- THE CELL 'sum', in the pinned program and in every row, IS THE sha256 OF THE DUMP (.gsa) THAT YtoioonbabnomkaaGreatProg.lean LOADS. Nothing in Lean hashes anything: it is a label: what it is worth is what the hold of that sum in a sandbox is worth. -/
noncomputable def Tryz.pinned : Pinned := { name := "ytoioonbabnomkaagreat", sum := "96821020e8216005ca8b3413800d98a5228f1e2a6ca05bec12832411d2eb82f1", checked := Tryz.checked }
namespace Rows
def none {H : Type} : Left H := { results := [], args := [] }

/-- 'transomlaw22.Kern1All': WHATEVER THE INPUT: true; the input reads as it did. -/
def kern1AllSpec : ChangeSpec := { name := "kern1All", fn := fun _ => fun
  | [d] => { results := [.lit (.bool true)], args := [d] }
  | _ => none }
def kern1AllRow : OpenClaim := { program := "ytoioonbabnomkaagreat", sum := "96821020e8216005ca8b3413800d98a5228f1e2a6ca05bec12832411d2eb82f1", func := "transom/transomlaw22.Kern1All", spec := "kern1All", inPlace := ["slices.overlaps[transom/api.Pair]"], unfollowed := true, recurses := true, apart := false }
def Kern1AllSaid : Prop := kern1AllRow.holds Tryz.pinned (OpenSpec.ofChange kern1AllSpec)

/-- ITS FALSE NEIGHBOUR: 'it returns false'. Refute it at one input. -/
def kern1AllWrong : ChangeSpec := { name := "kern1All", fn := fun _ => fun
  | [d] => { results := [.lit (.bool false)], args := [d] }
  | _ => none }
def Kern1AllWrongFalsely : Prop := kern1AllRow.holds Tryz.pinned (OpenSpec.ofChange kern1AllWrong)

/-- 'transomlaw22.Kern1Fails': WHATEVER THE INPUT: true; the input reads as it did. -/
def kern1FailsSpec : ChangeSpec := { name := "kern1Fails", fn := fun _ => fun
  | [d1, d2, d3] => { results := [.lit (.bool true)], args := [d1, d2, d3] }
  | _ => none }
def kern1FailsRow : OpenClaim := { program := "ytoioonbabnomkaagreat", sum := "96821020e8216005ca8b3413800d98a5228f1e2a6ca05bec12832411d2eb82f1", func := "transom/transomlaw22.Kern1Fails", spec := "kern1Fails", inPlace := ["slices.overlaps[transom/api.Pair]"], unfollowed := true, recurses := true, apart := false }
def Kern1FailsSaid : Prop := kern1FailsRow.holds Tryz.pinned (OpenSpec.ofChange kern1FailsSpec)

/-- ITS FALSE NEIGHBOUR: 'it returns false'. Refute it at one input. -/
def kern1FailsWrong : ChangeSpec := { name := "kern1Fails", fn := fun _ => fun
  | [d1, d2, d3] => { results := [.lit (.bool false)], args := [d1, d2, d3] }
  | _ => none }
def Kern1FailsWrongFalsely : Prop := kern1FailsRow.holds Tryz.pinned (OpenSpec.ofChange kern1FailsWrong)

/-- 'transomlaw22.Kern1Costs': WHATEVER THE INPUT: true; the input reads as it did. -/
def kern1CostsSpec : ChangeSpec := { name := "kern1Costs", fn := fun _ => fun
  | [d] => { results := [.lit (.bool true)], args := [d] }
  | _ => none }
def kern1CostsRow : OpenClaim := { program := "ytoioonbabnomkaagreat", sum := "96821020e8216005ca8b3413800d98a5228f1e2a6ca05bec12832411d2eb82f1", func := "transom/transomlaw22.Kern1Costs", spec := "kern1Costs", inPlace := ["slices.overlaps[transom/api.Pair]"], unfollowed := true, recurses := true, apart := false }
def Kern1CostsSaid : Prop := kern1CostsRow.holds Tryz.pinned (OpenSpec.ofChange kern1CostsSpec)

/-- ITS FALSE NEIGHBOUR: 'it returns false'. Refute it at one input. -/
def kern1CostsWrong : ChangeSpec := { name := "kern1Costs", fn := fun _ => fun
  | [d] => { results := [.lit (.bool false)], args := [d] }
  | _ => none }
def Kern1CostsWrongFalsely : Prop := kern1CostsRow.holds Tryz.pinned (OpenSpec.ofChange kern1CostsWrong)

/-- 'transomlaw22.Kern1Flows': WHATEVER THE INPUT: true; the input reads as it did. -/
def kern1FlowsSpec : ChangeSpec := { name := "kern1Flows", fn := fun _ => fun
  | [d1, d2, d3] => { results := [.lit (.bool true)], args := [d1, d2, d3] }
  | _ => none }
def kern1FlowsRow : OpenClaim := { program := "ytoioonbabnomkaagreat", sum := "96821020e8216005ca8b3413800d98a5228f1e2a6ca05bec12832411d2eb82f1", func := "transom/transomlaw22.Kern1Flows", spec := "kern1Flows", inPlace := ["slices.overlaps[transom/api.Pair]"], unfollowed := true, recurses := true, apart := false }
def Kern1FlowsSaid : Prop := kern1FlowsRow.holds Tryz.pinned (OpenSpec.ofChange kern1FlowsSpec)

/-- ITS FALSE NEIGHBOUR: 'it returns false'. Refute it at one input. -/
def kern1FlowsWrong : ChangeSpec := { name := "kern1Flows", fn := fun _ => fun
  | [d1, d2, d3] => { results := [.lit (.bool false)], args := [d1, d2, d3] }
  | _ => none }
def Kern1FlowsWrongFalsely : Prop := kern1FlowsRow.holds Tryz.pinned (OpenSpec.ofChange kern1FlowsWrong)

/-- 'transomlaw22.Kern1Opens': WHATEVER THE INPUT: true; the input reads as it did. -/
def kern1OpensSpec : ChangeSpec := { name := "kern1Opens", fn := fun _ => fun
  | [d] => { results := [.lit (.bool true)], args := [d] }
  | _ => none }
def kern1OpensRow : OpenClaim := { program := "ytoioonbabnomkaagreat", sum := "96821020e8216005ca8b3413800d98a5228f1e2a6ca05bec12832411d2eb82f1", func := "transom/transomlaw22.Kern1Opens", spec := "kern1Opens", inPlace := ["slices.overlaps[transom/api.Pair]"], unfollowed := true, recurses := true, apart := false }
def Kern1OpensSaid : Prop := kern1OpensRow.holds Tryz.pinned (OpenSpec.ofChange kern1OpensSpec)

/-- ITS FALSE NEIGHBOUR: 'it returns false'. Refute it at one input. -/
def kern1OpensWrong : ChangeSpec := { name := "kern1Opens", fn := fun _ => fun
  | [d] => { results := [.lit (.bool false)], args := [d] }
  | _ => none }
def Kern1OpensWrongFalsely : Prop := kern1OpensRow.holds Tryz.pinned (OpenSpec.ofChange kern1OpensWrong)

/-- 'transomlaw22.Kern1Copies': WHATEVER THE INPUT: true; the input reads as it did. -/
def kern1CopiesSpec : ChangeSpec := { name := "kern1Copies", fn := fun _ => fun
  | [d1, d2] => { results := [.lit (.bool true)], args := [d1, d2] }
  | _ => none }
def kern1CopiesRow : OpenClaim := { program := "ytoioonbabnomkaagreat", sum := "96821020e8216005ca8b3413800d98a5228f1e2a6ca05bec12832411d2eb82f1", func := "transom/transomlaw22.Kern1Copies", spec := "kern1Copies", inPlace := ["slices.overlaps[transom/api.Pair]"], unfollowed := true, recurses := true, apart := false }
def Kern1CopiesSaid : Prop := kern1CopiesRow.holds Tryz.pinned (OpenSpec.ofChange kern1CopiesSpec)

/-- ITS FALSE NEIGHBOUR: 'it returns false'. Refute it at one input. -/
def kern1CopiesWrong : ChangeSpec := { name := "kern1Copies", fn := fun _ => fun
  | [d1, d2] => { results := [.lit (.bool false)], args := [d1, d2] }
  | _ => none }
def Kern1CopiesWrongFalsely : Prop := kern1CopiesRow.holds Tryz.pinned (OpenSpec.ofChange kern1CopiesWrong)

/- THE SECOND FORM. 'bulk': how many values and letters a reading holds, each counted each time it is reached (what is shared counts as often as it is met; a slice's spare places count too). A statement '..UptoSaid' is the law's where the arguments, and the package variables that the reading takes, are together of bulk at most 1048576: NARROWER than '..Said'. Prove '..Said' where nothing that the law and all that it calls make is longer than what came in: it says more and counts as full. Else prove '..UptoSaid'. A law counts once. -/
mutual
def uptoBulk {H : Type} : DataW H → Nat
  | .lit (.string bytes) => bytes.length + 1
  | .lit _ => 1
  | .nil => 1
  | .ptr d => uptoBulk d + 1
  | .slice elems spare => uptoBulkAll elems + uptoBulkAll spare + 1
  | .agg parts => uptoBulkAll parts + 1
  | .iface _ d => uptoBulk d + 1
  | .map entries => uptoBulkEntries entries + 1
  | .held _ => 1
def uptoBulkAll {H : Type} : List (DataW H) → Nat
  | [] => 0
  | d :: r => uptoBulk d + uptoBulkAll r
def uptoBulkEntries {H : Type} : List (Lit × DataW H) → Nat
  | [] => 0
  | x :: r => uptoBulkEntry x + uptoBulkEntries r
def uptoBulkEntry {H : Type} : Lit × DataW H → Nat
  | (.string bytes, d) => bytes.length + uptoBulk d + 1
  | (_, d) => uptoBulk d + 1
 end
def uptoSmall : (H : Type) → List (DataW H) → Bool := fun _ ds => decide (uptoBulkAll ds ≤ 1048576)
def OpenSpec.upto (s : _root_.Go.ChangeSpec) : _root_.Go.OpenSpec := { _root_.Go.OpenSpec.ofChange s with cond := some uptoSmall }

/-- 'transomlaw22.Kern1All', WHERE WHAT IT READS IS OF BULK AT MOST 1048576: true; the input reads as it did. -/
def kern1AllUptoRow : OpenClaim := { program := "ytoioonbabnomkaagreat", sum := "96821020e8216005ca8b3413800d98a5228f1e2a6ca05bec12832411d2eb82f1", func := "transom/transomlaw22.Kern1All", spec := "kern1All", inPlace := ["slices.overlaps[transom/api.Pair]"], unfollowed := true, recurses := true, apart := false, narrowed := true }
def Kern1AllUptoSaid : Prop := kern1AllUptoRow.holds Tryz.pinned (OpenSpec.upto kern1AllSpec)

/-- 'transomlaw22.Kern1Fails', WHERE WHAT IT READS IS OF BULK AT MOST 1048576: true; the input reads as it did. -/
def kern1FailsUptoRow : OpenClaim := { program := "ytoioonbabnomkaagreat", sum := "96821020e8216005ca8b3413800d98a5228f1e2a6ca05bec12832411d2eb82f1", func := "transom/transomlaw22.Kern1Fails", spec := "kern1Fails", inPlace := ["slices.overlaps[transom/api.Pair]"], unfollowed := true, recurses := true, apart := false, narrowed := true }
def Kern1FailsUptoSaid : Prop := kern1FailsUptoRow.holds Tryz.pinned (OpenSpec.upto kern1FailsSpec)

/-- 'transomlaw22.Kern1Costs', WHERE WHAT IT READS IS OF BULK AT MOST 1048576: true; the input reads as it did. -/
def kern1CostsUptoRow : OpenClaim := { program := "ytoioonbabnomkaagreat", sum := "96821020e8216005ca8b3413800d98a5228f1e2a6ca05bec12832411d2eb82f1", func := "transom/transomlaw22.Kern1Costs", spec := "kern1Costs", inPlace := ["slices.overlaps[transom/api.Pair]"], unfollowed := true, recurses := true, apart := false, narrowed := true }
def Kern1CostsUptoSaid : Prop := kern1CostsUptoRow.holds Tryz.pinned (OpenSpec.upto kern1CostsSpec)

/-- 'transomlaw22.Kern1Flows', WHERE WHAT IT READS IS OF BULK AT MOST 1048576: true; the input reads as it did. -/
def kern1FlowsUptoRow : OpenClaim := { program := "ytoioonbabnomkaagreat", sum := "96821020e8216005ca8b3413800d98a5228f1e2a6ca05bec12832411d2eb82f1", func := "transom/transomlaw22.Kern1Flows", spec := "kern1Flows", inPlace := ["slices.overlaps[transom/api.Pair]"], unfollowed := true, recurses := true, apart := false, narrowed := true }
def Kern1FlowsUptoSaid : Prop := kern1FlowsUptoRow.holds Tryz.pinned (OpenSpec.upto kern1FlowsSpec)

/-- 'transomlaw22.Kern1Opens', WHERE WHAT IT READS IS OF BULK AT MOST 1048576: true; the input reads as it did. -/
def kern1OpensUptoRow : OpenClaim := { program := "ytoioonbabnomkaagreat", sum := "96821020e8216005ca8b3413800d98a5228f1e2a6ca05bec12832411d2eb82f1", func := "transom/transomlaw22.Kern1Opens", spec := "kern1Opens", inPlace := ["slices.overlaps[transom/api.Pair]"], unfollowed := true, recurses := true, apart := false, narrowed := true }
def Kern1OpensUptoSaid : Prop := kern1OpensUptoRow.holds Tryz.pinned (OpenSpec.upto kern1OpensSpec)

/-- 'transomlaw22.Kern1Copies', WHERE WHAT IT READS IS OF BULK AT MOST 1048576: true; the input reads as it did. -/
def kern1CopiesUptoRow : OpenClaim := { program := "ytoioonbabnomkaagreat", sum := "96821020e8216005ca8b3413800d98a5228f1e2a6ca05bec12832411d2eb82f1", func := "transom/transomlaw22.Kern1Copies", spec := "kern1Copies", inPlace := ["slices.overlaps[transom/api.Pair]"], unfollowed := true, recurses := true, apart := false, narrowed := true }
def Kern1CopiesUptoSaid : Prop := kern1CopiesUptoRow.holds Tryz.pinned (OpenSpec.upto kern1CopiesSpec)

end Rows
end Go.Proofs.YtoioonbabnomkaaGreat
