/-
  No cell of these rows narrows 'for every input' (looked for: loops, veiled, ifaces, maps, wideKeys, modest, calm, conditions, laid).
  DERIVED. THE GIVEN ROWS OF THIS SEAT. 7 by the template 'for every input the law returns true; each argument reads behind the call as it read before'; 0 by the template 'total and deterministic' (their statements: YtjkllffbjeajhaaGreatTotals.lean).
  GIVEN WITH THE SEED: the statements are not yours to turn. If you find one false, say at which input.
  Laid BY PROGRAM, IN A SANDBOX (cutbox-rows.mjs): the forced cells as the released guide's own fill.sh prints them over the translation 3dfc78ccd64c943a… (all of the seat's roots in one cut). By AI agents, Wed Nov 11 2026. No macro, syntax, notation, axiom, sorry.
-/
import Derived.Test.YtjkllffbjeajhaaGreatChecked
import GoSem.Claim
import GoSem.ClaimJoined
import GoSem.ClaimMapViews
import Derived.JoinedTies
import Derived.KernelRfl
namespace Go.Proofs.YtjkllffbjeajhaaGreat
/- THE CELL 'sum', in the pinned program and in every row, IS THE sha256 OF THE DUMP (.gsa) THAT YtjkllffbjeajhaaGreatProg.lean LOADS. Nothing in Lean hashes anything: it is a label: what it is worth is what the hold of that sum in a sandbox is worth. -/
noncomputable def Tryz.pinned : Pinned := { name := "ytjkllffbjeajhaagreat", sum := "3dfc78ccd64c943a3339d5010f36f69c38c843c0884bbbb768809c43e5ece11f", checked := Tryz.checked }
namespace Rows
def none {H : Type} : Left H := { results := [], args := [] }

/-- 'transomlaw28.UpdateFirst': WHATEVER THE INPUT: true; the input reads as it did. -/
def updateFirstSpec : ChangeSpec := { name := "updateFirst", fn := fun _ => fun
  | [d1, d2, d3] => { results := [.lit (.bool true)], args := [d1, d2, d3] }
  | _ => none }
def updateFirstRow : OpenClaim := { program := "ytjkllffbjeajhaagreat", sum := "3dfc78ccd64c943a3339d5010f36f69c38c843c0884bbbb768809c43e5ece11f", func := "transom/transomlaw28.UpdateFirst", spec := "updateFirst", unfollowed := true, recurses := true, apart := false }
def UpdateFirstSaid : Prop := updateFirstRow.holds Tryz.pinned (OpenSpec.ofChange updateFirstSpec)

/-- ITS FALSE NEIGHBOUR: 'it returns false'. Refute it at one input. -/
def updateFirstWrong : ChangeSpec := { name := "updateFirst", fn := fun _ => fun
  | [d1, d2, d3] => { results := [.lit (.bool false)], args := [d1, d2, d3] }
  | _ => none }
def UpdateFirstWrongFalsely : Prop := updateFirstRow.holds Tryz.pinned (OpenSpec.ofChange updateFirstWrong)

/-- 'transomlaw30.ScriptBytes': WHATEVER THE INPUT: true; the input reads as it did. -/
def scriptBytesSpec : ChangeSpec := { name := "scriptBytes", fn := fun _ => fun
  | [d1, d2] => { results := [.lit (.bool true)], args := [d1, d2] }
  | _ => none }
def scriptBytesRow : OpenClaim := { program := "ytjkllffbjeajhaagreat", sum := "3dfc78ccd64c943a3339d5010f36f69c38c843c0884bbbb768809c43e5ece11f", func := "transom/transomlaw30.ScriptBytes", spec := "scriptBytes", inPlace := ["slices.overlaps[transom/api.Pair]"], unfollowed := true, recurses := true, apart := false }
def ScriptBytesSaid : Prop := scriptBytesRow.holds Tryz.pinned (OpenSpec.ofChange scriptBytesSpec)

/-- ITS FALSE NEIGHBOUR: 'it returns false'. Refute it at one input. -/
def scriptBytesWrong : ChangeSpec := { name := "scriptBytes", fn := fun _ => fun
  | [d1, d2] => { results := [.lit (.bool false)], args := [d1, d2] }
  | _ => none }
def ScriptBytesWrongFalsely : Prop := scriptBytesRow.holds Tryz.pinned (OpenSpec.ofChange scriptBytesWrong)

/-- 'transomlaw30.ScriptBack': WHATEVER THE INPUT: true; the input reads as it did. -/
def scriptBackSpec : ChangeSpec := { name := "scriptBack", fn := fun _ => fun
  | [d] => { results := [.lit (.bool true)], args := [d] }
  | _ => none }
def scriptBackRow : OpenClaim := { program := "ytjkllffbjeajhaagreat", sum := "3dfc78ccd64c943a3339d5010f36f69c38c843c0884bbbb768809c43e5ece11f", func := "transom/transomlaw30.ScriptBack", spec := "scriptBack", inPlace := ["slices.overlaps[transom/api.Pair]"], unfollowed := true, recurses := true, apart := false }
def ScriptBackSaid : Prop := scriptBackRow.holds Tryz.pinned (OpenSpec.ofChange scriptBackSpec)

/-- ITS FALSE NEIGHBOUR: 'it returns false'. Refute it at one input. -/
def scriptBackWrong : ChangeSpec := { name := "scriptBack", fn := fun _ => fun
  | [d] => { results := [.lit (.bool false)], args := [d] }
  | _ => none }
def ScriptBackWrongFalsely : Prop := scriptBackRow.holds Tryz.pinned (OpenSpec.ofChange scriptBackWrong)

/-- 'transomlaw30.ScriptForms': WHATEVER THE INPUT: true; the input reads as it did. -/
def scriptFormsSpec : ChangeSpec := { name := "scriptForms", fn := fun _ => fun
  | [] => { results := [.lit (.bool true)], args := [] }
  | _ => none }
def scriptFormsRow : OpenClaim := { program := "ytjkllffbjeajhaagreat", sum := "3dfc78ccd64c943a3339d5010f36f69c38c843c0884bbbb768809c43e5ece11f", func := "transom/transomlaw30.ScriptForms", spec := "scriptForms", inPlace := ["slices.overlaps[transom/api.Pair]"], unfollowed := true, recurses := true, apart := false }
def ScriptFormsSaid : Prop := scriptFormsRow.holds Tryz.pinned (OpenSpec.ofChange scriptFormsSpec)

/-- ITS FALSE NEIGHBOUR: 'it returns false'. Refute it at one input. -/
def scriptFormsWrong : ChangeSpec := { name := "scriptForms", fn := fun _ => fun
  | [] => { results := [.lit (.bool false)], args := [] }
  | _ => none }
def ScriptFormsWrongFalsely : Prop := scriptFormsRow.holds Tryz.pinned (OpenSpec.ofChange scriptFormsWrong)

/-- 'transomlaw30.ScriptLeft': WHATEVER THE INPUT: true; the input reads as it did. -/
def scriptLeftSpec : ChangeSpec := { name := "scriptLeft", fn := fun _ => fun
  | [d] => { results := [.lit (.bool true)], args := [d] }
  | _ => none }
def scriptLeftRow : OpenClaim := { program := "ytjkllffbjeajhaagreat", sum := "3dfc78ccd64c943a3339d5010f36f69c38c843c0884bbbb768809c43e5ece11f", func := "transom/transomlaw30.ScriptLeft", spec := "scriptLeft", inPlace := ["slices.overlaps[transom/api.Pair]"], unfollowed := true, recurses := true, apart := false }
def ScriptLeftSaid : Prop := scriptLeftRow.holds Tryz.pinned (OpenSpec.ofChange scriptLeftSpec)

/-- ITS FALSE NEIGHBOUR: 'it returns false'. Refute it at one input. -/
def scriptLeftWrong : ChangeSpec := { name := "scriptLeft", fn := fun _ => fun
  | [d] => { results := [.lit (.bool false)], args := [d] }
  | _ => none }
def ScriptLeftWrongFalsely : Prop := scriptLeftRow.holds Tryz.pinned (OpenSpec.ofChange scriptLeftWrong)

/-- 'transomlaw30.MachineTags': WHATEVER THE INPUT: true; the input reads as it did. -/
def machineTagsSpec : ChangeSpec := { name := "machineTags", fn := fun _ => fun
  | [d1, d2, d3] => { results := [.lit (.bool true)], args := [d1, d2, d3] }
  | _ => none }
def machineTagsRow : OpenClaim := { program := "ytjkllffbjeajhaagreat", sum := "3dfc78ccd64c943a3339d5010f36f69c38c843c0884bbbb768809c43e5ece11f", func := "transom/transomlaw30.MachineTags", spec := "machineTags", inPlace := ["slices.overlaps[transom/api.Pair]"], unfollowed := true, recurses := true, apart := false }
def MachineTagsSaid : Prop := machineTagsRow.holds Tryz.pinned (OpenSpec.ofChange machineTagsSpec)

/-- ITS FALSE NEIGHBOUR: 'it returns false'. Refute it at one input. -/
def machineTagsWrong : ChangeSpec := { name := "machineTags", fn := fun _ => fun
  | [d1, d2, d3] => { results := [.lit (.bool false)], args := [d1, d2, d3] }
  | _ => none }
def MachineTagsWrongFalsely : Prop := machineTagsRow.holds Tryz.pinned (OpenSpec.ofChange machineTagsWrong)

/-- 'transomlaw30.MachineWhy': WHATEVER THE INPUT: true; the input reads as it did. -/
def machineWhySpec : ChangeSpec := { name := "machineWhy", fn := fun _ => fun
  | [] => { results := [.lit (.bool true)], args := [] }
  | _ => none }
def machineWhyRow : OpenClaim := { program := "ytjkllffbjeajhaagreat", sum := "3dfc78ccd64c943a3339d5010f36f69c38c843c0884bbbb768809c43e5ece11f", func := "transom/transomlaw30.MachineWhy", spec := "machineWhy", inPlace := ["slices.overlaps[transom/api.Pair]"], unfollowed := true, recurses := true, apart := false }
def MachineWhySaid : Prop := machineWhyRow.holds Tryz.pinned (OpenSpec.ofChange machineWhySpec)

/-- ITS FALSE NEIGHBOUR: 'it returns false'. Refute it at one input. -/
def machineWhyWrong : ChangeSpec := { name := "machineWhy", fn := fun _ => fun
  | [] => { results := [.lit (.bool false)], args := [] }
  | _ => none }
def MachineWhyWrongFalsely : Prop := machineWhyRow.holds Tryz.pinned (OpenSpec.ofChange machineWhyWrong)

/- THE SECOND FORM. 'bulk': how many values and letters a reading holds, each counted each time it is reached (what is shared counts as often as it is met; a slice's spare places count too). A statement '..UptoSaid' is the law's where the arguments, and the package variables that the reading takes, are together of bulk at most 1048576: NARROWER than '..Said'. Prove '..Said' where nothing that the law and all that it calls make is longer than what came in: it says more and counts as full. Else prove '..UptoSaid'. A law counts once. -/
mutual
def uptoBulk {H : Type} : DataW H → Nat
  | .lit (.string bytes) => bytes.length + 1
  | .lit _ => 1
  | .nil => 1
  | .ptr d => uptoBulk d + 1
  | .slice elems spare => uptoBulkAll elems + uptoBulkAll spare + 1
  | .agg parts => uptoBulkAll parts + 1
  | .iface _ d => uptoBulk d + 1
  | .map entries => uptoBulkEntries entries + 1
  | .held _ => 1
def uptoBulkAll {H : Type} : List (DataW H) → Nat
  | [] => 0
  | d :: r => uptoBulk d + uptoBulkAll r
def uptoBulkEntries {H : Type} : List (Lit × DataW H) → Nat
  | [] => 0
  | x :: r => uptoBulkEntry x + uptoBulkEntries r
def uptoBulkEntry {H : Type} : Lit × DataW H → Nat
  | (.string bytes, d) => bytes.length + uptoBulk d + 1
  | (_, d) => uptoBulk d + 1
 end
def uptoSmall : (H : Type) → List (DataW H) → Bool := fun _ ds => decide (uptoBulkAll ds ≤ 1048576)
def OpenSpec.upto (s : _root_.Go.ChangeSpec) : _root_.Go.OpenSpec := { _root_.Go.OpenSpec.ofChange s with cond := some uptoSmall }

/-- 'transomlaw28.UpdateFirst', WHERE WHAT IT READS IS OF BULK AT MOST 1048576: true; the input reads as it did. -/
def updateFirstUptoRow : OpenClaim := { program := "ytjkllffbjeajhaagreat", sum := "3dfc78ccd64c943a3339d5010f36f69c38c843c0884bbbb768809c43e5ece11f", func := "transom/transomlaw28.UpdateFirst", spec := "updateFirst", unfollowed := true, recurses := true, apart := false, narrowed := true }
def UpdateFirstUptoSaid : Prop := updateFirstUptoRow.holds Tryz.pinned (OpenSpec.upto updateFirstSpec)

/-- 'transomlaw30.ScriptBytes', WHERE WHAT IT READS IS OF BULK AT MOST 1048576: true; the input reads as it did. -/
def scriptBytesUptoRow : OpenClaim := { program := "ytjkllffbjeajhaagreat", sum := "3dfc78ccd64c943a3339d5010f36f69c38c843c0884bbbb768809c43e5ece11f", func := "transom/transomlaw30.ScriptBytes", spec := "scriptBytes", inPlace := ["slices.overlaps[transom/api.Pair]"], unfollowed := true, recurses := true, apart := false, narrowed := true }
def ScriptBytesUptoSaid : Prop := scriptBytesUptoRow.holds Tryz.pinned (OpenSpec.upto scriptBytesSpec)

/-- 'transomlaw30.ScriptBack', WHERE WHAT IT READS IS OF BULK AT MOST 1048576: true; the input reads as it did. -/
def scriptBackUptoRow : OpenClaim := { program := "ytjkllffbjeajhaagreat", sum := "3dfc78ccd64c943a3339d5010f36f69c38c843c0884bbbb768809c43e5ece11f", func := "transom/transomlaw30.ScriptBack", spec := "scriptBack", inPlace := ["slices.overlaps[transom/api.Pair]"], unfollowed := true, recurses := true, apart := false, narrowed := true }
def ScriptBackUptoSaid : Prop := scriptBackUptoRow.holds Tryz.pinned (OpenSpec.upto scriptBackSpec)

/-- 'transomlaw30.ScriptForms', WHERE WHAT IT READS IS OF BULK AT MOST 1048576: true; the input reads as it did. -/
def scriptFormsUptoRow : OpenClaim := { program := "ytjkllffbjeajhaagreat", sum := "3dfc78ccd64c943a3339d5010f36f69c38c843c0884bbbb768809c43e5ece11f", func := "transom/transomlaw30.ScriptForms", spec := "scriptForms", inPlace := ["slices.overlaps[transom/api.Pair]"], unfollowed := true, recurses := true, apart := false, narrowed := true }
def ScriptFormsUptoSaid : Prop := scriptFormsUptoRow.holds Tryz.pinned (OpenSpec.upto scriptFormsSpec)

/-- 'transomlaw30.ScriptLeft', WHERE WHAT IT READS IS OF BULK AT MOST 1048576: true; the input reads as it did. -/
def scriptLeftUptoRow : OpenClaim := { program := "ytjkllffbjeajhaagreat", sum := "3dfc78ccd64c943a3339d5010f36f69c38c843c0884bbbb768809c43e5ece11f", func := "transom/transomlaw30.ScriptLeft", spec := "scriptLeft", inPlace := ["slices.overlaps[transom/api.Pair]"], unfollowed := true, recurses := true, apart := false, narrowed := true }
def ScriptLeftUptoSaid : Prop := scriptLeftUptoRow.holds Tryz.pinned (OpenSpec.upto scriptLeftSpec)

/-- 'transomlaw30.MachineTags', WHERE WHAT IT READS IS OF BULK AT MOST 1048576: true; the input reads as it did. -/
def machineTagsUptoRow : OpenClaim := { program := "ytjkllffbjeajhaagreat", sum := "3dfc78ccd64c943a3339d5010f36f69c38c843c0884bbbb768809c43e5ece11f", func := "transom/transomlaw30.MachineTags", spec := "machineTags", inPlace := ["slices.overlaps[transom/api.Pair]"], unfollowed := true, recurses := true, apart := false, narrowed := true }
def MachineTagsUptoSaid : Prop := machineTagsUptoRow.holds Tryz.pinned (OpenSpec.upto machineTagsSpec)

/-- 'transomlaw30.MachineWhy', WHERE WHAT IT READS IS OF BULK AT MOST 1048576: true; the input reads as it did. -/
def machineWhyUptoRow : OpenClaim := { program := "ytjkllffbjeajhaagreat", sum := "3dfc78ccd64c943a3339d5010f36f69c38c843c0884bbbb768809c43e5ece11f", func := "transom/transomlaw30.MachineWhy", spec := "machineWhy", inPlace := ["slices.overlaps[transom/api.Pair]"], unfollowed := true, recurses := true, apart := false, narrowed := true }
def MachineWhyUptoSaid : Prop := machineWhyUptoRow.holds Tryz.pinned (OpenSpec.upto machineWhySpec)

end Rows
end Go.Proofs.YtjkllffbjeajhaaGreat
