/-
  No cell of these rows narrows 'for every input' (looked for: loops, veiled, ifaces, maps, wideKeys, modest, calm, conditions, laid).
  DERIVED. THE GIVEN ROWS OF THIS SEAT. 5 by the template 'for every input the law returns true; each argument reads behind the call as it read before'; 0 by the template 'total and deterministic' (their statements: YtljapedlkdfafaaGreatTotals.lean).
  GIVEN WITH THE SEED: the statements are not yours to turn. If you find one false, say at which input.
  Laid BY PROGRAM, IN A SANDBOX (cutbox-rows.mjs): the forced cells as the released guide's own fill.sh prints them over the translation ffa728f70d419d72… (all of the seat's roots in one cut). By AI agents, Wed Nov 11 2026. No macro, syntax, notation, axiom, sorry.
-/
import Derived.Test.YtljapedlkdfafaaGreatChecked
import GoSem.Claim
import GoSem.ClaimJoined
import GoSem.ClaimMapViews
import Derived.JoinedTies
import Derived.KernelRfl
namespace Go.Proofs.YtljapedlkdfafaaGreat
/- THE CELL 'sum', in the pinned program and in every row, IS THE sha256 OF THE DUMP (.gsa) THAT YtljapedlkdfafaaGreatProg.lean LOADS. Nothing in Lean hashes anything: it is a label: what it is worth is what the hold of that sum in a sandbox is worth. -/
noncomputable def Tryz.pinned : Pinned := { name := "ytljapedlkdfafaagreat", sum := "ffa728f70d419d72886ae861d5b147cdd045784c98def28654f17e39fbee2e3a", checked := Tryz.checked }
namespace Rows
def none {H : Type} : Left H := { results := [], args := [] }

/-- 'transomlaw22.Kern1Cats': WHATEVER THE INPUT: true; the input reads as it did. -/
def kern1CatsSpec : ChangeSpec := { name := "kern1Cats", fn := fun _ => fun
  | [d1, d2] => { results := [.lit (.bool true)], args := [d1, d2] }
  | _ => none }
def kern1CatsRow : OpenClaim := { program := "ytljapedlkdfafaagreat", sum := "ffa728f70d419d72886ae861d5b147cdd045784c98def28654f17e39fbee2e3a", func := "transom/transomlaw22.Kern1Cats", spec := "kern1Cats", inPlace := ["slices.overlaps[transom/api.Pair]"], unfollowed := true, recurses := true, apart := false }
def Kern1CatsSaid : Prop := kern1CatsRow.holds Tryz.pinned (OpenSpec.ofChange kern1CatsSpec)

/-- ITS FALSE NEIGHBOUR: 'it returns false'. Refute it at one input. -/
def kern1CatsWrong : ChangeSpec := { name := "kern1Cats", fn := fun _ => fun
  | [d1, d2] => { results := [.lit (.bool false)], args := [d1, d2] }
  | _ => none }
def Kern1CatsWrongFalsely : Prop := kern1CatsRow.holds Tryz.pinned (OpenSpec.ofChange kern1CatsWrong)

/-- 'transomlaw22.Kern1Boxes': WHATEVER THE INPUT: true; the input reads as it did. -/
def kern1BoxesSpec : ChangeSpec := { name := "kern1Boxes", fn := fun _ => fun
  | [d1, d2] => { results := [.lit (.bool true)], args := [d1, d2] }
  | _ => none }
def kern1BoxesRow : OpenClaim := { program := "ytljapedlkdfafaagreat", sum := "ffa728f70d419d72886ae861d5b147cdd045784c98def28654f17e39fbee2e3a", func := "transom/transomlaw22.Kern1Boxes", spec := "kern1Boxes", inPlace := ["slices.overlaps[transom/api.Pair]"], unfollowed := true, recurses := true, apart := false }
def Kern1BoxesSaid : Prop := kern1BoxesRow.holds Tryz.pinned (OpenSpec.ofChange kern1BoxesSpec)

/-- ITS FALSE NEIGHBOUR: 'it returns false'. Refute it at one input. -/
def kern1BoxesWrong : ChangeSpec := { name := "kern1Boxes", fn := fun _ => fun
  | [d1, d2] => { results := [.lit (.bool false)], args := [d1, d2] }
  | _ => none }
def Kern1BoxesWrongFalsely : Prop := kern1BoxesRow.holds Tryz.pinned (OpenSpec.ofChange kern1BoxesWrong)

/-- 'transomlaw22.Kern1Stats': WHATEVER THE INPUT: true; the input reads as it did. -/
def kern1StatsSpec : ChangeSpec := { name := "kern1Stats", fn := fun _ => fun
  | [d1, d2, d3] => { results := [.lit (.bool true)], args := [d1, d2, d3] }
  | _ => none }
def kern1StatsRow : OpenClaim := { program := "ytljapedlkdfafaagreat", sum := "ffa728f70d419d72886ae861d5b147cdd045784c98def28654f17e39fbee2e3a", func := "transom/transomlaw22.Kern1Stats", spec := "kern1Stats", inPlace := ["slices.overlaps[transom/api.Pair]"], unfollowed := true, recurses := true, apart := false }
def Kern1StatsSaid : Prop := kern1StatsRow.holds Tryz.pinned (OpenSpec.ofChange kern1StatsSpec)

/-- ITS FALSE NEIGHBOUR: 'it returns false'. Refute it at one input. -/
def kern1StatsWrong : ChangeSpec := { name := "kern1Stats", fn := fun _ => fun
  | [d1, d2, d3] => { results := [.lit (.bool false)], args := [d1, d2, d3] }
  | _ => none }
def Kern1StatsWrongFalsely : Prop := kern1StatsRow.holds Tryz.pinned (OpenSpec.ofChange kern1StatsWrong)

/-- 'transomlaw22.Kern1Letters': WHATEVER THE INPUT: true; the input reads as it did. -/
def kern1LettersSpec : ChangeSpec := { name := "kern1Letters", fn := fun _ => fun
  | [d1, d2] => { results := [.lit (.bool true)], args := [d1, d2] }
  | _ => none }
def kern1LettersRow : OpenClaim := { program := "ytljapedlkdfafaagreat", sum := "ffa728f70d419d72886ae861d5b147cdd045784c98def28654f17e39fbee2e3a", func := "transom/transomlaw22.Kern1Letters", spec := "kern1Letters", inPlace := ["slices.overlaps[transom/api.Pair]"], unfollowed := true, recurses := true, apart := false }
def Kern1LettersSaid : Prop := kern1LettersRow.holds Tryz.pinned (OpenSpec.ofChange kern1LettersSpec)

/-- ITS FALSE NEIGHBOUR: 'it returns false'. Refute it at one input. -/
def kern1LettersWrong : ChangeSpec := { name := "kern1Letters", fn := fun _ => fun
  | [d1, d2] => { results := [.lit (.bool false)], args := [d1, d2] }
  | _ => none }
def Kern1LettersWrongFalsely : Prop := kern1LettersRow.holds Tryz.pinned (OpenSpec.ofChange kern1LettersWrong)

/-- 'transomlaw22.Kern1Copying': WHATEVER THE INPUT: true; the input reads as it did. -/
def kern1CopyingSpec : ChangeSpec := { name := "kern1Copying", fn := fun _ => fun
  | [d1, d2] => { results := [.lit (.bool true)], args := [d1, d2] }
  | _ => none }
def kern1CopyingRow : OpenClaim := { program := "ytljapedlkdfafaagreat", sum := "ffa728f70d419d72886ae861d5b147cdd045784c98def28654f17e39fbee2e3a", func := "transom/transomlaw22.Kern1Copying", spec := "kern1Copying", inPlace := ["slices.overlaps[transom/api.Pair]"], unfollowed := true, recurses := true, apart := false }
def Kern1CopyingSaid : Prop := kern1CopyingRow.holds Tryz.pinned (OpenSpec.ofChange kern1CopyingSpec)

/-- ITS FALSE NEIGHBOUR: 'it returns false'. Refute it at one input. -/
def kern1CopyingWrong : ChangeSpec := { name := "kern1Copying", fn := fun _ => fun
  | [d1, d2] => { results := [.lit (.bool false)], args := [d1, d2] }
  | _ => none }
def Kern1CopyingWrongFalsely : Prop := kern1CopyingRow.holds Tryz.pinned (OpenSpec.ofChange kern1CopyingWrong)

/- THE SECOND FORM. 'bulk': how many values and letters a reading holds, each counted each time it is reached (what is shared counts as often as it is met; a slice's spare places count too). A statement '..UptoSaid' is the law's where the arguments, and the package variables that the reading takes, are together of bulk at most 1048576: NARROWER than '..Said'. Prove '..Said' where nothing that the law and all that it calls make is longer than what came in: it says more and counts as full. Else prove '..UptoSaid'. A law counts once. -/
mutual
def uptoBulk {H : Type} : DataW H → Nat
  | .lit (.string bytes) => bytes.length + 1
  | .lit _ => 1
  | .nil => 1
  | .ptr d => uptoBulk d + 1
  | .slice elems spare => uptoBulkAll elems + uptoBulkAll spare + 1
  | .agg parts => uptoBulkAll parts + 1
  | .iface _ d => uptoBulk d + 1
  | .map entries => uptoBulkEntries entries + 1
  | .held _ => 1
def uptoBulkAll {H : Type} : List (DataW H) → Nat
  | [] => 0
  | d :: r => uptoBulk d + uptoBulkAll r
def uptoBulkEntries {H : Type} : List (Lit × DataW H) → Nat
  | [] => 0
  | x :: r => uptoBulkEntry x + uptoBulkEntries r
def uptoBulkEntry {H : Type} : Lit × DataW H → Nat
  | (.string bytes, d) => bytes.length + uptoBulk d + 1
  | (_, d) => uptoBulk d + 1
 end
def uptoSmall : (H : Type) → List (DataW H) → Bool := fun _ ds => decide (uptoBulkAll ds ≤ 1048576)
def OpenSpec.upto (s : _root_.Go.ChangeSpec) : _root_.Go.OpenSpec := { _root_.Go.OpenSpec.ofChange s with cond := some uptoSmall }

/-- 'transomlaw22.Kern1Cats', WHERE WHAT IT READS IS OF BULK AT MOST 1048576: true; the input reads as it did. -/
def kern1CatsUptoRow : OpenClaim := { program := "ytljapedlkdfafaagreat", sum := "ffa728f70d419d72886ae861d5b147cdd045784c98def28654f17e39fbee2e3a", func := "transom/transomlaw22.Kern1Cats", spec := "kern1Cats", inPlace := ["slices.overlaps[transom/api.Pair]"], unfollowed := true, recurses := true, apart := false, narrowed := true }
def Kern1CatsUptoSaid : Prop := kern1CatsUptoRow.holds Tryz.pinned (OpenSpec.upto kern1CatsSpec)

/-- 'transomlaw22.Kern1Boxes', WHERE WHAT IT READS IS OF BULK AT MOST 1048576: true; the input reads as it did. -/
def kern1BoxesUptoRow : OpenClaim := { program := "ytljapedlkdfafaagreat", sum := "ffa728f70d419d72886ae861d5b147cdd045784c98def28654f17e39fbee2e3a", func := "transom/transomlaw22.Kern1Boxes", spec := "kern1Boxes", inPlace := ["slices.overlaps[transom/api.Pair]"], unfollowed := true, recurses := true, apart := false, narrowed := true }
def Kern1BoxesUptoSaid : Prop := kern1BoxesUptoRow.holds Tryz.pinned (OpenSpec.upto kern1BoxesSpec)

/-- 'transomlaw22.Kern1Stats', WHERE WHAT IT READS IS OF BULK AT MOST 1048576: true; the input reads as it did. -/
def kern1StatsUptoRow : OpenClaim := { program := "ytljapedlkdfafaagreat", sum := "ffa728f70d419d72886ae861d5b147cdd045784c98def28654f17e39fbee2e3a", func := "transom/transomlaw22.Kern1Stats", spec := "kern1Stats", inPlace := ["slices.overlaps[transom/api.Pair]"], unfollowed := true, recurses := true, apart := false, narrowed := true }
def Kern1StatsUptoSaid : Prop := kern1StatsUptoRow.holds Tryz.pinned (OpenSpec.upto kern1StatsSpec)

/-- 'transomlaw22.Kern1Letters', WHERE WHAT IT READS IS OF BULK AT MOST 1048576: true; the input reads as it did. -/
def kern1LettersUptoRow : OpenClaim := { program := "ytljapedlkdfafaagreat", sum := "ffa728f70d419d72886ae861d5b147cdd045784c98def28654f17e39fbee2e3a", func := "transom/transomlaw22.Kern1Letters", spec := "kern1Letters", inPlace := ["slices.overlaps[transom/api.Pair]"], unfollowed := true, recurses := true, apart := false, narrowed := true }
def Kern1LettersUptoSaid : Prop := kern1LettersUptoRow.holds Tryz.pinned (OpenSpec.upto kern1LettersSpec)

/-- 'transomlaw22.Kern1Copying', WHERE WHAT IT READS IS OF BULK AT MOST 1048576: true; the input reads as it did. -/
def kern1CopyingUptoRow : OpenClaim := { program := "ytljapedlkdfafaagreat", sum := "ffa728f70d419d72886ae861d5b147cdd045784c98def28654f17e39fbee2e3a", func := "transom/transomlaw22.Kern1Copying", spec := "kern1Copying", inPlace := ["slices.overlaps[transom/api.Pair]"], unfollowed := true, recurses := true, apart := false, narrowed := true }
def Kern1CopyingUptoSaid : Prop := kern1CopyingUptoRow.holds Tryz.pinned (OpenSpec.upto kern1CopyingSpec)

end Rows
end Go.Proofs.YtljapedlkdfafaaGreat
