/-
  No cell of these rows narrows 'for every input' (looked for: loops, veiled, ifaces, maps, wideKeys, modest, calm, conditions, laid).
  DERIVED. THE GIVEN ROWS OF THIS SEAT. 12 by the template 'for every input the law returns true; each argument reads behind the call as it read before'; 0 by the template 'total and deterministic' (their statements: YtdhhfiaepnemcaaGreatTotals.lean).
  GIVEN WITH THE SEED: the statements are not yours to turn. If you find one false, say at which input.
  Laid BY PROGRAM, IN A SANDBOX (cutbox-rows.mjs): the forced cells as the released guide's own fill.sh prints them over the translation 3387d5254854ef2e… (all of the seat's roots in one cut). By AI agents, Wed Nov 11 2026. No macro, syntax, notation, axiom, sorry.
-/
import Derived.Test.YtdhhfiaepnemcaaGreatChecked
import GoSem.Claim
import GoSem.ClaimJoined
import GoSem.ClaimMapViews
import Derived.JoinedTies
import Derived.KernelRfl
namespace Go.Proofs.YtdhhfiaepnemcaaGreat
/- THE CELL 'sum', in the pinned program and in every row, IS THE sha256 OF THE DUMP (.gsa) THAT YtdhhfiaepnemcaaGreatProg.lean LOADS. Nothing in Lean hashes anything: it is a label: what it is worth is what the hold of that sum in a sandbox is worth. -/
noncomputable def Tryz.pinned : Pinned := { name := "ytdhhfiaepnemcaagreat", sum := "3387d5254854ef2e102a39fd11c1072f81760f077bd81d1d327197cfdd5f5ec9", checked := Tryz.checked }
namespace Rows
def none {H : Type} : Left H := { results := [], args := [] }

/-- 'transomlaw22.Kern1Cats': WHATEVER THE INPUT: true; the input reads as it did. -/
def kern1CatsSpec : ChangeSpec := { name := "kern1Cats", fn := fun _ => fun
  | [d1, d2] => { results := [.lit (.bool true)], args := [d1, d2] }
  | _ => none }
def kern1CatsRow : OpenClaim := { program := "ytdhhfiaepnemcaagreat", sum := "3387d5254854ef2e102a39fd11c1072f81760f077bd81d1d327197cfdd5f5ec9", func := "transom/transomlaw22.Kern1Cats", spec := "kern1Cats", inPlace := ["slices.overlaps[transom/api.Pair]"], unfollowed := true, recurses := true, apart := false }
def Kern1CatsSaid : Prop := kern1CatsRow.holds Tryz.pinned (OpenSpec.ofChange kern1CatsSpec)

/-- ITS FALSE NEIGHBOUR: 'it returns false'. Refute it at one input. -/
def kern1CatsWrong : ChangeSpec := { name := "kern1Cats", fn := fun _ => fun
  | [d1, d2] => { results := [.lit (.bool false)], args := [d1, d2] }
  | _ => none }
def Kern1CatsWrongFalsely : Prop := kern1CatsRow.holds Tryz.pinned (OpenSpec.ofChange kern1CatsWrong)

/-- 'transomlaw22.Kern1Secrets': WHATEVER THE INPUT: true; the input reads as it did. -/
def kern1SecretsSpec : ChangeSpec := { name := "kern1Secrets", fn := fun _ => fun
  | [] => { results := [.lit (.bool true)], args := [] }
  | _ => none }
def kern1SecretsRow : OpenClaim := { program := "ytdhhfiaepnemcaagreat", sum := "3387d5254854ef2e102a39fd11c1072f81760f077bd81d1d327197cfdd5f5ec9", func := "transom/transomlaw22.Kern1Secrets", spec := "kern1Secrets", inPlace := ["slices.overlaps[transom/api.Pair]"], unfollowed := true, recurses := true, apart := false }
def Kern1SecretsSaid : Prop := kern1SecretsRow.holds Tryz.pinned (OpenSpec.ofChange kern1SecretsSpec)

/-- ITS FALSE NEIGHBOUR: 'it returns false'. Refute it at one input. -/
def kern1SecretsWrong : ChangeSpec := { name := "kern1Secrets", fn := fun _ => fun
  | [] => { results := [.lit (.bool false)], args := [] }
  | _ => none }
def Kern1SecretsWrongFalsely : Prop := kern1SecretsRow.holds Tryz.pinned (OpenSpec.ofChange kern1SecretsWrong)

/-- 'transomlaw22.Kern1Gates': WHATEVER THE INPUT: true; the input reads as it did. -/
def kern1GatesSpec : ChangeSpec := { name := "kern1Gates", fn := fun _ => fun
  | [] => { results := [.lit (.bool true)], args := [] }
  | _ => none }
def kern1GatesRow : OpenClaim := { program := "ytdhhfiaepnemcaagreat", sum := "3387d5254854ef2e102a39fd11c1072f81760f077bd81d1d327197cfdd5f5ec9", func := "transom/transomlaw22.Kern1Gates", spec := "kern1Gates", inPlace := ["slices.overlaps[transom/api.Pair]"], unfollowed := true, recurses := true, apart := false }
def Kern1GatesSaid : Prop := kern1GatesRow.holds Tryz.pinned (OpenSpec.ofChange kern1GatesSpec)

/-- ITS FALSE NEIGHBOUR: 'it returns false'. Refute it at one input. -/
def kern1GatesWrong : ChangeSpec := { name := "kern1Gates", fn := fun _ => fun
  | [] => { results := [.lit (.bool false)], args := [] }
  | _ => none }
def Kern1GatesWrongFalsely : Prop := kern1GatesRow.holds Tryz.pinned (OpenSpec.ofChange kern1GatesWrong)

/-- 'transomlaw22.Kern1Boxes': WHATEVER THE INPUT: true; the input reads as it did. -/
def kern1BoxesSpec : ChangeSpec := { name := "kern1Boxes", fn := fun _ => fun
  | [d1, d2] => { results := [.lit (.bool true)], args := [d1, d2] }
  | _ => none }
def kern1BoxesRow : OpenClaim := { program := "ytdhhfiaepnemcaagreat", sum := "3387d5254854ef2e102a39fd11c1072f81760f077bd81d1d327197cfdd5f5ec9", func := "transom/transomlaw22.Kern1Boxes", spec := "kern1Boxes", inPlace := ["slices.overlaps[transom/api.Pair]"], unfollowed := true, recurses := true, apart := false }
def Kern1BoxesSaid : Prop := kern1BoxesRow.holds Tryz.pinned (OpenSpec.ofChange kern1BoxesSpec)

/-- ITS FALSE NEIGHBOUR: 'it returns false'. Refute it at one input. -/
def kern1BoxesWrong : ChangeSpec := { name := "kern1Boxes", fn := fun _ => fun
  | [d1, d2] => { results := [.lit (.bool false)], args := [d1, d2] }
  | _ => none }
def Kern1BoxesWrongFalsely : Prop := kern1BoxesRow.holds Tryz.pinned (OpenSpec.ofChange kern1BoxesWrong)

/-- 'transomlaw22.Kern1Drops': WHATEVER THE INPUT: true; the input reads as it did. -/
def kern1DropsSpec : ChangeSpec := { name := "kern1Drops", fn := fun _ => fun
  | [] => { results := [.lit (.bool true)], args := [] }
  | _ => none }
def kern1DropsRow : OpenClaim := { program := "ytdhhfiaepnemcaagreat", sum := "3387d5254854ef2e102a39fd11c1072f81760f077bd81d1d327197cfdd5f5ec9", func := "transom/transomlaw22.Kern1Drops", spec := "kern1Drops", inPlace := ["slices.overlaps[transom/api.Pair]"], unfollowed := true, recurses := true, apart := false }
def Kern1DropsSaid : Prop := kern1DropsRow.holds Tryz.pinned (OpenSpec.ofChange kern1DropsSpec)

/-- ITS FALSE NEIGHBOUR: 'it returns false'. Refute it at one input. -/
def kern1DropsWrong : ChangeSpec := { name := "kern1Drops", fn := fun _ => fun
  | [] => { results := [.lit (.bool false)], args := [] }
  | _ => none }
def Kern1DropsWrongFalsely : Prop := kern1DropsRow.holds Tryz.pinned (OpenSpec.ofChange kern1DropsWrong)

/-- 'transomlaw22.Kern1Stats': WHATEVER THE INPUT: true; the input reads as it did. -/
def kern1StatsSpec : ChangeSpec := { name := "kern1Stats", fn := fun _ => fun
  | [d1, d2, d3] => { results := [.lit (.bool true)], args := [d1, d2, d3] }
  | _ => none }
def kern1StatsRow : OpenClaim := { program := "ytdhhfiaepnemcaagreat", sum := "3387d5254854ef2e102a39fd11c1072f81760f077bd81d1d327197cfdd5f5ec9", func := "transom/transomlaw22.Kern1Stats", spec := "kern1Stats", inPlace := ["slices.overlaps[transom/api.Pair]"], unfollowed := true, recurses := true, apart := false }
def Kern1StatsSaid : Prop := kern1StatsRow.holds Tryz.pinned (OpenSpec.ofChange kern1StatsSpec)

/-- ITS FALSE NEIGHBOUR: 'it returns false'. Refute it at one input. -/
def kern1StatsWrong : ChangeSpec := { name := "kern1Stats", fn := fun _ => fun
  | [d1, d2, d3] => { results := [.lit (.bool false)], args := [d1, d2, d3] }
  | _ => none }
def Kern1StatsWrongFalsely : Prop := kern1StatsRow.holds Tryz.pinned (OpenSpec.ofChange kern1StatsWrong)

/-- 'transomlaw22.Kern1Order': WHATEVER THE INPUT: true; the input reads as it did. -/
def kern1OrderSpec : ChangeSpec := { name := "kern1Order", fn := fun _ => fun
  | [] => { results := [.lit (.bool true)], args := [] }
  | _ => none }
def kern1OrderRow : OpenClaim := { program := "ytdhhfiaepnemcaagreat", sum := "3387d5254854ef2e102a39fd11c1072f81760f077bd81d1d327197cfdd5f5ec9", func := "transom/transomlaw22.Kern1Order", spec := "kern1Order", inPlace := ["slices.overlaps[transom/api.Pair]"], unfollowed := true, recurses := true, apart := false }
def Kern1OrderSaid : Prop := kern1OrderRow.holds Tryz.pinned (OpenSpec.ofChange kern1OrderSpec)

/-- ITS FALSE NEIGHBOUR: 'it returns false'. Refute it at one input. -/
def kern1OrderWrong : ChangeSpec := { name := "kern1Order", fn := fun _ => fun
  | [] => { results := [.lit (.bool false)], args := [] }
  | _ => none }
def Kern1OrderWrongFalsely : Prop := kern1OrderRow.holds Tryz.pinned (OpenSpec.ofChange kern1OrderWrong)

/-- 'transomlaw24.ShimLevels': WHATEVER THE INPUT: true; the input reads as it did. -/
def shimLevelsSpec : ChangeSpec := { name := "shimLevels", fn := fun _ => fun
  | [] => { results := [.lit (.bool true)], args := [] }
  | _ => none }
def shimLevelsRow : OpenClaim := { program := "ytdhhfiaepnemcaagreat", sum := "3387d5254854ef2e102a39fd11c1072f81760f077bd81d1d327197cfdd5f5ec9", func := "transom/transomlaw24.ShimLevels", spec := "shimLevels", inPlace := ["slices.overlaps[transom/api.Pair]"], unfollowed := true, recurses := true, apart := false }
def ShimLevelsSaid : Prop := shimLevelsRow.holds Tryz.pinned (OpenSpec.ofChange shimLevelsSpec)

/-- ITS FALSE NEIGHBOUR: 'it returns false'. Refute it at one input. -/
def shimLevelsWrong : ChangeSpec := { name := "shimLevels", fn := fun _ => fun
  | [] => { results := [.lit (.bool false)], args := [] }
  | _ => none }
def ShimLevelsWrongFalsely : Prop := shimLevelsRow.holds Tryz.pinned (OpenSpec.ofChange shimLevelsWrong)

/-- 'transomlaw29.ModelForms': WHATEVER THE INPUT: true; the input reads as it did. -/
def modelFormsSpec : ChangeSpec := { name := "modelForms", fn := fun _ => fun
  | [] => { results := [.lit (.bool true)], args := [] }
  | _ => none }
def modelFormsRow : OpenClaim := { program := "ytdhhfiaepnemcaagreat", sum := "3387d5254854ef2e102a39fd11c1072f81760f077bd81d1d327197cfdd5f5ec9", func := "transom/transomlaw29.ModelForms", spec := "modelForms", inPlace := ["slices.overlaps[transom/api.Pair]"], unfollowed := true, recurses := true, apart := false }
def ModelFormsSaid : Prop := modelFormsRow.holds Tryz.pinned (OpenSpec.ofChange modelFormsSpec)

/-- ITS FALSE NEIGHBOUR: 'it returns false'. Refute it at one input. -/
def modelFormsWrong : ChangeSpec := { name := "modelForms", fn := fun _ => fun
  | [] => { results := [.lit (.bool false)], args := [] }
  | _ => none }
def ModelFormsWrongFalsely : Prop := modelFormsRow.holds Tryz.pinned (OpenSpec.ofChange modelFormsWrong)

/-- 'transomlaw29.ModelTags': WHATEVER THE INPUT: true; the input reads as it did. -/
def modelTagsSpec : ChangeSpec := { name := "modelTags", fn := fun _ => fun
  | [d1, d2] => { results := [.lit (.bool true)], args := [d1, d2] }
  | _ => none }
def modelTagsRow : OpenClaim := { program := "ytdhhfiaepnemcaagreat", sum := "3387d5254854ef2e102a39fd11c1072f81760f077bd81d1d327197cfdd5f5ec9", func := "transom/transomlaw29.ModelTags", spec := "modelTags", inPlace := ["slices.overlaps[transom/api.Pair]"], unfollowed := true, recurses := true, apart := false }
def ModelTagsSaid : Prop := modelTagsRow.holds Tryz.pinned (OpenSpec.ofChange modelTagsSpec)

/-- ITS FALSE NEIGHBOUR: 'it returns false'. Refute it at one input. -/
def modelTagsWrong : ChangeSpec := { name := "modelTags", fn := fun _ => fun
  | [d1, d2] => { results := [.lit (.bool false)], args := [d1, d2] }
  | _ => none }
def ModelTagsWrongFalsely : Prop := modelTagsRow.holds Tryz.pinned (OpenSpec.ofChange modelTagsWrong)

/-- 'transomlaw30.ScriptForms': WHATEVER THE INPUT: true; the input reads as it did. -/
def scriptFormsSpec : ChangeSpec := { name := "scriptForms", fn := fun _ => fun
  | [] => { results := [.lit (.bool true)], args := [] }
  | _ => none }
def scriptFormsRow : OpenClaim := { program := "ytdhhfiaepnemcaagreat", sum := "3387d5254854ef2e102a39fd11c1072f81760f077bd81d1d327197cfdd5f5ec9", func := "transom/transomlaw30.ScriptForms", spec := "scriptForms", inPlace := ["slices.overlaps[transom/api.Pair]"], unfollowed := true, recurses := true, apart := false }
def ScriptFormsSaid : Prop := scriptFormsRow.holds Tryz.pinned (OpenSpec.ofChange scriptFormsSpec)

/-- ITS FALSE NEIGHBOUR: 'it returns false'. Refute it at one input. -/
def scriptFormsWrong : ChangeSpec := { name := "scriptForms", fn := fun _ => fun
  | [] => { results := [.lit (.bool false)], args := [] }
  | _ => none }
def ScriptFormsWrongFalsely : Prop := scriptFormsRow.holds Tryz.pinned (OpenSpec.ofChange scriptFormsWrong)

/-- 'transomlaw30.MachineWhy': WHATEVER THE INPUT: true; the input reads as it did. -/
def machineWhySpec : ChangeSpec := { name := "machineWhy", fn := fun _ => fun
  | [] => { results := [.lit (.bool true)], args := [] }
  | _ => none }
def machineWhyRow : OpenClaim := { program := "ytdhhfiaepnemcaagreat", sum := "3387d5254854ef2e102a39fd11c1072f81760f077bd81d1d327197cfdd5f5ec9", func := "transom/transomlaw30.MachineWhy", spec := "machineWhy", inPlace := ["slices.overlaps[transom/api.Pair]"], unfollowed := true, recurses := true, apart := false }
def MachineWhySaid : Prop := machineWhyRow.holds Tryz.pinned (OpenSpec.ofChange machineWhySpec)

/-- ITS FALSE NEIGHBOUR: 'it returns false'. Refute it at one input. -/
def machineWhyWrong : ChangeSpec := { name := "machineWhy", fn := fun _ => fun
  | [] => { results := [.lit (.bool false)], args := [] }
  | _ => none }
def MachineWhyWrongFalsely : Prop := machineWhyRow.holds Tryz.pinned (OpenSpec.ofChange machineWhyWrong)

/- THE SECOND FORM. 'bulk': how many values and letters a reading holds, each counted each time it is reached (what is shared counts as often as it is met; a slice's spare places count too). A statement '..UptoSaid' is the law's where the arguments, and the package variables that the reading takes, are together of bulk at most 1048576: NARROWER than '..Said'. Prove '..Said' where nothing that the law and all that it calls make is longer than what came in: it says more and counts as full. Else prove '..UptoSaid'. A law counts once. -/
mutual
def uptoBulk {H : Type} : DataW H → Nat
  | .lit (.string bytes) => bytes.length + 1
  | .lit _ => 1
  | .nil => 1
  | .ptr d => uptoBulk d + 1
  | .slice elems spare => uptoBulkAll elems + uptoBulkAll spare + 1
  | .agg parts => uptoBulkAll parts + 1
  | .iface _ d => uptoBulk d + 1
  | .map entries => uptoBulkEntries entries + 1
  | .held _ => 1
def uptoBulkAll {H : Type} : List (DataW H) → Nat
  | [] => 0
  | d :: r => uptoBulk d + uptoBulkAll r
def uptoBulkEntries {H : Type} : List (Lit × DataW H) → Nat
  | [] => 0
  | x :: r => uptoBulkEntry x + uptoBulkEntries r
def uptoBulkEntry {H : Type} : Lit × DataW H → Nat
  | (.string bytes, d) => bytes.length + uptoBulk d + 1
  | (_, d) => uptoBulk d + 1
 end
def uptoSmall : (H : Type) → List (DataW H) → Bool := fun _ ds => decide (uptoBulkAll ds ≤ 1048576)
def OpenSpec.upto (s : _root_.Go.ChangeSpec) : _root_.Go.OpenSpec := { _root_.Go.OpenSpec.ofChange s with cond := some uptoSmall }

/-- 'transomlaw22.Kern1Cats', WHERE WHAT IT READS IS OF BULK AT MOST 1048576: true; the input reads as it did. -/
def kern1CatsUptoRow : OpenClaim := { program := "ytdhhfiaepnemcaagreat", sum := "3387d5254854ef2e102a39fd11c1072f81760f077bd81d1d327197cfdd5f5ec9", func := "transom/transomlaw22.Kern1Cats", spec := "kern1Cats", inPlace := ["slices.overlaps[transom/api.Pair]"], unfollowed := true, recurses := true, apart := false, narrowed := true }
def Kern1CatsUptoSaid : Prop := kern1CatsUptoRow.holds Tryz.pinned (OpenSpec.upto kern1CatsSpec)

/-- 'transomlaw22.Kern1Secrets', WHERE WHAT IT READS IS OF BULK AT MOST 1048576: true; the input reads as it did. -/
def kern1SecretsUptoRow : OpenClaim := { program := "ytdhhfiaepnemcaagreat", sum := "3387d5254854ef2e102a39fd11c1072f81760f077bd81d1d327197cfdd5f5ec9", func := "transom/transomlaw22.Kern1Secrets", spec := "kern1Secrets", inPlace := ["slices.overlaps[transom/api.Pair]"], unfollowed := true, recurses := true, apart := false, narrowed := true }
def Kern1SecretsUptoSaid : Prop := kern1SecretsUptoRow.holds Tryz.pinned (OpenSpec.upto kern1SecretsSpec)

/-- 'transomlaw22.Kern1Gates', WHERE WHAT IT READS IS OF BULK AT MOST 1048576: true; the input reads as it did. -/
def kern1GatesUptoRow : OpenClaim := { program := "ytdhhfiaepnemcaagreat", sum := "3387d5254854ef2e102a39fd11c1072f81760f077bd81d1d327197cfdd5f5ec9", func := "transom/transomlaw22.Kern1Gates", spec := "kern1Gates", inPlace := ["slices.overlaps[transom/api.Pair]"], unfollowed := true, recurses := true, apart := false, narrowed := true }
def Kern1GatesUptoSaid : Prop := kern1GatesUptoRow.holds Tryz.pinned (OpenSpec.upto kern1GatesSpec)

/-- 'transomlaw22.Kern1Boxes', WHERE WHAT IT READS IS OF BULK AT MOST 1048576: true; the input reads as it did. -/
def kern1BoxesUptoRow : OpenClaim := { program := "ytdhhfiaepnemcaagreat", sum := "3387d5254854ef2e102a39fd11c1072f81760f077bd81d1d327197cfdd5f5ec9", func := "transom/transomlaw22.Kern1Boxes", spec := "kern1Boxes", inPlace := ["slices.overlaps[transom/api.Pair]"], unfollowed := true, recurses := true, apart := false, narrowed := true }
def Kern1BoxesUptoSaid : Prop := kern1BoxesUptoRow.holds Tryz.pinned (OpenSpec.upto kern1BoxesSpec)

/-- 'transomlaw22.Kern1Drops', WHERE WHAT IT READS IS OF BULK AT MOST 1048576: true; the input reads as it did. -/
def kern1DropsUptoRow : OpenClaim := { program := "ytdhhfiaepnemcaagreat", sum := "3387d5254854ef2e102a39fd11c1072f81760f077bd81d1d327197cfdd5f5ec9", func := "transom/transomlaw22.Kern1Drops", spec := "kern1Drops", inPlace := ["slices.overlaps[transom/api.Pair]"], unfollowed := true, recurses := true, apart := false, narrowed := true }
def Kern1DropsUptoSaid : Prop := kern1DropsUptoRow.holds Tryz.pinned (OpenSpec.upto kern1DropsSpec)

/-- 'transomlaw22.Kern1Stats', WHERE WHAT IT READS IS OF BULK AT MOST 1048576: true; the input reads as it did. -/
def kern1StatsUptoRow : OpenClaim := { program := "ytdhhfiaepnemcaagreat", sum := "3387d5254854ef2e102a39fd11c1072f81760f077bd81d1d327197cfdd5f5ec9", func := "transom/transomlaw22.Kern1Stats", spec := "kern1Stats", inPlace := ["slices.overlaps[transom/api.Pair]"], unfollowed := true, recurses := true, apart := false, narrowed := true }
def Kern1StatsUptoSaid : Prop := kern1StatsUptoRow.holds Tryz.pinned (OpenSpec.upto kern1StatsSpec)

/-- 'transomlaw22.Kern1Order', WHERE WHAT IT READS IS OF BULK AT MOST 1048576: true; the input reads as it did. -/
def kern1OrderUptoRow : OpenClaim := { program := "ytdhhfiaepnemcaagreat", sum := "3387d5254854ef2e102a39fd11c1072f81760f077bd81d1d327197cfdd5f5ec9", func := "transom/transomlaw22.Kern1Order", spec := "kern1Order", inPlace := ["slices.overlaps[transom/api.Pair]"], unfollowed := true, recurses := true, apart := false, narrowed := true }
def Kern1OrderUptoSaid : Prop := kern1OrderUptoRow.holds Tryz.pinned (OpenSpec.upto kern1OrderSpec)

/-- 'transomlaw24.ShimLevels', WHERE WHAT IT READS IS OF BULK AT MOST 1048576: true; the input reads as it did. -/
def shimLevelsUptoRow : OpenClaim := { program := "ytdhhfiaepnemcaagreat", sum := "3387d5254854ef2e102a39fd11c1072f81760f077bd81d1d327197cfdd5f5ec9", func := "transom/transomlaw24.ShimLevels", spec := "shimLevels", inPlace := ["slices.overlaps[transom/api.Pair]"], unfollowed := true, recurses := true, apart := false, narrowed := true }
def ShimLevelsUptoSaid : Prop := shimLevelsUptoRow.holds Tryz.pinned (OpenSpec.upto shimLevelsSpec)

/-- 'transomlaw29.ModelForms', WHERE WHAT IT READS IS OF BULK AT MOST 1048576: true; the input reads as it did. -/
def modelFormsUptoRow : OpenClaim := { program := "ytdhhfiaepnemcaagreat", sum := "3387d5254854ef2e102a39fd11c1072f81760f077bd81d1d327197cfdd5f5ec9", func := "transom/transomlaw29.ModelForms", spec := "modelForms", inPlace := ["slices.overlaps[transom/api.Pair]"], unfollowed := true, recurses := true, apart := false, narrowed := true }
def ModelFormsUptoSaid : Prop := modelFormsUptoRow.holds Tryz.pinned (OpenSpec.upto modelFormsSpec)

/-- 'transomlaw29.ModelTags', WHERE WHAT IT READS IS OF BULK AT MOST 1048576: true; the input reads as it did. -/
def modelTagsUptoRow : OpenClaim := { program := "ytdhhfiaepnemcaagreat", sum := "3387d5254854ef2e102a39fd11c1072f81760f077bd81d1d327197cfdd5f5ec9", func := "transom/transomlaw29.ModelTags", spec := "modelTags", inPlace := ["slices.overlaps[transom/api.Pair]"], unfollowed := true, recurses := true, apart := false, narrowed := true }
def ModelTagsUptoSaid : Prop := modelTagsUptoRow.holds Tryz.pinned (OpenSpec.upto modelTagsSpec)

/-- 'transomlaw30.ScriptForms', WHERE WHAT IT READS IS OF BULK AT MOST 1048576: true; the input reads as it did. -/
def scriptFormsUptoRow : OpenClaim := { program := "ytdhhfiaepnemcaagreat", sum := "3387d5254854ef2e102a39fd11c1072f81760f077bd81d1d327197cfdd5f5ec9", func := "transom/transomlaw30.ScriptForms", spec := "scriptForms", inPlace := ["slices.overlaps[transom/api.Pair]"], unfollowed := true, recurses := true, apart := false, narrowed := true }
def ScriptFormsUptoSaid : Prop := scriptFormsUptoRow.holds Tryz.pinned (OpenSpec.upto scriptFormsSpec)

/-- 'transomlaw30.MachineWhy', WHERE WHAT IT READS IS OF BULK AT MOST 1048576: true; the input reads as it did. -/
def machineWhyUptoRow : OpenClaim := { program := "ytdhhfiaepnemcaagreat", sum := "3387d5254854ef2e102a39fd11c1072f81760f077bd81d1d327197cfdd5f5ec9", func := "transom/transomlaw30.MachineWhy", spec := "machineWhy", inPlace := ["slices.overlaps[transom/api.Pair]"], unfollowed := true, recurses := true, apart := false, narrowed := true }
def MachineWhyUptoSaid : Prop := machineWhyUptoRow.holds Tryz.pinned (OpenSpec.upto machineWhySpec)

end Rows
end Go.Proofs.YtdhhfiaepnemcaaGreat
