/-
  No cell of these rows narrows 'for every input' (looked for: loops, veiled, ifaces, maps, wideKeys, modest, calm, conditions, laid).
  DERIVED. THE GIVEN ROWS OF THIS SEAT. 11 by the template 'for every input the law returns true; each argument reads behind the call as it read before'; 0 by the template 'total and deterministic' (their statements: YtchomcffeiheeaaTotals.lean).
  GIVEN WITH THE SEED: the statements are not yours to turn. If you find one false, say at which input.
  Laid BY PROGRAM, IN A SANDBOX (cutbox-rows.mjs): the forced cells as the released guide's own fill.sh prints them over the translation 716a69e5f87e0b2a… (all of the seat's roots in one cut). By AI agents, Wed Nov 11 2026. No macro, syntax, notation, axiom, sorry.
-/
import Derived.Test.YtchomcffeiheeaaChecked
import GoSem.Claim
import GoSem.ClaimJoined
import GoSem.ClaimMapViews
import Derived.JoinedTies
import Derived.KernelRfl
namespace Go.Proofs.Ytchomcffeiheeaa
/- THE CELL 'sum', in the pinned program and in every row, IS THE sha256 OF THE DUMP (.gsa) THAT YtchomcffeiheeaaProg.lean LOADS. Nothing in Lean hashes anything: it is a label: what it is worth is what the hold of that sum in a sandbox is worth. -/
noncomputable def Try.pinned : Pinned := { name := "ytchomcffeiheeaa", sum := "716a69e5f87e0b2ac952f4bfd0cb53fc02212ec42d68a4dac13db8fba2a4a520", checked := Try.checked }
namespace Rows
def none {H : Type} : Left H := { results := [], args := [] }

/-- 'transomlaw25.QuietAll': WHATEVER THE INPUT: true; the input reads as it did. -/
def quietAllSpec : ChangeSpec := { name := "quietAll", fn := fun _ => fun
  | [d] => { results := [.lit (.bool true)], args := [d] }
  | _ => none }
def quietAllRow : OpenClaim := { program := "ytchomcffeiheeaa", sum := "716a69e5f87e0b2ac952f4bfd0cb53fc02212ec42d68a4dac13db8fba2a4a520", func := "transom/transomlaw25.QuietAll", spec := "quietAll", apart := false }
def QuietAllSaid : Prop := quietAllRow.holds Try.pinned (OpenSpec.ofChange quietAllSpec)

/-- ITS FALSE NEIGHBOUR: 'it returns false'. Refute it at one input. -/
def quietAllWrong : ChangeSpec := { name := "quietAll", fn := fun _ => fun
  | [d] => { results := [.lit (.bool false)], args := [d] }
  | _ => none }
def QuietAllWrongFalsely : Prop := quietAllRow.holds Try.pinned (OpenSpec.ofChange quietAllWrong)

/-- 'transomlaw25.QuietForms': WHATEVER THE INPUT: true; the input reads as it did. -/
def quietFormsSpec : ChangeSpec := { name := "quietForms", fn := fun _ => fun
  | [] => { results := [.lit (.bool true)], args := [] }
  | _ => none }
def quietFormsRow : OpenClaim := { program := "ytchomcffeiheeaa", sum := "716a69e5f87e0b2ac952f4bfd0cb53fc02212ec42d68a4dac13db8fba2a4a520", func := "transom/transomlaw25.QuietForms", spec := "quietForms", apart := false }
def QuietFormsSaid : Prop := quietFormsRow.holds Try.pinned (OpenSpec.ofChange quietFormsSpec)

/-- ITS FALSE NEIGHBOUR: 'it returns false'. Refute it at one input. -/
def quietFormsWrong : ChangeSpec := { name := "quietForms", fn := fun _ => fun
  | [] => { results := [.lit (.bool false)], args := [] }
  | _ => none }
def QuietFormsWrongFalsely : Prop := quietFormsRow.holds Try.pinned (OpenSpec.ofChange quietFormsWrong)

/-- 'transomlaw25.QuietSums': WHATEVER THE INPUT: true; the input reads as it did. -/
def quietSumsSpec : ChangeSpec := { name := "quietSums", fn := fun _ => fun
  | [d] => { results := [.lit (.bool true)], args := [d] }
  | _ => none }
def quietSumsRow : OpenClaim := { program := "ytchomcffeiheeaa", sum := "716a69e5f87e0b2ac952f4bfd0cb53fc02212ec42d68a4dac13db8fba2a4a520", func := "transom/transomlaw25.QuietSums", spec := "quietSums", apart := false }
def QuietSumsSaid : Prop := quietSumsRow.holds Try.pinned (OpenSpec.ofChange quietSumsSpec)

/-- ITS FALSE NEIGHBOUR: 'it returns false'. Refute it at one input. -/
def quietSumsWrong : ChangeSpec := { name := "quietSums", fn := fun _ => fun
  | [d] => { results := [.lit (.bool false)], args := [d] }
  | _ => none }
def QuietSumsWrongFalsely : Prop := quietSumsRow.holds Try.pinned (OpenSpec.ofChange quietSumsWrong)

/-- 'transomlaw12.FrameApart': WHATEVER THE INPUT: true; the input reads as it did. -/
def frameApartSpec : ChangeSpec := { name := "frameApart", fn := fun _ => fun
  | [d1, d2, d3] => { results := [.lit (.bool true)], args := [d1, d2, d3] }
  | _ => none }
def frameApartRow : OpenClaim := { program := "ytchomcffeiheeaa", sum := "716a69e5f87e0b2ac952f4bfd0cb53fc02212ec42d68a4dac13db8fba2a4a520", func := "transom/transomlaw12.FrameApart", spec := "frameApart", apart := false }
def FrameApartSaid : Prop := frameApartRow.holds Try.pinned (OpenSpec.ofChange frameApartSpec)

/-- ITS FALSE NEIGHBOUR: 'it returns false'. Refute it at one input. -/
def frameApartWrong : ChangeSpec := { name := "frameApart", fn := fun _ => fun
  | [d1, d2, d3] => { results := [.lit (.bool false)], args := [d1, d2, d3] }
  | _ => none }
def FrameApartWrongFalsely : Prop := frameApartRow.holds Try.pinned (OpenSpec.ofChange frameApartWrong)

/-- 'transomlaw12.FrameAll': WHATEVER THE INPUT: true; the input reads as it did. -/
def frameAllSpec : ChangeSpec := { name := "frameAll", fn := fun _ => fun
  | [d1, d2] => { results := [.lit (.bool true)], args := [d1, d2] }
  | _ => none }
def frameAllRow : OpenClaim := { program := "ytchomcffeiheeaa", sum := "716a69e5f87e0b2ac952f4bfd0cb53fc02212ec42d68a4dac13db8fba2a4a520", func := "transom/transomlaw12.FrameAll", spec := "frameAll", apart := false }
def FrameAllSaid : Prop := frameAllRow.holds Try.pinned (OpenSpec.ofChange frameAllSpec)

/-- ITS FALSE NEIGHBOUR: 'it returns false'. Refute it at one input. -/
def frameAllWrong : ChangeSpec := { name := "frameAll", fn := fun _ => fun
  | [d1, d2] => { results := [.lit (.bool false)], args := [d1, d2] }
  | _ => none }
def FrameAllWrongFalsely : Prop := frameAllRow.holds Try.pinned (OpenSpec.ofChange frameAllWrong)

/-- 'transomlaw12.FrameClean': WHATEVER THE INPUT: true; the input reads as it did. -/
def frameCleanSpec : ChangeSpec := { name := "frameClean", fn := fun _ => fun
  | [d1, d2] => { results := [.lit (.bool true)], args := [d1, d2] }
  | _ => none }
def frameCleanRow : OpenClaim := { program := "ytchomcffeiheeaa", sum := "716a69e5f87e0b2ac952f4bfd0cb53fc02212ec42d68a4dac13db8fba2a4a520", func := "transom/transomlaw12.FrameClean", spec := "frameClean", apart := false }
def FrameCleanSaid : Prop := frameCleanRow.holds Try.pinned (OpenSpec.ofChange frameCleanSpec)

/-- ITS FALSE NEIGHBOUR: 'it returns false'. Refute it at one input. -/
def frameCleanWrong : ChangeSpec := { name := "frameClean", fn := fun _ => fun
  | [d1, d2] => { results := [.lit (.bool false)], args := [d1, d2] }
  | _ => none }
def FrameCleanWrongFalsely : Prop := frameCleanRow.holds Try.pinned (OpenSpec.ofChange frameCleanWrong)

/-- 'transomlaw12.FrameFull': WHATEVER THE INPUT: true; the input reads as it did. -/
def frameFullSpec : ChangeSpec := { name := "frameFull", fn := fun _ => fun
  | [d1, d2] => { results := [.lit (.bool true)], args := [d1, d2] }
  | _ => none }
def frameFullRow : OpenClaim := { program := "ytchomcffeiheeaa", sum := "716a69e5f87e0b2ac952f4bfd0cb53fc02212ec42d68a4dac13db8fba2a4a520", func := "transom/transomlaw12.FrameFull", spec := "frameFull", apart := false }
def FrameFullSaid : Prop := frameFullRow.holds Try.pinned (OpenSpec.ofChange frameFullSpec)

/-- ITS FALSE NEIGHBOUR: 'it returns false'. Refute it at one input. -/
def frameFullWrong : ChangeSpec := { name := "frameFull", fn := fun _ => fun
  | [d1, d2] => { results := [.lit (.bool false)], args := [d1, d2] }
  | _ => none }
def FrameFullWrongFalsely : Prop := frameFullRow.holds Try.pinned (OpenSpec.ofChange frameFullWrong)

/-- 'transomlaw13.PagesParts': WHATEVER THE INPUT: true; the input reads as it did. -/
def pagesPartsSpec : ChangeSpec := { name := "pagesParts", fn := fun _ => fun
  | [d1, d2, d3, d4] => { results := [.lit (.bool true)], args := [d1, d2, d3, d4] }
  | _ => none }
def pagesPartsRow : OpenClaim := { program := "ytchomcffeiheeaa", sum := "716a69e5f87e0b2ac952f4bfd0cb53fc02212ec42d68a4dac13db8fba2a4a520", func := "transom/transomlaw13.PagesParts", spec := "pagesParts", apart := false }
def PagesPartsSaid : Prop := pagesPartsRow.holds Try.pinned (OpenSpec.ofChange pagesPartsSpec)

/-- ITS FALSE NEIGHBOUR: 'it returns false'. Refute it at one input. -/
def pagesPartsWrong : ChangeSpec := { name := "pagesParts", fn := fun _ => fun
  | [d1, d2, d3, d4] => { results := [.lit (.bool false)], args := [d1, d2, d3, d4] }
  | _ => none }
def PagesPartsWrongFalsely : Prop := pagesPartsRow.holds Try.pinned (OpenSpec.ofChange pagesPartsWrong)

/-- 'transomlaw13.PagesAll': WHATEVER THE INPUT: true; the input reads as it did. -/
def pagesAllSpec : ChangeSpec := { name := "pagesAll", fn := fun _ => fun
  | [d1, d2] => { results := [.lit (.bool true)], args := [d1, d2] }
  | _ => none }
def pagesAllRow : OpenClaim := { program := "ytchomcffeiheeaa", sum := "716a69e5f87e0b2ac952f4bfd0cb53fc02212ec42d68a4dac13db8fba2a4a520", func := "transom/transomlaw13.PagesAll", spec := "pagesAll", apart := false }
def PagesAllSaid : Prop := pagesAllRow.holds Try.pinned (OpenSpec.ofChange pagesAllSpec)

/-- ITS FALSE NEIGHBOUR: 'it returns false'. Refute it at one input. -/
def pagesAllWrong : ChangeSpec := { name := "pagesAll", fn := fun _ => fun
  | [d1, d2] => { results := [.lit (.bool false)], args := [d1, d2] }
  | _ => none }
def PagesAllWrongFalsely : Prop := pagesAllRow.holds Try.pinned (OpenSpec.ofChange pagesAllWrong)

/-- 'transomlaw13.PagesApart': WHATEVER THE INPUT: true; the input reads as it did. -/
def pagesApartSpec : ChangeSpec := { name := "pagesApart", fn := fun _ => fun
  | [d1, d2, d3] => { results := [.lit (.bool true)], args := [d1, d2, d3] }
  | _ => none }
def pagesApartRow : OpenClaim := { program := "ytchomcffeiheeaa", sum := "716a69e5f87e0b2ac952f4bfd0cb53fc02212ec42d68a4dac13db8fba2a4a520", func := "transom/transomlaw13.PagesApart", spec := "pagesApart", apart := false }
def PagesApartSaid : Prop := pagesApartRow.holds Try.pinned (OpenSpec.ofChange pagesApartSpec)

/-- ITS FALSE NEIGHBOUR: 'it returns false'. Refute it at one input. -/
def pagesApartWrong : ChangeSpec := { name := "pagesApart", fn := fun _ => fun
  | [d1, d2, d3] => { results := [.lit (.bool false)], args := [d1, d2, d3] }
  | _ => none }
def PagesApartWrongFalsely : Prop := pagesApartRow.holds Try.pinned (OpenSpec.ofChange pagesApartWrong)

/-- 'transomlaw13.PagesFull': WHATEVER THE INPUT: true; the input reads as it did. -/
def pagesFullSpec : ChangeSpec := { name := "pagesFull", fn := fun _ => fun
  | [d1, d2] => { results := [.lit (.bool true)], args := [d1, d2] }
  | _ => none }
def pagesFullRow : OpenClaim := { program := "ytchomcffeiheeaa", sum := "716a69e5f87e0b2ac952f4bfd0cb53fc02212ec42d68a4dac13db8fba2a4a520", func := "transom/transomlaw13.PagesFull", spec := "pagesFull", apart := false }
def PagesFullSaid : Prop := pagesFullRow.holds Try.pinned (OpenSpec.ofChange pagesFullSpec)

/-- ITS FALSE NEIGHBOUR: 'it returns false'. Refute it at one input. -/
def pagesFullWrong : ChangeSpec := { name := "pagesFull", fn := fun _ => fun
  | [d1, d2] => { results := [.lit (.bool false)], args := [d1, d2] }
  | _ => none }
def PagesFullWrongFalsely : Prop := pagesFullRow.holds Try.pinned (OpenSpec.ofChange pagesFullWrong)

/- THE SECOND FORM. 'bulk': how many values and letters a reading holds, each counted each time it is reached (what is shared counts as often as it is met; a slice's spare places count too). A statement '..UptoSaid' is the law's where the arguments, and the package variables that the reading takes, are together of bulk at most 1048576: NARROWER than '..Said'. Prove '..Said' where nothing that the law and all that it calls make is longer than what came in: it says more and counts as full. Else prove '..UptoSaid'. A law counts once. -/
mutual
def uptoBulk {H : Type} : DataW H → Nat
  | .lit (.string bytes) => bytes.length + 1
  | .lit _ => 1
  | .nil => 1
  | .ptr d => uptoBulk d + 1
  | .slice elems spare => uptoBulkAll elems + uptoBulkAll spare + 1
  | .agg parts => uptoBulkAll parts + 1
  | .iface _ d => uptoBulk d + 1
  | .map entries => uptoBulkEntries entries + 1
  | .held _ => 1
def uptoBulkAll {H : Type} : List (DataW H) → Nat
  | [] => 0
  | d :: r => uptoBulk d + uptoBulkAll r
def uptoBulkEntries {H : Type} : List (Lit × DataW H) → Nat
  | [] => 0
  | x :: r => uptoBulkEntry x + uptoBulkEntries r
def uptoBulkEntry {H : Type} : Lit × DataW H → Nat
  | (.string bytes, d) => bytes.length + uptoBulk d + 1
  | (_, d) => uptoBulk d + 1
 end
def uptoSmall : (H : Type) → List (DataW H) → Bool := fun _ ds => decide (uptoBulkAll ds ≤ 1048576)
def OpenSpec.upto (s : _root_.Go.ChangeSpec) : _root_.Go.OpenSpec := { _root_.Go.OpenSpec.ofChange s with cond := some uptoSmall }

/-- 'transomlaw25.QuietAll', WHERE WHAT IT READS IS OF BULK AT MOST 1048576: true; the input reads as it did. -/
def quietAllUptoRow : OpenClaim := { program := "ytchomcffeiheeaa", sum := "716a69e5f87e0b2ac952f4bfd0cb53fc02212ec42d68a4dac13db8fba2a4a520", func := "transom/transomlaw25.QuietAll", spec := "quietAll", apart := false, narrowed := true }
def QuietAllUptoSaid : Prop := quietAllUptoRow.holds Try.pinned (OpenSpec.upto quietAllSpec)

/-- 'transomlaw25.QuietForms', WHERE WHAT IT READS IS OF BULK AT MOST 1048576: true; the input reads as it did. -/
def quietFormsUptoRow : OpenClaim := { program := "ytchomcffeiheeaa", sum := "716a69e5f87e0b2ac952f4bfd0cb53fc02212ec42d68a4dac13db8fba2a4a520", func := "transom/transomlaw25.QuietForms", spec := "quietForms", apart := false, narrowed := true }
def QuietFormsUptoSaid : Prop := quietFormsUptoRow.holds Try.pinned (OpenSpec.upto quietFormsSpec)

/-- 'transomlaw25.QuietSums', WHERE WHAT IT READS IS OF BULK AT MOST 1048576: true; the input reads as it did. -/
def quietSumsUptoRow : OpenClaim := { program := "ytchomcffeiheeaa", sum := "716a69e5f87e0b2ac952f4bfd0cb53fc02212ec42d68a4dac13db8fba2a4a520", func := "transom/transomlaw25.QuietSums", spec := "quietSums", apart := false, narrowed := true }
def QuietSumsUptoSaid : Prop := quietSumsUptoRow.holds Try.pinned (OpenSpec.upto quietSumsSpec)

/-- 'transomlaw12.FrameApart', WHERE WHAT IT READS IS OF BULK AT MOST 1048576: true; the input reads as it did. -/
def frameApartUptoRow : OpenClaim := { program := "ytchomcffeiheeaa", sum := "716a69e5f87e0b2ac952f4bfd0cb53fc02212ec42d68a4dac13db8fba2a4a520", func := "transom/transomlaw12.FrameApart", spec := "frameApart", apart := false, narrowed := true }
def FrameApartUptoSaid : Prop := frameApartUptoRow.holds Try.pinned (OpenSpec.upto frameApartSpec)

/-- 'transomlaw12.FrameAll', WHERE WHAT IT READS IS OF BULK AT MOST 1048576: true; the input reads as it did. -/
def frameAllUptoRow : OpenClaim := { program := "ytchomcffeiheeaa", sum := "716a69e5f87e0b2ac952f4bfd0cb53fc02212ec42d68a4dac13db8fba2a4a520", func := "transom/transomlaw12.FrameAll", spec := "frameAll", apart := false, narrowed := true }
def FrameAllUptoSaid : Prop := frameAllUptoRow.holds Try.pinned (OpenSpec.upto frameAllSpec)

/-- 'transomlaw12.FrameClean', WHERE WHAT IT READS IS OF BULK AT MOST 1048576: true; the input reads as it did. -/
def frameCleanUptoRow : OpenClaim := { program := "ytchomcffeiheeaa", sum := "716a69e5f87e0b2ac952f4bfd0cb53fc02212ec42d68a4dac13db8fba2a4a520", func := "transom/transomlaw12.FrameClean", spec := "frameClean", apart := false, narrowed := true }
def FrameCleanUptoSaid : Prop := frameCleanUptoRow.holds Try.pinned (OpenSpec.upto frameCleanSpec)

/-- 'transomlaw12.FrameFull', WHERE WHAT IT READS IS OF BULK AT MOST 1048576: true; the input reads as it did. -/
def frameFullUptoRow : OpenClaim := { program := "ytchomcffeiheeaa", sum := "716a69e5f87e0b2ac952f4bfd0cb53fc02212ec42d68a4dac13db8fba2a4a520", func := "transom/transomlaw12.FrameFull", spec := "frameFull", apart := false, narrowed := true }
def FrameFullUptoSaid : Prop := frameFullUptoRow.holds Try.pinned (OpenSpec.upto frameFullSpec)

/-- 'transomlaw13.PagesParts', WHERE WHAT IT READS IS OF BULK AT MOST 1048576: true; the input reads as it did. -/
def pagesPartsUptoRow : OpenClaim := { program := "ytchomcffeiheeaa", sum := "716a69e5f87e0b2ac952f4bfd0cb53fc02212ec42d68a4dac13db8fba2a4a520", func := "transom/transomlaw13.PagesParts", spec := "pagesParts", apart := false, narrowed := true }
def PagesPartsUptoSaid : Prop := pagesPartsUptoRow.holds Try.pinned (OpenSpec.upto pagesPartsSpec)

/-- 'transomlaw13.PagesAll', WHERE WHAT IT READS IS OF BULK AT MOST 1048576: true; the input reads as it did. -/
def pagesAllUptoRow : OpenClaim := { program := "ytchomcffeiheeaa", sum := "716a69e5f87e0b2ac952f4bfd0cb53fc02212ec42d68a4dac13db8fba2a4a520", func := "transom/transomlaw13.PagesAll", spec := "pagesAll", apart := false, narrowed := true }
def PagesAllUptoSaid : Prop := pagesAllUptoRow.holds Try.pinned (OpenSpec.upto pagesAllSpec)

/-- 'transomlaw13.PagesApart', WHERE WHAT IT READS IS OF BULK AT MOST 1048576: true; the input reads as it did. -/
def pagesApartUptoRow : OpenClaim := { program := "ytchomcffeiheeaa", sum := "716a69e5f87e0b2ac952f4bfd0cb53fc02212ec42d68a4dac13db8fba2a4a520", func := "transom/transomlaw13.PagesApart", spec := "pagesApart", apart := false, narrowed := true }
def PagesApartUptoSaid : Prop := pagesApartUptoRow.holds Try.pinned (OpenSpec.upto pagesApartSpec)

/-- 'transomlaw13.PagesFull', WHERE WHAT IT READS IS OF BULK AT MOST 1048576: true; the input reads as it did. -/
def pagesFullUptoRow : OpenClaim := { program := "ytchomcffeiheeaa", sum := "716a69e5f87e0b2ac952f4bfd0cb53fc02212ec42d68a4dac13db8fba2a4a520", func := "transom/transomlaw13.PagesFull", spec := "pagesFull", apart := false, narrowed := true }
def PagesFullUptoSaid : Prop := pagesFullUptoRow.holds Try.pinned (OpenSpec.upto pagesFullSpec)

end Rows
end Go.Proofs.Ytchomcffeiheeaa
