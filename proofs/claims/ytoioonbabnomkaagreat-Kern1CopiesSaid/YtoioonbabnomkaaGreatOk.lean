/- The codes are those of the program. Conditions: none. -/
import Derived.Test.YtoioonbabnomkaaGreatEa
import Derived.Test.YtoioonbabnomkaaGreatChecked
import Derived.KernelRfl
set_option maxRecDepth 100000
set_option linter.unusedVariables false
namespace Go.Proofs.YtoioonbabnomkaaGreat.Am
open Go Go.Proofs.YtoioonbabnomkaaGreat
def aSU:Nat->Mode
 |26=>⟨false,[49]⟩
 |27=>⟨false,[69]⟩
 |45=>⟨false,[19]⟩
 |49=>⟨false,[11]⟩
 |51=>⟨false,[23]⟩
 |93=>⟨false,[23]⟩
 |100=>⟨false,[27]⟩
 |138=>⟨true,[33]⟩
 |162=>⟨false,[6]⟩
 |175=>⟨true,[]⟩
 |254=>⟨false,[26]⟩
 |257=>⟨false,[25,77,82]⟩
 |_=>⟨false,[]⟩
theorem aNM:HG.yw.map (fun e=>(Tryz.prog.funcs[e.1]?).bind (yc Tryz.prog (aSU e.1)))=HG.yw.map (fun e=>some e.2):=by kernel_rfl
theorem aMt: ∀e∈HG.yw,∃fn md,Tryz.prog.funcs[e.1]? =some fn/\yc Tryz.prog md fn=some e.2:=fun e he=>by
 have h:=List.map_inj_left.1 aNM e he
 obtain⟨fn,h1,h2⟩:=Option.bind_eq_some_iff.1 h
 exact⟨fn,_,h1,h2⟩
theorem aJK: ∀e∈HG.yw,dV Tryz.prog e.1=true:=by
 refine List.all_eq_true.1 (?_:List.all _ (fun e:Nat×jc=>dV Tryz.prog e.1)=true)
 kernel_rfl
theorem tb_ok:aA Tryz.prog tb where
 follow:=by kernel_rfl
 fn f rf h:=aMt (f,rf) (Tr.IJ h)
 nat f g h:=by cases h
 dV f h:=by
  obtain⟨rf,hr⟩:=Option.isSome_iff_exists.1 h
  exact aJK (f,rf) (Tr.IJ hr)
end Go.Proofs.YtoioonbabnomkaaGreat.Am
