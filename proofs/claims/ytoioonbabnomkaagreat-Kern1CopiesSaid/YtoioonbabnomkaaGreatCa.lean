/- How codes are read off the program. Conditions: none. -/
import Derived.Test.YtoioonbabnomkaaGreatPb
import Derived.Test.YtoioonbabnomkaaGreatChecked
set_option autoImplicit true
set_option relaxedAutoImplicit true
set_option maxRecDepth 100000
set_option maxHeartbeats 8000000
set_option linter.unusedSimpArgs false
set_option linter.unusedVariables false
set_option linter.unnecessarySimpa false
set_option linter.defProp false
namespace Go.Proofs.YtoioonbabnomkaaGreat.Am
section
open Go
def zaa:cO->List (List RO)
 | .cA l| .jG l _=>[l]
 | .seq a b| .Ag a b| .cond _ a b=>zaa a++zaa b
 | .block _ a| .loop a| .scope a=>zaa a
 |_=>[]
def zab:cO->List (List RO)->(cO->List (List RO)->cO)->cO
 | .cA _,l::L,k=>k (.cA l) L
 | .jG _ u,l::L,k=>k (.jG l u) L
 | .seq a b,L,k=>zab a L fun x L=>zab b L fun y L=>k (.seq x y) L
 | .Ag a b,L,k=>zab a L fun x L=>zab b L fun y L=>k (.Ag x y) L
 | .cond o a b,L,k=>zab a L fun x L=>zab b L fun y L=>k (.cond o x y) L
 | .block i a,L,k=>zab a L fun x L=>k (.block i x) L
 | .loop a,L,k=>zab a L fun x L=>k (.loop x) L
 | .scope a,L,k=>zab a L fun x L=>k (.scope x) L
 |a,L,k=>k a L
def zac (x:jc) (L:List (List RO)):jc:=⟨zab x.code L fun a _=>a,x.ntmps,x.results⟩
abbrev zad (P:Program) (md:Mode) (f:Func):={c:jc//yc P md f=some c}
abbrev zae {p:jc->Prop} (x:Subtype p) (i:Nat) {l:List RO} (_:(zaa x.1.code)[i]? =some l:=by rfl):List RO:=l
abbrev zaf {p:jc->Prop} (x:Subtype p) (L:List (List RO)) {c:jc} (_:zac x.1 L=c):jc:=c
end
section
open Go Go.Proofs Go.Proofs.Tryz
noncomputable def Pf (n:Nat):Program:={(default:Program) with types:=⟨Tryz.types.toList.take n⟩,funcs:=Array.replicate 300 {(default:Func) with body:=some .ret}}
abbrev zag (f:Func) (md:Am.Mode:=⟨false,[]⟩) (n:Nat:=400) {c:jc} (h:yc (Pf n) md f=some c:=by conv=>lhs;cbv):zad (Pf n) md f:=⟨c,h⟩
end
end Go.Proofs.YtoioonbabnomkaaGreat.Am
