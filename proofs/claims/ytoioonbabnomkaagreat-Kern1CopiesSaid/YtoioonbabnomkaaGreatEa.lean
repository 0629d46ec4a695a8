/- The table of codes. Conditions: none. -/
import Derived.Test.YtoioonbabnomkaaGreatDa
import Derived.Test.YtoioonbabnomkaaGreatDb
import Derived.Test.YtoioonbabnomkaaGreatDc
import Derived.Test.YtoioonbabnomkaaGreatDd
set_option autoImplicit true
set_option relaxedAutoImplicit true
set_option maxRecDepth 100000
set_option maxHeartbeats 8000000
set_option linter.unusedSimpArgs false
set_option linter.unusedVariables false
set_option linter.unnecessarySimpa false
set_option linter.defProp false
namespace Go.Proofs.YtoioonbabnomkaaGreat.Am
section
open Go
abbrev lf:Tr jc:= .leaf
abbrev nd (a:Tr jc) (c:jc) (b:Tr jc):Tr jc:= .node a (some c) b
abbrev nl (c:jc):Tr jc:= .node .leaf (some c) .leaf
def HG:Tr jc:=(.node (.node (nd (.node (nd (nd (nd (nd (nl agb) ahn lf) Ib (nl TT)) M9 (nd (nl TY) c95 (nl agq))) c15 (nd (nd (nl ahd) Vi (nl agB)) c47 (nd (nl agQ) Mf lf))) none (nd (nd (nd (nd (nl af5) ahi lf) c71 lf) Vn (nd (nl agY) HE (nl agm))) Na (nd (nd (nl ag7) c87 (nl agx)) c55 (nd (nl agJ) ahs (nl TH))))) c3 (nd (nd (nd (nd (nd (nl TF) ahl lf) c67 (nl HD)) c35 (nd (nl ag1) Vf (nl c227))) tQ (nd (nd (nl aha) c83 (nl L8)) c51 (nd (nl agM) ahw (nl agj)))) Nb (nd (nd (nd (nd (nl af4) ahg lf) c75 (nl agC)) c43 (nd (nl agU) ahB lf)) Vo (nd (nd (nl ag5) c91 (nl agu)) c59 (nd (nl D6) ahp (nl agc)))))) none (nd (nd (nd (nd (nd (nd (nl c257) T8 lf) Ia (nl TS)) Ie (nd (nl ag3) c97 (nl TL))) Vr (nd (nd (nl ahb) c81 (nl agz)) c49 (nd (nl agO) ahy (nl TI)))) c9 (nd (nd (nd (nl T5) c73 lf) EL (nd (nl agW) ahC (nl LZ))) c25 (nd (nd (nl T2) c89 (nl agw)) Ic (nd (nl agH) ahq (nl age))))) c5 (nd (nd (nd (nd (nd (nl af7) ahj lf) c69 (nl agD)) c37 (nd (nl TW) ahF (nl agn))) c21 (nd (nd (nl ag9) Vh (nl TN)) c53 (nd (nl Ma) ahu (nl HA)))) Vs (nd (nd (nd (nl T4) Vj lf) c45 (nd (nl agS) c109 lf)) yV (nd (nd (nl D7) c93 (nl ags)) Vl (nd (nl agF) Ua lf)))))) none (.node (nd (nd (nd (nd (nd (nd (nl aga) T9 lf) c64 (nl agE)) c32 (nd (nl TX) M6 (nl agp))) Ig (nd (nd (nl ahc) c80 (nl agA)) Vm (nd (nl agP) ahz (nl agk)))) c8 (nd (nd (nd (nd (nl TE) T6 lf) c72 lf) c40 (nd (nl agX) ahD (nl L6))) c24 (nd (nd (nl ag6) Vg (nl c216)) A7 (nd (nl agI) ahr (nl agf))))) c4 (nd (nd (nd (nd (nd (nl af8) ahk lf) c68 (nl TP)) c36 (nd (nl ag0) Mg (nl ago))) su (nd (nd (nl T3) c84 (nl L7)) c52 (nd (nl agL) ahv (nl agi)))) Vt (nd (nd (nd (nd (nl TD) ahf lf) c76 lf) c44 (nd (nl agT) ahA lf)) c28 (nd (nd (nl ag4) c92 (nl agt)) c60 (nd (nl agG) aho (nl TG)))))) none (nd (nd (nd (nd (nd (nd (nl af9) ahm lf) c66 (nl TQ)) c34 (nd (nl ag2) c98 (nl TK))) c18 (nd (nd (nl Mc) c82 (nl agy)) c50 (nd (nl agN) ahx (nl HC)))) iK (nd (nd (nd (nl ahh) c74 lf) c42 (nd (nl agV) Ub (nl agl))) Vp (nd (nd (nl T0) c90 (nl agv)) c58 (nd (nl L9) Me (nl agd))))) c6 (nd (nd (nd (nd (nd (nl af6) T7 lf) c70 lf) c38 (nd (nl agZ) ahE (nl TJ))) EM (nd (nd (nl ag8) c86 (nl TM)) c54 (nd (nl agK) aht (nl agh)))) c14 (nd (nd (nd (nl ahe) M8 lf) c46 (nd (nl agR) Ak lf)) c30 (nd (nd (nl TZ) c94 (nl agr)) Vk (nd (nl TU) Md (nl c254))))))))
def tb:qx:={fn:=fun n=>HG.get n,nat:=fun n=>none,dV:=fun n=>(HG.get n).isSome}
end
end Go.Proofs.YtoioonbabnomkaaGreat.Am
