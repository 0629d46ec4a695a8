/- The program's functions as code of the abstract machine. Conditions: none. -/
import Derived.Test.YtoioonbabnomkaaGreatCa
set_option autoImplicit true
set_option relaxedAutoImplicit true
set_option maxRecDepth 100000
set_option maxHeartbeats 8000000
set_option linter.unusedSimpArgs false
set_option linter.unusedVariables false
set_option linter.unnecessarySimpa false
set_option linter.defProp false
namespace Go.Proofs.YtoioonbabnomkaaGreat.Am
section
open Go Go.Proofs Go.Proofs.Tryz
def wo:=zag f56
def aAt:=zae wo 0
def aef:=zae wo 1
def aAs:=zae wo 2
def aee:=zae wo 3
def Sx:=zae wo 4
def Sw:=zae wo 5
def aOD:=zae wo 6
def aed:=zae wo 7
def aAr:=zae wo 8
def A7:=zaf wo [aAt,aef,aAs,aee,Sx,Sw,aOD,aed,aAr] (by conv=>lhs;simp only[zac,zab,wo,zag])
def Ad:=zag f57
def aAq:=zae Ad 0
def aAp:=zae Ad 1
def Sv:=zae Ad 2
def aec:=zae Ad 3
def aAo:=zae Ad 4
def aAn:=zae Ad 5
def aAm:=zae Ad 6
def Ic:=zaf Ad [aAq,aAp,Sv,aec,aAo,aAn,aAm] (by conv=>lhs;simp only[zac,zab,Ad,zag])
def rR:=zag f58
def aAl:=zae rR 0
def aAk:=zae rR 1
def aAj:=zae rR 2
def Lc:=zae rR 3
def aeb:=zae rR 4
def aAi:=zae rR 5
def aAh:=zae rR 6
def aAg:=zae rR 7
def aAf:=zae rR 8
def Su:=zae rR 9
def X8:=zae rR 10
def anC:=zae rR 11
def c58:=zaf rR [aAl,aAk,aAj,Lc,aeb,aAi,aAh,aAg,aAf,Su,X8,anC] (by conv=>lhs;simp only[zac,zab,rR,zag])
def yi:=zag f59
def aAe:=zae yi 0
def aAd:=zae yi 1
def aAc:=zae yi 2
def aea:=zae yi 3
def aAb:=zae yi 4
def aAa:=zae yi 5
def az9:=zae yi 6
def az8:=zae yi 7
def c59:=zaf yi [aAe,aAd,aAc,aea,aAb,aAa,az9,az8] (by conv=>lhs;simp only[zac,zab,yi,zag])
def Ac:=zag f60
def azZ:=zae Ac 0
def azY:=zae Ac 1
def azX:=zae Ac 2
def ad5:=zae Ac 3
def azW:=zae Ac 4
def azV:=zae Ac 5
def azU:=zae Ac 6
def c60:=zaf Ac [azZ,azY,azX,ad5,azW,azV,azU] (by conv=>lhs;simp only[zac,zab,Ac,zag])
def SU:=zag f61
def ad4:=zae SU 0
def ad3:=zae SU 1
def Vl:=zaf SU [ad4,ad3] (by conv=>lhs;simp only[zac,zab,SU,zag])
def SS:=zag f62
def azT:=zae SS 0
def azS:=zae SS 1
def Vk:=zaf SS [azT,azS] (by conv=>lhs;simp only[zac,zab,SS,zag])
def uz:=zag f63
def La:=zae uz 0
def KT:=zae uz 1
def Sr:=zae uz 2
def azR:=zae uz 3
def ad2:=zae uz 4
def azQ:=zae uz 5
def azP:=zae uz 6
def G4:=zae uz 7
def ad1:=zae uz 8
def azO:=zae uz 9
def Ib:=zaf uz [La,KT,Sr,azR,ad2,azQ,azP,G4,ad1,azO] (by conv=>lhs;simp only[zac,zab,uz,zag])
def SR:=zag f64
def azN:=zae SR 0
def azM:=zae SR 1
def c64:=zaf SR [azN,azM] (by conv=>lhs;simp only[zac,zab,SR,zag])
def Ck:=zag f65
def azL:=zae Ck 0
def azK:=zae Ck 1
def azJ:=zae Ck 2
def ad0:=zae Ck 3
def azI:=zae Ck 4
def azH:=zae Ck 5
def Ia:=zaf Ck [azL,azK,azJ,ad0,azI,azH] (by conv=>lhs;simp only[zac,zab,Ck,zag])
def wk:=zag f66
def azG:=zae wk 0
def azF:=zae wk 1
def KR:=zae wk 2
def azE:=zae wk 3
def Sq:=zae wk 4
def adZ:=zae wk 5
def azD:=zae wk 6
def azC:=zae wk 7
def azB:=zae wk 8
def c66:=zaf wk [azG,azF,KR,azE,Sq,adZ,azD,azC,azB] (by conv=>lhs;simp only[zac,zab,wk,zag])
def pD:=zag f67
def azA:=zae pD 0
def azz:=zae pD 1
def azy:=zae pD 2
def azx:=zae pD 3
def adY:=zae pD 4
def azw:=zae pD 5
def azv:=zae pD 6
def So:=zae pD 7
def adX:=zae pD 8
def azu:=zae pD 9
def X7:=zae pD 10
def X6:=zae pD 11
def anB:=zae pD 12
def X5:=zae pD 13
def anA:=zae pD 14
def c67:=zaf pD [azA,azz,azy,azx,adY,azw,azv,So,adX,azu,X7,X6,anB,X5,anA] (by conv=>lhs;simp only[zac,zab,pD,zag])
def jn:=zag f68
def azt:=zae jn 0
def azs:=zae jn 1
def azr:=zae jn 2
def adW:=zae jn 3
def azq:=zae jn 4
def Sn:=zae jn 5
def Sm:=zae jn 6
def azp:=zae jn 7
def KQ:=zae jn 8
def azo:=zae jn 9
def zt:=zae jn 10
def O8:=zae jn 11
def zr:=zae jn 12
def X4:=zae jn 13
def XX:=zae jn 14
def anz:=zae jn 15
def anx:=zae jn 16
def anw:=zae jn 17
def XV:=zae jn 18
def anv:=zae jn 19
def anu:=zae jn 20
def ant:=zae jn 21
def ans:=zae jn 22
def anr:=zae jn 23
def anq:=zae jn 24
def c68:=zaf jn [azt,azs,azr,adW,azq,Sn,Sm,azp,KQ,azo,zt,O8,zr,X4,XX,anz,anx,anw,XV,anv,anu,ant,ans,anr,anq] (by conv=>lhs;simp only[zac,zab,jn,zag])
def DT:=zag f69
def azn:=zae DT 0
def azm:=zae DT 1
def Sk:=zae DT 2
def azl:=zae DT 3
def adV:=zae DT 4
def c69:=zaf DT [azn,azm,Sk,azl,adV] (by conv=>lhs;simp only[zac,zab,DT,zag])
def SQ:=zag f70
def azi:=zae SQ 0
def azh:=zae SQ 1
def c70:=zaf SQ [azi,azh] (by conv=>lhs;simp only[zac,zab,SQ,zag])
def SP:=zag f71
def azg:=zae SP 0
def azf:=zae SP 1
def c71:=zaf SP [azg,azf] (by conv=>lhs;simp only[zac,zab,SP,zag])
def SN:=zag f72
def aze:=zae SN 0
def azd:=zae SN 1
def c72:=zaf SN [aze,azd] (by conv=>lhs;simp only[zac,zab,SN,zag])
def Ab:=zag f73
def azc:=zae Ab 0
def azb:=zae Ab 1
def aza:=zae Ab 2
def adS:=zae Ab 3
def ay9:=zae Ab 4
def ay8:=zae Ab 5
def ay7:=zae Ab 6
def c73:=zaf Ab [azc,azb,aza,adS,ay9,ay8,ay7] (by conv=>lhs;simp only[zac,zab,Ab,zag])
def uy:=zag f74
def ay6:=zae uy 0
def ay5:=zae uy 1
def Sh:=zae uy 2
def ay4:=zae uy 3
def ay3:=zae uy 4
def ay2:=zae uy 5
def ay1:=zae uy 6
def Sg:=zae uy 7
def ay0:=zae uy 8
def adR:=zae uy 9
def c74:=zaf uy [ay6,ay5,Sh,ay4,ay3,ay2,ay1,Sg,ay0,adR] (by conv=>lhs;simp only[zac,zab,uy,zag])
def ux:=zag f75
def ayZ:=zae ux 0
def ayY:=zae ux 1
def ayX:=zae ux 2
def Sf:=zae ux 3
def ayW:=zae ux 4
def ayV:=zae ux 5
def adQ:=zae ux 6
def ayU:=zae ux 7
def ayT:=zae ux 8
def ayS:=zae ux 9
def c75:=zaf ux [ayZ,ayY,ayX,Sf,ayW,ayV,adQ,ayU,ayT,ayS] (by conv=>lhs;simp only[zac,zab,ux,zag])
def rQ:=zag f76
def ayR:=zae rQ 0
def ayQ:=zae rQ 1
def ayP:=zae rQ 2
def ayO:=zae rQ 3
def ayN:=zae rQ 4
def adP:=zae rQ 5
def ayM:=zae rQ 6
def ayL:=zae rQ 7
def ayK:=zae rQ 8
def ayJ:=zae rQ 9
def anp:=zae rQ 10
def ano:=zae rQ 11
def c76:=zaf rQ [ayR,ayQ,ayP,ayO,ayN,adP,ayM,ayL,ayK,ayJ,anp,ano] (by conv=>lhs;simp only[zac,zab,rQ,zag])
def eY:=zag f77
def ayI:=zae eY 0
def ayH:=zae eY 1
def ayG:=zae eY 2
def Se:=zae eY 3
def adO:=zae eY 4
def ayF:=zae eY 5
def adN:=zae eY 6
def ayE:=zae eY 7
def Sd:=zae eY 8
def ayD:=zae eY 9
def Jq:=zae eY 10
def O7:=zae eY 11
def ann:=zae eY 12
def BH:=zae eY 13
def XU:=zae eY 14
def FO:=zae eY 15
def anm:=zae eY 16
def Jp:=zae eY 17
def anl:=zae eY 18
def Dg:=zae eY 19
def XT:=zae eY 20
def FN:=zae eY 21
def XS:=zae eY 22
def Jo:=zae eY 23
def XR:=zae eY 24
def O6:=zae eY 25
def XQ:=zae eY 26
def ank:=zae eY 27
def XP:=zae eY 28
def anj:=zae eY 29
def ani:=zae eY 30
def XO:=zae eY 31
def anh:=zae eY 32
def ang:=zae eY 33
def anf:=zae eY 34
def ane:=zae eY 35
def anc:=zae eY 36
def Vj:=zaf eY [ayI,ayH,ayG,Se,adO,ayF,adN,ayE,Sd,ayD,Jq,O7,ann,BH,XU,FO,anm,Jp,anl,Dg,XT,FN,XS,Jo,XR,O6,XQ,ank,XP,anj,ani,XO,anh,ang,anf,ane,anc] (by conv=>lhs;simp only[zac,zab,eY,zag])
def nI:=zag f78
def adM:=zae nI 0
def adL:=zae nI 1
def KO:=zae nI 2
def adK:=zae nI 3
def adJ:=zae nI 4
def adI:=zae nI 5
def Sb:=zae nI 6
def ayC:=zae nI 7
def KN:=zae nI 8
def adH:=zae nI 9
def xF:=zae nI 10
def BG:=zae nI 11
def XN:=zae nI 12
def anb:=zae nI 13
def ana:=zae nI 14
def am9:=zae nI 15
def am8:=zae nI 16
def M8:=zaf nI [adM,adL,KO,adK,adJ,adI,Sb,ayC,KN,adH,xF,BG,XN,anb,ana,am9,am8] (by conv=>lhs;simp only[zac,zab,nI,zag])
def mL:=zag f79
def adG:=zae mL 0
def adF:=zae mL 1
def ayB:=zae mL 2
def ayA:=zae mL 3
def adE:=zae mL 4
def ayz:=zae mL 5
def ayy:=zae mL 6
def ayx:=zae mL 7
def ayw:=zae mL 8
def ayv:=zae mL 9
def am7:=zae mL 10
def XM:=zae mL 11
def am6:=zae mL 12
def am5:=zae mL 13
def XL:=zae mL 14
def am4:=zae mL 15
def am3:=zae mL 16
def am2:=zae mL 17
def Vi:=zaf mL [adG,adF,ayB,ayA,adE,ayz,ayy,ayx,ayw,ayv,am7,XM,am6,am5,XL,am4,am3,am2] (by conv=>lhs;simp only[zac,zab,mL,zag])
def Aa:=zag f80
def ayu:=zae Aa 0
def ayt:=zae Aa 1
def adD:=zae Aa 2
def ays:=zae Aa 3
def ayr:=zae Aa 4
def ayq:=zae Aa 5
def ayp:=zae Aa 6
def c80:=zaf Aa [ayu,ayt,adD,ays,ayr,ayq,ayp] (by conv=>lhs;simp only[zac,zab,Aa,zag])
def uw:=zag f81
def ayo:=zae uw 0
def ayn:=zae uw 1
def adC:=zae uw 2
def aym:=zae uw 3
def ayl:=zae uw 4
def ayk:=zae uw 5
def ayj:=zae uw 6
def adB:=zae uw 7
def ayi:=zae uw 8
def adA:=zae uw 9
def c81:=zaf uw [ayo,ayn,adC,aym,ayl,ayk,ayj,adB,ayi,adA] (by conv=>lhs;simp only[zac,zab,uw,zag])
def rP:=zag f82
def ayh:=zae rP 0
def ayg:=zae rP 1
def ayf:=zae rP 2
def adz:=zae rP 3
def aye:=zae rP 4
def ayd:=zae rP 5
def Sa:=zae rP 6
def R9:=zae rP 7
def ayc:=zae rP 8
def ady:=zae rP 9
def am1:=zae rP 10
def XK:=zae rP 11
def c82:=zaf rP [ayh,ayg,ayf,adz,aye,ayd,Sa,R9,ayc,ady,am1,XK] (by conv=>lhs;simp only[zac,zab,rP,zag])
def z9:=zag f83
def ayb:=zae z9 0
def aya:=zae z9 1
def ax9:=zae z9 2
def adx:=zae z9 3
def ax8:=zae z9 4
def ax7:=zae z9 5
def ax6:=zae z9 6
def c83:=zaf z9 [ayb,aya,ax9,adx,ax8,ax7,ax6] (by conv=>lhs;simp only[zac,zab,z9,zag])
def SM:=zag f84
def ax5:=zae SM 0
def ax4:=zae SM 1
def c84:=zaf SM [ax5,ax4] (by conv=>lhs;simp only[zac,zab,SM,zag])
def Hi:=zag f85
def ax3:=zae Hi 0
def ax2:=zae Hi 1
def aOy:=zae Hi 2
def ax1:=zae Hi 3
def Vh:=zaf Hi [ax3,ax2,aOy,ax1] (by conv=>lhs;simp only[zac,zab,Hi,zag])
def uv:=zag f86
def ax0:=zae uv 0
def axZ:=zae uv 1
def aOx:=zae uv 2
def axY:=zae uv 3
def axX:=zae uv 4
def aOw:=zae uv 5
def aOv:=zae uv 6
def axW:=zae uv 7
def adw:=zae uv 8
def adv:=zae uv 9
def c86:=zaf uv [ax0,axZ,aOx,axY,axX,aOw,aOv,axW,adw,adv] (by conv=>lhs;simp only[zac,zab,uv,zag])
def z8:=zag f87
def axV:=zae z8 0
def axU:=zae z8 1
def axT:=zae z8 2
def adu:=zae z8 3
def axS:=zae z8 4
def axR:=zae z8 5
def axQ:=zae z8 6
def c87:=zaf z8 [axV,axU,axT,adu,axS,axR,axQ] (by conv=>lhs;simp only[zac,zab,z8,zag])
def qN:=zag f88
def axP:=zae qN 0
def axO:=zae qN 1
def DN:=zae qN 2
def wh:=zae qN 3
def wg:=zae qN 4
def we:=zae qN 5
def KJ:=zae qN 6
def Kz:=zae qN 7
def Ky:=zae qN 8
def Kx:=zae qN 9
def Jn:=zae qN 10
def Jm:=zae qN 11
def Df:=zae qN 12
def Vg:=zaf qN [axP,axO,DN,wh,wg,we,KJ,Kz,Ky,Kx,Jn,Jm,Df] (by conv=>lhs;simp only[zac,zab,qN,zag])
def wj:=zag f89
def axN:=zae wj 0
def axM:=zae wj 1
def axL:=zae wj 2
def axK:=zae wj 3
def axJ:=zae wj 4
def adt:=zae wj 5
def ads:=zae wj 6
def adr:=zae wj 7
def axI:=zae wj 8
def c89:=zaf wj [axN,axM,axL,axK,axJ,adt,ads,adr,axI] (by conv=>lhs;simp only[zac,zab,wj,zag])
def SL:=zag f90
def axD:=zae SL 0
def ado:=zae SL 1
def c90:=zaf SL [axD,ado] (by conv=>lhs;simp only[zac,zab,SL,zag])
def yh:=zag f91
def axC:=zae yh 0
def axB:=zae yh 1
def axA:=zae yh 2
def adn:=zae yh 3
def axz:=zae yh 4
def axy:=zae yh 5
def axx:=zae yh 6
def axw:=zae yh 7
def c91:=zaf yh [axC,axB,axA,adn,axz,axy,axx,axw] (by conv=>lhs;simp only[zac,zab,yh,zag])
def yg:=zag f92
def axv:=zae yg 0
def axu:=zae yg 1
def axt:=zae yg 2
def adm:=zae yg 3
def axs:=zae yg 4
def axr:=zae yg 5
def axq:=zae yg 6
def axp:=zae yg 7
def c92:=zaf yg [axv,axu,axt,adm,axs,axr,axq,axp] (by conv=>lhs;simp only[zac,zab,yg,zag])
def Cj:=zag f93 ⟨false,[23]⟩
def axo:=zae Cj 0
def axn:=zae Cj 1
def R7:=zae Cj 2
def adl:=zae Cj 3
def adk:=zae Cj 4
def R6:=zae Cj 5
def c93:=zaf Cj [axo,axn,R7,adl,adk,R6] (by conv=>lhs;simp only[zac,zab,Cj,zag])
def zq94:=zag f94
def c94_0:=zae zq94 0
def c94_1:=zae zq94 1
def c94_2:=zae zq94 2
def c94_3:=zae zq94 3
def c94:=zaf zq94 [c94_0,c94_1,c94_2,c94_3] (by conv=>lhs;simp only[zac,zab,zq94,zag])
def fW:=zag f95
def axm:=zae fW 0
def axl:=zae fW 1
def pB:=zae fW 2
def adj:=zae fW 3
def qL:=zae fW 4
def qK:=zae fW 5
def axk:=zae fW 6
def rO:=zae fW 7
def axj:=zae fW 8
def sV:=zae fW 9
def am0:=zae fW 10
def tY:=zae fW 11
def amZ:=zae fW 12
def vG:=zae fW 13
def amY:=zae fW 14
def xE:=zae fW 15
def amX:=zae fW 16
def zq:=zae fW 17
def amW:=zae fW 18
def BF:=zae fW 19
def amV:=zae fW 20
def De:=zae fW 21
def amU:=zae fW 22
def FM:=zae fW 23
def amT:=zae fW 24
def Jl:=zae fW 25
def amS:=zae fW 26
def O5:=zae fW 27
def amR:=zae fW 28
def XJ:=zae fW 29
def amQ:=zae fW 30
def qC:=zae fW 31
def c95:=zaf fW [axm,axl,pB,adj,qL,qK,axk,rO,axj,sV,am0,tY,amZ,vG,amY,xE,amX,zq,amW,BF,amV,De,amU,FM,amT,Jl,amS,O5,amR,XJ,amQ,qC] (by conv=>lhs;simp only[zac,zab,fW,zag])
def SK:=zag f96
def axi:=zae SK 0
def axh:=zae SK 1
def M6:=zaf SK [axi,axh] (by conv=>lhs;simp only[zac,zab,SK,zag])
def DS:=zag f97
def axg:=zae DS 0
def axf:=zae DS 1
def adi:=zae DS 2
def axe:=zae DS 3
def axd:=zae DS 4
def c97:=zaf DS [axg,axf,adi,axe,axd] (by conv=>lhs;simp only[zac,zab,DS,zag])
def ur:=zag f98
def axc:=zae ur 0
def axb:=zae ur 1
def axa:=zae ur 2
def aw9:=zae ur 3
def aw8:=zae ur 4
def aw7:=zae ur 5
def aw6:=zae ur 6
def aOu:=zae ur 7
def aw5:=zae ur 8
def aOt:=zae ur 9
def c98:=zaf ur [axc,axb,axa,aw9,aw8,aw7,aw6,aOu,aw5,aOt] (by conv=>lhs;simp only[zac,zab,ur,zag])
def Ln:=zag f99
def adh:=zae Ln 0
def adg:=zae Ln 1
def adf:=zae Ln 2
def Vf:=zaf Ln [adh,adg,adf] (by conv=>lhs;simp only[zac,zab,Ln,zag])
def sP:=zag f100 ⟨false,[27]⟩
def acT:=zae sP 0
def acS:=zae sP 1
def acR:=zae sP 2
def acQ:=zae sP 3
def acP:=zae sP 4
def acO:=zae sP 5
def acN:=zae sP 6
def acM:=zae sP 7
def acL:=zae sP 8
def acK:=zae sP 9
def Xj:=zae sP 10
def Mg:=zaf sP [acT,acS,acR,acQ,acP,acO,acN,acM,acL,acK,Xj] (by conv=>lhs;simp only[zac,zab,sP,zag])
def vS:=zag f101
def awu:=zae vS 0
def QG:=zae vS 1
def acJ:=zae vS 2
def awt:=zae vS 3
def acI:=zae vS 4
def acH:=zae vS 5
def aws:=zae vS 6
def awr:=zae vS 7
def awq:=zae vS 8
def ahF:=zaf vS [awu,QG,acJ,awt,acI,acH,aws,awr,awq] (by conv=>lhs;simp only[zac,zab,vS,zag])
def Rt:=zag f102
def awp:=zae Rt 0
def awo:=zae Rt 1
def ahE:=zaf Rt [awp,awo] (by conv=>lhs;simp only[zac,zab,Rt,zag])
def zQ:=zag f103
def awn:=zae zQ 0
def awm:=zae zQ 1
def QF:=zae zQ 2
def QE:=zae zQ 3
def awl:=zae zQ 4
def acG:=zae zQ 5
def aNF:=zae zQ 6
def HE:=zaf zQ [awn,awm,QF,QE,awl,acG,aNF] (by conv=>lhs;simp only[zac,zab,zQ,zag])
def sO:=zag f104
def awk:=zae sO 0
def awj:=zae sO 1
def awi:=zae sO 2
def acF:=zae sO 3
def awh:=zae sO 4
def awg:=zae sO 5
def awf:=zae sO 6
def acE:=zae sO 7
def awe:=zae sO 8
def awd:=zae sO 9
def amh:=zae sO 10
def ahD:=zaf sO [awk,awj,awi,acF,awh,awg,awf,acE,awe,awd,amh] (by conv=>lhs;simp only[zac,zab,sO,zag])
def zP:=zag f105
def awc:=zae zP 0
def awb:=zae zP 1
def QD:=zae zP 2
def acD:=zae zP 3
def awa:=zae zP 4
def av9:=zae zP 5
def av8:=zae zP 6
def ahC:=zaf zP [awc,awb,QD,acD,awa,av9,av8] (by conv=>lhs;simp only[zac,zab,zP,zag])
def Gs:=zag f106
def acC:=zae Gs 0
def acB:=zae Gs 1
def acA:=zae Gs 2
def acz:=zae Gs 3
def Ub:=zaf Gs [acC,acB,acA,acz] (by conv=>lhs;simp only[zac,zab,Gs,zag])
def Rs:=zag f107
def av7:=zae Rs 0
def av6:=zae Rs 1
def ahB:=zaf Rs [av7,av6] (by conv=>lhs;simp only[zac,zab,Rs,zag])
def Rq:=zag f108
def av5:=zae Rq 0
def av4:=zae Rq 1
def ahA:=zaf Rq [av5,av4] (by conv=>lhs;simp only[zac,zab,Rq,zag])
def zq109:=zag f109
def c109_0:=zae zq109 0
def c109_1:=zae zq109 1
def c109_2:=zae zq109 2
def c109_3:=zae zq109 3
def c109:=zaf zq109 [c109_0,c109_1,c109_2,c109_3] (by conv=>lhs;simp only[zac,zab,zq109,zag])
def ma:=zag f110
def JT:=zae ma 0
def QC:=zae ma 1
def JS:=zae ma 2
def QB:=zae ma 3
def JR:=zae ma 4
def JQ:=zae ma 5
def JP:=zae ma 6
def JO:=zae ma 7
def JN:=zae ma 8
def JM:=zae ma 9
def I9:=zae ma 10
def I8:=zae ma 11
def I7:=zae ma 12
def I6:=zae ma 13
def I5:=zae ma 14
def I4:=zae ma 15
def I3:=zae ma 16
def IZ:=zae ma 17
def IY:=zae ma 18
def Ak:=zaf ma [JT,QC,JS,QB,JR,JQ,JP,JO,JN,JM,I9,I8,I7,I6,I5,I4,I3,IZ,IY] (by conv=>lhs;simp only[zac,zab,ma,zag])
def uh:=zag f111
def acp:=zae uh 0
def aco:=zae uh 1
def acn:=zae uh 2
def acm:=zae uh 3
def ack:=zae uh 4
def acj:=zae uh 5
def aci:=zae uh 6
def ach:=zae uh 7
def acg:=zae uh 8
def acf:=zae uh 9
def Mf:=zaf uh [acp,aco,acn,acm,ack,acj,aci,ach,acg,acf] (by conv=>lhs;simp only[zac,zab,uh,zag])
def ug:=zag f112
def av0:=zae ug 0
def ace:=zae ug 1
def avZ:=zae ug 2
def avY:=zae ug 3
def acd:=zae ug 4
def avX:=zae ug 5
def Gf:=zae ug 6
def QA:=zae ug 7
def acb:=zae ug 8
def avW:=zae ug 9
def ahz:=zaf ug [av0,ace,avZ,avY,acd,avX,Gf,QA,acb,avW] (by conv=>lhs;simp only[zac,zab,ug,zag])
def Ro:=zag f113
def avV:=zae Ro 0
def avU:=zae Ro 1
def ahy:=zaf Ro [avV,avU] (by conv=>lhs;simp only[zac,zab,Ro,zag])
def Rl:=zag f114
def avT:=zae Rl 0
def avS:=zae Rl 1
def ahx:=zaf Rl [avT,avS] (by conv=>lhs;simp only[zac,zab,Rl,zag])
def ni:=zag f115
def avR:=zae ni 0
def avQ:=zae ni 1
def aca:=zae ni 2
def avP:=zae ni 3
def avO:=zae ni 4
def avN:=zae ni 5
def ab9:=zae ni 6
def avM:=zae ni 7
def avL:=zae ni 8
def avK:=zae ni 9
def amg:=zae ni 10
def amf:=zae ni 11
def Xi:=zae ni 12
def ame:=zae ni 13
def amd:=zae ni 14
def amc:=zae ni 15
def amb:=zae ni 16
def ahw:=zaf ni [avR,avQ,aca,avP,avO,avN,ab9,avM,avL,avK,amg,amf,Xi,ame,amd,amc,amb] (by conv=>lhs;simp only[zac,zab,ni,zag])
end
end Go.Proofs.YtoioonbabnomkaaGreat.Am
