/- The program's functions as code of the abstract machine. Conditions: none. -/
import Derived.Test.YtoioonbabnomkaaGreatCa
set_option autoImplicit true
set_option relaxedAutoImplicit true
set_option maxRecDepth 100000
set_option maxHeartbeats 8000000
set_option linter.unusedSimpArgs false
set_option linter.unusedVariables false
set_option linter.unnecessarySimpa false
set_option linter.defProp false
namespace Go.Proofs.YtoioonbabnomkaaGreat.Am
section
open Go Go.Proofs Go.Proofs.Tryz
def Ar:=zag f3
def aEV:=zae Ar 0
def TC:=zae Ar 1
def aT3:=zae Ar 2
def af3:=zae Ar 3
def aEU:=zae Ar 4
def af2:=zae Ar 5
def aET:=zae Ar 6
def c3:=zaf Ar [aEV,TC,aT3,af3,aEU,af2,aET] (by conv=>lhs;simp only[zac,zab,Ar,zag])
def oQ:=zag f4
def aES:=zae oQ 0
def LY:=zae oQ 1
def aT2:=zae oQ 2
def TB:=zae oQ 3
def af1:=zae oQ 4
def af0:=zae oQ 5
def aER:=zae oQ 6
def aT1:=zae oQ 7
def aEQ:=zae oQ 8
def aEP:=zae oQ 9
def aAQ:=zae oQ 10
def aAP:=zae oQ 11
def aen:=zae oQ 12
def Ld:=zae oQ 13
def aem:=zae oQ 14
def ael:=zae oQ 15
def c4:=zaf oQ [aES,LY,aT2,TB,af1,af0,aER,aT1,aEQ,aEP,aAQ,aAP,aen,Ld,aem,ael] (by conv=>lhs;simp only[zac,zab,oQ,zag])
def je:=zag f5
def aEO:=zae je 0
def TA:=zae je 1
def aT0:=zae je 2
def afZ:=zae je 3
def aEN:=zae je 4
def afY:=zae je 5
def aEM:=zae je 6
def aTZ:=zae je 7
def aEL:=zae je 8
def afX:=zae je 9
def aOC:=zae je 10
def az7:=zae je 11
def Ss:=zae je 12
def ad9:=zae je 13
def az6:=zae je 14
def az5:=zae je 15
def ad8:=zae je 16
def az4:=zae je 17
def az3:=zae je 18
def az2:=zae je 19
def aOB:=zae je 20
def ad7:=zae je 21
def az1:=zae je 22
def aOA:=zae je 23
def ad6:=zae je 24
def az0:=zae je 25
def c5:=zaf je [aEO,TA,aT0,afZ,aEN,afY,aEM,aTZ,aEL,afX,aOC,az7,Ss,ad9,az6,az5,ad8,az4,az3,az2,aOB,ad7,az1,aOA,ad6,az0] (by conv=>lhs;simp only[zac,zab,je,zag])
def mR:=zag f6
def aEK:=zae mR 0
def Tz:=zae mR 1
def aTY:=zae mR 2
def afW:=zae mR 3
def aEJ:=zae mR 4
def afV:=zae mR 5
def aEI:=zae mR 6
def aTX:=zae mR 7
def aEH:=zae mR 8
def afU:=zae mR 9
def Sj:=zae mR 10
def azk:=zae mR 11
def azj:=zae mR 12
def adU:=zae mR 13
def adT:=zae mR 14
def Si:=zae mR 15
def aOz:=zae mR 16
def KP:=zae mR 17
def c6:=zaf mR [aEK,Tz,aTY,afW,aEJ,afV,aEI,aTX,aEH,afU,Sj,azk,azj,adU,adT,Si,aOz,KP] (by conv=>lhs;simp only[zac,zab,mR,zag])
def nP:=zag f8
def aEG:=zae nP 0
def LX:=zae nP 1
def aTW:=zae nP 2
def Ty:=zae nP 3
def afT:=zae nP 4
def afS:=zae nP 5
def aEF:=zae nP 6
def aTV:=zae nP 7
def aEE:=zae nP 8
def afR:=zae nP 9
def axH:=zae nP 10
def G1:=zae nP 11
def axG:=zae nP 12
def axF:=zae nP 13
def axE:=zae nP 14
def adq:=zae nP 15
def adp:=zae nP 16
def c8:=zaf nP [aEG,LX,aTW,Ty,afT,afS,aEF,aTV,aEE,afR,axH,G1,axG,axF,axE,adq,adp] (by conv=>lhs;simp only[zac,zab,nP,zag])
def Aq:=zag f9
def aED:=zae Aq 0
def aEC:=zae Aq 1
def aEB:=zae Aq 2
def aTU:=zae Aq 3
def aEA:=zae Aq 4
def aEz:=zae Aq 5
def aEy:=zae Aq 6
def c9:=zaf Aq [aED,aEC,aEB,aTU,aEA,aEz,aEy] (by conv=>lhs;simp only[zac,zab,Aq,zag])
def jT:=zag f10
def aDR:=zae jT 0
def ae7:=zae jT 1
def ae6:=zae jT 2
def ae5:=zae jT 3
def aDQ:=zae jT 4
def aOQ:=zae jT 5
def aDP:=zae jT 6
def Lm:=zae jT 7
def ae4:=zae jT 8
def aDO:=zae jT 9
def av3:=zae jT 10
def acy:=zae jT 11
def aNE:=zae jT 12
def av2:=zae jT 13
def acx:=zae jT 14
def acw:=zae jT 15
def acv:=zae jT 16
def acu:=zae jT 17
def acs:=zae jT 18
def acr:=zae jT 19
def aND:=zae jT 20
def av1:=zae jT 21
def acq:=zae jT 22
def iK:=zaf jT [aDR,ae7,ae6,ae5,aDQ,aOQ,aDP,Lm,ae4,aDO,av3,acy,aNE,av2,acx,acw,acv,acu,acs,acr,aND,av1,acq] (by conv=>lhs;simp only[zac,zab,jT,zag])
def Td:=zag f11
def aDN:=zae Td 0
def aDM:=zae Td 1
def Nb:=zaf Td [aDN,aDM] (by conv=>lhs;simp only[zac,zab,Td,zag])
def Tc:=zag f12
def aDL:=zae Tc 0
def aDK:=zae Tc 1
def Vt:=zaf Tc [aDL,aDK] (by conv=>lhs;simp only[zac,zab,Tc,zag])
def Ta:=zag f13
def aDJ:=zae Ta 0
def aDI:=zae Ta 1
def Vs:=zaf Ta [aDJ,aDI] (by conv=>lhs;simp only[zac,zab,Ta,zag])
def nL:=zag f14
def aDH:=zae nL 0
def aDG:=zae nL 1
def aOP:=zae nL 2
def aDF:=zae nL 3
def aDE:=zae nL 4
def ae3:=zae nL 5
def aDD:=zae nL 6
def aDC:=zae nL 7
def aDB:=zae nL 8
def aDA:=zae nL 9
def atE:=zae nL 10
def atD:=zae nL 11
def abi:=zae nL 12
def atC:=zae nL 13
def atB:=zae nL 14
def atA:=zae nL 15
def atz:=zae nL 16
def c14:=zaf nL [aDH,aDG,aOP,aDF,aDE,ae3,aDD,aDC,aDB,aDA,atE,atD,abi,atC,atB,atA,atz] (by conv=>lhs;simp only[zac,zab,nL,zag])
def Hl:=zag f15
def aDz:=zae Hl 0
def aDy:=zae Hl 1
def aDx:=zae Hl 2
def ae2:=zae Hl 3
def c15:=zaf Hl [aDz,aDy,aDx,ae2] (by conv=>lhs;simp only[zac,zab,Hl,zag])
def Hk:=zag f16
def aDw:=zae Hk 0
def aDv:=zae Hk 1
def ae1:=zae Hk 2
def aDu:=zae Hk 3
def Ig:=zaf Hk [aDw,aDv,ae1,aDu] (by conv=>lhs;simp only[zac,zab,Hk,zag])
def mq:=zag f17
def aDt:=zae mq 0
def aDs:=zae mq 1
def aDr:=zae mq 2
def aDq:=zae mq 3
def aDp:=zae mq 4
def DQ:=zae mq 5
def aDo:=zae mq 6
def aDn:=zae mq 7
def aDm:=zae mq 8
def ae0:=zae mq 9
def aro:=zae mq 10
def arn:=zae mq 11
def Gc:=zae mq 12
def JC:=zae mq 13
def aax:=zae mq 14
def P2:=zae mq 15
def aaw:=zae mq 16
def aav:=zae mq 17
def arl:=zae mq 18
def Vr:=zaf mq [aDt,aDs,aDr,aDq,aDp,DQ,aDo,aDn,aDm,ae0,aro,arn,Gc,JC,aax,P2,aaw,aav,arl] (by conv=>lhs;simp only[zac,zab,mq,zag])
def tc:=zag f18
def aDl:=zae tc 0
def aDk:=zae tc 1
def aOO:=zae tc 2
def aDj:=zae tc 3
def aDi:=zae tc 4
def aeZ:=zae tc 5
def aDh:=zae tc 6
def aDg:=zae tc 7
def aDf:=zae tc 8
def aDe:=zae tc 9
def aqJ:=zae tc 10
def c18:=zaf tc [aDl,aDk,aOO,aDj,aDi,aeZ,aDh,aDg,aDf,aDe,aqJ] (by conv=>lhs;simp only[zac,zab,tc,zag])
def wy:=zag f19
def aeY:=zae wy 0
def aeX:=zae wy 1
def aON:=zae wy 2
def aeW:=zae wy 3
def Ll:=zae wy 4
def Lk:=zae wy 5
def aOM:=zae wy 6
def aeV:=zae wy 7
def aeU:=zae wy 8
def tQ:=zaf wy [aeY,aeX,aON,aeW,Ll,Lk,aOM,aeV,aeU] (by conv=>lhs;simp only[zac,zab,wy,zag])
def oL:=zag f20
def aDd:=zae oL 0
def aDc:=zae oL 1
def aDb:=zae oL 2
def aeT:=zae oL 3
def aDa:=zae oL 4
def aC9:=zae oL 5
def aeS:=zae oL 6
def aC8:=zae oL 7
def aC7:=zae oL 8
def SH:=zae oL 9
def aqc:=zae oL 10
def PD:=zae oL 11
def Z4:=zae oL 12
def aqb:=zae oL 13
def aqa:=zae oL 14
def ap9:=zae oL 15
def su:=zaf oL [aDd,aDc,aDb,aeT,aDa,aC9,aeS,aC8,aC7,SH,aqc,PD,Z4,aqb,aqa,ap9] (by conv=>lhs;simp only[zac,zab,oL,zag])
def DV:=zag f21
def aC6:=zae DV 0
def aC5:=zae DV 1
def aeR:=zae DV 2
def aC4:=zae DV 3
def aC3:=zae DV 4
def c21:=zaf DV [aC6,aC5,aeR,aC4,aC3] (by conv=>lhs;simp only[zac,zab,DV,zag])
def sZ:=zag f22
def Hg:=zae sZ 0
def Hf:=zae sZ 1
def He:=zae sZ 2
def Hc:=zae sZ 3
def Hb:=zae sZ 4
def Ha:=zae sZ 5
def G9:=zae sZ 6
def G8:=zae sZ 7
def G7:=zae sZ 8
def G6:=zae sZ 9
def FX:=zae sZ 10
def EM:=zaf sZ [Hg,Hf,He,Hc,Hb,Ha,G9,G8,G7,G6,FX] (by conv=>lhs;simp only[zac,zab,sZ,zag])
def Hj:=zag f23
def aC2:=zae Hj 0
def SF:=zae Hj 1
def aC1:=zae Hj 2
def aC0:=zae Hj 3
def Na:=zaf Hj [aC2,SF,aC1,aC0] (by conv=>lhs;simp only[zac,zab,Hj,zag])
def S9:=zag f24
def aCZ:=zae S9 0
def aCY:=zae S9 1
def c24:=zaf S9 [aCZ,aCY] (by conv=>lhs;simp only[zac,zab,S9,zag])
def S8:=zag f25
def aCX:=zae S8 0
def aCW:=zae S8 1
def c25:=zaf S8 [aCX,aCW] (by conv=>lhs;simp only[zac,zab,S8,zag])
def qP:=zag f26 ⟨false,[49]⟩
def aCV:=zae qP 0
def aCU:=zae qP 1
def Lj:=zae qP 2
def aCT:=zae qP 3
def aCS:=zae qP 4
def aeQ:=zae qP 5
def aCR:=zae qP 6
def aCQ:=zae qP 7
def aCP:=zae qP 8
def aCO:=zae qP 9
def aof:=zae qP 10
def aoe:=zae qP 11
def aod:=zae qP 12
def Vp:=zaf qP [aCV,aCU,Lj,aCT,aCS,aeQ,aCR,aCQ,aCP,aCO,aof,aoe,aod] (by conv=>lhs;simp only[zac,zab,qP,zag])
def sY:=zag f27 ⟨false,[69]⟩
def aCN:=zae sY 0
def aCM:=zae sY 1
def aOL:=zae sY 2
def aCL:=zae sY 3
def aCK:=zae sY 4
def aeP:=zae sY 5
def aCJ:=zae sY 6
def aOK:=zae sY 7
def aCI:=zae sY 8
def aCH:=zae sY 9
def aoc:=zae sY 10
def Vo:=zaf sY [aCN,aCM,aOL,aCL,aCK,aeP,aCJ,aOK,aCI,aCH,aoc] (by conv=>lhs;simp only[zac,zab,sY,zag])
def Af:=zag f28
def aCG:=zae Af 0
def aCF:=zae Af 1
def aCE:=zae Af 2
def aCD:=zae Af 3
def aeO:=zae Af 4
def aCC:=zae Af 5
def aCB:=zae Af 6
def c28:=zaf Af [aCG,aCF,aCE,aCD,aeO,aCC,aCB] (by conv=>lhs;simp only[zac,zab,Af,zag])
def uC:=zag f29
def aCA:=zae uC 0
def aCz:=zae uC 1
def aOJ:=zae uC 2
def SE:=zae uC 3
def aeN:=zae uC 4
def aeM:=zae uC 5
def aCy:=zae uC 6
def aeL:=zae uC 7
def aCx:=zae uC 8
def aCw:=zae uC 9
def yV:=zaf uC [aCA,aCz,aOJ,SE,aeN,aeM,aCy,aeL,aCx,aCw] (by conv=>lhs;simp only[zac,zab,uC,zag])
def S7:=zag f30
def aCv:=zae S7 0
def aCu:=zae S7 1
def c30:=zaf S7 [aCv,aCu] (by conv=>lhs;simp only[zac,zab,S7,zag])
def DU:=zag f31
def aeK:=zae DU 0
def aeJ:=zae DU 1
def aCt:=zae DU 2
def aCs:=zae DU 3
def aCr:=zae DU 4
def M9:=zaf DU [aeK,aeJ,aCt,aCs,aCr] (by conv=>lhs;simp only[zac,zab,DU,zag])
def sX:=zag f32
def aCq:=zae sX 0
def aCp:=zae sX 1
def aCo:=zae sX 2
def aeI:=zae sX 3
def aCn:=zae sX 4
def aCm:=zae sX 5
def aCl:=zae sX 6
def aCk:=zae sX 7
def aeH:=zae sX 8
def aCj:=zae sX 9
def aob:=zae sX 10
def c32:=zaf sX [aCq,aCp,aCo,aeI,aCn,aCm,aCl,aCk,aeH,aCj,aob] (by conv=>lhs;simp only[zac,zab,sX,zag])
def S6:=zag f33
def Li:=zae S6 0
def Lh:=zae S6 1
def Ie:=zaf S6 [Li,Lh] (by conv=>lhs;simp only[zac,zab,S6,zag])
def mM:=zag f34
def aCi:=zae mM 0
def aCh:=zae mM 1
def aCg:=zae mM 2
def aeG:=zae mM 3
def aCf:=zae mM 4
def aCe:=zae mM 5
def aeF:=zae mM 6
def aCd:=zae mM 7
def SD:=zae mM 8
def aeE:=zae mM 9
def Yo:=zae mM 10
def Yn:=zae mM 11
def aoa:=zae mM 12
def an9:=zae mM 13
def an8:=zae mM 14
def an7:=zae mM 15
def an6:=zae mM 16
def an5:=zae mM 17
def c34:=zaf mM [aCi,aCh,aCg,aeG,aCf,aCe,aeF,aCd,SD,aeE,Yo,Yn,aoa,an9,an8,an7,an6,an5] (by conv=>lhs;simp only[zac,zab,mM,zag])
def eJ:=zag f35
def aCc:=zae eJ 0
def SC:=zae eJ 1
def SB:=zae eJ 2
def aCb:=zae eJ 3
def aCa:=zae eJ 4
def p5:=zae eJ 5
def aeD:=zae eJ 6
def aeC:=zae eJ 7
def aB9:=zae eJ 8
def aB8:=zae eJ 9
def Ym:=zae eJ 10
def an4:=zae eJ 11
def an3:=zae eJ 12
def rC:=zae eJ 13
def an2:=zae eJ 14
def Yl:=zae eJ 15
def an1:=zae eJ 16
def sF:=zae eJ 17
def an0:=zae eJ 18
def tZ:=zae eJ 19
def vH:=zae eJ 20
def Yk:=zae eJ 21
def xG:=zae eJ 22
def anZ:=zae eJ 23
def zu:=zae eJ 24
def anY:=zae eJ 25
def BI:=zae eJ 26
def anX:=zae eJ 27
def Dh:=zae eJ 28
def FP:=zae eJ 29
def Yj:=zae eJ 30
def Yi:=zae eJ 31
def anW:=zae eJ 32
def Yh:=zae eJ 33
def Jr:=zae eJ 34
def anV:=zae eJ 35
def Ph:=zae eJ 36
def anU:=zae eJ 37
def Yg:=zae eJ 38
def anT:=zae eJ 39
def anS:=zae eJ 40
def c35:=zaf eJ [aCc,SC,SB,aCb,aCa,p5,aeD,aeC,aB9,aB8,Ym,an4,an3,rC,an2,Yl,an1,sF,an0,tZ,vH,Yk,xG,anZ,zu,anY,BI,anX,Dh,FP,Yj,Yi,anW,Yh,Jr,anV,Ph,anU,Yg,anT,anS] (by conv=>lhs;simp only[zac,zab,eJ,zag])
def S5:=zag f36
def aB7:=zae S5 0
def aB6:=zae S5 1
def c36:=zaf S5 [aB7,aB6] (by conv=>lhs;simp only[zac,zab,S5,zag])
def wx:=zag f37
def aB5:=zae wx 0
def aB4:=zae wx 1
def aOI:=zae wx 2
def aB3:=zae wx 3
def aeB:=zae wx 4
def aB2:=zae wx 5
def aOH:=zae wx 6
def aB1:=zae wx 7
def aB0:=zae wx 8
def c37:=zaf wx [aB5,aB4,aOI,aB3,aeB,aB2,aOH,aB1,aB0] (by conv=>lhs;simp only[zac,zab,wx,zag])
def qO:=zag f38
def aBZ:=zae qO 0
def aBY:=zae qO 1
def aBX:=zae qO 2
def aeA:=zae qO 3
def aBW:=zae qO 4
def aBV:=zae qO 5
def aBU:=zae qO 6
def aBT:=zae qO 7
def aBS:=zae qO 8
def aez:=zae qO 9
def anR:=zae qO 10
def anQ:=zae qO 11
def anP:=zae qO 12
def c38:=zaf qO [aBZ,aBY,aBX,aeA,aBW,aBV,aBU,aBT,aBS,aez,anR,anQ,anP] (by conv=>lhs;simp only[zac,zab,qO,zag])
def S0:=zag f39
def aey:=zae S0 0
def aex:=zae S0 1
def Vn:=zaf S0 [aey,aex] (by conv=>lhs;simp only[zac,zab,S0,zag])
def SZ:=zag f40
def aBR:=zae SZ 0
def aBQ:=zae SZ 1
def c40:=zaf SZ [aBR,aBQ] (by conv=>lhs;simp only[zac,zab,SZ,zag])
def nJ:=zag f41
def aBP:=zae nJ 0
def aBO:=zae nJ 1
def aBN:=zae nJ 2
def aBM:=zae nJ 3
def aBL:=zae nJ 4
def Lg:=zae nJ 5
def aBK:=zae nJ 6
def aBJ:=zae nJ 7
def aBI:=zae nJ 8
def aBH:=zae nJ 9
def anO:=zae nJ 10
def Pg:=zae nJ 11
def anN:=zae nJ 12
def Yf:=zae nJ 13
def anM:=zae nJ 14
def anL:=zae nJ 15
def Ye:=zae nJ 16
def EL:=zaf nJ [aBP,aBO,aBN,aBM,aBL,Lg,aBK,aBJ,aBI,aBH,anO,Pg,anN,Yf,anM,anL,Ye] (by conv=>lhs;simp only[zac,zab,nJ,zag])
def sW:=zag f42
def aBG:=zae sW 0
def aBF:=zae sW 1
def aOG:=zae sW 2
def aBE:=zae sW 3
def aew:=zae sW 4
def aBD:=zae sW 5
def aBC:=zae sW 6
def aOF:=zae sW 7
def aBB:=zae sW 8
def SA:=zae sW 9
def Pc:=zae sW 10
def c42:=zaf sW [aBG,aBF,aOG,aBE,aew,aBD,aBC,aOF,aBB,SA,Pc] (by conv=>lhs;simp only[zac,zab,sW,zag])
def yk:=zag f43
def aBA:=zae yk 0
def aBz:=zae yk 1
def aBy:=zae yk 2
def aev:=zae yk 3
def aBx:=zae yk 4
def aBw:=zae yk 5
def aBv:=zae yk 6
def aBu:=zae yk 7
def c43:=zaf yk [aBA,aBz,aBy,aev,aBx,aBw,aBv,aBu] (by conv=>lhs;simp only[zac,zab,yk,zag])
def yj:=zag f44
def aBt:=zae yj 0
def aBs:=zae yj 1
def aBr:=zae yj 2
def aeu:=zae yj 3
def aBq:=zae yj 4
def aBp:=zae yj 5
def aBo:=zae yj 6
def aBn:=zae yj 7
def c44:=zaf yj [aBt,aBs,aBr,aeu,aBq,aBp,aBo,aBn] (by conv=>lhs;simp only[zac,zab,yj,zag])
def wv:=zag f45 ⟨false,[19]⟩
def aBm:=zae wv 0
def aBl:=zae wv 1
def aBk:=zae wv 2
def aet:=zae wv 3
def aBj:=zae wv 4
def aBi:=zae wv 5
def aBh:=zae wv 6
def aBg:=zae wv 7
def aBf:=zae wv 8
def c45:=zaf wv [aBm,aBl,aBk,aet,aBj,aBi,aBh,aBg,aBf] (by conv=>lhs;simp only[zac,zab,wv,zag])
def uB:=zag f46
def aBe:=zae uB 0
def aBd:=zae uB 1
def aBc:=zae uB 2
def aBb:=zae uB 3
def aBa:=zae uB 4
def Sz:=zae uB 5
def aA9:=zae uB 6
def aes:=zae uB 7
def aA8:=zae uB 8
def aA7:=zae uB 9
def c46:=zaf uB [aBe,aBd,aBc,aBb,aBa,Sz,aA9,aes,aA8,aA7] (by conv=>lhs;simp only[zac,zab,uB,zag])
def jE:=zag f47
def aA6:=zae jE 0
def aA5:=zae jE 1
def aA4:=zae jE 2
def zZ:=zae jE 3
def aA3:=zae jE 4
def Cg:=zae jE 5
def DP:=zae jE 6
def G5:=zae jE 7
def Sy:=zae jE 8
def Lf:=zae jE 9
def anK:=zae jE 10
def Pb:=zae jE 11
def Yd:=zae jE 12
def Yc:=zae jE 13
def anJ:=zae jE 14
def anI:=zae jE 15
def Yb:=zae jE 16
def Pa:=zae jE 17
def Ya:=zae jE 18
def anH:=zae jE 19
def anG:=zae jE 20
def O9:=zae jE 21
def X9:=zae jE 22
def anF:=zae jE 23
def c47:=zaf jE [aA6,aA5,aA4,zZ,aA3,Cg,DP,G5,Sy,Lf,anK,Pb,Yd,Yc,anJ,anI,Yb,Pa,Ya,anH,anG,O9,X9,anF] (by conv=>lhs;simp only[zac,zab,jE,zag])
def uA:=zag f48
def aA2:=zae uA 0
def aA1:=zae uA 1
def aA0:=zae uA 2
def aer:=zae uA 3
def aAZ:=zae uA 4
def Le:=zae uA 5
def aeq:=zae uA 6
def aep:=zae uA 7
def aAY:=zae uA 8
def aAX:=zae uA 9
def Vm:=zaf uA [aA2,aA1,aA0,aer,aAZ,Le,aeq,aep,aAY,aAX] (by conv=>lhs;simp only[zac,zab,uA,zag])
def Ae:=zag f49 ⟨false,[11]⟩
def aAW:=zae Ae 0
def aAV:=zae Ae 1
def aAU:=zae Ae 2
def aeo:=zae Ae 3
def aAT:=zae Ae 4
def aAS:=zae Ae 5
def aAR:=zae Ae 6
def c49:=zaf Ae [aAW,aAV,aAU,aeo,aAT,aAS,aAR] (by conv=>lhs;simp only[zac,zab,Ae,zag])
def SY:=zag f50
def aAO:=zae SY 0
def aAN:=zae SY 1
def c50:=zaf SY [aAO,aAN] (by conv=>lhs;simp only[zac,zab,SY,zag])
def rS:=zag f51 ⟨false,[23]⟩
def aAM:=zae rS 0
def aAL:=zae rS 1
def aOE:=zae rS 2
def aAK:=zae rS 3
def aAJ:=zae rS 4
def aek:=zae rS 5
def aAI:=zae rS 6
def aej:=zae rS 7
def aAH:=zae rS 8
def aei:=zae rS 9
def anE:=zae rS 10
def anD:=zae rS 11
def c51:=zaf rS [aAM,aAL,aOE,aAK,aAJ,aek,aAI,aej,aAH,aei,anE,anD] (by conv=>lhs;simp only[zac,zab,rS,zag])
def wq:=zag f52
def aAG:=zae wq 0
def aAF:=zae wq 1
def aeh:=zae wq 2
def aAE:=zae wq 3
def aAD:=zae wq 4
def aAC:=zae wq 5
def aAB:=zae wq 6
def aAA:=zae wq 7
def aeg:=zae wq 8
def c52:=zaf wq [aAG,aAF,aeh,aAE,aAD,aAC,aAB,aAA,aeg] (by conv=>lhs;simp only[zac,zab,wq,zag])
def SX:=zag f53
def aAz:=zae SX 0
def aAy:=zae SX 1
def c53:=zaf SX [aAz,aAy] (by conv=>lhs;simp only[zac,zab,SX,zag])
def SW:=zag f54
def aAx:=zae SW 0
def aAw:=zae SW 1
def c54:=zaf SW [aAx,aAw] (by conv=>lhs;simp only[zac,zab,SW,zag])
def SV:=zag f55
def aAv:=zae SV 0
def aAu:=zae SV 1
def c55:=zaf SV [aAv,aAu] (by conv=>lhs;simp only[zac,zab,SV,zag])
end
end Go.Proofs.YtoioonbabnomkaaGreat.Am
