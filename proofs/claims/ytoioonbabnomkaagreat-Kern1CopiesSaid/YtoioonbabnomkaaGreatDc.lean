/- The program's functions as code of the abstract machine. Conditions: none. -/
import Derived.Test.YtoioonbabnomkaaGreatCa
set_option autoImplicit true
set_option relaxedAutoImplicit true
set_option maxRecDepth 100000
set_option maxHeartbeats 8000000
set_option linter.unusedSimpArgs false
set_option linter.unusedVariables false
set_option linter.unnecessarySimpa false
set_option linter.defProp false
namespace Go.Proofs.YtoioonbabnomkaaGreat.Am
section
open Go Go.Proofs Go.Proofs.Tryz
def Rk:=zag f116
def avJ:=zae Rk 0
def avI:=zae Rk 1
def ahv:=zaf Rk [avJ,avI] (by conv=>lhs;simp only[zac,zab,Rk,zag])
def Rj:=zag f117
def avH:=zae Rj 0
def ab8:=zae Rj 1
def ahu:=zaf Rj [avH,ab8] (by conv=>lhs;simp only[zac,zab,Rj,zag])
def xV:=zag f118
def avG:=zae xV 0
def avF:=zae xV 1
def avE:=zae xV 2
def Qz:=zae xV 3
def ab7:=zae xV 4
def avD:=zae xV 5
def ab6:=zae xV 6
def avC:=zae xV 7
def aht:=zaf xV [avG,avF,avE,Qz,ab7,avD,ab6,avC] (by conv=>lhs;simp only[zac,zab,xV,zag])
def xU:=zag f119
def avB:=zae xU 0
def avA:=zae xU 1
def avz:=zae xU 2
def avy:=zae xU 3
def avx:=zae xU 4
def avw:=zae xU 5
def avv:=zae xU 6
def avu:=zae xU 7
def ahs:=zaf xU [avB,avA,avz,avy,avx,avw,avv,avu] (by conv=>lhs;simp only[zac,zab,xU,zag])
def Ri:=zag f120
def avt:=zae Ri 0
def avs:=zae Ri 1
def ahr:=zaf Ri [avt,avs] (by conv=>lhs;simp only[zac,zab,Ri,zag])
def BW:=zag f121
def avr:=zae BW 0
def avq:=zae BW 1
def Qy:=zae BW 2
def avp:=zae BW 3
def avo:=zae BW 4
def avn:=zae BW 5
def ahq:=zaf BW [avr,avq,Qy,avp,avo,avn] (by conv=>lhs;simp only[zac,zab,BW,zag])
def zO:=zag f122
def Qx:=zae zO 0
def Qw:=zae zO 1
def Qv:=zae zO 2
def Qu:=zae zO 3
def Qt:=zae zO 4
def Qs:=zae zO 5
def Qr:=zae zO 6
def Me:=zaf zO [Qx,Qw,Qv,Qu,Qt,Qs,Qr] (by conv=>lhs;simp only[zac,zab,zO,zag])
def zN:=zag f123
def avm:=zae zN 0
def avl:=zae zN 1
def Qq:=zae zN 2
def ab5:=zae zN 3
def avk:=zae zN 4
def avj:=zae zN 5
def avi:=zae zN 6
def ahp:=zaf zN [avm,avl,Qq,ab5,avk,avj,avi] (by conv=>lhs;simp only[zac,zab,zN,zag])
def xT:=zag f124
def avh:=zae xT 0
def avg:=zae xT 1
def avf:=zae xT 2
def Qp:=zae xT 3
def ab4:=zae xT 4
def ave:=zae xT 5
def avd:=zae xT 6
def avc:=zae xT 7
def aho:=zaf xT [avh,avg,avf,Qp,ab4,ave,avd,avc] (by conv=>lhs;simp only[zac,zab,xT,zag])
def Gr:=zag f125
def ab3:=zae Gr 0
def ab2:=zae Gr 1
def ab1:=zae Gr 2
def ab0:=zae Gr 3
def Ua:=zaf Gr [ab3,ab2,ab1,ab0] (by conv=>lhs;simp only[zac,zab,Gr,zag])
def BU:=zag f126
def Qo:=zae BU 0
def Qn:=zae BU 1
def abZ:=zae BU 2
def Qm:=zae BU 3
def abY:=zae BU 4
def Ql:=zae BU 5
def Md:=zaf BU [Qo,Qn,abZ,Qm,abY,Ql] (by conv=>lhs;simp only[zac,zab,BU,zag])
def vR:=zag f127
def avb:=zae vR 0
def ava:=zae vR 1
def au9:=zae vR 2
def aNC:=zae vR 3
def au8:=zae vR 4
def abX:=zae vR 5
def au7:=zae vR 6
def au6:=zae vR 7
def au5:=zae vR 8
def ahn:=zaf vR [avb,ava,au9,aNC,au8,abX,au7,au6,au5] (by conv=>lhs;simp only[zac,zab,vR,zag])
def vQ:=zag f128
def abW:=zae vQ 0
def abV:=zae vQ 1
def au4:=zae vQ 2
def au3:=zae vQ 3
def abU:=zae vQ 4
def abT:=zae vQ 5
def au2:=zae vQ 6
def au1:=zae vQ 7
def au0:=zae vQ 8
def T9:=zaf vQ [abW,abV,au4,au3,abU,abT,au2,au1,au0] (by conv=>lhs;simp only[zac,zab,vQ,zag])
def vP:=zag f129
def abS:=zae vP 0
def abR:=zae vP 1
def auZ:=zae vP 2
def auY:=zae vP 3
def abQ:=zae vP 4
def abP:=zae vP 5
def auX:=zae vP 6
def auW:=zae vP 7
def auV:=zae vP 8
def T8:=zaf vP [abS,abR,auZ,auY,abQ,abP,auX,auW,auV] (by conv=>lhs;simp only[zac,zab,vP,zag])
def Rh:=zag f130
def auU:=zae Rh 0
def auT:=zae Rh 1
def ahm:=zaf Rh [auU,auT] (by conv=>lhs;simp only[zac,zab,Rh,zag])
def vO:=zag f131
def auS:=zae vO 0
def auR:=zae vO 1
def JL:=zae vO 2
def auQ:=zae vO 3
def Qk:=zae vO 4
def auP:=zae vO 5
def abO:=zae vO 6
def auO:=zae vO 7
def auN:=zae vO 8
def ahl:=zaf vO [auS,auR,JL,auQ,Qk,auP,abO,auO,auN] (by conv=>lhs;simp only[zac,zab,vO,zag])
def Dv:=zag f132
def auM:=zae Dv 0
def auL:=zae Dv 1
def abN:=zae Dv 2
def auK:=zae Dv 3
def auJ:=zae Dv 4
def ahk:=zaf Dv [auM,auL,abN,auK,auJ] (by conv=>lhs;simp only[zac,zab,Dv,zag])
def Rg:=zag f133
def auI:=zae Rg 0
def auH:=zae Rg 1
def ahj:=zaf Rg [auI,auH] (by conv=>lhs;simp only[zac,zab,Rg,zag])
def JZ:=zag f134
def abM:=zae JZ 0
def abL:=zae JZ 1
def JK:=zae JZ 2
def T7:=zaf JZ [abM,abL,JK] (by conv=>lhs;simp only[zac,zab,JZ,zag])
def Rf:=zag f135
def auG:=zae Rf 0
def Qj:=zae Rf 1
def ahi:=zaf Rf [auG,Qj] (by conv=>lhs;simp only[zac,zab,Rf,zag])
def Re:=zag f136
def abK:=zae Re 0
def abJ:=zae Re 1
def T6:=zaf Re [abK,abJ] (by conv=>lhs;simp only[zac,zab,Re,zag])
def Rc:=zag f137
def abI:=zae Rc 0
def abH:=zae Rc 1
def T5:=zaf Rc [abI,abH] (by conv=>lhs;simp only[zac,zab,Rc,zag])
def oF:=zag f138 ⟨true,[33]⟩
def auF:=zae oF 0
def auE:=zae oF 1
def auD:=zae oF 2
def abG:=zae oF 3
def auC:=zae oF 4
def auB:=zae oF 5
def auA:=zae oF 6
def aNB:=zae oF 7
def auz:=zae oF 8
def auy:=zae oF 9
def ama:=zae oF 10
def OQ:=zae oF 11
def Xh:=zae oF 12
def Xg:=zae oF 13
def Xf:=zae oF 14
def al9:=zae oF 15
def ahh:=zaf oF [auF,auE,auD,abG,auC,auB,auA,aNB,auz,auy,ama,OQ,Xh,Xg,Xf,al9] (by conv=>lhs;simp only[zac,zab,oF,zag])
def xS:=zag f139
def auw:=zae xS 0
def auv:=zae xS 1
def abF:=zae xS 2
def abE:=zae xS 3
def abD:=zae xS 4
def abC:=zae xS 5
def abB:=zae xS 6
def abA:=zae xS 7
def ahg:=zaf xS [auw,auv,abF,abE,abD,abC,abB,abA] (by conv=>lhs;simp only[zac,zab,xS,zag])
def Rb:=zag f140
def auu:=zae Rb 0
def aut:=zae Rb 1
def ahf:=zaf Rb [auu,aut] (by conv=>lhs;simp only[zac,zab,Rb,zag])
def Ra:=zag f141
def abz:=zae Ra 0
def aby:=zae Ra 1
def T4:=zaf Ra [abz,aby] (by conv=>lhs;simp only[zac,zab,Ra,zag])
def uf:=zag f142
def aus:=zae uf 0
def aur:=zae uf 1
def abx:=zae uf 2
def auq:=zae uf 3
def aup:=zae uf 4
def abw:=zae uf 5
def auo:=zae uf 6
def aum:=zae uf 7
def aul:=zae uf 8
def auk:=zae uf 9
def ahe:=zaf uf [aus,aur,abx,auq,aup,abw,auo,aum,aul,auk] (by conv=>lhs;simp only[zac,zab,uf,zag])
def BT:=zag f143
def auj:=zae BT 0
def aui:=zae BT 1
def abv:=zae BT 2
def auh:=zae BT 3
def aug:=zae BT 4
def auf:=zae BT 5
def ahd:=zaf BT [auj,aui,abv,auh,aug,auf] (by conv=>lhs;simp only[zac,zab,BT,zag])
def jP:=zag f144
def aue:=zae jP 0
def aud:=zae jP 1
def auc:=zae jP 2
def Qi:=zae jP 3
def abu:=zae jP 4
def aub:=zae jP 5
def abt:=zae jP 6
def aua:=zae jP 7
def abr:=zae jP 8
def at9:=zae jP 9
def OP:=zae jP 10
def Xe:=zae jP 11
def al8:=zae jP 12
def al7:=zae jP 13
def Xd:=zae jP 14
def al6:=zae jP 15
def al5:=zae jP 16
def Xc:=zae jP 17
def al4:=zae jP 18
def al3:=zae jP 19
def al2:=zae jP 20
def al1:=zae jP 21
def Xb:=zae jP 22
def ahc:=zaf jP [aue,aud,auc,Qi,abu,aub,abt,aua,abr,at9,OP,Xe,al8,al7,Xd,al6,al5,Xc,al4,al3,al2,al1,Xb] (by conv=>lhs;simp only[zac,zab,jP,zag])
def BR:=zag f145
def at8:=zae BR 0
def at7:=zae BR 1
def abq:=zae BR 2
def at6:=zae BR 3
def at5:=zae BR 4
def abp:=zae BR 5
def ahb:=zaf BR [at8,at7,abq,at6,at5,abp] (by conv=>lhs;simp only[zac,zab,BR,zag])
def Du:=zag f146
def at4:=zae Du 0
def at3:=zae Du 1
def abo:=zae Du 2
def at1:=zae Du 3
def at0:=zae Du 4
def Mc:=zaf Du [at4,at3,abo,at1,at0] (by conv=>lhs;simp only[zac,zab,Du,zag])
def ng:=zag f147
def atZ:=zae ng 0
def abn:=zae ng 1
def atY:=zae ng 2
def atX:=zae ng 3
def abm:=zae ng 4
def atW:=zae ng 5
def atV:=zae ng 6
def atU:=zae ng 7
def atT:=zae ng 8
def atS:=zae ng 9
def Xa:=zae ng 10
def al0:=zae ng 11
def alZ:=zae ng 12
def alY:=zae ng 13
def W9:=zae ng 14
def alX:=zae ng 15
def alW:=zae ng 16
def aha:=zaf ng [atZ,abn,atY,atX,abm,atW,atV,atU,atT,atS,Xa,al0,alZ,alY,W9,alX,alW] (by conv=>lhs;simp only[zac,zab,ng,zag])
def Dt:=zag f148
def atQ:=zae Dt 0
def atO:=zae Dt 1
def abl:=zae Dt 2
def atN:=zae Dt 3
def atM:=zae Dt 4
def T3:=zaf Dt [atQ,atO,abl,atN,atM] (by conv=>lhs;simp only[zac,zab,Dt,zag])
def vN:=zag f149
def atL:=zae vN 0
def atK:=zae vN 1
def abk:=zae vN 2
def atJ:=zae vN 3
def atI:=zae vN 4
def abj:=zae vN 5
def atH:=zae vN 6
def atG:=zae vN 7
def atF:=zae vN 8
def ag9:=zaf vN [atL,atK,abk,atJ,atI,abj,atH,atG,atF] (by conv=>lhs;simp only[zac,zab,vN,zag])
def rG:=zag f150
def aty:=zae rG 0
def atx:=zae rG 1
def abh:=zae rG 2
def atw:=zae rG 3
def atv:=zae rG 4
def abg:=zae rG 5
def atu:=zae rG 6
def att:=zae rG 7
def ats:=zae rG 8
def atr:=zae rG 9
def alV:=zae rG 10
def alU:=zae rG 11
def ag8:=zaf rG [aty,atx,abh,atw,atv,abg,atu,att,ats,atr,alV,alU] (by conv=>lhs;simp only[zac,zab,rG,zag])
def nf:=zag f151 (h:=by simp only[yc,f151,p3,me,fq];(repeat(conv in yy _ _ _ _ _=>cbv));(conv=>lhs;cbv))
def atq:=zae nf 0
def atp:=zae nf 1
def abf:=zae nf 2
def ato:=zae nf 3
def atn:=zae nf 4
def abe:=zae nf 5
def atm:=zae nf 6
def atl:=zae nf 7
def atk:=zae nf 8
def atj:=zae nf 9
def alT:=zae nf 10
def alS:=zae nf 11
def W8:=zae nf 12
def alR:=zae nf 13
def alQ:=zae nf 14
def alP:=zae nf 15
def alO:=zae nf 16
def ag7:=zaf nf [atq,atp,abf,ato,atn,abe,atm,atl,atk,atj,alT,alS,W8,alR,alQ,alP,alO] (by conv=>lhs;simp only[zac,zab,nf,zag])
def sN:=zag f152
def ati:=zae sN 0
def ath:=zae sN 1
def abd:=zae sN 2
def atg:=zae sN 3
def atf:=zae sN 4
def ate:=zae sN 5
def Qh:=zae sN 6
def atd:=zae sN 7
def abc:=zae sN 8
def atc:=zae sN 9
def OO:=zae sN 10
def ag6:=zaf sN [ati,ath,abd,atg,atf,ate,Qh,atd,abc,atc,OO] (by conv=>lhs;simp only[zac,zab,sN,zag])
def gx:=zag f153
def atb:=zae gx 0
def ata:=zae gx 1
def as9:=zae gx 2
def as8:=zae gx 3
def as7:=zae gx 4
def aNA:=zae gx 5
def aNz:=zae gx 6
def aNy:=zae gx 7
def aNx:=zae gx 8
def aNw:=zae gx 9
def aMf:=zae gx 10
def aMe:=zae gx 11
def aMd:=zae gx 12
def aMc:=zae gx 13
def aMb:=zae gx 14
def aMa:=zae gx 15
def aL9:=zae gx 16
def aL8:=zae gx 17
def aL7:=zae gx 18
def aL6:=zae gx 19
def aL5:=zae gx 20
def aL4:=zae gx 21
def aL3:=zae gx 22
def aL2:=zae gx 23
def aL1:=zae gx 24
def aL0:=zae gx 25
def aLZ:=zae gx 26
def aLY:=zae gx 27
def aLX:=zae gx 28
def aLW:=zae gx 29
def aLV:=zae gx 30
def T2:=zaf gx [atb,ata,as9,as8,as7,aNA,aNz,aNy,aNx,aNw,aMf,aMe,aMd,aMc,aMb,aMa,aL9,aL8,aL7,aL6,aL5,aL4,aL3,aL2,aL1,aL0,aLZ,aLY,aLX,aLW,aLV] (by conv=>lhs;simp only[zac,zab,gx,zag])
def JY:=zag f154
def as6:=zae JY 0
def aNv:=zae JY 1
def as5:=zae JY 2
def T0:=zaf JY [as6,aNv,as5] (by conv=>lhs;simp only[zac,zab,JY,zag])
def zM:=zag f155
def as4:=zae zM 0
def as3:=zae zM 1
def aNu:=zae zM 2
def as2:=zae zM 3
def abb:=zae zM 4
def as1:=zae zM 5
def as0:=zae zM 6
def ag5:=zaf zM [as4,as3,aNu,as2,abb,as1,as0] (by conv=>lhs;simp only[zac,zab,zM,zag])
def kC:=zag f156
def asZ:=zae kC 0
def asY:=zae kC 1
def asX:=zae kC 2
def asW:=zae kC 3
def asV:=zae kC 4
def aNt:=zae kC 5
def asU:=zae kC 6
def aNs:=zae kC 7
def asT:=zae kC 8
def asS:=zae kC 9
def aLU:=zae kC 10
def alN:=zae kC 11
def alM:=zae kC 12
def aLT:=zae kC 13
def alL:=zae kC 14
def alK:=zae kC 15
def aLS:=zae kC 16
def alJ:=zae kC 17
def alI:=zae kC 18
def aLR:=zae kC 19
def alH:=zae kC 20
def alG:=zae kC 21
def ag4:=zaf kC [asZ,asY,asX,asW,asV,aNt,asU,aNs,asT,asS,aLU,alN,alM,aLT,alL,alK,aLS,alJ,alI,aLR,alH,alG] (by conv=>lhs;simp only[zac,zab,kC,zag])
def rF:=zag f157
def JJ:=zae rF 0
def JI:=zae rF 1
def JH:=zae rF 2
def JG:=zae rF 3
def asR:=zae rF 4
def Qg:=zae rF 5
def asQ:=zae rF 6
def aba:=zae rF 7
def asP:=zae rF 8
def asO:=zae rF 9
def ON:=zae rF 10
def OM:=zae rF 11
def D7:=zaf rF [JJ,JI,JH,JG,asR,Qg,asQ,aba,asP,asO,ON,OM] (by conv=>lhs;simp only[zac,zab,rF,zag])
def zL:=zag f158
def aa9:=zae zL 0
def aa8:=zae zL 1
def aa7:=zae zL 2
def aa6:=zae zL 3
def aa5:=zae zL 4
def aa4:=zae zL 5
def aa3:=zae zL 6
def TZ:=zaf zL [aa9,aa8,aa7,aa6,aa5,aa4,aa3] (by conv=>lhs;simp only[zac,zab,zL,zag])
def zK:=zag f159
def aa2:=zae zK 0
def aa1:=zae zK 1
def aa0:=zae zK 2
def aaZ:=zae zK 3
def Ge:=zae zK 4
def aaY:=zae zK 5
def aaX:=zae zK 6
def TY:=zaf zK [aa2,aa1,aa0,aaZ,Ge,aaY,aaX] (by conv=>lhs;simp only[zac,zab,zK,zag])
def Ds:=zag f160
def aaW:=zae Ds 0
def aaV:=zae Ds 1
def aaU:=zae Ds 2
def aaT:=zae Ds 3
def aaS:=zae Ds 4
def TX:=zaf Ds [aaW,aaV,aaU,aaT,aaS] (by conv=>lhs;simp only[zac,zab,Ds,zag])
def sM:=zag f161
def asN:=zae sM 0
def asM:=zae sM 1
def asL:=zae sM 2
def aaR:=zae sM 3
def asK:=zae sM 4
def Qf:=zae sM 5
def asJ:=zae sM 6
def asI:=zae sM 7
def aaQ:=zae sM 8
def asH:=zae sM 9
def alF:=zae sM 10
def ag3:=zaf sM [asN,asM,asL,aaR,asK,Qf,asJ,asI,aaQ,asH,alF] (by conv=>lhs;simp only[zac,zab,sM,zag])
def Q9:=zag f162 ⟨false,[6]⟩
def asG:=zae Q9 0
def asF:=zae Q9 1
def ag2:=zaf Q9 [asG,asF] (by conv=>lhs;simp only[zac,zab,Q9,zag])
def Gq:=zag f163
def asE:=zae Gq 0
def asD:=zae Gq 1
def asC:=zae Gq 2
def asB:=zae Gq 3
def ag1:=zaf Gq [asE,asD,asC,asB] (by conv=>lhs;simp only[zac,zab,Gq,zag])
def sL:=zag f164
def asA:=zae sL 0
def asz:=zae sL 1
def asy:=zae sL 2
def asx:=zae sL 3
def asw:=zae sL 4
def asv:=zae sL 5
def asu:=zae sL 6
def ast:=zae sL 7
def ass:=zae sL 8
def asr:=zae sL 9
def alE:=zae sL 10
def ag0:=zaf sL [asA,asz,asy,asx,asw,asv,asu,ast,ass,asr,alE] (by conv=>lhs;simp only[zac,zab,sL,zag])
def Dq:=zag f165
def aaP:=zae Dq 0
def aaO:=zae Dq 1
def aaN:=zae Dq 2
def aaM:=zae Dq 3
def aaL:=zae Dq 4
def TW:=zaf Dq [aaP,aaO,aaN,aaM,aaL] (by conv=>lhs;simp only[zac,zab,Dq,zag])
def xR:=zag f166
def asq:=zae xR 0
def asp:=zae xR 1
def aso:=zae xR 2
def aaK:=zae xR 3
def asn:=zae xR 4
def asm:=zae xR 5
def aaJ:=zae xR 6
def asl:=zae xR 7
def agZ:=zaf xR [asq,asp,aso,aaK,asn,asm,aaJ,asl] (by conv=>lhs;simp only[zac,zab,xR,zag])
def qE:=zag f167
def asj:=zae qE 0
def asi:=zae qE 1
def ash:=zae qE 2
def asg:=zae qE 3
def vI:=zae qE 4
def Dj:=zae qE 5
def JF:=zae qE 6
def asf:=zae qE 7
def Qe:=zae qE 8
def ase:=zae qE 9
def W7:=zae qE 10
def alD:=zae qE 11
def alC:=zae qE 12
def agY:=zaf qE [asj,asi,ash,asg,vI,Dj,JF,asf,Qe,ase,W7,alD,alC] (by conv=>lhs;simp only[zac,zab,qE,zag])
def zJ:=zag f168
def asd:=zae zJ 0
def asc:=zae zJ 1
def asb:=zae zJ 2
def aaI:=zae zJ 3
def asa:=zae zJ 4
def ar9:=zae zJ 5
def ar8:=zae zJ 6
def agX:=zaf zJ [asd,asc,asb,aaI,asa,ar9,ar8] (by conv=>lhs;simp only[zac,zab,zJ,zag])
def zI:=zag f169
def ar7:=zae zI 0
def ar6:=zae zI 1
def ar5:=zae zI 2
def aaH:=zae zI 3
def ar4:=zae zI 4
def ar3:=zae zI 5
def ar2:=zae zI 6
def agW:=zaf zI [ar7,ar6,ar5,aaH,ar4,ar3,ar2] (by conv=>lhs;simp only[zac,zab,zI,zag])
def xQ:=zag f170
def ar1:=zae xQ 0
def ar0:=zae xQ 1
def Gd:=zae xQ 2
def arZ:=zae xQ 3
def JE:=zae xQ 4
def JD:=zae xQ 5
def arY:=zae xQ 6
def Qd:=zae xQ 7
def agV:=zaf xQ [ar1,ar0,Gd,arZ,JE,JD,arY,Qd] (by conv=>lhs;simp only[zac,zab,xQ,zag])
def vM:=zag f171
def arX:=zae vM 0
def arW:=zae vM 1
def arV:=zae vM 2
def Qc:=zae vM 3
def Qb:=zae vM 4
def Qa:=zae vM 5
def P9:=zae vM 6
def P8:=zae vM 7
def P7:=zae vM 8
def agU:=zaf vM [arX,arW,arV,Qc,Qb,Qa,P9,P8,P7] (by conv=>lhs;simp only[zac,zab,vM,zag])
def zH:=zag f172
def arU:=zae zH 0
def arT:=zae zH 1
def aaG:=zae zH 2
def arS:=zae zH 3
def aaF:=zae zH 4
def arR:=zae zH 5
def arQ:=zae zH 6
def agT:=zaf zH [arU,arT,aaG,arS,aaF,arR,arQ] (by conv=>lhs;simp only[zac,zab,zH,zag])
def Q8:=zag f173
def arP:=zae Q8 0
def arO:=zae Q8 1
def agS:=zaf Q8 [arP,arO] (by conv=>lhs;simp only[zac,zab,Q8,zag])
def Q7:=zag f174
def arN:=zae Q7 0
def arM:=zae Q7 1
def agR:=zaf Q7 [arN,arM] (by conv=>lhs;simp only[zac,zab,Q7,zag])
def zG:=zag f175 ⟨true,[]⟩
def arL:=zae zG 0
def arK:=zae zG 1
def arJ:=zae zG 2
def arI:=zae zG 3
def arH:=zae zG 4
def arG:=zae zG 5
def arF:=zae zG 6
def agQ:=zaf zG [arL,arK,arJ,arI,arH,arG,arF] (by conv=>lhs;simp only[zac,zab,zG,zag])
def Q6:=zag f176
def arE:=zae Q6 0
def arD:=zae Q6 1
def agP:=zaf Q6 [arE,arD] (by conv=>lhs;simp only[zac,zab,Q6,zag])
def Q5:=zag f177
def arC:=zae Q5 0
def arB:=zae Q5 1
def agO:=zaf Q5 [arC,arB] (by conv=>lhs;simp only[zac,zab,Q5,zag])
def sK:=zag f178
def arA:=zae sK 0
def arz:=zae sK 1
def ary:=zae sK 2
def P4:=zae sK 3
def arx:=zae sK 4
def arw:=zae sK 5
def arv:=zae sK 6
def aaE:=zae sK 7
def aru:=zae sK 8
def art:=zae sK 9
def alB:=zae sK 10
def agN:=zaf sK [arA,arz,ary,P4,arx,arw,arv,aaE,aru,art,alB] (by conv=>lhs;simp only[zac,zab,sK,zag])
end
end Go.Proofs.YtoioonbabnomkaaGreat.Am
