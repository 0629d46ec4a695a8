/- The program's functions as code of the abstract machine. Conditions: none. -/
import Derived.Test.YtoioonbabnomkaaGreatCa
set_option autoImplicit true
set_option relaxedAutoImplicit true
set_option maxRecDepth 100000
set_option maxHeartbeats 8000000
set_option linter.unusedSimpArgs false
set_option linter.unusedVariables false
set_option linter.unnecessarySimpa false
set_option linter.defProp false
namespace Go.Proofs.YtoioonbabnomkaaGreat.Am
section
open Go Go.Proofs Go.Proofs.Tryz
def rE:=zag f179
def ars:=zae rE 0
def arq:=zae rE 1
def arp:=zae rE 2
def aaD:=zae rE 3
def P3:=zae rE 4
def aaC:=zae rE 5
def aaB:=zae rE 6
def aaA:=zae rE 7
def aaz:=zae rE 8
def aay:=zae rE 9
def W6:=zae rE 10
def W5:=zae rE 11
def agM:=zaf rE [ars,arq,arp,aaD,P3,aaC,aaB,aaA,aaz,aay,W6,W5] (by conv=>lhs;simp only[zac,zab,rE,zag])
def vL:=zag f180
def ark:=zae vL 0
def arj:=zae vL 1
def P1:=zae vL 2
def ari:=zae vL 3
def aau:=zae vL 4
def arh:=zae vL 5
def arf:=zae vL 6
def ard:=zae vL 7
def arc:=zae vL 8
def agL:=zaf vL [ark,arj,P1,ari,aau,arh,arf,ard,arc] (by conv=>lhs;simp only[zac,zab,vL,zag])
def Q4:=zag f181
def arb:=zae Q4 0
def ara:=zae Q4 1
def Ma:=zaf Q4 [arb,ara] (by conv=>lhs;simp only[zac,zab,Q4,zag])
def xP:=zag f182
def aq9:=zae xP 0
def aq8:=zae xP 1
def aq7:=zae xP 2
def aq6:=zae xP 3
def aq5:=zae xP 4
def aq4:=zae xP 5
def aq3:=zae xP 6
def JB:=zae xP 7
def agK:=zaf xP [aq9,aq8,aq7,aq6,aq5,aq4,aq3,JB] (by conv=>lhs;simp only[zac,zab,xP,zag])
def xO:=zag f183
def aq2:=zae xO 0
def Gb:=zae xO 1
def aq1:=zae xO 2
def Ga:=zae xO 3
def aq0:=zae xO 4
def JA:=zae xO 5
def aqZ:=zae xO 6
def Jz:=zae xO 7
def agJ:=zaf xO [aq2,Gb,aq1,Ga,aq0,JA,aqZ,Jz] (by conv=>lhs;simp only[zac,zab,xO,zag])
def BQ:=zag f184
def aqY:=zae BQ 0
def aqX:=zae BQ 1
def P0:=zae BQ 2
def aqW:=zae BQ 3
def aqV:=zae BQ 4
def aqU:=zae BQ 5
def agI:=zaf BQ [aqY,aqX,P0,aqW,aqV,aqU] (by conv=>lhs;simp only[zac,zab,BQ,zag])
def ue:=zag f185
def aqT:=zae ue 0
def aqS:=zae ue 1
def aqR:=zae ue 2
def Jy:=zae ue 3
def aqQ:=zae ue 4
def PZ:=zae ue 5
def aqP:=zae ue 6
def aat:=zae ue 7
def aqO:=zae ue 8
def aas:=zae ue 9
def agH:=zaf ue [aqT,aqS,aqR,Jy,aqQ,PZ,aqP,aat,aqO,aas] (by conv=>lhs;simp only[zac,zab,ue,zag])
def zF:=zag f186
def PY:=zae zF 0
def PX:=zae zF 1
def PW:=zae zF 2
def PU:=zae zF 3
def PT:=zae zF 4
def PS:=zae zF 5
def PR:=zae zF 6
def L9:=zaf zF [PY,PX,PW,PU,PT,PS,PR] (by conv=>lhs;simp only[zac,zab,zF,zag])
def sJ:=zag f187
def F9:=zae sJ 0
def F8:=zae sJ 1
def F7:=zae sJ 2
def F6:=zae sJ 3
def F5:=zae sJ 4
def F4:=zae sJ 5
def F3:=zae sJ 6
def F1:=zae sJ 7
def FZ:=zae sJ 8
def FY:=zae sJ 9
def Fs:=zae sJ 10
def D6:=zaf sJ [F9,F8,F7,F6,F5,F4,F3,F1,FZ,FY,Fs] (by conv=>lhs;simp only[zac,zab,sJ,zag])
def Q3:=zag f188
def aqN:=zae Q3 0
def aqM:=zae Q3 1
def agG:=zaf Q3 [aqN,aqM] (by conv=>lhs;simp only[zac,zab,Q3,zag])
def Q1:=zag f189
def aqL:=zae Q1 0
def aqK:=zae Q1 1
def agF:=zaf Q1 [aqL,aqK] (by conv=>lhs;simp only[zac,zab,Q1,zag])
def oA:=zag f190
def aqI:=zae oA 0
def aar:=zae oA 1
def aqH:=zae oA 2
def aqG:=zae oA 3
def aqF:=zae oA 4
def PQ:=zae oA 5
def PO:=zae oA 6
def aqE:=zae oA 7
def aaq:=zae oA 8
def aqD:=zae oA 9
def alA:=zae oA 10
def alz:=zae oA 11
def W4:=zae oA 12
def W3:=zae oA 13
def W2:=zae oA 14
def aly:=zae oA 15
def TU:=zaf oA [aqI,aar,aqH,aqG,aqF,PQ,PO,aqE,aaq,aqD,alA,alz,W4,W3,W2,aly] (by conv=>lhs;simp only[zac,zab,oA,zag])
def Dp:=zag f191
def aap:=zae Dp 0
def aao:=zae Dp 1
def aan:=zae Dp 2
def aam:=zae Dp 3
def PN:=zae Dp 4
def TT:=zaf Dp [aap,aao,aan,aam,PN] (by conv=>lhs;simp only[zac,zab,Dp,zag])
def Q0:=zag f192
def aqC:=zae Q0 0
def PM:=zae Q0 1
def agE:=zaf Q0 [aqC,PM] (by conv=>lhs;simp only[zac,zab,Q0,zag])
def QZ:=zag f193
def aqB:=zae QZ 0
def aqA:=zae QZ 1
def TS:=zaf QZ [aqB,aqA] (by conv=>lhs;simp only[zac,zab,QZ,zag])
def Gp:=zag f194
def aal:=zae Gp 0
def aak:=zae Gp 1
def aaj:=zae Gp 2
def aai:=zae Gp 3
def TQ:=zaf Gp [aal,aak,aaj,aai] (by conv=>lhs;simp only[zac,zab,Gp,zag])
def BP:=zag f195
def PL:=zae BP 0
def PJ:=zae BP 1
def aah:=zae BP 2
def PI:=zae BP 3
def aag:=zae BP 4
def PH:=zae BP 5
def HD:=zaf BP [PL,PJ,aah,PI,aag,PH] (by conv=>lhs;simp only[zac,zab,BP,zag])
def Gn:=zag f196
def aaf:=zae Gn 0
def aae:=zae Gn 1
def aqz:=zae Gn 2
def aad:=zae Gn 3
def TP:=zaf Gn [aaf,aae,aqz,aad] (by conv=>lhs;simp only[zac,zab,Gn,zag])
def zE:=zag f197
def aqy:=zae zE 0
def aac:=zae zE 1
def aqx:=zae zE 2
def aab:=zae zE 3
def aqw:=zae zE 4
def aqv:=zae zE 5
def PG:=zae zE 6
def agD:=zaf zE [aqy,aac,aqx,aab,aqw,aqv,PG] (by conv=>lhs;simp only[zac,zab,zE,zag])
def QY:=zag f203
def aqu:=zae QY 0
def aaa:=zae QY 1
def agC:=zaf QY [aqu,aaa] (by conv=>lhs;simp only[zac,zab,QY,zag])
def sI:=zag f207
def aqt:=zae sI 0
def aqs:=zae sI 1
def aNr:=zae sI 2
def aNq:=zae sI 3
def aqr:=zae sI 4
def aNp:=zae sI 5
def aNo:=zae sI 6
def aqq:=zae sI 7
def aNn:=zae sI 8
def aNm:=zae sI 9
def alx:=zae sI 10
def agB:=zaf sI [aqt,aqs,aNr,aNq,aqr,aNp,aNo,aqq,aNn,aNm,alx] (by conv=>lhs;simp only[zac,zab,sI,zag])
def BO:=zag f208
def aqp:=zae BO 0
def aqo:=zae BO 1
def aqn:=zae BO 2
def aqm:=zae BO 3
def aql:=zae BO 4
def aqk:=zae BO 5
def agA:=zaf BO [aqp,aqo,aqn,aqm,aql,aqk] (by conv=>lhs;simp only[zac,zab,BO,zag])
def px:=zag f209
def aqj:=zae px 0
def Z8:=zae px 1
def aqi:=zae px 2
def aqh:=zae px 3
def aqg:=zae px 4
def PE:=zae px 5
def Z5:=zae px 6
def aqf:=zae px 7
def aqe:=zae px 8
def aqd:=zae px 9
def alw:=zae px 10
def alv:=zae px 11
def alu:=zae px 12
def als:=zae px 13
def alr:=zae px 14
def agz:=zaf px [aqj,Z8,aqi,aqh,aqg,PE,Z5,aqf,aqe,aqd,alw,alv,alu,als,alr] (by conv=>lhs;simp only[zac,zab,px,zag])
def xN:=zag f210
def ap8:=zae xN 0
def ap7:=zae xN 1
def PC:=zae xN 2
def Z3:=zae xN 3
def ZZ:=zae xN 4
def ZY:=zae xN 5
def ap6:=zae xN 6
def ZX:=zae xN 7
def agy:=zaf xN [ap8,ap7,PC,Z3,ZZ,ZY,ap6,ZX] (by conv=>lhs;simp only[zac,zab,xN,zag])
def zD:=zag f211
def PB:=zae zD 0
def PA:=zae zD 1
def Pz:=zae zD 2
def ZW:=zae zD 3
def Py:=zae zD 4
def ZV:=zae zD 5
def Px:=zae zD 6
def L8:=zaf zD [PB,PA,Pz,ZW,Py,ZV,Px] (by conv=>lhs;simp only[zac,zab,zD,zag])
def oz:=zag f212
def Pw:=zae oz 0
def Pv:=zae oz 1
def Pu:=zae oz 2
def ap5:=zae oz 3
def ZU:=zae oz 4
def ZT:=zae oz 5
def ap4:=zae oz 6
def ap3:=zae oz 7
def ZS:=zae oz 8
def ap2:=zae oz 9
def alq:=zae oz 10
def alp:=zae oz 11
def alo:=zae oz 12
def aln:=zae oz 13
def alm:=zae oz 14
def alk:=zae oz 15
def L7:=zaf oz [Pw,Pv,Pu,ap5,ZU,ZT,ap4,ap3,ZS,ap2,alq,alp,alo,aln,alm,alk] (by conv=>lhs;simp only[zac,zab,oz,zag])
def pw:=zag f213
def ZR:=zae pw 0
def ZQ:=zae pw 1
def ZP:=zae pw 2
def ap1:=zae pw 3
def ap0:=zae pw 4
def apZ:=zae pw 5
def ZO:=zae pw 6
def apY:=zae pw 7
def ZN:=zae pw 8
def apX:=zae pw 9
def alj:=zae pw 10
def ali:=zae pw 11
def alh:=zae pw 12
def alg:=zae pw 13
def alf:=zae pw 14
def TN:=zaf pw [ZR,ZQ,ZP,ap1,ap0,apZ,ZO,apY,ZN,apX,alj,ali,alh,alg,alf] (by conv=>lhs;simp only[zac,zab,pw,zag])
def zC:=zag f214
def ZM:=zae zC 0
def ZL:=zae zC 1
def ZK:=zae zC 2
def ZJ:=zae zC 3
def ZI:=zae zC 4
def ZH:=zae zC 5
def ZG:=zae zC 6
def TM:=zaf zC [ZM,ZL,ZK,ZJ,ZI,ZH,ZG] (by conv=>lhs;simp only[zac,zab,zC,zag])
def Gm:=zag f215
def apW:=zae Gm 0
def apV:=zae Gm 1
def apU:=zae Gm 2
def apT:=zae Gm 3
def agx:=zaf Gm [apW,apV,apU,apT] (by conv=>lhs;simp only[zac,zab,Gm,zag])
def zq216:=zag f216
def c216_0:=zae zq216 0
def c216_1:=zae zq216 1
def c216_2:=zae zq216 2
def c216_3:=zae zq216 3
def c216_4:=zae zq216 4
def c216_5:=zae zq216 5
def c216_6:=zae zq216 6
def c216_7:=zae zq216 7
def c216_8:=zae zq216 8
def c216_9:=zae zq216 9
def c216:=zaf zq216 [c216_0,c216_1,c216_2,c216_3,c216_4,c216_5,c216_6,c216_7,c216_8,c216_9] (by conv=>lhs;simp only[zac,zab,zq216,zag])
def zB:=zag f217
def apS:=zae zB 0
def apR:=zae zB 1
def Pt:=zae zB 2
def ZF:=zae zB 3
def apQ:=zae zB 4
def apP:=zae zB 5
def apO:=zae zB 6
def agw:=zaf zB [apS,apR,Pt,ZF,apQ,apP,apO] (by conv=>lhs;simp only[zac,zab,zB,zag])
def zA:=zag f218
def apN:=zae zA 0
def apM:=zae zA 1
def ZE:=zae zA 2
def ZD:=zae zA 3
def apL:=zae zA 4
def apK:=zae zA 5
def apJ:=zae zA 6
def agv:=zaf zA [apN,apM,ZE,ZD,apL,apK,apJ] (by conv=>lhs;simp only[zac,zab,zA,zag])
def zw:=zag f219
def apI:=zae zw 0
def apH:=zae zw 1
def Pr:=zae zw 2
def ZC:=zae zw 3
def apG:=zae zw 4
def apF:=zae zw 5
def apE:=zae zw 6
def agu:=zaf zw [apI,apH,Pr,ZC,apG,apF,apE] (by conv=>lhs;simp only[zac,zab,zw,zag])
def xM:=zag f220
def apD:=zae xM 0
def apC:=zae xM 1
def ZB:=zae xM 2
def ZA:=zae xM 3
def Zz:=zae xM 4
def Zy:=zae xM 5
def Zx:=zae xM 6
def Zw:=zae xM 7
def agt:=zaf xM [apD,apC,ZB,ZA,Zz,Zy,Zx,Zw] (by conv=>lhs;simp only[zac,zab,xM,zag])
def xL:=zag f221
def apB:=zae xL 0
def apA:=zae xL 1
def Zv:=zae xL 2
def Zu:=zae xL 3
def Zt:=zae xL 4
def Zs:=zae xL 5
def Zr:=zae xL 6
def Zq:=zae xL 7
def ags:=zaf xL [apB,apA,Zv,Zu,Zt,Zs,Zr,Zq] (by conv=>lhs;simp only[zac,zab,xL,zag])
def QX:=zag f222
def apz:=zae QX 0
def apy:=zae QX 1
def agr:=zaf QX [apz,apy] (by conv=>lhs;simp only[zac,zab,QX,zag])
def Dn:=zag f223
def apx:=zae Dn 0
def apw:=zae Dn 1
def Zp:=zae Dn 2
def Zo:=zae Dn 3
def Zn:=zae Dn 4
def agq:=zaf Dn [apx,apw,Zp,Zo,Zn] (by conv=>lhs;simp only[zac,zab,Dn,zag])
def Gl:=zag f224
def apv:=zae Gl 0
def apu:=zae Gl 1
def apt:=zae Gl 2
def aps:=zae Gl 3
def agp:=zaf Gl [apv,apu,apt,aps] (by conv=>lhs;simp only[zac,zab,Gl,zag])
def QW:=zag f225
def apr:=zae QW 0
def apq:=zae QW 1
def TL:=zaf QW [apr,apq] (by conv=>lhs;simp only[zac,zab,QW,zag])
def JX:=zag f226
def Zm:=zae JX 0
def Zl:=zae JX 1
def Pq:=zae JX 2
def TK:=zaf JX [Zm,Zl,Pq] (by conv=>lhs;simp only[zac,zab,JX,zag])
def zq227:=zag f227
def c227_0:=zae zq227 0
def c227_1:=zae zq227 1
def c227_2:=zae zq227 2
def c227_3:=zae zq227 3
def c227:=zaf zq227 [c227_0,c227_1,c227_2,c227_3] (by conv=>lhs;simp only[zac,zab,zq227,zag])
def QV:=zag f228
def apo:=zae QV 0
def apn:=zae QV 1
def ago:=zaf QV [apo,apn] (by conv=>lhs;simp only[zac,zab,QV,zag])
def QU:=zag f229
def apm:=zae QU 0
def apl:=zae QU 1
def agn:=zaf QU [apm,apl] (by conv=>lhs;simp only[zac,zab,QU,zag])
def ud:=zag f230
def Zk:=zae ud 0
def Zj:=zae ud 1
def Zi:=zae ud 2
def apk:=zae ud 3
def apj:=zae ud 4
def aph:=zae ud 5
def Zh:=zae ud 6
def apg:=zae ud 7
def apf:=zae ud 8
def ape:=zae ud 9
def TJ:=zaf ud [Zk,Zj,Zi,apk,apj,aph,Zh,apg,apf,ape] (by conv=>lhs;simp only[zac,zab,ud,zag])
def QT:=zag f231
def apd:=zae QT 0
def apc:=zae QT 1
def agm:=zaf QT [apd,apc] (by conv=>lhs;simp only[zac,zab,QT,zag])
def BN:=zag f232
def Zg:=zae BN 0
def Ze:=zae BN 1
def Zd:=zae BN 2
def apb:=zae BN 3
def apa:=zae BN 4
def Zc:=zae BN 5
def L6:=zaf BN [Zg,Ze,Zd,apb,apa,Zc] (by conv=>lhs;simp only[zac,zab,BN,zag])
def sH:=zag f233
def Zb:=zae sH 0
def Za:=zae sH 1
def Y9:=zae sH 2
def Y8:=zae sH 3
def Y7:=zae sH 4
def Y6:=zae sH 5
def Y5:=zae sH 6
def Y4:=zae sH 7
def Y3:=zae sH 8
def Y0:=zae sH 9
def W1:=zae sH 10
def LZ:=zaf sH [Zb,Za,Y9,Y8,Y7,Y6,Y5,Y4,Y3,Y0,W1] (by conv=>lhs;simp only[zac,zab,sH,zag])
def xK:=zag f234
def ao9:=zae xK 0
def ao8:=zae xK 1
def ao7:=zae xK 2
def YZ:=zae xK 3
def ao6:=zae xK 4
def ao5:=zae xK 5
def ao4:=zae xK 6
def ao3:=zae xK 7
def agl:=zaf xK [ao9,ao8,ao7,YZ,ao6,ao5,ao4,ao3] (by conv=>lhs;simp only[zac,zab,xK,zag])
def QS:=zag f240
def ao2:=zae QS 0
def ao1:=zae QS 1
def agk:=zaf QS [ao2,ao1] (by conv=>lhs;simp only[zac,zab,QS,zag])
def uc:=zag f241
def YY:=zae uc 0
def YX:=zae uc 1
def YW:=zae uc 2
def YV:=zae uc 3
def YU:=zae uc 4
def ao0:=zae uc 5
def YT:=zae uc 6
def YS:=zae uc 7
def YR:=zae uc 8
def aoZ:=zae uc 9
def TI:=zaf uc [YY,YX,YW,YV,YU,ao0,YT,YS,YR,aoZ] (by conv=>lhs;simp only[zac,zab,uc,zag])
def BM:=zag f242
def Jx:=zae BM 0
def Jw:=zae BM 1
def Jv:=zae BM 2
def Ju:=zae BM 3
def Jt:=zae BM 4
def Js:=zae BM 5
def HC:=zaf BM [Jx,Jw,Jv,Ju,Jt,Js] (by conv=>lhs;simp only[zac,zab,BM,zag])
def qD:=zag f243
def aoY:=zae qD 0
def aoX:=zae qD 1
def aoW:=zae qD 2
def YQ:=zae qD 3
def aoV:=zae qD 4
def aoU:=zae qD 5
def aoT:=zae qD 6
def aoS:=zae qD 7
def Pp:=zae qD 8
def YP:=zae qD 9
def W0:=zae qD 10
def WZ:=zae qD 11
def ale:=zae qD 12
def agj:=zaf qD [aoY,aoX,aoW,YQ,aoV,aoU,aoT,aoS,Pp,YP,W0,WZ,ale] (by conv=>lhs;simp only[zac,zab,qD,zag])
def QR:=zag f244
def aoR:=zae QR 0
def aoQ:=zae QR 1
def agi:=zaf QR [aoR,aoQ] (by conv=>lhs;simp only[zac,zab,QR,zag])
def Gk:=zag f245
def Po:=zae Gk 0
def Pn:=zae Gk 1
def YO:=zae Gk 2
def Pm:=zae Gk 3
def HA:=zaf Gk [Po,Pn,YO,Pm] (by conv=>lhs;simp only[zac,zab,Gk,zag])
def rD:=zag f246
def aoP:=zae rD 0
def aoO:=zae rD 1
def Di:=zae rD 2
def FW:=zae rD 3
def FV:=zae rD 4
def FU:=zae rD 5
def FT:=zae rD 6
def FR:=zae rD 7
def Pl:=zae rD 8
def FQ:=zae rD 9
def OL:=zae rD 10
def WY:=zae rD 11
def agh:=zaf rD [aoP,aoO,Di,FW,FV,FU,FT,FR,Pl,FQ,OL,WY] (by conv=>lhs;simp only[zac,zab,rD,zag])
def acW:=zag f247
def YN:=zae acW 0
def TH:=zaf acW [YN] (by conv=>lhs;simp only[zac,zab,acW,zag])
def QQ:=zag f248
def aoN:=zae QQ 0
def aoM:=zae QQ 1
def agf:=zaf QQ [aoN,aoM] (by conv=>lhs;simp only[zac,zab,QQ,zag])
def QP:=zag f249
def aoL:=zae QP 0
def YM:=zae QP 1
def age:=zaf QP [aoL,YM] (by conv=>lhs;simp only[zac,zab,QP,zag])
def QO:=zag f250
def aoK:=zae QO 0
def aoJ:=zae QO 1
def agd:=zaf QO [aoK,aoJ] (by conv=>lhs;simp only[zac,zab,QO,zag])
def xJ:=zag f251
def aoI:=zae xJ 0
def aoH:=zae xJ 1
def Pk:=zae xJ 2
def YL:=zae xJ 3
def YK:=zae xJ 4
def aoG:=zae xJ 5
def aoF:=zae xJ 6
def aoE:=zae xJ 7
def agc:=zaf xJ [aoI,aoH,Pk,YL,YK,aoG,aoF,aoE] (by conv=>lhs;simp only[zac,zab,xJ,zag])
def Dm:=zag f252
def YJ:=zae Dm 0
def YI:=zae Dm 1
def YH:=zae Dm 2
def YG:=zae Dm 3
def YF:=zae Dm 4
def TG:=zaf Dm [YJ,YI,YH,YG,YF] (by conv=>lhs;simp only[zac,zab,Dm,zag])
def zq254:=zag f254 ⟨false,[26]⟩
def c254_0:=zae zq254 0
def c254_1:=zae zq254 1
def c254_2:=zae zq254 2
def c254_3:=zae zq254 3
def c254_4:=zae zq254 4
def c254_5:=zae zq254 5
def c254_6:=zae zq254 6
def c254_7:=zae zq254 7
def c254:=zaf zq254 [c254_0,c254_1,c254_2,c254_3,c254_4,c254_5,c254_6,c254_7] (by conv=>lhs;simp only[zac,zab,zq254,zag])
def vK:=zag f255
def aoD:=zae vK 0
def aoC:=zae vK 1
def aoB:=zae vK 2
def Pj:=zae vK 3
def aoA:=zae vK 4
def aoz:=zae vK 5
def aoy:=zae vK 6
def aox:=zae vK 7
def YE:=zae vK 8
def agb:=zaf vK [aoD,aoC,aoB,Pj,aoA,aoz,aoy,aox,YE] (by conv=>lhs;simp only[zac,zab,vK,zag])
def QN:=zag f256
def aow:=zae QN 0
def aov:=zae QN 1
def aga:=zaf QN [aow,aov] (by conv=>lhs;simp only[zac,zab,QN,zag])
def c257_0:List RO:=[p 6 (.tB (.const (.vs [] .full)))]
def c257_1:List RO:=[m 10 0,m 11 1,p 12 (.nQ 2 (t 10) (some (t 11)) none none)]
def c257_2:List RO:=[m 13 2,ln 14 13,m 7 14]
def c257_3:List RO:=[m 15 7,b 16 .eql (t 15) (z 0)]
def c257_4:List RO:=[m 17 0,m 6 17]
def c257_5:List RO:=[m 18 0,ln 19 18,m 8 19]
def c257_6:List RO:=[m 20 1,m 21 8,b 22 .eql (t 20) (t 21)]
def c257_7:List RO:=[m 23 0,m 24 2,e 25 (.BC 4 2 (t 23) (t 24)),m 6 25]
def c257_8:List RO:=[m 26 8,m 27 7,b 28 .add (t 26) (t 27),m 29 0,p 30 (.Hx (t 29)),b 31 .gtr (t 28) (t 30)]
def c257_9:List RO:=[m 32 0,m 33 1,p 34 (.nQ 2 (t 32) none (some (t 33)) none),m 35 8,m 36 7,b 37 .add (t 35) (t 36),m 38 1,b 39 .sub (t 37) (t 38),e 40 (.BB 4 [(.int .u16 0),(.int .u8 0)] (t 34) (t 39)),m 9 40]
def c257_10:List RO:=[m 41 9,m 42 1,p 43 (.nQ 2 (t 41) (some (t 42)) none none),m 44 2,e 45 (.copy 2 (t 43) (t 44))]
def c257_11:List RO:=[m 46 9,m 47 1,m 48 7,b 49 .add (t 47) (t 48),p 50 (.nQ 2 (t 46) (some (t 49)) none none),m 51 0,m 52 1,p 53 (.nQ 2 (t 51) (some (t 52)) none none),e 54 (.copy 2 (t 50) (t 53))]
def c257_12:List RO:=[m 55 9,m 6 55]
def c257_13:List RO:=[m 56 0,m 57 8,m 58 7,b 59 .add (t 57) (t 58),p 60 (.nQ 2 (t 56) none (some (t 59)) none),m 0 60]
def c257_14:List RO:=[m 61 2,m 62 0,m 63 1,m 64 7,b 65 .add (t 63) (t 64),p 66 (.nQ 2 (t 62) (some (t 65)) none none),p 67 (.wI 2 (t 61) (t 66)),p 68 (.un .not (t 67))]
def c257_15:List RO:=[m 69 0,m 70 1,m 71 7,b 72 .add (t 70) (t 71),p 73 (.nQ 2 (t 69) (some (t 72)) none none),m 74 0,m 75 1,p 76 (.nQ 2 (t 74) (some (t 75)) none none),e 77 (.zY 2 (t 73) (t 76))]
def c257_16:List RO:=[m 78 0,m 79 1,p 80 (.nQ 2 (t 78) (some (t 79)) none none),m 81 2,e 82 (.zY 2 (t 80) (t 81))]
def c257_17:List RO:=[m 83 0,m 6 83]
def c257_18:List RO:=[m 84 0,m 85 8,p 86 (.nQ 2 (t 84) (some (t 85)) none none),m 87 2,e 88 (.copy 2 (t 86) (t 87))]
def c257_19:List RO:=[m 89 0,m 90 1,p 91 (.nQ 2 (t 89) (some (t 90)) none none),m 92 7,c 93 266 [(t 91),(t 92)]]
def c257_20:List RO:=[m 94 0,m 6 94]
def c257:jc:=⟨(.seq (.cA c257_0) (.seq (.cA c257_1) (.seq (.cA c257_2) (.seq (.seq (.cA c257_3) (.cond (t 16) (.seq (.cA c257_4) .ret) .skip)) (.seq (.cA c257_5) (.seq (.seq (.cA c257_6) (.cond (t 22) (.seq (.cA c257_7) .ret) .skip)) (.seq (.seq (.cA c257_8) (.cond (t 31) (.seq (.cA c257_9) (.seq (.cA c257_10) (.seq (.jG c257_11 [[],[],[],[],[],[],[],[],[]]) (.seq (.cA c257_12) .ret)))) .skip)) (.seq (.cA c257_13) (.seq (.seq (.cA c257_14) (.cond (t 68) (.seq (.jG c257_15 [[],[],[],[],[],[],[],[],[]]) (.seq (.cA c257_16) (.seq (.cA c257_17) .ret))) .skip)) (.seq (.cA c257_18) (.seq (.cA c257_19) (.seq (.cA c257_20) .ret)))))))))))),95,[.tmp 6]⟩
def QM:=zag f258
def aou:=zae QM 0
def aot:=zae QM 1
def af9:=zaf QM [aou,aot] (by conv=>lhs;simp only[zac,zab,QM,zag])
def QL:=zag f259
def YD:=zae QL 0
def YC:=zae QL 1
def TF:=zaf QL [YD,YC] (by conv=>lhs;simp only[zac,zab,QL,zag])
def Gj:=zag f260
def aos:=zae Gj 0
def aor:=zae Gj 1
def aNl:=zae Gj 2
def aoq:=zae Gj 3
def af8:=zaf Gj [aos,aor,aNl,aoq] (by conv=>lhs;simp only[zac,zab,Gj,zag])
def xI:=zag f261
def aop:=zae xI 0
def aoo:=zae xI 1
def YB:=zae xI 2
def YA:=zae xI 3
def Yz:=zae xI 4
def Yy:=zae xI 5
def Yx:=zae xI 6
def Yw:=zae xI 7
def af7:=zaf xI [aop,aoo,YB,YA,Yz,Yy,Yx,Yw] (by conv=>lhs;simp only[zac,zab,xI,zag])
def Gi:=zag f262
def aon:=zae Gi 0
def aom:=zae Gi 1
def aol:=zae Gi 2
def aok:=zae Gi 3
def af6:=zaf Gi [aon,aom,aol,aok] (by conv=>lhs;simp only[zac,zab,Gi,zag])
def QK:=zag f263
def aoj:=zae QK 0
def aoi:=zae QK 1
def af5:=zaf QK [aoj,aoi] (by conv=>lhs;simp only[zac,zab,QK,zag])
def Gh:=zag f264
def Yv:=zae Gh 0
def Yu:=zae Gh 1
def Yt:=zae Gh 2
def Ys:=zae Gh 3
def TE:=zaf Gh [Yv,Yu,Yt,Ys] (by conv=>lhs;simp only[zac,zab,Gh,zag])
def QJ:=zag f267
def aoh:=zae QJ 0
def aog:=zae QJ 1
def af4:=zaf QJ [aoh,aog] (by conv=>lhs;simp only[zac,zab,QJ,zag])
def JW:=zag f268
def Yr:=zae JW 0
def Yq:=zae JW 1
def Yp:=zae JW 2
def TD:=zaf JW [Yr,Yq,Yp] (by conv=>lhs;simp only[zac,zab,JW,zag])
end
end Go.Proofs.YtoioonbabnomkaaGreat.Am
