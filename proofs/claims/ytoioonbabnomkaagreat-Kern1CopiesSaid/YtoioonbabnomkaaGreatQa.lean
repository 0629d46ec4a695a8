/- What the functions do. Conditions: none. -/
import Derived.Test.YtoioonbabnomkaaGreatEa
set_option autoImplicit true
set_option relaxedAutoImplicit true
set_option maxRecDepth 100000
set_option maxHeartbeats 8000000
set_option linter.unusedSimpArgs false
set_option linter.unusedVariables false
set_option linter.unnecessarySimpa false
set_option linter.defProp false
namespace Go.Proofs.YtoioonbabnomkaaGreat.Am
section
open Go
variable {P:Program}
def yr:List Nat:=[13830554455654793216,0,0,4602678819172646912,4607182418800017408,4611686018427387904]
def yt:List Nat:=[4611686018427387904,4607182418800017408,0,0,0,13830554455654793216]
theorem aFw (ok:aA P tb):al P 267 [] h (.vs [[.fT .f64 13830554455654793216 4611686018427387904],[.fT .f64 0 4607182418800017408],[.fT .f64 0 0],[.fT .f64 4602678819172646912 0],[.fT .f64 4607182418800017408 0],[.fT .f64 4611686018427387904 13830554455654793216]] .au) h:=by
 refine ok.df (rf:=af4) rfl (bT rfl) rfl ?_
 simp+decide only[sv,af4,aoh,aog,aV]
 rfl
def aif (ok:aA P tb) {x:Nat} (hx:x<6):al P 260 [.int .u8 x] h (.fT .f64 (yr.getD x 0) (yt.getD x 0)) h:=by
 refine ok.gO af8 ?_
 have h5: ¬(5:Int)<(x:Int):=by omega
 have h0:(0:Int)<=x:=by omega
 have e:kj 1 (.vs [[.fT .f64 13830554455654793216 4611686018427387904],[.fT .f64 0 4607182418800017408],[.fT .f64 0 0],[.fT .f64 4602678819172646912 0],[.fT .f64 4607182418800017408 0],[.fT .f64 4611686018427387904 13830554455654793216]] .au) (.int .u8 x)=some (.vp [.fT .f64 (yr.getD x 0) (yt.getD x 0)] 0):=by
  unfold kj
  simp only[ax h0,i9]
  match x,hx with
  |0,_=>rfl
  |1,_=>rfl
  |2,_=>rfl
  |3,_=>rfl
  |4,_=>rfl
  |5,_=>rfl
 simp+decide only[sv,af8,aos,aor,h5]
 simp+decide only[sv,aoq]
 refine ao (aFw ok) ?_
 simp+decide only[sv,e]
theorem amy {a b:Nat}:GH false (.fT k a b)=some (.eW k a):=rfl
theorem aMA {a b:Nat}:GH true (.fT k a b)=some (.eW k b):=rfl
def Mu (o:Option AV):Bool:=match o with|some (.bool b)=>b|_=>false
def Uv (o:Option AV):Bool:=match o with|some (.bool _)=>true|_=>false
def amF (h:Uv o=true):o=some (.bool (Mu o)):=by
 unfold Uv at h
 split at h
 ·rfl
 ·cases h
def aMz: ∀x,x<6-> ∀y,y<6->Uv (bH false .leq (.eW .f64 (yr.getD x 0)) (.eW .f64 (yr.getD y 0)))=true/\Uv (bH false .geq (.eW .f64 (yt.getD x 0)) (.eW .f64 (yt.getD y 0)))=true/\(Mu (bH false .leq (.eW .f64 (yr.getD x 0)) (.eW .f64 (yr.getD y 0)))&&Mu (bH false .geq (.eW .f64 (yt.getD x 0)) (.eW .f64 (yt.getD y 0))))=decide (x<=y):=by decide+kernel
def aFx (ok:aA P tb) (hx:x<6) (hy:y<6):al P 259 [.fT .f64 (yr.getD x 0) (yt.getD x 0), .fT .f64 (yr.getD y 0) (yt.getD y 0)] h (.bool (decide (x<=y))) h:=by
 refine ok.gO TF ?_
 obtain⟨t1,t2,t3⟩:=aMz x hx y hy
 have e1:=amF t1
 have e2:=amF t2
 rw[<-t3]
 generalize Mu (bH false .leq (.eW .f64 (yr.getD x 0)) (.eW .f64 (yr.getD y 0)))=b1 at*
 generalize Mu (bH false .geq (.eW .f64 (yt.getD x 0)) (.eW .f64 (yt.getD y 0)))=b2 at*
 cases b1 with
 |false=>
  simp+decide only[sv,TF,YD,YC,amy,e1]
  grind
 |true=>
  simp+decide only[sv,TF,YD,YC,amy,aMA,e1,e2]
  first|rfl|skip
def aIJ (ok:aA P tb) {x y:Nat} (hx:x<6) (hy:y<6):al P 245 [.int .u8 x, .int .u8 y] h (.bool (decide (x<=y))) h:=by
 refine ok.gO HA ?_
 have h1: ¬(5:Int)<(x:Int):=by omega
 have h2: ¬(5:Int)<(y:Int):=by omega
 simp+decide only[sv,HA,Po,Pn,Pm,h1,h2]
 refine ao (aif ok hx) ?_
 simp+decide only[sv]
 refine ao (aif ok hy) ?_
 simp+decide only[sv]
 refine ao (aFx ok hx hy) ?_
 simp+decide only[sv]
def aI9 {x:Nat} (hx:x<s.size) (hk: ∀y:Nat,y<256->exec P os (put ρ d (.int .u8 y)) h K):R3 P d os ρ h K (Bx (.str s) (.int .u8 x)):=by
 have h0:(0:Int)<=x:=by omega
 have e:Bx (.str s) (.int .u8 x)=some (.int .u8 (s[x].toNat:Nat)):=by
  unfold Bx
  grind
 rw[e]
 exact⟨_,rfl,hk _ s[x].toNat_lt⟩
def aGo (ok:aA P tb) {x:Nat} (hx:x<256): ∃y,al P 207 [.int .u64 x] h (.int .i64 y) h:=by
 have hv: ∃v h',al P 207 [.int .u64 x] h v h'/\ ∃y,v= .int .i64 y/\h'=h:=by
  refine ok.kP agB ?_
  have h1: ¬(4294967296:Int)<=(x:Int):=by omega
  have h2: ¬(65536:Int)<=(x:Int):=by omega
  have h3: ¬(256:Int)<=(x:Int):=by omega
  have w:IntKind.wrap .u8 (x:Int)=x:=by rw[wrap_u8];unfold wG;simp;omega
  simp+decide only[sv,agB,aqt,aqs,aqr,aqq,alx,h1,h2,h3,w]
  refine aI9 (show x<256 from hx) fun y hy=>?_
  simp+decide only[sv,eK]
  exact⟨_,rfl⟩
 grind
def aFn (ok:aA P tb) {x:Nat} (hx:x<13): ∃y,al P 154 [.int .u64 x] h (.int .i64 y) h:=by
 obtain⟨y,c⟩:=aGo ok (x:=x) (by omega) (h:=h)
 refine⟨y,ok.gO T0 ?_⟩
 simp+decide only[sv,T0,as6,as5]
 refine ao c ?_
 simp+decide only[sv,T0]
end
section
open Go
structure Lb where
 d:Nat
 ps:List (Nat×Nat)
 deriving DecidableEq
def Lb.c (l:Lb) (t:aL):List AV:=[.int .u8 l.d, .vs (aB.R l.ps) t]
structure Lb.ok (l:Lb):Prop where
 d:l.d<256
 ps: ∀p∈l.ps,p.1<65536/\p.2<256
 len:l.ps.length<2^20
def iU {α:Type} (q:α->Bool) (l:List α):Int:=if l.findIdx q<l.length then(l.findIdx q:Int) else -1
variable {P:Program}
def ako (ok:aA P tb) {x y:Nat} (hx:x<256) (hy:y<256) (h):al P 245 [.int .u8 x, .int .u8 y] h (.bool (decide (x<=y))) h:=by
 by_cases h5:x<6/\y<6
 ·exact aIJ ok h5.1 h5.2
 ·refine ok.gO HA ?_
  have e:(x:Int)<=(y:Int)↔x<=y:=by omega
  by_cases hx5:x<6
  ·have h1: ¬(5:Int)<(x:Int):=by omega
   have h2:(5:Int)<(y:Int):=by omega
   simp+decide only[st,HA,Po,Pn,YO,Pm,h1,h2,e]
  ·have h1:(5:Int)<(x:Int):=by omega
   simp+decide only[st,HA,Po,Pn,YO,Pm,h1,e]
def gM (x:Nat):Nat:=if x=0 then 5 else x
def aLv (ok:aA P tb) {x:Nat} (h):al P 264 [.int .u8 x] h (.int .u8 (gM x)) h:=by
 refine ok.gO TE ?_
 by_cases hx:x=0
 ·subst hx
  simp+decide only[st,TE,Yv,Yu,Yt,Ys,gM]
  rfl
 ·have h1: ¬(x:Int)=0:=by omega
  simp+decide only[st,TE,Yv,Yu,Yt,Ys,h1,gM,hx]
def aMM (ok:aA P tb) {x:Nat} (h):al P 108 [.int .u8 x] h (.bool (decide (x<=4))) h:=by
 refine ok.gO ahA ?_
 have e:(x:Int)<=4↔x<=4:=by omega
 simp+decide only[st,ahA,av5,av4,e]
def C4 {l:List α} (hi) (hf: ∀j,j<i-> ∀hj:j<l.length,q l[j]=false) (hq:q l[i]=true):iU q l=i:=by
 have:l.findIdx q=i:=by
  grind
 simp[iU,this,hi]
def Fq {l:List α} (hf: ∀j,j<l.length-> ∀hj:j<l.length,q l[j]=false):iU q l= -1:=by
 have:l.findIdx q=l.length:=by
  grind
 simp[iU,this]
theorem amG (ok:aA P tb) (hv:lz h v 2 (aB.R l)) (hl:l.length<2^30) (hg:dV P g=true) (hq: ∀p∈l,al P g (.agg (aB.e p)::iG) h (.bool (q p)) h):
 al P 221 [v, .fn g [] iG] h (.int .i64 (iU q l)) h:=by
 refine ok.gO ags ?_
 have hlen:jV v=some l.length:=by rw[hv.len,aB.aD]
 simp+decide only[sv,ags,apB,apA,hlen]
 let I:Nat->Env->aa->Prop:=fun n ρ h'=>h'=h/\ ∃i:Nat,l.length=i+n/\(∀j,j<i-> ∀hj:j<l.length,q l[j]=false)/\ρ 0=v/\ρ 1= .fn g [] iG/\ρ 7= .int .i64 l.length/\ρ 8= .int .i64 i
 refine dv I ?_ l.length ⟨rfl,0,by omega,by omega,rfl,rfl,rfl,rfl⟩
 rintro n ρ h' ⟨rfl,i,aN,hf,r0,r1,r7,r8⟩
 by_cases hi:i<l.length
 ·have av:(i:Int)<(l.length:Int):=by omega
  have hw:=dj (show i<2^61 by omega)
  obtain⟨p,g1,g2⟩:=hv.get i (by rw[aB.aD];exact hi)
  have g3:(aB.R l)[i]'(by grind)=aB.e l[i]:=by simp[aF.R]
  rw[g3] at g2
  simp+decide only[sv,Zv,Zu,Zt,Zs,Zr,Zq,r0,r1,r7,r8,av,g1,g2]
  refine vm hg (hq l[i] (bw hi)) ?_
  by_cases wR:q l[i]=true
  ·simp+decide only[sv,wR,C4 hi hf wR]
  ·have Eu:q l[i]=false:=by grind
   simp+decide only[sv,Eu,r8,hw]
   refine⟨n-1,by omega,rfl,i+1,by omega,fun j hj iu=>?_,r0,r1,r7,rfl⟩
   grind
 ·have av: ¬(i:Int)<(l.length:Int):=by omega
  have il:=Fq (q:=q) (l:=l) (fun j _ hj=>hf j (by omega) hj)
  simp+decide only[sv,Zv,Zu,Zt,Zs,Zr,Zq,r7,r8,av,il]
  try rfl
def aMX (ok:aA P tb) {t:aL} (hl:l.length<2^30) (hg:dV P g=true) (hq: ∀p∈l,al P g (.agg (aB.e p)::iG) h (.bool (q p)) h):
 al P 221 [.vs (aB.R l) t, .fn g [] iG] h (.int .i64 (iU q l)) h:=amG ok (lz.vs aB) hl hg hq
end
section
open Go
variable {P:Program}
def cidx (l:List (Nat×Nat)) (c:Nat):Int:=iU (fun p=>p.1==c) l
def atR (ok:aA P tb) {c:Nat} (hv: ∀h',(∀x,x<h.next->h'.get x=h.get x)->lz h' v 2 (aB.R l)) (hl:l.length<2^30):al P 244 [v, .int .u16 c] h (.int .i64 (cidx l c)) h:=by
 refine ok.bA agi ?_
 simp+decide only[sv,agi,aoR,aoQ]
 refine ao (amG ok (hv _ (fun x hx=>by simp[aa.at,show¬x=h.next by omega])) hl (ok.dV _ rfl) (q:=fun p=>p.1==c) (fun p hp=>?_)) ?_
 ·refine ok.bA af9 ?_
  simp+decide only[sv,af9,aou,aot,aB]
  grind
 ·simp+decide only[sv,cidx]
  grind
def aKW (ok:aA P tb) {t:aL} {c:Nat} (hl:l.length<2^30):al P 244 [.vs (aB.R l) t, .int .u16 c] h (.int .i64 (cidx l c)) h:=atR ok (fun _ _=>lz.vs aB) hl
def fx (l:Lb) (c:Nat):Nat:=match l.ps.find? (fun p=>p.1==c) with
 |some p=>p.2
 |none=>l.d
def IB: ∀{l:List α},(iU q l= -1/\l.find? q=none)\/ ∃i,∃hi:i<l.length,iU q l=(i:Int)/\l.find? q=some l[i]:=by
 intro l
 by_cases aS:l.findIdx q<l.length
 ·refine .inr ⟨_,aS,by simp[iU,aS],?_⟩
  have:=List.find?_eq_some_iff_getElem (xs:=l) (p:=q) (b:=l[l.findIdx q])
  grind
 ·refine .inl ⟨by simp[iU,aS],?_⟩
  grind
def akO (ok:aA P tb) {t:aL} {c:Nat} (hl:l.ps.length<2^30):al P 223 [.agg (l.c t), .int .u16 c] h (.int .u8 (fx l c)) h:=by
 refine ok.bA agq ?_
 simp+decide only[sv,agq,apx,apw,Lb.c]
 refine ao (aKW ok hl) ?_
 unfold fx cidx
 rcases IB (q:=fun p:Nat×Nat=>p.1==c) (l:=l.ps) with⟨e1,e2⟩|⟨i,hi,e1,e2⟩
 ·simp+decide only[sv,Zp,Zo,Zn,e1,e2]
  grind
 ·have aK:(0:Int)<=i:=by omega
  have du:(aB.R l.ps)[i]? =some [.int .u16 l.ps[i].1, .int .u8 l.ps[i].2]:=aB.cj hi
  simp+decide only[sv,Zp,Zo,Zn,e1,e2,aK,du]
  grind
def names (l:Lb):Bool:=l.d==2&&!l.ps.any (fun p=>p.2==3)
def WG {l:List α}:decide ((0:Int)<=iU q l)=l.any q:=by
 rcases IB (q:=q) (l:=l) with⟨e1,e2⟩|⟨i,hi,e1,e2⟩
 ·grind
 grind
def aOo (ok:aA P tb) {t:aL} (hl:l.length<2^30) (hg:dV P g=true) (hq: ∀p∈l,al P g (.agg (aB.e p)::iG) h (.bool (q p)) h):
 al P 176 [.vs (aB.R l) t, .fn g [] iG] h (.bool (l.any q)) h:=by
 refine ok.gO agP ?_
 simp+decide only[sv,agP,arE,arD]
 refine ao (aMX ok hl hg hq) ?_
 simp+decide only[sv,WG]
def EX (ok:aA P tb) {t:aL} (hl:l.ps.length<2^30):al P 141 [.agg (l.c t)] h (.bool (names l)) h:=by
 refine ok.bA T4 ?_
 by_cases hd:l.d=2
 ·have jh:(l.d:Int)=2:=by omega
  simp+decide only[sv,T4,abz,aby,Lb.c,jh]
  refine ao (aOo ok hl (ok.dV _ rfl) (q:=fun p=>p.2==3) (fun p hp=>?_)) ?_
  ·refine ok.bA agO ?_
   have e:decide ((p.2:Int)=3)=(p.2==3):=by grind
   simp+decide only[sv,agO,arC,arB,aB,e]
   grind
  ·simp+decide only[sv,names,hd]
   grind
 ·have jh: ¬(l.d:Int)=2:=by omega
  have e:(l.d==2)=false:=by simpa using hd
  simp+decide only[sv,T4,abz,aby,Lb.c,jh,names,e]
  grind
def dQ (l:List (Nat×Nat)):List Nat:=(l.filter (fun p=>p.2==0)).map (·.1)
def ajl:(dQ l).length<=l.length:=by simp[dQ];grind
def VS (ok:aA P tb) {l:Lb} {t:aL} (hl:l.ps.length<2^30):al P 171 [.agg (l.c t)] h (.vs ((ay .u16).R (dQ l.ps)) .au) h:=by
 refine ok.df (rf:=agU) rfl (bT rfl) (ay .u16).i7 ?_
 simp+decide only[sv,agU,arX,arW,arV,Lb.c]
 let I:Nat->Env->aa->Prop:=fun n ρ h'=>Old h h'/\ ∃i:Nat,l.ps.length=i+n/\ρ 7= .vs (aB.R l.ps) t/\ρ 8= .int .i64 l.ps.length/\ρ 9= .int .i64 i/\App h h' (ρ 3) ((ay .u16).R (dQ (l.ps.take i)))
 refine dv I ?_ l.ps.length ⟨(Old.refl h).at (ak _),0,by omega,rfl,by simp+decide only[sv,aB.aD],rfl,(App.nil h h).old ((Old.refl h).at (ak _))⟩
 rintro n ρ h' ⟨ho,i,aN,r7,r8,r9,ha⟩
 by_cases hi:i<l.ps.length
 ·have av:(i:Int)<(l.ps.length:Int):=by omega
  have aK:(0:Int)<=i:=by omega
  have hw:=dj (show i<2^61 by omega)
  have du:(aB.R l.ps)[i]? =some [.int .u16 l.ps[i].1, .int .u8 l.ps[i].2]:=aB.cj hi
  have hO:Old h ((h'.at h'.next (.cells [.int .u16 0, .int .u8 0])).set h'.next (some (.cells [.int .u16 l.ps[i].1, .int .u8 l.ps[i].2]))):=(ho.at ho.next).set ho.next
  have hA:App h ((h'.at h'.next (.cells [.int .u16 0, .int .u8 0])).set h'.next (some (.cells [.int .u16 l.ps[i].1, .int .u8 l.ps[i].2]))) (ρ 3) ((ay .u16).R (dQ (l.ps.take i))):=ha.to (by simp[aa.set,aa.at]) (fun k _ h2 h3=>by
   have: ¬k=h'.next:=by omega
   simp[aa.set,aa.at,this,h3])
  have fy:dQ (l.ps.take (i+1))=dQ (l.ps.take i)++dQ [l.ps[i]]:=by
   rw[<-lM hi];simp only[dQ,List.filter_append,jz]
  by_cases hs:l.ps[i].2=0
  ·have gu:(l.ps[i].2:Int)=0:=by omega
   rw[gu] at hO hA
   have uP:=ajl (l:=l.ps.take i)
   have wN:=uj i l.ps
   obtain⟨v',h2,a1,a2,a3,a4,a5,a6⟩:=hA.app hO (bytes:=2) (sz:=1) (id:=h'.next+1) (by have:=ho.next;omega) [[.int .u16 l.ps[i].1]] (ay .u16).fl (by rw[(ay .u16).aD];grind) (by rw[(ay .u16).aD];grind)
   simp+decide only[sv,Qc,Qb,Qa,P9,P8,P7,r7,r8,r9,av,aK,hw,du,gu,a1,fI]
   exact⟨n-1,by omega,a3,i+1,by omega,r7,r8,rfl,by rw[fy,show dQ [l.ps[i]]=[l.ps[i].1] by simp[dQ,hs],<-(ay .u16).kX];exact a2⟩
  ·have gu: ¬(l.ps[i].2:Int)=0:=by omega
   have Er:dQ [l.ps[i]]=[]:=by simp[dQ,hs]
   simp+decide only[sv,Qc,Qb,Qa,P9,P8,P7,r7,r8,r9,av,aK,hw,du,gu,fI]
   exact⟨n-1,by omega,hO,i+1,by omega,r7,r8,rfl,by rw[fy,Er,fE];exact hA⟩
 ·have av: ¬(i:Int)<(l.ps.length:Int):=by omega
  have jM:i=l.ps.length:=by omega
  obtain⟨tt,hv,_⟩:=ha
  simp+decide only[sv,Qc,Qb,Qa,P9,P8,P7,r8,r9,av,hv,aV]
  exact⟨by rw[jM,List.take_length,(ay .u16).iy],ho.get⟩
def mg (dx dy:Nat):List (Nat×Nat)->List (Nat×Nat)->List (Nat×Nat×Nat)
 |[],[]=>[]
 |(c,x)::l,[]=>(c,x,dy)::mg dx dy l []
 |[],(c,y)::m=>(c,dx,y)::mg dx dy [] m
 |(c,x)::l,(e,y)::m=>if c<e then(c,x,dy)::mg dx dy l ((e,y)::m) else if e<c then(e,dx,y)::mg dx dy ((c,x)::l) m else(c,x,y)::mg dx dy l m
termination_by l m=>l.length+m.length
def GK:mg dx dy [] []=[]:=by rw[mg]
def Kc {c:Nat}:mg dx dy ((c,x)::l) []=(c,x,dy)::mg dx dy l []:=by rw[mg]
def Kb {c:Nat}:mg dx dy [] ((c,x)::l)=(c,dx,x)::mg dx dy [] l:=by rw[mg]
def GL {c e:Nat} {m:List (Nat×Nat)}:mg dx dy ((c,x)::l) ((e,y)::m)=if c<e then(c,x,dy)::mg dx dy l ((e,y)::m) else if e<c then(e,dx,y)::mg dx dy ((c,x)::l) m else(c,x,y)::mg dx dy l m:=by rw[mg]
def GF (p:Nat×Nat×Nat):List AV:=[.int .u16 p.1, .int .u8 p.2.1, .int .u8 p.2.2]
structure MJ (h:aa) (a b:Lb) (ta fO:aL) (g:Nat) (iG:List AV) (J:List (Nat×Nat×Nat)->aa->Prop) (l m:List (Nat×Nat)) (done:List (Nat×Nat×Nat)) (ρ:Env) (H:aa):Prop where
 l1:l.length<=a.ps.length
 l2:m.length<=b.ps.length
 r2:ρ 2= .fn g [] iG
 r3:ρ 3= .ptr h.next 0
 r4:ρ 4= .ptr (h.next+1) 0
 r6: ∃t,ρ 6= .vs (aB.R l) t
 r7: ∃t,ρ 7= .vs (aB.R m) t
 mg:mg a.d b.d a.ps b.ps=done++mg a.d b.d l m
 j:J done H
 n:h.next+2<=H.next
 ca:H.get h.next=some (.cells (a.c ta))
 cb:H.get (h.next+1)=some (.cells (b.c fO))
def Iz {a b:Lb} {p:Nat×Nat×Nat}
 (hQ: ∀ρ2 H2 l2 m2 Kt,l2.length+m2.length<n->MJ h a b ta fO g iG J l2 m2 Kt ρ2 H2->Q ρ2 H2)
 (hg:dV P g=true) (CP: ∀done H H',J done H->Old H H'->J done H')
 (ya: ∀done p rest H,mg a.d b.d a.ps b.ps=done++p::rest->J done H->h.next+2<=H.next-> ∃H',al P g (GF p++iG) H (.aE []) H'/\J (done++[p]) H'/\H.next<=H'.next/\ ∀x,h.next<=x->x<h.next+2->H'.get x=H.get x)
 (hj:J done H) (iJ:h.next+2<=H.next) (ca:H.get h.next=some (.cells (a.c ta))) (cb:H.get (h.next+1)=some (.cells (b.c fO)))
 (q1:H.next<=H1.next) (q2: ∀x,x<H.next->H1.get x=H.get x) (q3:l2.length+m2.length<n) (q4:l2.length<=a.ps.length) (q5:m2.length<=b.ps.length)
 (q6:mg a.d b.d a.ps b.ps=done++p::mg a.d b.d l2 m2) (q7:ρ' 2= .fn g [] iG) (q8:ρ' 3= .ptr h.next 0) (q9:ρ' 4= .ptr (h.next+1) 0) (q10: ∃t,ρ' 6= .vs (aB.R l2) t) (q11: ∃t,ρ' 7= .vs (aB.R m2) t) (q12:ρ' 12= .int .u16 p.1) (q13:ρ' 8= .int .u8 p.2.1) (q14:ρ' 9= .int .u8 p.2.2):
 WP P (.seq (.cA WY) (.goto 0)) (pz 0 Q K) ρ' H1:=by
 obtain⟨H2,k1,k2,k3,k4⟩:=ya done p _ H1 q6 (CP _ _ _ hj ⟨q1,q2⟩) (by omega)
 simp+decide only[sv,WY,q7,q12,q13,q14]
 refine vm hg k1 ?_
 simp+decide only[sv]
 exact hQ _ _ l2 m2 _ q3 ⟨q4,q5,q7,q8,q9,q10,q11,by rw[q6];simp,k2,by omega,by grind,by grind⟩
theorem GZ {E:aF α} {p:α} {m:List α}:List.take ((E.R (p::m)).length-Int.toNat 1) (List.drop (Int.toNat 1) (E.R (p::m)))=E.R m:=by
 rw[bX (by simp)];rfl
def aik (ok:aA P tb) {a b:Lb} {J:List (Nat×Nat×Nat)->aa->Prop} (yJ:a.ps.length<2^30) (gQ:b.ps.length<2^30) (hg:dV P g=true)
 (U4:J [] h) (CP: ∀done H H',J done H->Old H H'->J done H')
 (ya: ∀done p rest H,mg a.d b.d a.ps b.ps=done++p::rest->J done H->h.next+2<=H.next-> ∃H',al P g (GF p++iG) H (.aE []) H'/\J (done++[p]) H'/\H.next<=H'.next/\ ∀x,h.next<=x->x<h.next+2->H'.get x=H.get x):
 ∃H',al P 246 [.agg (a.c ta), .agg (b.c fO), .fn g [] iG] h (.aE []) H'/\J (mg a.d b.d a.ps b.ps) H':=by
 refine ok.dr agh ?_
 simp+decide only[sv,agh,aoP,Lb.c]
 refine ry 0 rfl rfl (fun n ρ H=> ∃l m done,l.length+m.length=n/\MJ h a b ta fO g iG J l m done ρ H) (fun l' ρ h hk=>hk) ?_ ?_
 ·simp+decide only[sv,pE,List.foldr]
  refine bq 6 rfl rfl ?_
  simp+decide only[sv,aoO]
  refine⟨_,a.ps,b.ps,[],rfl,ak _,ak _,rfl,rfl,rfl,⟨_,rfl⟩,⟨_,rfl⟩,rfl,CP _ _ _ U4 ⟨by simp[aa.clean,aa.at];omega,fun x hx=>?_⟩,by simp[aa.clean,aa.at],?_,?_⟩
  ·simp[aa.clean,aa.at,show¬x=h.next+1 by omega,show¬x=h.next by omega,show x<h.next+1+1 by omega]
  ·simp[aa.clean,aa.at,Lb.c];omega
  ·simp[aa.clean,aa.at,Lb.c]
 rintro n ρ H ⟨l,m,done,hn,M⟩
 obtain⟨l1,l2,r2,r3,r4,⟨t,r6⟩,⟨t',r7⟩,ql,hj,iJ,ca,cb⟩:=M
 have hz: ∀k:Nat,¬(((k+1:Nat):Int)=0):=fun k=>by omega
 have CD: ∀k:Nat,(0:Int)<((k+1:Nat):Int):=fun k=>by omega
 have ga:=aq ca
 have gb:=aq cb
 have n1:h.next<H.next:=by omega
 have n2:h.next+1<H.next:=by omega
 have hZ:((0:Nat):Int)=0:=rfl
 have hQ: ∀ρ2 H2 l2 m2 Kt,l2.length+m2.length<n->MJ h a b ta fO g iG J l2 m2 Kt ρ2 H2-> ∃m,m<n/\ ∃l m_1 done,l.length+m_1.length=m/\MJ h a b ta fO g iG J l m_1 done ρ2 H2:=fun ρ2 H2 l2 m2 Kt h1 h2=>⟨_,h1,l2,m2,Kt,rfl,h2⟩
 have hd: ∀(e y:Nat) (m:List (Nat×Nat)),(aB.R ((e,y)::m))[0]? =some [.int .u16 e, .int .u8 y]:=fun _ _ _=>rfl
 have k1: ∀(p:Nat×Nat) (m:List (Nat×Nat)),bQ 2 (aB.R (p::m))=true:=fun p m=>aB.fl
 have k3: ∀(p:Nat×Nat) (m:List (Nat×Nat)),Int.toNat 1<=(aB.R (p::m)).length:=fun p m=>by grind
 rcases l with _|⟨⟨c,x⟩,l⟩
 ·rcases m with _|⟨⟨e,y⟩,m⟩
  ·rw[GK,fE] at ql
   have h0:IntKind.wrap .i64 ((0:Int)+0)=0:=rfl
   simp+decide only[sv,Di,r6,r7,aB.ye,h0]
   exact⟨rfl,by grind⟩
  ·have hw:IntKind.wrap .i64 ((0:Int)+((m.length+1:Nat):Int))=((m.length+1:Nat):Int):=by simp only[cQ] at l2;rw[bj]<;>omega
   rw[Kb] at ql
   simp+decide only[sv,Di,r6,r7,aB.ye,aB.aD,hw,hz]
   refine bq 6 rfl rfl ?_
   simp+decide only[sv,FW,r3,r4,ga,gb,n1,n2,Lb.c]
   refine bq 20 rfl rfl ?_
   simp+decide only[sv,FV,r6,r7,aB.ye,aB.aD,hz,hd]
   refine bq 20 rfl rfl ?_
   simp+decide only[sv,FU,r6,aB.ye,hd]
   simp+decide only[sv,FT,FR]
   refine bq 13 rfl rfl ?_
   simp+decide only[sv,Pl,FQ,r7,hd,k1,k3,GZ]
   exact BK.1 (zv.1 (Iz (l2:=[]) (m2:=m) (p:=(e,a.d,y)) hQ hg CP ya hj iJ ca cb (by simp[aa.clean];omega) (fun x hx=>by simp only[aa.clean];grind) (by grind) (by omega) (by grind) ql r2 r3 r4 ⟨_,r6⟩ ⟨_,rfl⟩ rfl rfl rfl))
 ·rcases m with _|⟨⟨e,y⟩,m⟩
  ·have hw:IntKind.wrap .i64 (((l.length+1:Nat):Int)+0)=((l.length+1:Nat):Int):=by simp only[cQ] at l1;rw[bj]<;>omega
   rw[Kc] at ql
   simp+decide only[sv,Di,r6,r7,aB.ye,aB.aD,hw,hz]
   refine bq 6 rfl rfl ?_
   simp+decide only[sv,FW,r3,r4,ga,gb,n1,n2,Lb.c]
   refine bq 20 rfl rfl ?_
   simp+decide only[sv,FV,r7,aB.ye,hd]
   refine bq 20 rfl rfl ?_
   simp+decide only[sv,FU,r6,r7,aB.ye,aB.aD,hz,hd]
   simp+decide only[sv,FT,FR,FQ]
   refine bq 13 rfl rfl ?_
   simp+decide only[sv,OL,r6,hd,k1,k3,GZ]
   exact BK.1 (zv.1 (Iz (l2:=l) (m2:=[]) (p:=(c,x,b.d)) hQ hg CP ya hj iJ ca cb (by simp[aa.clean];omega) (fun x hx=>by simp only[aa.clean];grind) (by grind) (by grind) (by omega) ql r2 r3 r4 ⟨_,rfl⟩ ⟨_,r7⟩ rfl rfl rfl))
  ·have hw:IntKind.wrap .i64 (((l.length+1:Nat):Int)+((m.length+1:Nat):Int))=((l.length+1+(m.length+1):Nat):Int):=by simp only[cQ] at l1 l2;rw[bj]<;>omega
   have hw0: ¬((l.length+1+(m.length+1):Nat):Int)=0:=by omega
   rw[GL] at ql
   by_cases h1:c<e
   ·rw[ax h1] at ql
    have f1:(c:Int)<=(e:Int):=by omega
    have f2: ¬(e:Int)<=(c:Int):=by omega
    simp+decide only[sv,Di,r6,r7,aB.aD,hw,hw0,hz]
    refine bq 6 rfl rfl ?_
    simp+decide only[sv,FW,r3,r4,ga,gb,n1,n2,Lb.c]
    refine bq 20 rfl rfl ?_
    simp+decide only[sv,FV,r6,r7,aB.aD,hz,CD,hd,f1]
    refine bq 20 rfl rfl ?_
    simp+decide only[sv,FU,r6,r7,aB.aD,hz,CD,hd,f2]
    simp+decide only[sv,FT,FR,FQ]
    refine bq 13 rfl rfl ?_
    simp+decide only[sv,OL,r6,hd,k1,k3,GZ]
    exact BK.1 (zv.1 (Iz (l2:=l) (m2:=((e,y)::m)) (p:=(c,x,b.d)) hQ hg CP ya hj iJ ca cb (by simp[aa.clean];omega) (fun x hx=>by simp only[aa.clean];grind) (by grind) (by grind) (by omega) ql r2 r3 r4 ⟨_,rfl⟩ ⟨_,r7⟩ rfl rfl rfl))
   by_cases h2:e<c
   ·rw[aj h1,ax h2] at ql
    have f1: ¬(c:Int)<=(e:Int):=by omega
    have f2:(e:Int)<=(c:Int):=by omega
    simp+decide only[sv,Di,r6,r7,aB.aD,hw,hw0,hz]
    refine bq 6 rfl rfl ?_
    simp+decide only[sv,FW,r3,r4,ga,gb,n1,n2,Lb.c]
    refine bq 20 rfl rfl ?_
    simp+decide only[sv,FV,r6,r7,aB.aD,hz,CD,hd,f1]
    refine bq 20 rfl rfl ?_
    simp+decide only[sv,FU,r6,r7,aB.aD,hz,CD,hd,f2]
    simp+decide only[sv,FT,FR]
    refine bq 13 rfl rfl ?_
    simp+decide only[sv,Pl,FQ,r7,hd,k1,k3,GZ]
    exact BK.1 (zv.1 (Iz (l2:=((c,x)::l)) (m2:=m) (p:=(e,a.d,y)) hQ hg CP ya hj iJ ca cb (by simp[aa.clean];omega) (fun x hx=>by simp only[aa.clean];grind) (by grind) (by omega) (by grind) ql r2 r3 r4 ⟨_,r6⟩ ⟨_,rfl⟩ rfl rfl rfl))
   ·rw[aj h1,aj h2] at ql
    have hce:c=e:=by omega
    subst hce
    have f1:(c:Int)<=(c:Int):=by omega
    simp+decide only[sv,Di,r6,r7,aB.aD,hw,hw0,hz]
    refine bq 6 rfl rfl ?_
    simp+decide only[sv,FW,r3,r4,ga,gb,n1,n2,Lb.c]
    refine bq 20 rfl rfl ?_
    simp+decide only[sv,FV,r6,r7,aB.aD,hz,CD,hd,f1]
    refine bq 20 rfl rfl ?_
    simp+decide only[sv,FU,r6,r7,aB.aD,hz,CD,hd,f1]
    simp+decide only[sv,FT,FR]
    refine bq 13 rfl rfl ?_
    simp+decide only[sv,Pl,FQ,r7,hd,k1,k3,GZ]
    refine bq 13 rfl rfl ?_
    simp+decide only[sv,OL,r6,hd,k1,k3,GZ]
    exact BK.1 (zv.1 (Iz (l2:=l) (m2:=m) (p:=(c,x,y)) hQ hg CP ya hj iJ ca cb (by simp[aa.clean];omega) (fun x hx=>by simp only[aa.clean];grind) (by grind) (by grind) (by grind) ql r2 r3 r4 ⟨_,rfl⟩ ⟨_,rfl⟩ rfl rfl rfl))
theorem Ca (hx:dx<256) (hy:dy<256): ∀{l m:List (Nat×Nat)},(∀p∈l,p.1<65536/\p.2<256)->(∀p∈m,p.1<65536/\p.2<256)-> ∀p∈mg dx dy l m,p.1<65536/\p.2.1<256/\p.2.2<256
 |[],[],_,_,p,hp=>by rw[GK] at hp;cases hp
 |(c,x)::l,[],h1,h2,p,hp=>by
  rw[Kc] at hp
  rcases List.mem_cons.1 hp with rfl|hp
  ·simp_all
  ·exact Ca hx hy (fun q hq=>h1 q (eH _ hq)) h2 p hp
 |[],(c,x)::l,h1,h2,p,hp=>by
  rw[Kb] at hp
  rcases List.mem_cons.1 hp with rfl|hp
  ·simp_all
  ·exact Ca hx hy h1 (fun q hq=>h2 q (eH _ hq)) p hp
 |(c,x)::l,(e,y)::m,h1,h2,p,hp=>by
  rw[GL] at hp
  have b1:=h1 _ (pY ..)
  have b2:=h2 _ (pY ..)
  have t1: ∀p∈l,p.1<65536/\p.2<256:=fun q hq=>h1 q (eH _ hq)
  have t2: ∀p∈m,p.1<65536/\p.2<256:=fun q hq=>h2 q (eH _ hq)
  split at hp
  ·rcases List.mem_cons.1 hp with rfl|hp
   ·grind
   ·exact Ca hx hy t1 h2 p hp
  ·split at hp
   ·rcases List.mem_cons.1 hp with rfl|hp
    ·grind
    ·exact Ca hx hy h1 t2 p hp
   ·rcases List.mem_cons.1 hp with rfl|hp
    ·grind
    ·exact Ca hx hy t1 t2 p hp
termination_by l m=>l.length+m.length
def Ec (p:Nat×Nat×Nat):Bool:=decide (p.2.1<=p.2.2)
def cM (a b:Lb):Bool:=decide (a.d<=b.d)&&(mg a.d b.d a.ps b.ps).all Ec
def Ny (ok:aA P tb) {a b:Lb} (ha:a.ok) (hb:b.ok):al P 224 [.agg (a.c ta), .agg (b.c fO)] h (.bool (cM a b)) h:=by
 refine ok.bA agp ?_
 simp+decide only[sv,agp,apv,apu,Lb.c]
 refine ao (ako ok ha.d hb.d _) ?_
 simp+decide only[sv,apt]
 let J:List (Nat×Nat×Nat)->aa->Prop:=fun done H=>h.next+1+1<H.next/\H.get (h.next+1+1)=some (.cells [.bool (decide (a.d<=b.d)&&done.all Ec)])/\ ∀x,x<h.next->H.get x=h.get x
 obtain⟨H',k1,_,k2,k3⟩:=aik ok (ta:=ta) (fO:=fO) (g:=247) (iG:=[.ptr (h.next+1+1) 0]) (J:=J) (h:=(((h.at h.next (.cells [.int .u8 a.d, .vs (aB.R a.ps) ta])).at (h.next+1) (.cells [.int .u8 b.d, .vs (aB.R b.ps) fO])).at (h.next+1+1) (.cells [.bool false])).set (h.next+1+1) (some (.cells [.bool (decide (a.d<=b.d))]))) (a:=a) (b:=b) (by have:=ha.len;omega) (by have:=hb.len;omega) (ok.dV _ rfl)
  ⟨by simp[aa.set,aa.at],by simp[aa.set],fun x hx=>by simp[aa.set,aa.at,show¬x=h.next+1+1 by omega,show¬x=h.next+1 by omega,show¬x=h.next by omega]⟩
  (fun done H H' hj ho=>⟨by have:=ho.next;omega,by rw[ho.get _ hj.1];exact hj.2.1,fun x hxx=>by rw[ho.get _ (by omega)];grind⟩)
  (fun done p rest H ql hj hn=>by
    have hp:=Ca ha.d hb.d ha.ps hb.ps p (by rw[ql];simp)
    have hc:=aq hj.2.1
    refine⟨H.set (h.next+1+1) (some (.cells [.bool (decide (a.d<=b.d)&&(done++[p]).all Ec)])),?_,⟨hj.1,by simp[aa.set],fun x hx=>by simp[aa.set,show¬x=h.next+1+1 by omega,hj.2.2 x hx]⟩,by simp[aa.set],fun x h1 h2=>?_⟩
    ·refine ok.gO TH ?_
     cases hq:(decide (a.d<=b.d)&&done.all Ec) with
     |true=>
      rw[hq] at hc
      simp+decide only[sv,TH,YN,hc,GF]
      refine ao (ako ok hp.2.1 hp.2.2 _) ?_
      have e:(decide (a.d<=b.d)&&(done++[p]).all Ec)=decide (p.2.1<=p.2.2):=by
       rw[List.all_append,<-Bool.and_assoc,hq];simp[Ec]
      simp+decide only[sv,e,hc]
     |false=>
      rw[hq] at hc
      have e:(decide (a.d<=b.d)&&(done++[p]).all Ec)=false:=by
       grind
      simp+decide only[sv,TH,YN,hc,GF,e]
    ·have: ¬x=h.next+1+1:=by simp[aa.set,aa.at] at h1;omega
     simp[aa.set,this])
 simp+decide only[sv,aps]
 refine ao k1 ?_
 have hc:=aq k2
 simp+decide only[sv,hc]
 exact⟨rfl,k3⟩
def qf (F:Nat->Nat->Nat) (D:Nat) (l:List (Nat×Nat×Nat)):List (Nat×Nat):=l.filterMap fun p=>if F p.2.1 p.2.2=D then none else some (p.1,F p.2.1 p.2.2)
def akX:(qf F D l).length<=l.length:=List.length_filterMap_le _ _
theorem Fy: ∀{l m:List (Nat×Nat)},(mg dx dy l m).length<=l.length+m.length
 |[],[]=>by rw[GK];simp
 |(c,x)::l,[]=>by rw[Kc];have:=Fy (dx:=dx) (dy:=dy) (l:=l) (m:=[]);grind
 |[],(c,x)::l=>by rw[Kb];have:=Fy (dx:=dx) (dy:=dy) (l:=[]) (m:=l);grind
 |(c,x)::l,(e,y)::m=>by
  rw[GL]
  have h1:=Fy (dx:=dx) (dy:=dy) (l:=l) (m:=(e,y)::m)
  have h2:=Fy (dx:=dx) (dy:=dy) (l:=(c,x)::l) (m:=m)
  have h3:=Fy (dx:=dx) (dy:=dy) (l:=l) (m:=m)
  grind
termination_by l m=>l.length+m.length
def Ke (F:Nat->Nat->Nat) (a b:Lb):Lb:=⟨F a.d b.d,qf F (F a.d b.d) (mg a.d b.d a.ps b.ps)⟩
def BJ (h:aa) (g:Nat) (F:Nat->Nat->Nat) (D:Nat) (done:List (Nat×Nat×Nat)) (H:aa):Prop:=
 h.next+1+1+1+1+1<=H.next/\H.get (h.next+1+1)=some (.cells [.fn g [] []])/\H.get (h.next+1+1+1)=some (.cells [.int .u8 0, .vs [] .full])/\(∃v,H.get (h.next+1+1+1+1)=some (.cells [.int .u8 D,v])/\App ⟨h.get,h.next+1+1+1+1+1+2⟩ H v (aB.R (qf F D done)))/\ ∀x,x<h.next->H.get x=h.get x
def aH3 (ok:aA P tb) {a b:Lb} (ha:a.ok) (hb:b.ok) (hg:dV P g=true) (hF: ∀x y:Nat,x<256->y<256-> ∀h,al P g [.int .u8 x, .int .u8 y] h (.int .u8 (F x y)) h):
 al P 262 [.agg (a.c ta), .agg (b.c fO), .fn g [] []] h (.agg ((Ke F a b).c .au)) h:=by
 refine ok.df (rf:=af6) rfl (bT rfl) (by simp only[AV.bD,AV.cG,Lb.c,aB.jD];rfl) ?_
 simp+decide only[sv,af6,aon,aom,Lb.c]
 refine vm hg (hF _ _ ha.d hb.d _) ?_
 simp+decide only[sv,aol]
 have hD:F a.d b.d=(Ke F a b).d:=rfl
 have key: ∀X:aa,X.next=h.next+1+1+1+1+1->X.get (h.next+1+1)=some (.cells [.fn g [] []])->X.get (h.next+1+1+1)=some (.cells [.int .u8 0, .vs [] .full])->X.get (h.next+1+1+1+1)=some (.cells [.int .u8 (F a.d b.d), .vs [] .full])->(∀x,x<h.next->X.get x=h.get x)->
  ∃H',al P 246 [.agg (a.c ta), .agg (b.c fO), .fn 268 [] [.ptr (h.next+1+1) 0, .ptr (h.next+1+1+1+1) 0]] X (.aE []) H'/\BJ h g F (F a.d b.d) (mg a.d b.d a.ps b.ps) H':=by
  intro X x1 x2 x3 x4 x5
  refine aik ok (J:=BJ h g F (F a.d b.d)) (by have:=ha.len;omega) (by have:=hb.len;omega) (ok.dV _ rfl) ⟨by omega,x2,x3,⟨_,x4,⟨_,rfl, .inl rfl⟩⟩,x5⟩ ?_ ?_
  ·rintro done H H' ⟨j1,j2,j3,⟨v,j4,j5⟩,j6⟩ ho
   have hn:=ho.next
   exact⟨by omega,by rw[ho.get _ (by omega),j2],by rw[ho.get _ (by omega),j3],⟨v,by rw[ho.get _ (by omega),j4],j5.to hn (fun k _ q2 q3=>by rw[ho.get _ q2,q3])⟩,fun x hx=>by rw[ho.get _ (by omega),j6 x hx]⟩
  ·rintro done p rest H ql ⟨j1,j2,j3,⟨v,j4,j5⟩,j6⟩ hn
   have hp:=Ca ha.d hb.d ha.ps hb.ps p (by rw[ql];simp)
   have UX:=aq j2
   have UW:=aq j4
   have hlen:done.length<=a.ps.length+b.ps.length:=by
    have h1:=Fy (dx:=a.d) (dy:=b.d) (l:=a.ps) (m:=b.ps)
    grind
   have hal:=ha.len
   have lZ:=hb.len
   have uP:=akX (F:=F) (D:=F a.d b.d) (l:=done)
   refine ok.dr TD ?_
   by_cases hv:F p.2.1 p.2.2=F a.d b.d
   ·have d7:((F p.2.1 p.2.2:Nat):Int)=((F a.d b.d:Nat):Int):=by omega
    have hs:qf F (F a.d b.d) (done++[p])=qf F (F a.d b.d) done:=by simp[qf,hv]
    simp+decide only[sv,TD,Yr,Yq,Yp,UX,GF]
    refine vm hg (hF _ _ hp.2.1 hp.2.2 _) ?_
    simp+decide only[sv,UW,hv]
    exact⟨rfl,⟨j1,j2,j3,⟨v,j4,by grind⟩,j6⟩,ak _,fun _ _ _=>rfl⟩
   ·have d7: ¬((F p.2.1 p.2.2:Nat):Int)=((F a.d b.d:Nat):Int):=by omega
    have hs:qf F (F a.d b.d) (done++[p])=qf F (F a.d b.d) done++[(p.1,F p.2.1 p.2.2)]:=by simp[qf,hv]
    have j5':App ⟨H.get,h.next+1+1+1+1+1+2⟩ H v (aB.R (qf F (F a.d b.d) done)):=j5
    obtain⟨v',h2,a1,a2,a3,a4,a5,a6⟩:=j5'.app ⟨by grind,fun _ _=>rfl⟩ (bytes:=4) (sz:=2) (id:=H.next) (by grind) [[.int .u16 p.1, .int .u8 (F p.2.1 p.2.2)]] aB.fl (by rw[aB.aD];grind) (by rw[aB.aD];grind)
    simp+decide only[sv,TD,Yr,Yq,Yp,UX,GF]
    refine vm hg (hF _ _ hp.2.1 hp.2.2 _) ?_
    have aTu:cellsOf h2 (h.next+1+1+1+1)=some [.int .u8 (F a.d b.d),v]:=aq (by grind)
    obtain⟨tt,rfl,ht⟩:=a2
    simp+decide only[sv,UW,hv,a1,aTu]
    refine⟨rfl,⟨by simp[aa.set];omega,by simp[aa.set,a3.get,j2],by simp[aa.set,a3.get,j3],⟨.vs (aB.R (qf F (F a.d b.d) done)++[[.int .u16 p.1, .int .u8 (F p.2.1 p.2.2)]]) tt,by simp[aa.set],?_⟩,fun x hx=>?_⟩,by simp[aa.set];omega,fun x h1 cB=>?_⟩
    ·rw[hs,<-aB.kX]
     exact App.to (h:=h2) ⟨tt,rfl,ht⟩ (by simp[aa.set]) (fun k q1 q2 q3=>by
      have: ¬k=h.next+1+1+1+1:=by grind
      simp[aa.set,this,q3])
    ·simp only[aa.set];rw[aj (by omega),a3.get x (show x<h.next+1+1+1+1+1+2 by omega),j6 x hx]
    ·simp only[aa.set];rw[aj (by omega),a3.get x (show x<h.next+1+1+1+1+1+2 by omega)]
 refine(key _ ?_ ?_ ?_ ?_ ?_).elim (fun H' hk=>ao hk.1 ?_)
 ·simp[aa.set,aa.at]
 ·simp[aa.set,aa.at]
 ·simp[aa.set,aa.at]
 ·simp[aa.set,aa.at]
 ·intro x hx
  simp[aa.set,aa.at,show¬x=h.next+1+1+1+1 by omega,show¬x=h.next+1+1+1 by omega,show¬x=h.next+1+1 by omega,show¬x=h.next+1 by omega,show¬x=h.next by omega]
 ·obtain⟨_,j1,j2,j3,⟨v,j4,⟨tt,rfl,_⟩⟩,j6⟩:=hk
  have hc6:=aq j3
  have UW:=aq j4
  simp+decide only[sv,aok,hc6,UW,aV]
  exact⟨by simp only[AV.strip,AV.a8,aB.dJ];rfl,fun x hx=>by grind⟩
theorem OD: ∀{l:List (Nat×Nat)},mg d d l l=l.map fun p=>(p.1,p.2,p.2)
 |[]=>by rw[GK];rfl
 |(c,x)::l=>by rw[GL,aj (by omega),aj (by omega),OD];rfl
def vl (l:Lb):Lb:=Ke (fun x _=>gM x) l l
def akm (h:x<256):gM x<256:=by unfold gM;grind
def aGn (hl:l.ok):(vl l).ok:=by
 refine⟨akm hl.d,fun p hp=>?_,?_⟩
 ·simp only[vl,Ke,qf,List.mem_filterMap] at hp
  obtain⟨q,hq,he⟩:=hp
  have:=Ca hl.d hl.d hl.ps hl.ps q hq
  split at he
  ·cases he
  ·cases he;exact⟨this.1,akm this.2.1⟩
 ·have h1:(qf (fun x _=>gM x) (gM l.d) (mg l.d l.d l.ps l.ps)).length<=(mg l.d l.d l.ps l.ps).length:=akX
  rw[OD] at h1
  have h2:(vl l).ps=qf (fun x _=>gM x) (gM l.d) (mg l.d l.d l.ps l.ps):=rfl
  rw[h2,OD]
  simp only[fp] at h1
  have:=hl.len
  omega
def aIa (ok:aA P tb) {t:aL} (hl:l.ok):al P 250 [.agg (l.c t)] h (.agg ((vl l).c .au)) h:=by
 refine ok.df (rf:=agd) rfl (bT rfl) (by simp only[AV.bD,AV.cG,Lb.c,aB.jD];rfl) ?_
 simp+decide only[sv,agd,aoK,aoJ,Lb.c]
 refine ao (aH3 ok hl hl (F:=fun x _=>gM x) (ok.dV _ rfl) (fun x y hx hy h=>?_)) ?_
 ·refine ok.gO af5 ?_
  simp+decide only[sv,af5,aoj,aoi]
  refine ao (aLv ok _) ?_
  simp+decide only[sv]
 ·simp+decide only[sv,Lb.c,aV]
  refine⟨by simp only[AV.strip,AV.a8,aB.dJ];rfl,?_⟩
  grind
def eI (t o:Lb):Bool:=cM o (vl t)
def aH9 (ok:aA P tb) {a b:Lb} (ha:a.ok) (hb:b.ok):al P 228 [.agg (a.c ta), .agg (b.c fO)] h (.bool (eI a b)) h:=by
 refine ok.bA ago ?_
 simp+decide only[sv,ago,apo,Lb.c]
 refine m6 ?_
 simp+decide only[sv,apn]
 refine dh (aIa ok ha) (ba (by simp[aa.at])) ?_
 simp+decide only[sv]
 refine dh (Ny ok hb (aGn ha)) (ba (by simp[aa.at])) ?_
 simp+decide only[sv]
 exact⟨rfl,fun b hb=>by simp(disch:=omega) only[ax,aj]⟩
def aGV (ok:aA P tb) {a b:Lb} (ha:a.ok) (hb:b.ok):al P 229 [.agg (a.c ta), .agg (b.c fO)] h (.bool (cM a b)) h:=by
 refine ok.bA agn ?_
 simp+decide only[sv,agn,apm,apl,Lb.c]
 refine ao (Ny ok ha hb) ?_
 simp+decide only[sv]
 grind
def vD (t l:Lb):Nat:=if names l=false then 4 else if 0<(dQ l.ps).length then 5 else if cM t l=false then 6 else 0
def aGX (ok:aA P tb) {a b:Lb} (ha:a.ok) (hb:b.ok):al P 182 [.agg (a.c ta), .agg (b.c fO)] h (.int .i64 (vD a b)) h:=by
 refine ok.bA agK ?_
 have hl:=hb.len
 simp+decide only[sv,agK,aq9,aq8,aq7,aq6,aq5,aq4,aq3,JB,Lb.c]
 refine ao (EX ok (by omega)) ?_
 unfold vD
 cases hn:names b with
 |false=>
  simp+decide only[sv,JB]
  grind
 |true=>
  simp+decide only[sv,Lb.c]
  refine ao (VS ok (by omega)) ?_
  by_cases hs:0<(dQ b.ps).length
  ·have gu:(0:Int)<((dQ b.ps).length:Int):=by omega
   simp+decide only[sv,(ay .u16).aD,hs,gu]
   grind
  ·have gu: ¬(0:Int)<((dQ b.ps).length:Int):=by omega
   simp+decide only[sv,(ay .u16).aD,hs,gu]
   refine ao (Ny ok ha hb) ?_
   cases hf:cM a b with
   |false=>
    simp+decide only[sv,JB]
    grind
   |true=>
    simp+decide only[sv,JB]
    grind
def vC (t l:Lb):Nat:=if names l=false then 4 else if(dQ l.ps).any (fun c=>!(fx t c==0)) then 5 else if cM t l=false then 6 else 0
def aGW (ok:aA P tb) {a b:Lb} (ha:a.ok) (hb:b.ok):al P 179 [.agg (a.c ta), .agg (b.c fO)] h (.int .i64 (vC a b)) h:=by
 refine ok.bA agM ?_
 have hl:=hb.len
 have yJ:=ha.len
 simp+decide only[sv,agM,ars,arq,arp,Lb.c]
 refine ao (EX ok (by omega)) ?_
 unfold vC
 cases hn:names b with
 |false=>
  simp+decide only[sv,aaD,P3,aaC,aaB,aaA,aaz,aay,W6,W5]
  grind
 |true=>
  simp+decide only[sv,aaD]
  refine ao (VS ok (by omega)) ?_
  simp+decide only[sv,Lb.c]
  obtain⟨X,hX⟩: ∃X,X=((h.at h.next (.cells [.int .u8 a.d, .vs (aB.R a.ps) ta])).at (h.next+1) (.cells [.int .u8 b.d, .vs (aB.R b.ps) fO])):=⟨_,rfl⟩
  have g1:cellsOf X h.next=some [.int .u8 a.d, .vs (aB.R a.ps) ta]:=by subst hX;simp+decide only[sv]
  have g2:cellsOf X (h.next+1)=some [.int .u8 b.d, .vs (aB.R b.ps) fO]:=by subst hX;simp+decide only[sv]
  have g3: ∀x,x<h.next->X.get x=h.get x:=by subst hX;intro x hx;simp[aa.at,show¬x=h.next+1 by omega,show¬x=h.next by omega]
  rw[<-hX]
  have uP:=ajl (l:=b.ps)
  let I:Nat->Env->aa->Prop:=fun n ρ h'=>h'=X/\ ∃i:Nat,(dQ b.ps).length=i+n/\(∀j,j<i-> ∀hj:j<(dQ b.ps).length,fx a (dQ b.ps)[j]=0)/\ρ 2= .ptr h.next 0/\ρ 3= .ptr (h.next+1) 0/\ρ 11= .vs ((ay .u16).R (dQ b.ps)) .au/\ρ 12= .int .i64 (dQ b.ps).length/\ρ 13= .int .i64 i
  refine dv I ?_ (dQ b.ps).length ⟨rfl,0,by omega,by omega,rfl,rfl,rfl,by simp+decide only[sv,(ay .u16).aD],rfl⟩
  rintro n ρ h' ⟨rfl,i,aN,hf,r2,r3,gd,iI,fv⟩
  by_cases hi:i<(dQ b.ps).length
  ·have av:(i:Int)<((dQ b.ps).length:Int):=by omega
   have aK:(0:Int)<=i:=by omega
   have hw:=dj (show i<2^61 by omega)
   have du:((ay .u16).R (dQ b.ps))[i]? =some [.int .u16 (dQ b.ps)[i]]:=(ay .u16).cj hi
   simp+decide only[sv,P3,aaC,aaB,aaA,aaz,r2,gd,iI,fv,av,aK,du,g1]
   refine ao (akO (l:=a) (t:=ta) ok (by omega)) ?_
   by_cases hz:fx a (dQ b.ps)[i]=0
   ·simp+decide only[sv,hz,fv,hw]
    refine⟨n-1,by omega,rfl,i+1,by omega,fun j hj iu=>?_,r2,r3,gd,iI,rfl⟩
    grind
   ·have hz': ¬((fx a (dQ b.ps)[i]:Nat):Int)=0:=by omega
    have uW:(dQ b.ps).any (fun c=>!(fx a c==0))=true:=List.any_eq_true.2 ⟨_,bw hi,by simp[hz]⟩
    simp+decide only[sv,hz',uW]
    grind
  ·have av: ¬(i:Int)<((dQ b.ps).length:Int):=by omega
   have uW:(dQ b.ps).any (fun c=>!(fx a c==0))=false:=by
    rw[List.any_eq_false]
    intro x hx
    obtain⟨j,hj,rfl⟩:=jm hx
    grind
   simp+decide only[sv,P3,aay,W6,W5,r2,r3,iI,fv,av,g1,g2]
   refine ao (Ny (ta:=ta) (fO:=fO) ok ha hb) ?_
   cases da:cM a b with
   |false=>
    simp+decide only[sv,uW]
    grind
   |true=>
    simp+decide only[sv,uW]
    exact g3
def aQ (l:List (Nat×Nat)):Prop:=l.Pairwise fun p q=>p.1<q.1
def fP (l:List (Nat×Nat)) (c:Nat):Nat:=l.findIdx fun p=>decide (c<=p.1)
def Xv {c:Nat}:fP l c<=l.length:=List.findIdx_le_length
def amD {c:Nat} (hi:i<fP l c) (hl):l[i].1<c:=by
 have:=List.not_of_lt_findIdx hi
 grind
def Xw (hs:aQ l) {c:Nat} (hi:fP l c<=i) (hl):c<=l[i].1:=by
 have h0:fP l c<l.length:=by omega
 have h1:c<=l[fP l c].1:=by
  have:=List.findIdx_getElem (xs:=l) (p:=fun p=>decide (c<=p.1)) (w:=by exact h0)
  exact of_decide_eq_true this
 by_cases he:fP l c=i
 ·grind
 ·have:=List.pairwise_iff_getElem.1 hs (fP l c) i h0 hl (by omega)
  omega
def aJk (ok:aA P tb) {c:Nat} (hs:aQ l) (hc:c<65536) (hb: ∀p∈l,p.1<65536/\p.2<256) (hv: ∀h',Old h h'->lz h' v 2 (aB.R l)) (hl:l.length<2^30):
 ∃b,al P 255 [v, .int .u16 c, .fn 256 [] []] h (.aE [.int .i64 (fP l c), .bool b]) h:=by
 have cmp: ∀p∈l,∀h',al P 256 [.agg (aB.e p), .int .u16 c] h' (.int .i64 ((p.1:Int)-c)) h':=by
  intro p hp h'
  have:=hb p hp
  refine ok.bA aga ?_
  have w1:IntKind.wrap .i64 (p.1:Int)=p.1:=x8 (by omega)
  have w2:IntKind.wrap .i64 (c:Int)=c:=x8 (by omega)
  have w3:IntKind.wrap .i64 ((p.1:Int)-c)=(p.1:Int)-c:=bj (by omega) (by omega)
  simp+decide only[sv,aga,aow,aov,aB,w1,w2,w3]
  grind
 have hlen:jV v=some l.length:=by rw[(hv h (Old.refl h)).len,aB.aD]
 refine⟨(decide (fP l c<l.length)&&decide ((l.getD (fP l c) (0,0)).1=c)),?_⟩
 refine ok.gO agb ?_
 simp+decide only[sv,agb,aoD,aoC,aoB,hlen]
 let I:Nat->Env->aa->Prop:=fun n ρ h'=>h'=h/\ ∃i j:Nat,j-i=n/\i<=fP l c/\fP l c<=j/\j<=l.length/\ρ 0=v/\ρ 1= .int .u16 c/\ρ 2= .fn 256 [] []/\ρ 8= .int .i64 l.length/\ρ 9= .int .i64 i/\ρ 10= .int .i64 j
 refine dv I ?_ l.length ⟨rfl,0,l.length,by omega,by omega,Xv,by omega,rfl,rfl,rfl,rfl,rfl,rfl⟩
 rintro n ρ h' ⟨rfl,i,j,hn,hi,hj,iu,r0,r1,r2,r8,r9,bK⟩
 by_cases AX:i<j
 ·have Tu:(i:Int)<(j:Int):=by omega
  have w1:IntKind.wrap .i64 ((i:Int)+(j:Int))=((i+j:Nat):Int):=by rw[bj]<;>omega
  have w2:IntKind.wrap .u64 ((i+j:Nat):Int)=((i+j:Nat):Int):=eo (by omega)
  have w3:((i+j:Nat):Int).fdiv (2^min (Int.toNat 1) IntKind.u64.bits)=(((i+j)/2:Nat):Int):=by
   rw[show(2:Int)^min (Int.toNat 1) IntKind.u64.bits=2 by rfl,Int.fdiv_eq_ediv_of_nonneg _ (by omega)];rfl
  have w4:IntKind.wrap .i64 (((i+j)/2:Nat):Int)=(((i+j)/2:Nat):Int):=x8 (by omega)
  have h1: ¬(1:Int)<0:=by omega
  have hm:(i+j)/2<l.length:=by omega
  obtain⟨p,g1,g2⟩:=(hv h' (Old.refl h')).get ((i+j)/2) (by rw[aB.aD];exact hm)
  have g3:(aB.R l)[(i+j)/2]'(by grind)=aB.e l[(i+j)/2]:=by simp[aF.R]
  rw[g3] at g2
  simp+decide only[sv,Pj,aoA,aoz,r0,r1,r2,r9,bK,Tu,w1,w2,w3,w4,g1,g2]
  refine vm (ok.dV _ rfl) (cmp _ (bw hm) _) ?_
  by_cases aS:l[(i+j)/2].1<c
  ·have jK:((l[(i+j)/2].1:Int)-(c:Int))<0:=by omega
   have w5:=dj (show(i+j)/2<2^61 by omega)
   have hle:(i+j)/2<fP l c:=by
    by_cases hx:fP l c<=(i+j)/2
    ·have:=Xw hs hx hm;omega
    ·omega
   simp+decide only[sv,aoy,jK,w5]
   exact⟨j-((i+j)/2+1),by omega,rfl,(i+j)/2+1,j,rfl,by omega,hj,iu,r0,r1,r2,r8,rfl,bK⟩
  ·have jK: ¬((l[(i+j)/2].1:Int)-(c:Int))<0:=by omega
   have hle:fP l c<=(i+j)/2:=by
    by_cases hx:(i+j)/2<fP l c
    ·have:=amD hx hm;omega
    ·omega
   simp+decide only[sv,aox,jK]
   exact⟨(i+j)/2-i,by omega,rfl,i,(i+j)/2,rfl,hi,hle,by omega,r0,r1,r2,r8,r9,rfl⟩
 ·have Tu: ¬(i:Int)<(j:Int):=by omega
  have jM:i=fP l c:=by omega
  subst jM
  by_cases hm:fP l c<l.length
  ·have pg:((fP l c:Nat):Int)<(l.length:Int):=by omega
   obtain⟨p,g1,g2⟩:=(hv h' (Old.refl h')).get (fP l c) (by rw[aB.aD];exact hm)
   have g3:(aB.R l)[fP l c]'(by grind)=aB.e l[fP l c]:=by simp[aF.R]
   rw[g3] at g2
   simp+decide only[sv,Pj,YE,r0,r1,r2,r8,r9,bK,Tu,pg,g1,g2]
   refine vm (ok.dV _ rfl) (cmp _ (bw hm) _) ?_
   have e:decide ((l[fP l c].1:Int)-(c:Int)=0)=decide (l[fP l c].1=c):=by grind
   simp+decide only[sv,e,hm]
   simp[hm]
  ·have pg: ¬((fP l c:Nat):Int)<(l.length:Int):=by omega
   simp+decide only[sv,Pj,YE,r8,r9,bK,Tu,pg,hm]
   simp
def dl (l:List (Nat×Nat)) (c:Nat):List (Nat×Nat):=if 0<=cidx l c then l.eraseIdx (cidx l c).toNat else l
def ins (l:List (Nat×Nat)) (p:Nat×Nat):List (Nat×Nat):=l.take (fP l p.1)++p::l.drop (fP l p.1)
def qW (d:Nat) (l:List (Nat×Nat)) (p:Nat×Nat):List (Nat×Nat):=if p.2=d then dl l p.1 else ins (dl l p.1) p
def jr (d:Nat) (l:List (Nat×Nat)):List (Nat×Nat):=l.foldl (qW d) []
def aJi {c:Nat} (h: ¬0<=cidx l c): ∀p∈l,p.1≠c:=by
 rcases IB (q:=fun p:Nat×Nat=>p.1==c) (l:=l) with⟨e1,e2⟩|⟨i,hi,e1,e2⟩
 ·grind
 ·exact(h (by rw[cidx,e1];omega)).elim
def Wn {c:Nat} (h:0<=cidx l c): ∃i,∃hi:i<l.length,cidx l c=i/\l[i].1=c:=by
 rcases IB (q:=fun p:Nat×Nat=>p.1==c) (l:=l) with⟨e1,e2⟩|⟨i,hi,e1,e2⟩
 ·rw[cidx,e1] at h;omega
 ·refine⟨i,hi,e1,?_⟩
  grind
def Dc {c:Nat}:(dl l c).Sublist l:=by
 unfold dl
 grind
def O2 (hs:aQ l) {c:Nat}:aQ (dl l c):=DB Dc hs
def aw2 (hs:aQ l) {c:Nat}: ∀p∈dl l c,p.1≠c:=by
 unfold dl
 split
 ·rename_i h
  obtain⟨i,hi,e1,e2⟩:=Wn h
  rw[e1,i9]
  intro p hp
  obtain⟨j,hj,jt,rfl⟩:=List.mem_eraseIdx_iff_getElem.1 hp
  have:=List.pairwise_iff_getElem.1 hs
  grind
 ·rename_i h
  exact aJi h
def aLC (hs:aQ l) {p:Nat×Nat} (hn: ∀q∈l,q.1≠p.1):aQ (ins l p):=by
 unfold ins aQ
 rw[List.pairwise_append]
 refine⟨DB (List.take_sublist ..) hs,?_,?_⟩
 ·rw[List.pairwise_cons]
  refine⟨fun q hq=>?_,DB (List.drop_sublist ..) hs⟩
  obtain⟨j,hj,rfl⟩:=jm hq
  rw[List.getElem_drop]
  have sf:fP l p.1+j<l.length:=by grind
  have h1:=Xw hs (c:=p.1) (i:=fP l p.1+j) (by omega) sf
  grind
 ·intro q hq r hr
  obtain⟨j,hj,rfl⟩:=jm hq
  rw[List.getElem_take]
  have wV:j<fP l p.1:=by grind
  have sf:j<l.length:=by grind
  have h1:=amD wV sf
  rcases List.mem_cons.1 hr with rfl|hr
  ·exact h1
  ·obtain⟨k,hk,rfl⟩:=jm hr
   rw[List.getElem_drop]
   have mX:fP l p.1+k<l.length:=by grind
   have h3:=Xw hs (c:=p.1) (i:=fP l p.1+k) (by omega) mX
   omega
def ak5 (hs:aQ l) {p:Nat×Nat}:aQ (qW d l p):=by
 unfold qW
 split
 ·exact O2 hs
 ·exact aLC (O2 hs) (aw2 hs)
def ala {p:Nat×Nat} (h:q∈ins l p):q=p\/q∈l:=by
 unfold ins at h
 grind
def ak6 {p:Nat×Nat} (h:q∈qW d l p):q=p\/q∈l:=by
 unfold qW at h
 split at h
 ·exact .inr (Dc.subset h)
 ·rcases ala h with h|h
  ·exact .inl h
  ·exact .inr (Dc.subset h)
def alb {p:Nat×Nat}:(ins l p).length=l.length+1:=by
 have:=Xv (l:=l) (c:=p.1)
 simp[ins];omega
def ak7 {p:Nat×Nat}:(qW d l p).length<=l.length+1:=by
 have:=(Dc (l:=l) (c:=p.1)).length_le
 unfold qW
 split
 ·omega
 ·rw[alb];omega
def PV (m:Nat) (H:aa) (pv:AV) (l:List (Nat×Nat)):Prop:=(l=[]/\pv= .vs [] .full)\/ ∃b,pv= .rs b 0 l.length 2/\H.get b=some (.cells (aB.R l).flatten)/\m<=b/\b<H.next
def PV.qg {m:Nat} (h:PV m H pv l) (ho: ∀x,x<H.next->H'.get x=H.get x):lz H' pv 2 (aB.R l):=by
 rcases h with⟨rfl,rfl⟩|⟨b,rfl,h1,h2,h3⟩
 ·exact lz.vs aB (l:=[])
 ·have:=lz.rs (h:=H') (b:=b) (sz:=2) (rows:=aB.R l) (cs:=(aB.R l).flatten) (aq (by rw[ho b h3,h1])) (bX (by rw[kS (sz:=2) (fun r hr=>by obtain⟨p,_,rfl⟩:=List.mem_map.1 hr;rfl)];omega)) (fun r hr=>by obtain⟨p,_,rfl⟩:=List.mem_map.1 hr;rfl)
  rw[aB.aD] at this
  exact this
def PV.to {m:Nat} (h:PV m H pv l) (hn:H.next<=H'.next) (ho: ∀x,m<=x->x<H.next->H'.get x=H.get x):PV m H' pv l:=by
 rcases h with h|⟨b,h0,h1,h2,h3⟩
 ·exact .inl h
 ·exact .inr ⟨b,h0,by grind,h2,by omega⟩
structure MS (h:aa) (d:Nat) (l:List (Nat×Nat)) (pv:AV) (H:aa):Prop where
 n:h.next+2<=H.next
 res:H.get h.next=some (.cells [.int .u8 0, .vs [] .full])
 out:H.get (h.next+1)=some (.cells [.int .u8 d,pv])
 pv:PV (h.next+2) H pv l
 old: ∀x,x<h.next->H.get x=h.get x
def MS.to {pv:AV} (M:MS h d l pv H) (o:Old H H'):MS h d l pv H' where
 n:=by have:=M.n;have:=o.next;omega
 res:=by rw[o.get _ (by have:=M.n;omega),M.res]
 out:=by rw[o.get _ (by have:=M.n;omega),M.out]
 pv:=M.pv.to o.next (fun x _ h2=>o.get x h2)
 old x hx:=by rw[o.get _ (by have:=M.n;omega),M.old x hx]
theorem ai7:(aB.R l).flatten.take (i*2)=(aB.R (l.take i)).flatten:=by
 induction l generalizing i with
 |nil=>simp[aF.R]
 |cons p l ih=>
  cases i with
  |zero=>simp[aF.R]
  |succ i=>
   rw[zS,aB.BL,aB.BL,mG,mG,vU,<-ih]
   show List.take (i*2+2) (_::_::_)=_
   rw[zS,zS];rfl
def ai8:(aB.R l).flatten.drop (i*2)=(aB.R (l.drop i)).flatten:=by
 induction l generalizing i with
 |nil=>simp[aF.R]
 |cons p l ih=>
  cases i with
  |zero=>simp[aF.R]
  |succ i=>
   rw[List.drop_succ_cons,aB.BL,mG,vU,<-ih]
   show List.drop (i*2+2) (_::_::_)=_
   simp_all
def Np:(aB.R l).flatten.length=l.length*2:=by
 rw[kS (sz:=2) (fun r hr=>by obtain⟨p,_,rfl⟩:=List.mem_map.1 hr;rfl),aB.aD]
theorem Io: ∀{n off:Nat},off+n*sz<=ds.length->rowsOf (cs++ds) (cs.length+off) sz n=rowsOf ds off sz n
 |0,_,_=>rfl
 |n+1,off,h=>by
  have hh:off+sz+n*sz<=ds.length:=by grind
  simp only[rowsOf]
  rw[rJ,Io hh]
  simp_all
theorem aj8: ∀{l:List (Nat×Nat)},rowsOf (aB.R l).flatten 0 2 l.length=aB.R l
 |[]=>rfl
 |p::l=>by
  have ih:=aj8 (l:=l)
  rw[aB.BL,mG,cQ,rowsOf]
  rw[show 0+2=(aB.e p).length+0 by rfl,Io (by rw[Np];omega),ih]
  rfl
def aJf:yx (aB.R l).flatten i=(aB.R (l.eraseIdx i)).flatten:=by
 rw[yx,ai7,ai8,<-B7,aB.kX,List.eraseIdx_eq_take_drop_succ]
def aI2 {p:Nat×Nat}:oN (aB.R l).flatten (aB.e p) i=(aB.R (l.take i++p::l.drop i)).flatten:=by
 rw[oN,ai7,ai8,<-aB.kX,B7,aB.BL,mG,eR]
def MS.buf {b:Nat} {pv:AV} (M:MS h d l pv H) (hb:h.next+2<=b):MS h d l2 (.rs (H.next+19) 0 l2.length 2) ((nN H b (aB.R l2).flatten).set (h.next+1) (some (.cells [.int .u8 d, .rs (H.next+19) 0 l2.length 2]))) where
 n:=by have:=M.n;simp only[nN,aa.set,aa.at,aa.clean];omega
 res:=by
  have hn:=M.n
  simp[nN,aa.set,aa.at,aa.clean,show¬h.next=H.next+19 by omega,show h.next<H.next by omega,show¬h.next=b by omega,M.res]
 out:=by simp[aa.set]
 pv:=by
  have hn:=M.n
  exact .inr ⟨_,rfl,by simp[nN,aa.set,aa.at,show¬H.next+19=h.next+1 by omega],by omega,by simp only[nN,aa.set,aa.at,aa.clean];omega⟩
 old x hx:=by
  have hn:=M.n
  simp[nN,aa.set,aa.at,aa.clean,show¬x=H.next+19 by omega,show x<H.next by omega,show¬x=b by omega,show¬x=h.next+1 by omega,M.old x hx]
structure MR (h:aa) (d:Nat) (t:aL) (l:List (Nat×Nat)) (i:Nat) (ρ:Env):Prop where
 r0:ρ 0= .int .u8 d
 r4:ρ 4= .ptr h.next 0
 r5:ρ 5= .ptr (h.next+1) 0
 fv:ρ 13= .vs (aB.R l) t
 jg:ρ 14= .int .i64 l.length
 fZ:ρ 15= .int .i64 i
theorem PV.one {m:Nat} (h:PV m H pv l):pv.one=true:=by
 rcases h with⟨_,rfl⟩|⟨b,rfl,_⟩<;>rfl
def ajv (ok:aA P tb) {H:aa} {t:aL} {p:Nat×Nat} (R:MR h d t l i ρ1) (r7:ρ1 7= .ptr H.next 0) (M:MS h d m1 pv1 H2) (hH:h.next+2<=H.next) (hH2:H.next<H2.next)
 (hp:H2.get H.next=some (.cells [.int .u16 p.1, .int .u8 p.2])) (CF:p.1<65536/\p.2<256) (hs:aQ m1) (si: ∀p∈m1,p.1<65536/\p.2<256) (CG:m1.length<2^29)
 (hK: ∀ρ' H' Az,MR h d t l i ρ'->MS h d (if p.2=d then m1 else ins m1 p) Az H'->K .normal ρ' H'):
 WP P (.seq (.cA Pp) (.cond (Am.t 36) (.seq (.cA YP) (.cA W0)) .skip)) K ρ1 H2:=by
 obtain⟨r0,r4,r5,fv,jg,fZ⟩:=R
 have g7:=aq hp
 have g5:=aq M.out
 by_cases hd:p.2=d
 ·have jh:(p.2:Int)=(d:Int):=by omega
  simp+decide only[sv,Pp,r0,r7,g7,jh]
  rw[ax hd] at hK
  exact hK _ _ pv1 ⟨r0,r4,r5,fv,jg,fZ⟩ M
 ·have jh: ¬(p.2:Int)=(d:Int):=by omega
  rw[aj hd] at hK
  obtain⟨b,k1⟩:=aJk ok (h:=H2) (v:=pv1) hs CF.1 si (fun h' ho=>M.pv.qg ho.get) (by omega)
  simp+decide only[sv,Pp,YP,r0,r5,r7,g5,g7,jh]
  refine ao k1 ?_
  simp+decide only[sv,W0,r5,r7,g5,g7]
  have gQ:=Xv (l:=m1) (c:=p.1)
  rcases M.pv with⟨rfl,rfl⟩|⟨bb,rfl,q1,q2,q3⟩
  ·have k2:=aLD ok (h:=H2) (f:=257) rfl (row:=[.int .u16 p.1, .int .u8 p.2]) (tl:= .full) rfl
   refine ao k2 ?_
   have hn:=M.n
   have hg:cellsOf (H2.at H2.next (.cells [.int .u16 p.1, .int .u8 p.2])) (h.next+1)=some [.int .u8 d, .vs [] .full]:=aq (by simp[aa.at,show¬h.next+1=H2.next by omega,M.out])
   simp+decide only[sv,r5,hg]
   refine hK _ _ (.rs H2.next 0 1 2) ⟨r0,r4,r5,fv,jg,fZ⟩ ⟨by simp[aa.at,aa.set];omega,?_,by simp[aa.set], .inr ⟨H2.next,rfl,?_,by omega,by simp[aa.at,aa.set]⟩,fun x hx=>?_⟩
   ·simp[aa.at,aa.set,show¬h.next=H2.next by omega,M.res]
   ·simp[aa.at,aa.set,show¬H2.next=h.next+1 by omega,ins,fP,aB,aF.R]
   ·simp[aa.at,aa.set,show¬x=H2.next by omega,show¬x=h.next+1 by omega,M.old x hx]
  ·have k2:=aI1 ok (h:=H2) (f:=257) rfl (row:=aB.e p) (tl:= .full) (i:=fP m1 p.1) q3 q1 Np rfl (by omega) gQ
   have jM:m1.length+1=(ins m1 p).length:=alb.symm
   rw[aI2,jM] at k2
   refine ao k2 ?_
   have hn:=M.n
   have hg:cellsOf (nN H2 bb (aB.R (ins m1 p)).flatten) (h.next+1)=some [.int .u8 d, .rs bb 0 m1.length 2]:=aq (by simp[nN,aa.at,aa.set,aa.clean,show¬h.next=H2.next+18 by omega,show h.next+1<H2.next by omega,show¬h.next+1=bb by omega,M.out])
   show exec P _ _ (nN H2 bb (aB.R (ins m1 p)).flatten) _
   simp+decide only[sv,r5,hg]
   exact hK _ _ _ ⟨r0,r4,r5,fv,jg,fZ⟩ (M.buf q2)
def aIc (ok:aA P tb) {d:Nat} {t:aL} (hd:d<256) (hb: ∀p∈l,p.1<65536/\p.2<256) (hl:l.length<2^28):al P 243 [.int .u8 d, .vs (aB.R l) t] h (.agg (Lb.c ⟨d,jr d l⟩ .au)) h:=by
 refine ok.Xy (rf:=agj) rfl (bT rfl) (by simp only[AV.bD,AV.cG,Lb.c,aB.jD];rfl) ?_
 simp+decide only[sv,agj,aoY,aoX,aoW]
 let I:Nat->Env->aa->Prop:=fun n ρ H=> ∃i pv,l.length=i+n/\MR h d t l i ρ/\MS h d (jr d (l.take i)) pv H/\aQ (jr d (l.take i))/\(∀p∈jr d (l.take i),p.1<65536/\p.2<256)/\(jr d (l.take i)).length<=i
 refine dv I ?_ l.length ⟨0, .vs [] .full,by omega,⟨rfl,rfl,rfl,rfl,by simp+decide only[sv,aB.aD],rfl⟩,⟨by simp[aa.set,aa.at],by simp[aa.set,aa.at],by simp[aa.set,aa.at], .inl ⟨rfl,rfl⟩,fun x hx=>by simp[aa.set,aa.at,show¬x=h.next by omega,show¬x=h.next+1 by omega]⟩,List.Pairwise.nil,(fun p hp=>by simp[jr] at hp),by simp[jr]⟩
 rintro n ρ H ⟨i,pv,aN,⟨r0,r4,r5,fv,jg,fZ⟩,M,hs,si,CG⟩
 by_cases hi:i<l.length
 ·have av:(i:Int)<(l.length:Int):=by omega
  have aK:(0:Int)<=i:=by omega
  have hw:=dj (show i<2^61 by omega)
  have du:(aB.R l)[i]? =some [.int .u16 l[i].1, .int .u8 l[i].2]:=aB.cj hi
  have jb:jr d (l.take (i+1))=qW d (jr d (l.take i)) l[i]:=by
   rw[<-lM hi,jr,List.foldl_append];rfl
  generalize hm:jr d (l.take i)=m at M hs si CG jb
  generalize hp:l[i]=p at du jb
  have CF:p.1<65536/\p.2<256:=by grind
  have hMn:=M.n
  simp+decide only[sv,YQ,aoV,fv,jg,fZ,av,aK,du]
  obtain⟨H1,pn⟩: ∃H1,H1=(H.at H.next (.cells [.int .u16 0, .int .u8 0])).set H.next (some (.cells [.int .u16 p.1, .int .u8 p.2])):=⟨_,rfl⟩
  have o1:Old H H1:=by subst pn;exact((Old.refl H).at (ak _)).set (ak _)
  have rX:H1.get H.next=some (.cells [.int .u16 p.1, .int .u8 p.2]):=by subst pn;simp[aa.set]
  have uR:H1.next=H.next+1:=by subst pn;simp[aa.set,aa.at]
  rw[<-pn]
  have M1:=M.to o1
  have g5:=aq M1.out
  have g7:=aq rX
  simp+decide only[sv,aoU,aoT,r5,g5,g7]
  refine ao (atR ok (l:=m) (fun h' ho=>M1.pv.qg ho) (by omega)) ?_
  have fin: ∀ρ' H' Az,MR h d t l i ρ'->MS h d (qW d m p) Az H'-> ∃k,k<n/\I k (put (put ρ' (some 52) (.int .i64 ((i+1:Nat):Int))) (some 15) (.int .i64 ((i+1:Nat):Int))) H':=by
   intro ρ' H' Az R' M'
   refine⟨n-1,by omega,i+1,Az,by omega,⟨R'.r0,R'.r4,R'.r5,R'.fv,R'.jg,rfl⟩,by grind,by rw[jb];exact ak5 hs,fun q hq=>?_,by rw[jb];have:=ak7 (d:=d) (l:=m) (p:=p);omega⟩
   rw[jb] at hq
   rcases ak6 hq with rfl|hq
   ·exact CF
   ·exact si q hq
  by_cases hc:0<=cidx m p.1
  ·obtain⟨k,hk,e1,e2⟩:=Wn hc
   have w1:=dj (show k<2^61 by omega)
   rcases M.pv with⟨rfl,_⟩|⟨bb,rfl,q1,q2,q3⟩
   ·simp at hk
   have k2:=aJe ok (h:=H1) (f:=254) rfl (i:=k) (by omega) ((o1.get _ q3).trans q1) Np (by omega) hk
   have MT:dl m p.1=m.eraseIdx k:=by rw[dl,ax hc,e1,i9]
   have MQ:m.length-1=(dl m p.1).length:=by grind
   rw[aJf,<-MT,MQ] at k2
   have od:(0:Int)<=k:=by omega
   have hg:cellsOf (nN H1 bb (aB.R (dl m p.1)).flatten) (h.next+1)=some [.int .u8 d, .rs bb 0 m.length 2]:=aq (by simp[nN,aa.at,aa.set,aa.clean,show¬h.next=H1.next+18 by omega,show h.next+1<H1.next by omega,show¬h.next+1=bb by omega,M1.out])
   simp+decide only[sv,aoS,e1,od,w1,r5,g5]
   refine ao k2 ?_
   simp+decide only[sv,r5,hg]
   have Mb:=M1.buf (l2:=dl m p.1) q2
   exact BK.1 (zv.1 (ajv ok (H:=H) (p:=p) (m1:=dl m p.1) ⟨r0,r4,r5,fv,jg,fZ⟩ rfl Mb (by omega) (by simp only[nN,aa.set,aa.at,aa.clean];omega) (by simp[nN,aa.set,aa.at,aa.clean,show¬H.next=h.next+1 by omega,show¬H.next=H1.next+19 by omega,show H.next<H1.next by omega,show¬H.next=bb by omega,rX]) CF (O2 hs) (fun q hq=>si q (Dc.subset hq)) (by omega) (fun ρ' H' Az R' M'=>by
    have afc:=R'.fZ
    simp+decide only[sv,WZ,afc,hw]
    exact fin _ _ Az R' M')))
  ·have MT:dl m p.1=m:=by rw[dl,aj hc]
   simp+decide only[sv,hc]
   exact BK.1 (zv.1 (ajv ok (H:=H) (p:=p) (m1:=dl m p.1) ⟨r0,r4,r5,fv,jg,fZ⟩ rfl (by rw[MT];exact M1) (by omega) (by omega) rX CF (O2 hs) (fun q hq=>si q (Dc.subset hq)) (by grind) (fun ρ' H' Az R' M'=>by
    have afc:=R'.fZ
    simp+decide only[sv,WZ,afc,hw]
    exact fin _ _ Az R' M')))
 ·have av: ¬(i:Int)<(l.length:Int):=by omega
  have jM:l.take i=l:=bX (by omega)
  rw[jM] at M
  have g1:=aq M.out
  have g2:=aq M.res
  have eg:=M.pv.one
  simp+decide only[sv,YQ,ale,jg,fZ,r4,r5,av,g1,g2,eg]
  have hMn:=M.n
  rw[jM] at CG
  rcases M.pv with⟨e,rfl⟩|⟨b,rfl,q1,q2,q3⟩
  ·refine NZ.2 ⟨.agg [.int .u8 d, .vs [] .full],h.next,[.int .u8 d, .vs [] .full],by simp+decide only[sv,r4],by simp[aa.set],ak _,rfl,by rw[e];rfl,fun x hx=>?_⟩
   simp[aa.set,show¬x=h.next by omega,M.old x hx]
  ·have hfz:AV.gE b (aB.R (jr d l)).flatten (.agg [.int .u8 d, .rs b 0 (jr d l).length 2])= .agg [.int .u8 d, .vs (aB.R (jr d l)) .au]:=by
    simp only[AV.gE,AV.wE,dP]
    rw[ax (by rw[Np];omega),aj8]
   refine NZ.2 ⟨.agg [.int .u8 d, .rs b 0 (jr d l).length 2],b,(aB.R (jr d l)).flatten,by simp+decide only[sv,r4],by simp[aa.set,show¬b=h.next by omega,q1],by omega,?_,?_,fun x hx=>?_⟩
   ·rw[hfz];simp only[AV.bD,AV.cG,aB.jD];rfl
   ·rw[hfz];simp only[AV.strip,AV.a8,aB.dJ];rfl
   ·simp[aa.set,show¬x=h.next by omega,M.old x hx]
def tj (l:Lb) (c gB:Nat):Lb:=⟨l.d,jr l.d (l.ps++[(c,gB)])⟩
def aJs (ok:aA P tb) {t:aL} {c gB:Nat} (hl:l.ok) (hc:c<65536) (aEh:gB<256):al P 222 [.agg (l.c t), .int .u16 c, .int .u8 gB] h (.agg ((tj l c gB).c .au)) h:=by
 refine ok.df (rf:=agr) rfl (bT rfl) (by simp only[AV.bD,AV.cG,Lb.c,aB.jD];rfl) ?_
 have mW:=hl.len
 simp+decide only[sv,agr,apz,Lb.c]
 obtain⟨X,hX⟩: ∃X,X=((h.at h.next (.cells [.int .u8 l.d, .vs (aB.R l.ps) t])).at (h.next+1) (.cells [.int .u8 0, .vs [] .full])):=⟨_,rfl⟩
 have xn:X.next=h.next+2:=by subst hX;simp[aa.at]
 have xo: ∀x,x<h.next->X.get x=h.get x:=by subst hX;intro x hx;simp[aa.at,show¬x=h.next by omega,show¬x=h.next+1 by omega]
 have x1:cellsOf X h.next=some [.int .u8 l.d, .vs (aB.R l.ps) t]:=by subst hX;simp+decide only[sv]
 have x2:X.get (h.next+1)=some (.cells [.int .u8 0, .vs [] .full]):=by subst hX;simp[aa.at]
 rw[<-hX]
 refine jk 11 12 rfl (by omega) rfl ?_
 have xl:h.next<X.next:=by omega
 simp+decide only[sv,apy,x1,xl,kD]
 obtain⟨v,h1,k1,⟨tt,rfl,k2⟩,k3,k4,k5⟩:=amO aB ok (f:=109) (z:=[.int .u16 0, .int .u8 0]) (rn:=4) rfl (l:=l.ps) (t:=t) (h:=X.clean 12) (by omega) (by omega)
 have GS: ∀j,j<12->h1.get (X.next+j)=none:=by
  intro j hj
  rcases k5 with rfl|rfl
  ·simp only[aa.clean];grind
  ·have mZ: ¬X.next+j=X.next+12:=by omega
   simp only[aa.clean,aa.at,mZ,fj];grind
 have uR:X.next+12<=h1.next:=k3.next
 have ho1:Old X h1:=⟨by omega,fun x hx=>by rw[k3.get x (by omega)];simp[aa.clean,hx]⟩
 refine⟨_,h1,k1,fun j _ hj=>GS j hj,fun x hx=>k3.get x (by omega),?_⟩
 have ha:App X h1 (.vs (aB.R l.ps) tt) (aB.R l.ps):=⟨tt,rfl,k2.imp id (fun⟨k,q1,q2,q3,q4⟩=>⟨k,q1,by omega,q3,q4⟩)⟩
 obtain⟨v',h2,a1,⟨t2,rfl,_⟩,a3,a4,a5⟩:=ha.qT ho1 (bytes:=4) (sz:=2) (base:=X.next) (n:=12) (i:=9) (ak _) (fun j hj=> .inl (GS j hj)) [[.int .u16 c, .int .u8 gB]] aB.fl (by rw[aB.aD];grind) (by rw[aB.aD];grind)
 simp+decide only[sv]
 refine⟨_,h2,a1,a5,fun x hx=>by rw[a3.get x hx,ho1.get x hx],?_⟩
 simp+decide only[sv]
 have hap:aB.R l.ps++[[.int .u16 c, .int .u8 gB]]=aB.R (l.ps++[(c,gB)]):=by rw[<-aB.kX];rfl
 rw[hap]
 refine⟨_,h2,aIc ok hl.d (fun p hp=>?_) (by simp;omega),fun j hj hn=>a5 j (by omega) hn,fun _ _=>rfl,?_⟩
 ·rcases List.mem_append.1 hp with hp|hp
  ·exact hl.ps p hp
  grind
 have x3:cellsOf h2 (h.next+1)=some [.int .u8 0, .vs [] .full]:=aq (by rw[a3.get _ (by omega),x2])
 simp+decide only[sv,Lb.c,x3,aV,sR]
 refine⟨fun j hj hn=>?_,by simp only[AV.strip,AV.a8,aB.dJ];rfl,fun x hx=>?_⟩
 ·omega
 ·rw[aj (by omega),a3.get x (by omega),xo x hx]
def tg (d:Nat) (l:List (Nat×Nat)) (i:Nat):Bool:=decide ((l.getD i (0,0)).2<=4)&&!((l.getD i (0,0)).2==d)&&(i==0||decide ((l.getD (i-1) (0,0)).1<(l.getD i (0,0)).1))
def dF (l:Lb):Bool:=decide (1<=l.d)&&decide (l.d<=4)&&decide (l.ps.length<=16)&&(List.range l.ps.length).all (tg l.d l.ps)
def Wq (ok:aA P tb) {t:aL} (hl:l.ok):al P 63 [.agg (l.c t)] h (.bool (dF l)) h:=by
 refine ok.bA Ib ?_
 have mW:=hl.len
 by_cases h1:1<=l.d
 case neg=>
  have br:(l.d:Int)<1:=by omega
  have e:dF l=false:=by simp[dF,h1]
  simp+decide only[sv,Ib,La,KT,Sr,Lb.c,br,e]
  grind
 have br: ¬(l.d:Int)<1:=by omega
 by_cases h2:l.d<=4
 case neg=>
  have cB:(4:Int)<(l.d:Int):=by omega
  have e:dF l=false:=by simp[dF,h2]
  simp+decide only[sv,Ib,La,KT,Sr,Lb.c,br,cB,e]
  grind
 have cB: ¬(4:Int)<(l.d:Int):=by omega
 by_cases h3:l.ps.length<=16
 case neg=>
  have mC:(16:Int)<(l.ps.length:Int):=by omega
  have e:dF l=false:=by simp[dF,h3]
  simp+decide only[sv,Ib,La,KT,Sr,Lb.c,br,cB,mC,aB.aD,e]
  grind
 have mC: ¬(16:Int)<(l.ps.length:Int):=by omega
 simp+decide only[sv,Ib,La,KT,azR,Lb.c,br,cB,mC,aB.aD]
 obtain⟨X,hX⟩: ∃X,X=h.at h.next (.cells [.int .u8 l.d, .vs (aB.R l.ps) t]):=⟨_,rfl⟩
 have xo:Old h X:=by subst hX;exact(Old.refl h).at (ak _)
 have x1:X.get h.next=some (.cells [.int .u8 l.d, .vs (aB.R l.ps) t]):=by subst hX;simp[aa.at]
 have xn:X.next=h.next+1:=by subst hX;simp[aa.at]
 rw[<-hX]
 let I:Nat->Env->aa->Prop:=fun n ρ H=>Old X H/\ ∃i:Nat,l.ps.length=i+n/\(∀j,j<i->tg l.d l.ps j=true)/\ρ 1= .ptr h.next 0/\ρ 20= .vs (aB.R l.ps) t/\ρ 21= .int .i64 l.ps.length/\ρ 22= .int .i64 i
 refine dv I ?_ l.ps.length ⟨Old.refl X,0,by omega,by omega,rfl,rfl,rfl,rfl⟩
 rintro n ρ H ⟨ho,i,aN,hf,r1,wH,uM,Uj⟩
 by_cases hi:i<l.ps.length
 ·have av:(i:Int)<(l.ps.length:Int):=by omega
  have aK:(0:Int)<=i:=by omega
  have hw:=dj (show i<2^61 by omega)
  have du:(aB.R l.ps)[i]? =some [.int .u16 l.ps[i].1, .int .u8 l.ps[i].2]:=aB.cj hi
  have pQ:l.ps.getD i (0,0)=l.ps[i]:=by simp[hi]
  simp+decide only[sv,ad2,azQ,wH,uM,Uj,av,aK,du]
  obtain⟨H1,pn⟩: ∃H1,H1=(H.at H.next (.cells [.int .u16 0, .int .u8 0])).set H.next (some (.cells [.int .u16 l.ps[i].1, .int .u8 l.ps[i].2])):=⟨_,rfl⟩
  have o1:Old H H1:=by subst pn;exact((Old.refl H).at (ak _)).set (ak _)
  have uR:H1.next=H.next+1:=by subst pn;simp[aa.set,aa.at]
  have g4:cellsOf H1 H.next=some [.int .u16 l.ps[i].1, .int .u8 l.ps[i].2]:=by subst pn;exact aq (by simp[aa.set])
  have MH:=ho.next
  have g1:cellsOf H1 h.next=some [.int .u8 l.d, .vs (aB.R l.ps) t]:=aq (by rw[o1.get _ (by omega),ho.get _ (by omega),x1])
  have l1:h.next<H1.next:=by omega
  have l2:H.next<H1.next:=by omega
  rw[<-pn]
  refine bq 27 rfl rfl ?_
  simp+decide only[sv,azP,g4,l2]
  refine dX (aMM ok _) (ba (ak _)) ?_
  have hO: ∀k,Old X (H1.clean k):=fun k=>(ho.trans o1).clean
  have Ai:tg l.d l.ps i=false->dF l=false:=fun hb=>by
   unfold dF
   grind
  have UY: ∀b,b<h.next->(H1.clean 27).get b=h.get b:=fun b hb=>by rw[(hO 27).get b (by omega),xo.get b hb]
  have afz: ∀b,b<h.next->(if b<H1.next then H1.get b else none)=h.get b:=UY
  have aEs:tg l.d l.ps i=true-> ∀ρ',ρ' 1= .ptr h.next 0->ρ' 20= .vs (aB.R l.ps) t->ρ' 21= .int .i64 l.ps.length->ρ' 22= .int .i64 ((i+1:Nat):Int)-> ∃m,m<n/\I m ρ' (H1.clean 27):=fun hg ρ' q1 q2 q3 q4=>
   ⟨n-1,by omega,hO 27,i+1,by omega,fun j hj=>by
     grind,q1,q2,q3,q4⟩
  by_cases h4:l.ps[i].2<=4
  case neg=>
   have e:=Ai (by simp only[tg,pQ];simp[h4])
   simp+decide only[sv,G4,h4,e]
   exact afz
  by_cases h5:l.ps[i].2=l.d
  ·have e:=Ai (by simp only[tg,pQ];simp[h5])
   simp+decide only[sv,G4,h5,h2,g1,g4,l1,l2,r1,e]
   exact afz
  ·have CQ: ¬(l.ps[i].2:Int)=(l.d:Int):=by omega
   by_cases h6:i=0
   ·have lP: ¬(0:Int)<(i:Int):=by omega
    have e:tg l.d l.ps i=true:=by
     simp only[tg,pQ,h4,decide_true,zR]
     grind
    simp+decide only[sv,G4,ad1,h4,CQ,g1,g4,l1,l2,r1,Uj,lP,hw]
    exact aEs e _ r1 wH uM rfl
   ·have lP:(0:Int)<(i:Int):=by omega
    have w1:IntKind.wrap .i64 ((i:Int)-1)=((i-1:Nat):Int):=by rw[bj]<;>omega
    have qZ:i-1<l.ps.length:=by omega
    have UR:(aB.R l.ps)[i-1]? =some [.int .u16 l.ps[i-1].1, .int .u8 l.ps[i-1].2]:=aB.cj qZ
    have aEo:l.ps.getD (i-1) (0,0)=l.ps[i-1]:=by simp[qZ]
    have aEf:(0:Int)<=((i-1:Nat):Int):=by omega
    by_cases h7:l.ps[i].1<=l.ps[i-1].1
    ·have h7':(l.ps[i].1:Int)<=(l.ps[i-1].1:Int):=by omega
     have e:=Ai (by simp only[tg,pQ,aEo];grind)
     simp+decide only[sv,G4,h4,CQ,g1,g4,l1,l2,r1,lP,w1,UR,aEf,h7',e]
     exact afz
    ·have h7': ¬(l.ps[i].1:Int)<=(l.ps[i-1].1:Int):=by omega
     have e:tg l.d l.ps i=true:=by simp only[tg,pQ,aEo];grind
     simp+decide only[sv,G4,ad1,h4,CQ,g1,g4,l1,l2,r1,Uj,lP,w1,UR,aEf,h7',hw]
     exact aEs e _ r1 wH uM rfl
 ·have av: ¬(i:Int)<(l.ps.length:Int):=by omega
  have e:dF l=true:=by
   unfold dF
   grind
  simp+decide only[sv,ad2,azO,uM,Uj,av,e]
  exact fun b hb=>by rw[ho.get b (by omega),xo.get b hb]
def uX (v i:Nat):UInt8:=UInt8.ofNat (v/2^(8*i)%256)
def be (v:Nat):Nat->List UInt8
 |0=>[]
 |n+1=>uX v n::be v n
theorem bG: ∀{n:Nat},(be v n).length=n
 |0=>rfl
 |n+1=>by simp[be,bG (n:=n)]
def de (l:List UInt8):Nat:=l.foldl (fun v b=>v*256+b.toNat) 0
def amN {b:UInt8}:de (l++[b])=de l*256+b.toNat:=by simp[de]
theorem Ce: ∀(l:List UInt8),de l<256^l.length:=by
 intro l
 rcases List.eq_nil_or_concat l with rfl|⟨m,b,rfl⟩
 ·simp[de]
 ·have ih:=Ce m
  have hb:=b.toNat_lt
  rw[List.concat_eq_append,amN,cw,qH,Nat.pow_succ]
  omega
termination_by l=>l.length
decreasing_by simp_all
def Ft:(uX v i).toNat=v/2^(8*i)%256:=by
 rw[uX,UInt8.toNat_ofNat']
 omega
theorem akA: ∀{n a:Nat},(be v n).foldl (fun v b=>v*256+b.toNat) a=a*256^n+v%256^n
 |0,a=>by simp[be];omega
 |n+1,a=>by
  rw[be,Dx,akA,Ft]
  have h1:v%256^(n+1)=256^n*(v/256^n%256)+v%256^n:=by rw[Nat.pow_succ,Nat.mod_mul];omega
  have h2:(2:Nat)^(8*n)=256^n:=by rw[Nat.pow_mul]
  grind
def aOn:de (be v n)=v%256^n:=by rw[de,akA];omega
def sy (ok:aA P tb) {b:List UInt8} {t:aL} {v n:Nat} (hv:v<2^64) (hn:n<=8) (hb:b.length<2^30):al P 89 [.vs (BS b) t, .int .u64 v, .int .i64 n] h (.vs (BS (b++be v n)) .au) h:=by
 refine ok.df (rf:=c89) rfl (bT rfl) dt.i7 ?_
 obtain⟨c0,h0,k1,k2,k3,k4,_⟩:=amO dt ok (f:=94) (z:=[.int .u8 0]) (rn:=1) rfl (l:=b) (t:=t) (h:=h) (by omega) (by omega)
 have n0: ¬(n:Int)<0:=by omega
 have n8: ¬(8:Int)<(n:Int):=by omega
 simp+decide only[sv,c89,axN,axM,axL,axK,axJ,n8]
 let J:Nat->Env->aa->Prop:=fun m ρ H=>Old h H/\ ∃pre,be v n=pre++be v m/\m<=n/\pre.length+m=n/\ρ 1= .int .u64 v/\ρ 8= .int .i64 m/\App h H (ρ 7) (BS (b++pre))
 refine ry 0 rfl rfl J (fun l' ρ h hk=>hk) ?_ ?_
 ·simp+decide only[sv,pE,List.foldr,n8]
  refine ao k1 ?_
  simp+decide only[sv,n0,n8]
  exact⟨n,k3,[],rfl,ak _,by simp,rfl,rfl,by rw[fE];exact k2⟩
 rintro m ρ H ⟨ho,pre,LL,UG,qY,r1,r8,ha⟩
 cases m with
 |zero=>
  obtain⟨tt,hv7,_⟩:=ha
  simp+decide only[sv,adt,ads,adr,axI,r8,hv7,aV]
  exact⟨by rw[LL,be,fE];exact dt.iy,ho.get⟩
 |succ m=>
  have m0:(0:Int)<((m+1:Nat):Int):=by omega
  have w1:IntKind.wrap .i64 (((m+1:Nat):Int)-1)=(m:Int):=by rw[bj]<;>omega
  have w2:IntKind.wrap .i64 (8*(m:Int))=((8*m:Nat):Int):=by rw[bj]<;>omega
  have w3:IntKind.wrap .u64 ((8*m:Nat):Int)=((8*m:Nat):Int):=eo (by omega)
  have w4: ¬((8*m:Nat):Int)<0:=by omega
  have w5:min (8*m) (IntKind.u64.bits)=8*m:=Gu (by show 8*m<=64;omega)
  have w6:IntKind.wrap .u8 ((v:Int).fdiv (2^(8*m)))=((uX v m).toNat:Int):=by
   have p2:(2:Int)^(8*m)=((2^(8*m):Nat):Int):=by grind
   have e1:(v:Int).fdiv (2^(8*m))=((v/2^(8*m):Nat):Int):=by grind
   rw[e1,Ft]
   simp[IntKind.wrap,IntKind.signed,IntKind.bits]
  obtain⟨v',h2,a1,a2,a3,a4,a5,a6⟩:=ha.app ho (bytes:=1) (sz:=1) (id:=H.next) ho.next [[.int .u8 (uX v m).toNat]] dt.fl (by rw[aY];grind) (by rw[aY];grind)
  simp+decide only[sv,adt,ads,adr,r1,r8,m0,w1,w2,w3,w4,w5,w6,a1,fI]
  exact⟨m,by omega,a3,pre++[uX v m],by rw[LL,be];simp,by omega,by grind,r1,rfl,by rw[<-eR,<-JV];exact a2⟩
def E5 (ok:aA P tb) {b:List UInt8} {t:aL} {n:Nat} (hn:n<=8) (hb:b.length<2^30):al P 241 [.vs (BS b) t, .int .i64 n] h (if b.length<n then .aE [.int .u64 0, .int .i64 3] else .aE [.int .u64 (de (b.take n)), .int .i64 0]) h:=by
 have n0: ¬(n:Int)<0:=by omega
 have n8: ¬(8:Int)<(n:Int):=by omega
 refine ok.keeps (rf:=TI) rfl (bT rfl) (by split<;>rfl) ?_
 by_cases hs:b.length<n
 ·rw[ax hs]
  have gu:(b.length:Int)<(n:Int):=by omega
  simp+decide only[sv,TI,YY,YX,YW,YV,YU,gu]
  refine ry 0 rfl rfl (fun m ρ H=>False) (fun l' ρ h hk=>hk) ?_ (fun _ _ _ h=>h.elim)
  simp+decide only[sv,pE,List.foldr,n0,n8,aY,gu]
 rw[aj hs]
 have gu: ¬(b.length:Int)<(n:Int):=by omega
 simp+decide only[sv,TI,YY,YX,YW,YV,YU,gu]
 let J:Nat->Env->aa->Prop:=fun m ρ H=>H=h/\ ∃i,i+m=n/\ρ 0= .vs (BS b) t/\ρ 1= .int .i64 n/\ρ 4= .int .u64 (de (b.take i))/\ρ 6= .int .i64 i
 refine ry 0 rfl rfl J (fun l' ρ h hk=>hk) ?_ ?_
 ·simp+decide only[sv,ao0,pE,List.foldr,n0,n8,aY,gu]
  exact⟨n,rfl,0,by omega,rfl,rfl,rfl,rfl⟩
 rintro m ρ H ⟨rfl,i,uT,r0,r1,r4,r6⟩
 cases m with
 |zero=>
  have aN:i=n:=by omega
  subst aN
  have il: ¬(i:Int)<(i:Int):=by omega
  simp+decide only[sv,YT,YS,YR,aoZ,r1,r4,r6,il]
 |succ m=>
  have hi:(i:Int)<(n:Int):=by omega
  have wW:i<b.length:=by omega
  have aK:(0:Int)<=i:=by omega
  have hw:=dj (show i<2^61 by omega)
  have hg:(BS b)[i]? =some [.int .u8 b[i].toNat]:=dt.cj wW
  have aS:=Ce (b.take i)
  have hle:(b.take i).length=i:=by grind
  rw[hle] at aS
  have aUY:(256:Nat)^i*256<=2^64:=by
   have:(256:Nat)^i*256=256^(i+1):=(Nat.pow_succ ..).symm
   rw[this]
   have:(256:Nat)^(i+1)<=256^8:=DA (by omega) (by omega)
   omega
  have e8:min 8 (IntKind.u64.bits)=8:=rfl
  have e9:Int.toNat 8=8:=rfl
  have w1:IntKind.wrap .u64 ((de (b.take i):Int)*2^8)=((de (b.take i)*256:Nat):Int):=by
   rw[show(de (b.take i):Int)*2^8=((de (b.take i)*256:Nat):Int) by omega]
   exact eo (by omega)
  have hb8:=b[i].toNat_lt
  have w2:IntKind.wrap .u64 (b[i].toNat:Int)=(b[i].toNat:Int):=eo (by omega)
  have w3:uq .or .u64 ((de (b.take i)*256:Nat):Int) (b[i].toNat:Int)=some ((de (b.take (i+1)):Nat):Int):=by
   rw[Xq (by omega) (by omega),<-lM wW,amN]
   have:=Nat.shiftLeft_add_eq_or_of_lt (i:=8) hb8 (de (b.take i))
   rw[Nat.shiftLeft_eq] at this
   grind
  have h8: ¬(8:Int)<0:=by omega
  simp+decide only[sv,YT,YS,YR,r0,r1,r4,r6,hi,aK,hw,hg,e8,e9,w1,w2,w3,fI]
  exact⟨m,by omega,rfl,i+1,by omega,r0,r1,rfl,rfl⟩
def mI (p:Nat×Nat):List UInt8:=be p.1 2++be p.2 1
def cE (l:Lb):List UInt8:=be l.d 1++be l.ps.length 1++l.ps.flatMap mI
def V9 {l:List (Nat×Nat)}:(l.flatMap mI).length=3*l.length:=by
 induction l with
 |nil=>rfl
 |cons p l ih=>simp only[jR,cw,ih,mI,bG,cQ];omega
def CZ:(cE l).length=2+3*l.ps.length:=by simp only[cE,cw,bG,V9]
def NF (ok:aA P tb) {b:List UInt8} {t:aL} (hl:l.ok) (hb:b.length<2^20):al P 44 [.vs (BS b) t, .agg (l.c t')] h (.vs (BS (b++cE l)) .au) h:=by
 refine ok.df (rf:=c44) rfl (bT rfl) dt.i7 ?_
 have hd:=hl.d
 have mW:=hl.len
 have w1:IntKind.wrap .u64 (l.d:Int)=l.d:=eo (by omega)
 have w2:IntKind.wrap .u64 (l.ps.length:Int)=l.ps.length:=eo (by omega)
 simp+decide only[sv,c44,aBt,Lb.c]
 obtain⟨X,hX⟩: ∃X,X=h.at h.next (.cells [.int .u8 l.d, .vs (aB.R l.ps) t']):=⟨_,rfl⟩
 have xo:Old h X:=by subst hX;exact(Old.refl h).at (ak _)
 have x1:cellsOf X h.next=some [.int .u8 l.d, .vs (aB.R l.ps) t']:=by subst hX;simp+decide only[sv]
 have xn:h.next<X.next:=by subst hX;simp[aa.at]
 rw[<-hX]
 refine m6 ?_
 simp+decide only[sv,aBs,x1,xn,w1]
 refine dh (sy ok (v:=l.d) (n:=1) (by omega) (by omega) (by omega)) (ba (ak _)) ?_
 simp+decide only[sv,x1,xn,aB.aD,w2]
 refine dh (sy ok (v:=l.ps.length) (n:=1) (by omega) (by omega) (by simp only[cw,bG];omega)) (ba (ak _)) ?_
 have x2: ∀k,cellsOf (X.clean k) h.next=some [.int .u8 l.d, .vs (aB.R l.ps) t']:=fun k=>by simp+decide only[sv,x1,xn]
 have xo2: ∀k,Old X (X.clean k):=fun k=>(Old.refl X).clean
 simp+decide only[sv,aBr,x1,xn]
 let I:Nat->Env->aa->Prop:=fun n ρ H=>Old X H/\ ∃i:Nat,l.ps.length=i+n/\ρ 19= .vs (aB.R l.ps) t'/\ρ 20= .int .i64 l.ps.length/\ρ 21= .int .i64 i/\ρ 5= .vs (BS (b++be l.d 1++be l.ps.length 1++(l.ps.take i).flatMap mI)) .au
 refine dv I ?_ l.ps.length ⟨xo2 _,0,by omega,rfl,by simp+decide only[sv,aB.aD],rfl,by simp only[kD,sS,fE];rfl⟩
 rintro n ρ H ⟨ho,i,aN,Mj,wH,uM,r5⟩
 by_cases hi:i<l.ps.length
 ·have av:(i:Int)<(l.ps.length:Int):=by omega
  have aK:(0:Int)<=i:=by omega
  have hw:=dj (show i<2^61 by omega)
  have du:(aB.R l.ps)[i]? =some [.int .u16 l.ps[i].1, .int .u8 l.ps[i].2]:=aB.cj hi
  have CF:=hl.ps _ (bw hi)
  have w3:IntKind.wrap .u64 (l.ps[i].1:Int)=l.ps[i].1:=eo (by omega)
  have w4:IntKind.wrap .u64 (l.ps[i].2:Int)=l.ps[i].2:=eo (by omega)
  simp+decide only[sv,aeu,aBq,Mj,wH,uM,av,aK,du]
  obtain⟨H1,pn⟩: ∃H1,H1=(H.at H.next (.cells [.int .u16 0, .int .u8 0])).set H.next (some (.cells [.int .u16 l.ps[i].1, .int .u8 l.ps[i].2])):=⟨_,rfl⟩
  have o1:Old H H1:=by subst pn;exact((Old.refl H).at (ak _)).set (ak _)
  have uR:H.next<H1.next:=by subst pn;simp[aa.set,aa.at]
  have g7:cellsOf H1 H.next=some [.int .u16 l.ps[i].1, .int .u8 l.ps[i].2]:=by subst pn;exact aq (by simp[aa.set])
  rw[<-pn]
  have qY:=V9 (l:=l.ps.take i)
  have tI:=uj i l.ps
  refine m6 ?_
  simp+decide only[sv,aBp,r5,g7,uR,w3]
  refine dh (sy ok (v:=l.ps[i].1) (n:=2) (by omega) (by omega) (by simp only[cw,bG];omega)) (ba (ak _)) ?_
  simp+decide only[sv,g7,uR,w4]
  refine dh (sy ok (v:=l.ps[i].2) (n:=1) (by omega) (by omega) (by simp only[cw,bG];omega)) (ba (ak _)) ?_
  simp+decide only[sv,aBo,uM,hw]
  refine⟨n-1,by omega,(ho.trans o1).clean,i+1,by omega,Mj,wH,rfl,?_⟩
  show AV.vs (BS _) .au=_
  rw[<-lM hi]
  simp only[vX,jR,sS,fE,mI,eR]
 ·have av: ¬(i:Int)<(l.ps.length:Int):=by omega
  simp+decide only[sv,aeu,aBn,wH,uM,r5,av,aV]
  refine⟨?_,fun x hx=>by rw[ho.get x (by omega),xo.get x hx]⟩
  rw[bX (by omega)]
  simp only[cE,eR]
  exact dt.iy
def mU (b:List UInt8) (k:Nat):List (Nat×Nat):=(List.range k).map fun i=>(de ((b.drop (2+3*i)).take 2),(b.getD (4+3*i) 0).toNat)
def wz (b:List UInt8):Lb×Nat×Nat:=
 if b.length<2 then(⟨0,[]⟩,0,3)
 else if b.length<2+3*(b.getD 1 0).toNat then(⟨0,[]⟩,0,3)
 else if dF ⟨(b.getD 0 0).toNat,mU b (b.getD 1 0).toNat⟩ then(⟨(b.getD 0 0).toNat,mU b (b.getD 1 0).toNat⟩,2+3*(b.getD 1 0).toNat,0)
 else(⟨0,[]⟩,0,2)
def Ov {b:List UInt8}:(mU b k).length=k:=by simp[mU]
def aJF {b:List UInt8}:mU b (k+1)=mU b k++[(de ((b.drop (2+3*k)).take 2),(b.getD (4+3*k) 0).toNat)]:=by simp[mU,B4]
def acZ (r:Lb×Nat×Nat):AV:= .aE [.agg (r.1.c .au), .int .i64 r.2.1, .int .i64 r.2.2]
def aGp (ok:aA P tb) {b:List UInt8} {t:aL} (hb:b.length<2^20):al P 209 [.vs (BS b) t] h (acZ (wz b)) h:=by
 refine ok.df (rf:=agz) rfl (bT rfl) (by simp only[acZ,Lb.c,AV.bD,AV.cG,aB.jD];rfl) ?_
 simp+decide only[sv,agz,aqj]
 by_cases h1:b.length<2
 ·have br:(b.length:Int)<2:=by omega
  have e:wz b=(⟨0,[]⟩,0,3):=by simp[wz,h1]
  refine ry 0 rfl rfl (fun _ _ _=>False) (fun l' ρ h hk=>hk) ?_ (fun _ _ _ h=>h.elim)
  simp+decide only[sv,Z8,aqi,pE,List.foldr,br,aY,aV]
  rw[e]
  refine⟨rfl,fun x hx=>?_⟩
  grind
 have br: ¬(b.length:Int)<2:=by omega
 have UR:(BS b)[Int.toNat 0]? =some [.int .u8 (b.getD 0 0).toNat]:=by
  rw[show Int.toNat 0=0 by rfl,QI,bn (show 0<b.length by omega),mr,bn (show 0<b.length by omega)];rfl
 have du:(BS b)[Int.toNat 1]? =some [.int .u8 (b.getD 1 0).toNat]:=by
  rw[show Int.toNat 1=1 by rfl,QI,bn (show 1<b.length by omega),mr,bn (show 1<b.length by omega)];rfl
 have hd:=(b.getD 0 0).toNat_lt
 have hk:=(b.getD 1 0).toNat_lt
 generalize hD:(b.getD 0 0).toNat=D at*
 generalize hK:(b.getD 1 0).toNat=K at*
 have w1:IntKind.wrap .i64 (K:Int)=K:=x8 (by omega)
 have aTp:(BS b)[0]? =some [.int .u8 D]:=UR
 let J:Nat->Env->aa->Prop:=fun m ρ H=> ∃i v,K=i+m/\2+3*i<=b.length/\ρ 0= .vs (BS b) t/\ρ 2= .ptr h.next 0/\ρ 3= .int .i64 ((2+3*i:Nat):Int)/\ρ 5= .int .i64 m/\h.next<H.next/\H.get h.next=some (.cells [.int .u8 D,v])/\App ⟨h.get,h.next+1⟩ H v (aB.R (mU b i))/\ ∀x,x<h.next->H.get x=h.get x
 refine ry 0 rfl rfl J (fun l' ρ h hk=>hk) ?_ ?_
 ·simp+decide only[sv,Z8,aqh,aqg,pE,List.foldr,br,aY,aTp,du,w1]
  refine⟨K,0, .vs [] .full,by omega,by omega,rfl,rfl,rfl,rfl,by simp[aa.at,aa.set],by simp[aa.set],⟨_,rfl, .inl rfl⟩,fun x hx=>?_⟩
  simp[aa.at,aa.set,show¬x=h.next by omega]
 rintro m ρ H ⟨i,v,hKi,hle,r0,r2,r3,r5,hn,hc,ha,hold⟩
 have g2:=aq hc
 cases m with
 |zero=>
  have aTz:K=i:=by omega
  subst aTz
  obtain⟨tt,rfl,_⟩:=ha
  have bO:(⟨D,mU b K⟩:Lb).ok:=by
   refine⟨hd,fun p hp=>?_,by rw[Ov];omega⟩
   simp only[mU,List.mem_map] at hp
   obtain⟨j,_,rfl⟩:=hp
   refine⟨?_,(b.getD (4+3*j) 0).toNat_lt⟩
   have h1:=Ce ((b.drop (2+3*j)).take 2)
   grind
  simp+decide only[sv,PE,alu,r2,r5,g2]
  refine ao (Wq (l:=⟨D,mU b K⟩) (t:=tt) ok bO) ?_
  cases hm:dF ⟨D,mU b K⟩ with
  |false=>
   simp+decide only[sv,als,r2,g2,aV]
   have e:wz b=(⟨0,[]⟩,0,2):=by simp only[wz,hD,hK];grind
   rw[e]
   exact⟨rfl,fun x hx=>by grind⟩
  |true=>
   simp+decide only[sv,alr,r2,r3,g2,aV]
   have e:wz b=(⟨D,mU b K⟩,2+3*K,0):=by simp only[wz,hD,hK];grind
   rw[e]
   exact⟨by simp only[AV.strip,AV.a8,aB.dJ];rfl,fun x hx=>by grind⟩
 |succ m=>
  have MK:(0:Int)<((m+1:Nat):Int):=by omega
  have w2:IntKind.wrap .i64 ((b.length:Int)-((2+3*i:Nat):Int))=((b.length-(2+3*i):Nat):Int):=by rw[bj]<;>omega
  by_cases hs:b.length-(2+3*i)<3
  ·have gu:((b.length-(2+3*i):Nat):Int)<3:=by omega
   simp+decide only[sv,PE,Z5,aqf,r0,r2,r3,r5,MK,aY,w2,gu,g2,aV]
   have e:wz b=(⟨0,[]⟩,0,3):=by simp only[wz,hD,hK];grind
   rw[e]
   exact⟨rfl,fun x hx=>by grind⟩
  have gu: ¬((b.length-(2+3*i):Nat):Int)<3:=by omega
  have k1:2+3*i<=b.length:=hle
  have k2:bQ 1 (BS b)=true:=iM
  have k3:(BS b).drop (2+3*i)=BS (b.drop (2+3*i)):=vw
  have k4:List.take (b.length-(2+3*i)) (BS (b.drop (2+3*i)))=BS (b.drop (2+3*i)):=bX (by rw[aY,oI];omega)
  have ht:=E5 ok (b:=b.drop (2+3*i)) (t:=vg t b.length (2+3*i) b.length) (n:=2) (h:=H) (by omega) (by grind)
  rw[aj (by grind)] at ht
  simp+decide only[sv,PE,Z5,aqe,r0,r3,r5,MK,aY,w2,gu,k1,k2,k3,k4]
  refine ao ht ?_
  generalize hV:de ((b.drop (2+3*i)).take 2)=V
  have hV2:V<65536:=by
   have h1:=Ce ((b.drop (2+3*i)).take 2)
   grind
  have w3:IntKind.wrap .u16 (V:Int)=V:=by simp[IntKind.wrap,IntKind.signed,IntKind.bits];omega
  have w4:IntKind.wrap .i64 (((2+3*i:Nat):Int)+3)=((2+3*(i+1):Nat):Int):=by rw[bj]<;>omega
  have w5:IntKind.wrap .i64 (((2+3*(i+1):Nat):Int)-1)=((4+3*i:Nat):Int):=by rw[bj]<;>omega
  have w6:IntKind.wrap .i64 (((m+1:Nat):Int)-1)=(m:Int):=by rw[bj]<;>omega
  have h4:4+3*i<b.length:=by omega
  have hg4:(BS b)[4+3*i]? =some [.int .u8 (b.getD (4+3*i) 0).toNat]:=by
   rw[QI,bn h4,mr,bn h4];rfl
  have MH:(0:Int)<=((4+3*i:Nat):Int):=by omega
  have hxn:h.next<H.next:=hn
  have qt:App ⟨h.get,h.next+1⟩ (H.clean 15) v (aB.R (mU b i)):=ha.to (by simp[aa.clean]) (fun k _ q2 q3=>by simp[aa.clean,q2,q3])
  obtain⟨v',h2,a1,⟨tt,rfl,at2⟩,a3,a4,a5⟩:=App.qT (h0:=⟨(H.clean 15).get,h.next+1⟩) qt ⟨by simp[aa.clean];omega,fun _ _=>rfl⟩ (bytes:=4) (sz:=2) (base:=H.next) (n:=15) (i:=12) (by grind) (fun j hj=> .inl (by simp only[aa.clean];grind)) [[.int .u16 V, .int .u8 (b.getD (4+3*i) 0).toNat]] aB.fl (by rw[aB.aD,Ov];grind) (by rw[aB.aD,Ov];grind)
  have a1':qc 4 2 (H.next+(1+1+1+1+1+1+1+1+1+1+1+1)) (H.clean 15) v (some [[.int .u16 V, .int .u8 (b.getD (4+3*i) 0).toNat]])=some (.vs (aB.R (mU b i)++[[.int .u16 V, .int .u8 (b.getD (4+3*i) 0).toNat]]) tt,h2):=a1
  have cI:cellsOf h2 h.next=some [.int .u8 D,v]:=aq (by rw[a3.get _ (by simp)];simp[aa.clean,hxn,hc])
  simp+decide only[sv]
  refine bq 15 rfl rfl ?_
  simp+decide only[sv,aqd,r0,r2,r3,g2,hxn,w3,w4,w5,hg4,MH,a1',cI]
  refine⟨a5,fun j hj _=>by omega,?_⟩
  simp+decide only[sv,alw,alv,r3,r5,w4,w6]
  have En:aB.R (mU b i)++[[.int .u16 V, .int .u8 (b.getD (4+3*i) 0).toNat]]=aB.R (mU b (i+1)):=by rw[aJF,hV,<-aB.kX];rfl
  rw[En]
  refine⟨m,by omega,i+1, .vs (aB.R (mU b (i+1))) tt,by omega,by omega,r0,r2,rfl,rfl,by simp only[aa.set,aa.clean] at a4 ⊢;omega,by simp[aa.set],?_,fun x hx=>?_⟩
  ·refine App.to (h:=h2) ⟨tt,rfl,at2⟩ (by simp[aa.set]) (fun k q1 q2 q3=>?_)
   have: ¬k=h.next:=by grind
   simp[aa.set,this,q3]
  ·simp only[aa.set]
   rw[aj (by omega),a3.get x (show x<h.next+1 by omega)]
   simp only[aa.clean]
   grind
def DJ {α:Type} (q:α->Bool) (l:List α):Int:=if l.findIdx q<l.length then(l.findIdx q:Int) else -1
def eU:Nat->Nat->Option (List Nat)
 |0,id=>if id=1 then some [] else none
 |k+1,id=>if id=1 then some [] else if 1<id/\0<id%64 then(eU k (id/64)).map (id%64:: ·) else none
def eT (id:Nat):Option (List Nat):=eU 6 id
def cP (id:Nat):Bool:=(eT id).isSome
def zW (id:Nat):AV:=match eT id with
 |some l=> .aE [.vs ((ay .i64).R l) .au, .bool true]
 |none=> .aE [.vs [] .au, .bool false]
def IH:eU k 1=some []:=by cases k<;>simp[eU]
theorem tT: ∀{k id:Nat} {l:List Nat},eU k id=some l->l.length<=k
 |0,id,l,h=>by
  simp only[eU] at h
  grind
 |k+1,id,l,h=>by
  simp only[eU] at h
  split at h
  ·cases h;simp
  ·split at h
   ·obtain⟨m,hm,rfl⟩:=Option.map_eq_some_iff.1 h
    have:=tT hm
    simp;omega
   ·cases h
def Nj (ok:aA P tb) {id:Nat} (aM:id<2^64):al P 170 [.int .u64 id] h (zW id) h:=by
 refine ok.df (rf:=agV) rfl (bT rfl) (by unfold zW;split<;>simp only[AV.bD,AV.cG,(ay .i64).jD]<;>rfl) ?_
 simp+decide only[sv,agV,ar1]
 let J:Nat->Env->aa->Prop:=fun m ρ H=>Old h H/\ ∃i pre:_,i<2^64/\List.length pre+m=6/\eT id=(eU m i).map (pre++ ·)/\ρ 0= .int .u64 i/\App h H (ρ 4) ((ay .i64).R pre)
 refine ry 0 rfl rfl J (fun l' ρ h hk=>hk) ?_ ?_
 ·simp+decide only[sv,ar0,pE,List.foldr]
  exact⟨6,Old.refl h,id,[],aM,rfl,by simp[eT],rfl,App.nil h h⟩
 rintro m ρ H ⟨ho,i,pre,hi,hpm,jZ,r0,ha⟩
 obtain⟨tt,hv4,ht⟩:=ha
 by_cases h1:i=1
 ·subst h1
  have br:((1:Nat):Int)=1:=rfl
  simp+decide only[sv,Gd,arZ,r0,br,hv4,aV]
  rw[IH] at jZ
  refine⟨?_,ho.get⟩
  simp only[zW,jZ,iB,fE,AV.strip,AV.a8,(ay .i64).dJ]
 have br: ¬(i:Int)=1:=by omega
 have w1:uq .and .u64 (i:Int) 63=some ((i%64:Nat):Int):=by
  rw[show(63:Int)=((63:Nat):Int) by rfl,aMk hi (by omega)]
  rw[show(63:Nat)=2^6-1 by rfl,Nat.and_two_pow_sub_one_eq_mod]
 have w2:IntKind.wrap .i64 ((i%64:Nat):Int)=((i%64:Nat):Int):=x8 (by omega)
 have w3:(i:Int).fdiv (2^min (Int.toNat 6) IntKind.u64.bits)=((i/64:Nat):Int):=by
  rw[show(2:Int)^min (Int.toNat 6) IntKind.u64.bits=64 by rfl,Int.fdiv_eq_ediv_of_nonneg _ (by omega)];rfl
 have h6: ¬(6:Int)<0:=by omega
 by_cases hg:1<i/\0<i%64/\0<m
 ·obtain⟨g1,g2,g3⟩:=hg
  obtain⟨m,rfl⟩: ∃k,m=k+1:=⟨m-1,by omega⟩
  have H6:(1:Int)<(i:Int):=by omega
  have MY:(0:Int)<((i%64:Nat):Int):=by omega
  have g3':(pre.length:Int)<6:=by omega
  obtain⟨v',h2,a1,a2,a3,a4,a5,a6⟩:=App.app (h0:=h) (rows:=(ay .i64).R pre) ⟨tt,rfl,ht⟩ ho (bytes:=8) (sz:=1) (id:=H.next) ho.next [[.int .i64 (i%64:Nat)]] (ay .i64).fl (by rw[(ay .i64).aD];grind) (by rw[(ay .i64).aD];grind)
  simp+decide only[sv,Gd,JE,JD,arY,r0,br,w1,w2,w3,hv4,(ay .i64).aD,H6,MY,g3',a1]
  refine⟨m,by omega,a3,i/64,pre++[i%64],by omega,by simp;omega,?_,rfl,by rw[<-(ay .i64).kX];exact a2⟩
  rw[jZ,eU,aj h1,ax ⟨g1,g2⟩,Option.map_map]
  congr 1
  funext l
  simp
 ·have e:eT id=none:=by
   rw[jZ]
   cases m with
   |zero=>simp[eU,h1]
   |succ m=>rw[eU,aj h1,aj (by omega)];rfl
  have eA:zW id= .aE [.vs [] .au, .bool false]:=by simp only[zW,e]
  rw[eA]
  by_cases g1:1<i
  ·have H6:(1:Int)<(i:Int):=by omega
   by_cases g2:0<i%64
   ·have MY:(0:Int)<((i%64:Nat):Int):=by omega
    have g3': ¬(pre.length:Int)<6:=by omega
    simp+decide only[sv,Gd,JE,JD,Qd,r0,br,w1,w2,hv4,(ay .i64).aD,H6,MY,g3',aV]
    exact⟨rfl,ho.get⟩
   ·have MY: ¬(0:Int)<((i%64:Nat):Int):=by omega
    simp+decide only[sv,Gd,JE,JD,Qd,r0,br,w1,w2,H6,MY,aV]
    exact⟨rfl,ho.get⟩
  ·have H6: ¬(1:Int)<(i:Int):=by omega
   simp+decide only[sv,Gd,JE,JD,Qd,r0,br,w1,w2,H6,aV]
   exact⟨rfl,ho.get⟩
theorem ND (ok:aA P tb) {id:Nat} (aM:id<2^64):al P 134 [.int .u64 id] h (.bool (cP id)) h:=by
 refine ok.bA T7 ?_
 have hc:=Nj ok (h:=h) aM
 unfold zW at hc
 unfold cP
 cases hn:eT id with
 |none=>
  rw[hn] at hc
  simp+decide only[sv,T7,abM,abL,JK]
  refine ao hc ?_
  simp+decide only[sv,JK]
  rfl
 |some l=>
  rw[hn] at hc
  simp+decide only[sv,T7,abM,abL,JK]
  refine ao hc ?_
  simp+decide only[sv,JK]
  rfl
def iT (id:Nat):Nat:=((eT id).getD []).length
def cR (id:Nat):Nat:=if iT id=0 then 0 else id/64
def aFg (ok:aA P tb) {id:Nat} (aM:id<2^64):al P 191 [.int .u64 id] h (.int .u64 (cR id)) h:=by
 refine ok.bA TT ?_
 have hc:=Nj ok (h:=h) aM
 unfold zW at hc
 unfold cR iT
 have w3:(id:Int).fdiv (2^min (Int.toNat 6) IntKind.u64.bits)=((id/64:Nat):Int):=by
  rw[show(2:Int)^min (Int.toNat 6) IntKind.u64.bits=64 by rfl,Int.fdiv_eq_ediv_of_nonneg _ (by omega)];rfl
 have h6: ¬(6:Int)<0:=by omega
 cases hn:eT id with
 |none=>
  rw[hn] at hc
  simp+decide only[sv,TT,aap,aao,aan,aam,PN]
  refine ao hc ?_
  simp+decide only[sv,PN]
 |some l=>
  rw[hn] at hc
  simp+decide only[sv,TT,aap,aao,aan,aam,PN]
  refine ao hc ?_
  by_cases hl:l.length=0
  ·have dG:(l.length:Int)=0:=by omega
   simp+decide only[sv,(ay .i64).aD,hl,iQ]
  ·have dG: ¬(l.length:Int)=0:=by omega
   simp+decide only[sv,(ay .i64).aD,dG,hl,iQ,w3]
def aFz (ok:aA P tb) {id:Nat} (aM:id<2^64):al P 226 [.int .u64 id] h (.int .i64 (iT id)) h:=by
 refine ok.bA TK ?_
 have hc:=Nj ok (h:=h) aM
 unfold zW at hc
 unfold iT
 cases hn:eT id with
 |none=>
  rw[hn] at hc
  simp+decide only[sv,TK,Zm,Zl,Pq]
  refine ao hc ?_
  simp+decide only[sv,Pq]
  rfl
 |some l=>
  rw[hn] at hc
  simp+decide only[sv,TK,Zm,Zl,Pq]
  refine ao hc ?_
  simp+decide only[sv,(ay .i64).aD,iQ]
def iW (box:Nat) (n:Int):Nat×Nat:=if cP box=false\/n<1\/63<n then(0,1) else if iT box=6 then(0,13) else(box*64+n.toNat,0)
theorem OB: ∀{k id:Nat} {l:List Nat},eU k id=some l->id<2^(1+6*l.length)
 |0,id,l,h=>by
  simp only[eU] at h
  grind
 |k+1,id,l,h=>by
  simp only[eU] at h
  split at h
  ·grind
  ·split at h
   ·obtain⟨m,hm,rfl⟩:=Option.map_eq_some_iff.1 h
    have:=OB hm
    rw[cQ,show 1+6*(m.length+1)=(1+6*m.length)+6 by omega,Nat.pow_add]
    omega
   ·cases h
def aID (ok:aA P tb) {box:Nat} (hb:box<2^64):al P 184 [.int .u64 box, .int .i64 n] h (.aE [.int .u64 (iW box n).1, .int .i64 (iW box n).2]) h:=by
 refine ok.bA agI ?_
 simp+decide only[sv,agI,aqY,aqX]
 refine ao (ND ok hb) ?_
 unfold iW
 cases hm:cP box with
 |false=>
  simp+decide only[sv,P0]
  simp
 |true=>
  by_cases h1:n<1
  ·simp+decide only[sv,P0,h1]
   simp
  by_cases h2:63<n
  ·simp+decide only[sv,P0,h1,h2]
  simp+decide only[sv,aqW,h1,h2]
  refine ao (aFz ok hb) ?_
  by_cases h3:iT box=6
  ·have mC:(iT box:Int)=6:=by omega
   simp+decide only[sv,aqV,h3,h2]
   simp
  ·have mC: ¬(iT box:Int)=6:=by omega
   obtain⟨l,hl⟩: ∃l,eT box=some l:=Option.isSome_iff_exists.1 hm
   have aS:=OB hl
   have hlen:=tT hl
   have hd:iT box=l.length:=by simp[iT,hl]
   have lZ:box<2^31:=bJ aS (DA (by omega) (by omega))
   obtain⟨k,rfl⟩: ∃k:Nat,n=k:=⟨n.toNat,by omega⟩
   have w1:IntKind.wrap .u64 ((box:Int)*2^min (Int.toNat 6) IntKind.u64.bits)=((box*64:Nat):Int):=by
    rw[show(2:Int)^min (Int.toNat 6) IntKind.u64.bits=64 by rfl,show(box:Int)*64=((box*64:Nat):Int) by omega]
    exact eo (by omega)
   have w2:IntKind.wrap .u64 (k:Int)=k:=eo (by omega)
   have w3:uq .or .u64 ((box*64:Nat):Int) (k:Int)=some ((box*64+k:Nat):Int):=by
    rw[Xq (by omega) (by omega)]
    have:=Nat.shiftLeft_add_eq_or_of_lt (i:=6) (b:=k) (by omega) box
    rw[Nat.shiftLeft_eq] at this
    grind
   have h6: ¬(6:Int)<0:=by omega
   simp+decide only[sv,aqU,mC,h3,w1,w2,w3]
def bu (id:Nat):List Nat:=match eT id with
 |some l=>(List.range (l.length+1)).map fun j=>id/64^(l.length-j)
 |none=>[]
theorem Bv: ∀{k id:Nat} {l:List Nat},eU k id=some l->id/64^l.length=1/\ ∀i (hi:i<l.length),l[i]=id/64^i%64
 |0,id,l,h=>by
  simp only[eU] at h
  grind
 |k+1,id,l,h=>by
  simp only[eU] at h
  split at h
  ·grind
  ·split at h
   ·obtain⟨m,hm,rfl⟩:=Option.map_eq_some_iff.1 h
    obtain⟨e1,e2⟩:=Bv hm
    refine⟨by rw[cQ,Nat.pow_succ,Nat.mul_comm,<-J5,e1],fun i hi=>?_⟩
    cases i with
    |zero=>simp
    |succ i=>rw[List.getElem_cons_succ,e2 i (by simpa using hi),Nat.pow_succ,Nat.mul_comm,<-J5]
   ·cases h
def aij (ok:aA P tb) {id:Nat} (aM:id<2^64):al P 230 [.int .u64 id] h (.vs ((ay .u64).R (bu id)) .au) h:=by
 refine ok.df (rf:=TJ) rfl (bT rfl) (ay .u64).i7 ?_
 have hc:=Nj ok (h:=h) aM
 unfold zW at hc
 unfold bu
 cases hn:eT id with
 |none=>
  rw[hn] at hc
  simp+decide only[sv,TJ,Zk,Zj]
  refine ao hc ?_
  simp+decide only[sv,Zi,apk,aV]
  rfl
 |some l=>
  rw[hn] at hc
  obtain⟨eg,qp⟩:=Bv hn
  have hlen:=tT hn
  simp+decide only[sv,TJ,Zk,Zj]
  refine ao hc ?_
  have w1:IntKind.wrap .i64 ((l.length:Int)-1)=(l.length:Int)-1:=bj (by omega) (by omega)
  simp+decide only[sv,Zi,apj,aph,(ay .i64).aD,w1]
  let I:Nat->Env->aa->Prop:=fun m ρ H=>Old h H/\m<=l.length/\ρ 3= .vs ((ay .i64).R l) .au/\ρ 6= .int .i64 ((m:Int)-1)/\App h H (ρ 5) ((ay .u64).R ((List.range (l.length-m+1)).map fun j=>id/64^(l.length-j)))
  have h0:(ay .u64).R ((List.range (l.length-l.length+1)).map fun j=>id/64^(l.length-j))=[[.int .u64 1]]:=by rw[Nat.sub_self];simp[eg,ay,aF.R]
  refine dv I ?_ l.length ⟨Old.refl h,ak _,rfl,rfl,⟨.full,by rw[h0];rfl, .inl rfl⟩⟩
  clear h0
  rintro m ρ H ⟨ho,hm,r3,r6,ha⟩
  obtain⟨tt,hv5,ht⟩:=ha
  have jL:((List.range (l.length-m+1)).map fun j=>id/64^(l.length-j)).length=l.length-m+1:=by simp
  cases m with
  |zero=>
   have h0: ¬(0:Int)<=((0:Nat):Int)-1:=by omega
   simp+decide only[sv,Zh,ape,r6,hv5,aV]
   exact⟨(ay .u64).iy,ho.get⟩
  |succ k=>
   have h0:(0:Int)<=((k+1:Nat):Int)-1:=by omega
   have hk:k<l.length:=by omega
   have ph:((k+1:Nat):Int)-1=(k:Int):=by omega
   have od:(0:Int)<=(k:Int):=by omega
   have w2:IntKind.wrap .i64 (((l.length-(k+1)+1:Nat):Int)-1)=((l.length-(k+1):Nat):Int):=by rw[bj]<;>omega
   have hp0:(0:Int)<=((l.length-(k+1):Nat):Int):=by omega
   have du:((ay .u64).R ((List.range (l.length-(k+1)+1)).map fun j=>id/64^(l.length-j)))[l.length-(k+1)]? =some [.int .u64 (id/64^(k+1):Nat)]:=by
    rw[(ay .u64).aDU,Dz,List.getElem?_range (by omega)]
    simp only[iB,ay]
    grind
   have HX:((ay .i64).R l)[k]? =some [.int .i64 l[k]]:=(ay .i64).cj hk
   have AU:=qp k hk
   generalize hq:id/64^k=q at AU
   have hq1:id/64^(k+1)=q/64:=by rw[Nat.pow_succ,<-J5,hq]
   have yI:q<2^64:=by rw[<-hq];exact J0 (Nat.div_le_self ..) aM
   rw[hq1] at du
   rw[AU] at HX
   have w3:IntKind.wrap .u64 (((q/64:Nat):Int)*2^min (Int.toNat 6) IntKind.u64.bits)=((q/64*64:Nat):Int):=by
    rw[show(2:Int)^min (Int.toNat 6) IntKind.u64.bits=64 by rfl,show((q/64:Nat):Int)*64=((q/64*64:Nat):Int) by omega]
    exact eo (by omega)
   have w4:IntKind.wrap .u64 ((q%64:Nat):Int)=((q%64:Nat):Int):=eo (by omega)
   have w5:uq .or .u64 ((q/64*64:Nat):Int) ((q%64:Nat):Int)=some (q:Int):=by
    rw[Xq (by omega) (by omega)]
    have:=Nat.shiftLeft_add_eq_or_of_lt (i:=6) (b:=q%64) (by omega) (q/64)
    rw[Nat.shiftLeft_eq] at this
    grind
   have h6: ¬(6:Int)<0:=by omega
   have qt:App h (H.clean 17) (.vs ((ay .u64).R ((List.range (l.length-(k+1)+1)).map fun j=>id/64^(l.length-j))) tt) ((ay .u64).R ((List.range (l.length-(k+1)+1)).map fun j=>id/64^(l.length-j))):=App.to (h:=H) ⟨tt,rfl,ht⟩ (by simp[aa.clean]) (fun k _ q2 q3=>by simp[aa.clean,q2,q3])
   obtain⟨v',h2,a1,a2,a3,a4,a5⟩:=qt.qT ho.clean (bytes:=8) (sz:=1) (base:=H.next) (n:=17) (i:=15) ho.next (fun j hj=> .inl (by simp only[aa.clean];grind)) [[.int .u64 q]] (ay .u64).fl (by rw[(ay .u64).aD,jL];grind) (by rw[(ay .u64).aD,jL];grind)
   simp+decide only[sv,Zh,r6,h0]
   refine bq 17 rfl rfl ?_
   simp+decide only[sv,apg,r3,r6,hv5,ph,od,(ay .u64).aD,jL,w2,hp0,du,HX,w3,w4,w5]
   refine⟨v',h2,a1,a5,?_⟩
   have w6:IntKind.wrap .i64 ((k:Int)-1)=(k:Int)-1:=bj (by omega) (by omega)
   simp+decide only[sv,apf,r6,ph,w6]
   refine⟨k,by omega,a3,by omega,r3,rfl,?_⟩
   have hr:(ay .u64).R ((List.range (l.length-k+1)).map fun j=>id/64^(l.length-j))=(ay .u64).R ((List.range (l.length-(k+1)+1)).map fun j=>id/64^(l.length-j))++[[.int .u64 q]]:=by
    rw[show l.length-k+1=(l.length-(k+1)+1)+1 by omega,B4,jz,<-(ay .u64).kX]
    congr 1
    simp only[eG,sQ,(ay .u64).aOX]
    rw[show l.length-(l.length-(k+1)+1)=k by omega,hq]
    rfl
   rw[hr]
   exact a2
theorem aFJ (ok:aA P tb) {t:aL} {c:Nat} (hl:l.length<2^30):al P 251 [.vs ((ay .u64).R l) t, .int .u64 c] h (.int .i64 (DJ (fun x=>x==c) l)) h:=by
 refine ok.gO agc ?_
 simp+decide only[sv,agc,aoI,aoH,(ay .u64).aD]
 let I:Nat->Env->aa->Prop:=fun n ρ h'=>h'=h/\ ∃i:Nat,l.length=i+n/\(∀j,j<i-> ∀hj:j<l.length,¬l[j]=c)/\ρ 0= .vs ((ay .u64).R l) t/\ρ 1= .int .u64 c/\ρ 7= .int .i64 l.length/\ρ 8= .int .i64 i
 refine dv I ?_ l.length ⟨rfl,0,by omega,by omega,rfl,rfl,rfl,rfl⟩
 rintro n ρ h' ⟨rfl,i,aN,hf,r0,r1,r7,r8⟩
 by_cases hi:i<l.length
 ·have av:(i:Int)<(l.length:Int):=by omega
  have aK:(0:Int)<=i:=by omega
  have hw:=dj (show i<2^61 by omega)
  have du:((ay .u64).R l)[i]? =some [.int .u64 l[i]]:=(ay .u64).cj hi
  by_cases hq:l[i]=c
  ·have js:(c:Int)=(l[i]:Int):=by omega
   have e:DJ (fun x=>x==c) l=i:=by
    have:l.findIdx (fun x=>x==c)=i:=by
     grind
    simp[DJ,this,hi]
   simp+decide only[sv,Pk,YL,YK,aoG,r0,r1,r7,r8,av,aK,du,js,e]
  ·have js: ¬c=l[i]:=fun e=>hq e.symm
   simp+decide only[sv,Pk,YL,YK,aoF,r0,r1,r7,r8,av,aK,du,js,hw]
   refine⟨n-1,by omega,rfl,i+1,by omega,fun j hj iu=>?_,r0,r1,r7,rfl⟩
   grind
 ·have av: ¬(i:Int)<(l.length:Int):=by omega
  have e:DJ (fun x=>x==c) l= -1:=by
   have:l.findIdx (fun x=>x==c)=l.length:=by
    grind
   simp[DJ,this]
  simp+decide only[sv,Pk,aoE,r7,r8,av,e]
  try rfl
def iA (id box:Nat):Bool:=(bu id).contains box
def zd {id:Nat}:(bu id).length<=7:=by
 unfold bu
 cases h:eT id with
 |none=>simp
 |some l=>have:=tT h;simp;omega
def aFf (ok:aA P tb) {id box:Nat} (aM:id<2^64):al P 192 [.int .u64 id, .int .u64 box] h (.bool (iA id box)) h:=by
 have hl:=zd (id:=id)
 refine ok.gO agE ?_
 simp+decide only[sv,agE,aqC,PM]
 refine ao (aij ok aM) ?_
 simp+decide only[sv,PM]
 have hc:al P 231 [.vs ((ay .u64).R (bu id)) .au, .int .u64 box] h (.bool (iA id box)) h:=by
  refine ok.gO agm ?_
  simp+decide only[sv,agm,apd,apc]
  refine ao (aFJ ok (by omega)) ?_
  have e:decide ((0:Int)<=DJ (fun x=>x==box) (bu id))=iA id box:=by
   unfold DJ iA
   grind
  simp+decide only[sv,e]
 refine ao hc ?_
 simp+decide only[sv,PM]
structure St where
 s:List Nat
 i:List Nat
 o:List Nat
 deriving DecidableEq
def qV:St:=⟨[],[],[]⟩
def St.c (s:St) (t:Nat->aL):List AV:=[.vs ((ay .u16).R s.s) (t 1), .vs ((ay .u16).R s.i) (t 2), .vs ((ay .u16).R s.o) (t 3)]
structure Ob where
 id:Nat
 kind:Int
 ai:Lb
 aP:Int
 used:Int
 next:Int
 data:List UInt8
 bf:List Nat
 ring:List (List UInt8)
 st:St
 deriving DecidableEq
def bz:Ob:=⟨0,0,⟨0,[]⟩,0,0,0,[],[],[],qV⟩
def Ob.c (o:Ob) (t:Nat->aL):List AV:=[.int .u64 o.id, .int .i64 o.kind, .int .u8 o.ai.d, .vs (aB.R o.ai.ps) (t 0), .vs ((ay .u16).R o.st.s) (t 1), .vs ((ay .u16).R o.st.i) (t 2), .vs ((ay .u16).R o.st.o) (t 3), .int .i64 o.aP, .int .i64 o.used, .int .i64 o.next, .vs (BS o.data) (t 4), .vs ((ay .u16).R o.bf) (t 5), .vs (aR.R o.ring) (t 6)]
def aC:Nat->aL:=fun _=> .au
theorem vj {o:Ob} {t:Nat->aL}:AV.a8 (o.c t)=o.c aC:=by
 simp only[Ob.c,AV.a8,AV.strip,aB.dJ,iz,(ay .u16).dJ,aR.dJ,aC]<;>rfl
theorem sD {o:Ob} {p:Nat->Bool}:AV.cG p (o.c aC)=true:=by
 simp only[Ob.c,AV.cG,AV.bD,aB.jD,vx,(ay .u16).jD,aR.jD,aC]<;>rfl
def Xt {o:Ob} {t:Nat->aL}:(AV.agg (o.c t)).strip= .agg (o.c aC):=by simp only[AV.strip,vj]
def cost (o:Ob):Int:=if o.kind=1 then 1+o.aP else if o.kind=2 then 1+o.data.length else if o.kind=3 then 2 else if o.kind=4 then 8 else 0
def ajh (ok:aA P tb) {t:Nat->aL} (hq: -(2^61)<=o.aP/\o.aP<2^61) (hd:o.data.length<2^30):al P 187 [.agg (o.c t)] h (.int .i64 (cost o)) h:=by
 refine ok.bA D6 ?_
 unfold cost
 have w1:IntKind.wrap .i64 (1+o.aP)=1+o.aP:=bj (by omega) (by omega)
 have w2:IntKind.wrap .i64 (1+(o.data.length:Int))=1+(o.data.length:Int):=bj (by omega) (by omega)
 by_cases h1:o.kind=1
 ·simp+decide only[sv,D6,F9,F8,F7,F6,F5,F4,F3,F1,FZ,FY,Fs,Ob.c,h1,w1]
  grind
 by_cases h2:o.kind=2
 ·simp+decide only[sv,D6,F9,F8,F7,F6,F5,F4,F3,F1,FZ,FY,Fs,Ob.c,h2,aY,w2]
  grind
 by_cases h3:o.kind=3
 ·simp+decide only[sv,D6,F9,F8,F7,F6,F5,F4,F3,F1,FZ,FY,Fs,Ob.c,h3]
  grind
 by_cases h4:o.kind=4
 ·simp+decide only[sv,D6,F9,F8,F7,F6,F5,F4,F3,F1,FZ,FY,Fs,Ob.c,h4]
  grind
 simp+decide only[sv,D6,F9,F8,F7,F6,F5,F4,F3,F1,FZ,FY,Fs,Ob.c,h1,h2,h3,h4]
 grind
def mu (o:Ob) (c:Int):Ob×Nat:=if c<0 then(bz,1) else if o.aP-o.used<c then(bz,10) else({o with used:=o.used+c},0)
def aJv (ok:aA P tb) {t:Nat->aL} {c:Int} (hq: -(2^60)<=o.aP/\o.aP<2^60) (hu: -(2^60)<=o.used/\o.used<2^60) (hc:c<2^60):al P 186 [.agg (o.c t), .int .i64 c] h (.aE [.agg ((mu o c).1.c aC), .int .i64 (mu o c).2]) h:=by
 refine ok.df (rf:=L9) rfl (bT rfl) (by simp only[AV.bD,AV.cG,sD];rfl) ?_
 unfold mu
 have w1:IntKind.wrap .i64 (o.aP-o.used)=o.aP-o.used:=bj (by omega) (by omega)
 by_cases h1:c<0
 ·simp+decide only[sv,L9,PY,PX,PW,PU,PT,PS,PR,Ob.c,h1,aV]
  refine⟨rfl,?_⟩
  grind
 by_cases h2:o.aP-o.used<c
 ·simp+decide only[sv,L9,PY,PX,PW,PU,PT,PS,PR,Ob.c,h1,h2,w1,aV]
  refine⟨rfl,?_⟩
  grind
 have w2:IntKind.wrap .i64 (o.used+c)=o.used+c:=bj (by omega) (by omega)
 simp+decide only[sv,L9,PY,PX,PW,PU,PT,PS,PR,Ob.c,h1,h2,w1,w2,aV]
 refine⟨by simp only[AV.strip,AV.a8,aB.dJ,iz,(ay .u16).dJ,aR.dJ,aC]<;>rfl,?_⟩
 grind
def kY (o:Ob) (c:Int):Ob:=if 0<c then{o with used:=max (o.used-c) 0} else o
def aJr (ok:aA P tb) {t:Nat->aL} {c:Int} (hu: -(2^60)<=o.used/\o.used<2^60) (hc:c<2^60):al P 194 [.agg (o.c t), .int .i64 c] h (.agg ((kY o c).c aC)) h:=by
 refine ok.df (rf:=TQ) rfl (bT rfl) (by simp only[AV.bD,sD]) ?_
 unfold kY
 by_cases h1:0<c
 ·have w1:IntKind.wrap .i64 (o.used-c)=o.used-c:=bj (by omega) (by omega)
  simp+decide only[sv,TQ,aal,aak,aaj,aai,Ob.c,h1,w1,aV]
  refine⟨by simp only[AV.strip,AV.a8,aB.dJ,iz,(ay .u16).dJ,aR.dJ,aC]<;>rfl,?_⟩
  grind
 ·simp+decide only[sv,TQ,aal,aak,aaj,aai,Ob.c,h1,aV]
  refine⟨by simp only[AV.strip,AV.a8,aB.dJ,iz,(ay .u16).dJ,aR.dJ,aC]<;>rfl,?_⟩
  grind
def xA (l:List Nat):Bool:=(List.range (l.length-1)).all fun i=>decide (l.getD i 0<l.getD (i+1) 0)
def aGd (ok:aA P tb) {t:aL} (hl:l.length<2^30):al P 172 [.vs ((ay .u16).R l) t] h (.bool (xA l)) h:=by
 refine ok.bA agT ?_
 simp+decide only[sv,agT,arU]
 let J:Nat->Env->aa->Prop:=fun m ρ H=>Old h H/\ ∃i:Nat,1<=i/\l.length+1-i=m/\(∀j,j+1<i->l.getD j 0<l.getD (j+1) 0)/\ρ 0= .vs ((ay .u16).R l) t/\ρ 3= .int .i64 i
 refine ry 0 rfl rfl J (fun l' ρ h hk=>hk) ?_ ?_
 ·simp+decide only[sv,arT,pE,List.foldr]
  exact⟨l.length,Old.refl h,1,by omega,by omega,fun j hj=>by omega,rfl,rfl⟩
 rintro m ρ H ⟨ho,i,qZ,uT,hf,r0,r3⟩
 by_cases hi:i<l.length
 ·have av: ¬(l.length:Int)<=(i:Int):=by omega
  have w1:IntKind.wrap .i64 ((i:Int)-1)=((i-1:Nat):Int):=by rw[bj]<;>omega
  have hw:=dj (show i<2^61 by omega)
  have p0:(0:Int)<=((i-1:Nat):Int):=by omega
  have p1:(0:Int)<=(i:Int):=by omega
  have g0:((ay .u16).R l)[i-1]? =some [.int .u16 l[i-1]]:=(ay .u16).cj (by omega)
  have g1:((ay .u16).R l)[i]? =some [.int .u16 l[i]]:=(ay .u16).cj hi
  have d0:l.getD (i-1) 0=l[i-1]:=by grind
  have d1:l.getD i 0=l[i]:=by grind
  simp+decide only[sv,aaG,r0,r3,(ay .u16).aD,av]
  refine bq 10 rfl rfl ?_
  by_cases aS:l[i]<=l[i-1]
  ·have e:xA l=false:=by
    unfold xA
    grind
   simp+decide only[sv,aaF,arR,r0,r3,w1,p0,p1,g0,g1,aS,e]
   intro b hb
   have:=ho.next
   rw[ax (by omega),ho.get b hb]
  ·have jK: ¬(l[i]:Int)<=(l[i-1]:Int):=by omega
   simp+decide only[sv,aaF,arQ,r0,r3,w1,p0,p1,g0,g1,aS,hw]
   refine⟨m-1,by omega,ho.clean,i+1,by omega,by omega,fun j hj=>?_,r0,rfl⟩
   grind
 ·have av:(l.length:Int)<=(i:Int):=by omega
  have e:xA l=true:=by
   unfold xA
   grind
  simp+decide only[sv,aaG,arS,r0,r3,(ay .u16).aD,av,e]
  exact ho.get
def lL (l:List Nat):Bool:=decide (l.length<=16)&&xA l
def ajf (ok:aA P tb) {t:aL} (hl:l.length<2^30):al P 136 [.vs ((ay .u16).R l) t] h (.bool (lL l)) h:=by
 refine ok.gO T6 ?_
 unfold lL
 by_cases h1:l.length<=16
 ·have br:(l.length:Int)<=16:=by omega
  simp+decide only[sv,T6,abK,abJ,(ay .u16).aD,br]
  refine ao (aGd ok hl) ?_
  simp+decide only[sv,h1]
  all_goals simp
 ·have br: ¬(l.length:Int)<=16:=by omega
  simp+decide only[sv,T6,abK,abJ,(ay .u16).aD,br,h1]
  grind
def nx (l:List Nat):List UInt8:=be l.length 1++l.flatMap fun c=>be c 2
def aHY (ok:aA P tb) {b:List UInt8} {t:aL} (hc: ∀c∈l,c<65536) (hl:l.length<2^20) (hb:b.length<2^20):al P 91 [.vs (BS b) t, .vs ((ay .u16).R l) t'] h (.vs (BS (b++nx l)) .au) h:=by
 refine ok.df (rf:=c91) rfl (bT rfl) dt.i7 ?_
 have w2:IntKind.wrap .u64 (l.length:Int)=l.length:=eo (by omega)
 simp+decide only[sv,c91,axC,axB,(ay .u16).aD,w2]
 refine ao (sy ok (v:=l.length) (n:=1) (by omega) (by omega) (by omega)) ?_
 simp+decide only[sv,axA]
 let I:Nat->Env->aa->Prop:=fun n ρ H=>H=h/\ ∃i:Nat,l.length=i+n/\ρ 13= .vs ((ay .u16).R l) t'/\ρ 14= .int .i64 l.length/\ρ 15= .int .i64 i/\ρ 5= .vs (BS (b++be l.length 1++(l.take i).flatMap fun c=>be c 2)) .au
 refine dv I ?_ l.length ⟨rfl,0,by omega,rfl,by simp+decide only[sv,(ay .u16).aD],rfl,by simp only[kD,sS,fE];rfl⟩
 rintro n ρ H ⟨rfl,i,aN,fv,jg,fZ,r5⟩
 by_cases hi:i<l.length
 ·have av:(i:Int)<(l.length:Int):=by omega
  have aK:(0:Int)<=i:=by omega
  have hw:=dj (show i<2^61 by omega)
  have du:((ay .u16).R l)[i]? =some [.int .u16 l[i]]:=(ay .u16).cj hi
  have CF:=hc _ (bw hi)
  have w3:IntKind.wrap .u64 (l[i]:Int)=l[i]:=eo (by omega)
  have da:((l.take i).flatMap fun c=>be c 2).length=2*i:=by
   have: ∀(m:List Nat),(m.flatMap fun c=>be c 2).length=2*m.length:=by
    intro m
    induction m with
    |nil=>rfl
    |cons c m ih=>simp only[jR,cw,ih,bG,cQ];omega
   grind
  simp+decide only[sv,adn,axz,axy,fv,jg,fZ,r5,av,aK,du,w3]
  refine ao (sy ok (v:=l[i]) (n:=2) (by omega) (by omega) (by simp only[cw,bG,da];omega)) ?_
  simp+decide only[sv,axx,fZ,hw]
  refine⟨n-1,by omega,rfl,i+1,by omega,fv,jg,rfl,?_⟩
  show AV.vs (BS _) .au=_
  rw[<-lM hi]
  grind
 ·have av: ¬(i:Int)<(l.length:Int):=by omega
  simp+decide only[sv,adn,axw,jg,fZ,r5,av,aV]
  rw[bX (by omega)]
  simp only[nx,eR]
  first|exact dt.iy|exact⟨dt.iy,fun x hx=>rfl⟩
def ah9 (ok:aA P tb) {t:aL} (hl:l.length<2^20) (hb: ∀b∈l,b.length<2^20): ∃v h',al P 234 [.vs (aR.R l) t] h v h'/\App h h' v (aR.R l)/\Old h h':=by
 refine ok.kP agl ?_
 simp+decide only[sv,agl,ao9,ao8,ao7]
 let I:Nat->Env->aa->Prop:=fun n ρ H=>Old h H/\ ∃i:Nat,l.length=i+n/\ρ 6= .vs (aR.R l) t/\ρ 7= .int .i64 l.length/\ρ 8= .int .i64 i/\App h H (ρ 3) (aR.R (l.take i))
 refine dv I ?_ l.length ⟨Old.refl h,0,by omega,rfl,by simp+decide only[sv,aR.aD],rfl,App.nil h h⟩
 rintro n ρ H ⟨ho,i,aN,r6,r7,r8,ha⟩
 by_cases hi:i<l.length
 ·have av:(i:Int)<(l.length:Int):=by omega
  have aK:(0:Int)<=i:=by omega
  have hw:=dj (show i<2^61 by omega)
  have du:(aR.R l)[i]? =some [.vs (BS l[i]) .au]:=aR.cj hi
  have dH:=hb _ (bw hi)
  obtain⟨v',h2,a1,a2,a3,a4,a5,a6⟩:=ha.app ho (bytes:=24) (sz:=1) (id:=H.next) ho.next [[.vs (BS l[i]) .au]] aR.fl (by rw[aR.aD,jQ];grind) (by rw[aR.aD,jQ];grind)
  simp+decide only[sv,YZ,ao6,ao5,r6,r7,r8,av,aK,du]
  refine ao (FJ ok (z:=[.int .u8 0]) (f:=94) rfl (by omega)) ?_
  simp+decide only[sv,ao4,r8,a1,hw]
  refine⟨n-1,by omega,a3,i+1,by omega,r6,r7,rfl,?_⟩
  rw[<-lM hi,<-aR.kX]
  exact a2
 ·have av: ¬(i:Int)<(l.length:Int):=by omega
  simp+decide only[sv,YZ,ao3,r7,r8,av,eK]
  rw[bX (by omega)] at ha
  exact⟨ha,ho⟩
def aGL (ok:aA P tb) {t:aL} (hl:l.length<2^20) (hb: ∀b∈l,b.length<2^20):al P 234 [.vs (aR.R l) t] h (.vs (aR.R l) .au) h:=by
 obtain⟨v,h',h1,⟨tt,rfl,_⟩,ho⟩:=ah9 ok (t:=t) (h:=h) hl hb
 have:=h1.strip
 rw[aR.iy] at this
 exact this.restore (fun x hx=>ho.get x hx) aR.i7
def py (l:List (List UInt8)) (b:List UInt8):List (List UInt8)×Nat:=if 16<b.length then([],12) else if 4<=l.length then([],9) else(l++[b],0)
def aIb (ok:aA P tb) {b:List UInt8} {t:aL} (hl:l.length<2^20) (hb: ∀b∈l,b.length<2^20) (lZ:b.length<2^30):al P 195 [.vs (aR.R l) t, .vs (BS b) t'] h (.aE [.vs (aR.R (py l b).1) .au, .int .i64 (py l b).2]) h:=by
 refine ok.df (rf:=HD) rfl (bT rfl) (by simp only[AV.bD,AV.cG,aR.jD];rfl) ?_
 unfold py
 by_cases h1:16<b.length
 ·have br:(16:Int)<(b.length:Int):=by omega
  simp+decide only[sv,HD,PL,PJ,aah,PI,aag,PH,aY,br,h1,aV]
  first|rfl|exact⟨rfl,fun _ _=>rfl⟩
 have br: ¬(16:Int)<(b.length:Int):=by omega
 by_cases h2:4<=l.length
 ·have cB:(4:Int)<=(l.length:Int):=by omega
  simp+decide only[sv,HD,PL,PJ,aah,PI,aag,PH,aY,aR.aD,br,h1,cB,h2,aV]
  first|rfl|exact⟨rfl,fun _ _=>rfl⟩
 have cB: ¬(4:Int)<=(l.length:Int):=by omega
 obtain⟨v,h',k1,k2,k3⟩:=ah9 ok (t:=t) (h:=h) hl hb
 obtain⟨v',h2b,a1,⟨tt,rfl,at2⟩,a3,a4,a5,a6⟩:=k2.app k3 (bytes:=24) (sz:=1) (id:=h'.next) k3.next [[.vs (BS b) .au]] aR.fl (by rw[aR.aD];grind) (by rw[aR.aD];grind)
 simp+decide only[sv,HD,PL,PJ,PI,PH,aY,aR.aD,br,cB]
 refine ao k1 ?_
 simp+decide only[sv,HD]
 refine ao (FJ ok (z:=[.int .u8 0]) (f:=94) rfl (by omega)) ?_
 simp+decide only[sv,a1,h1,h2,aV]
 refine⟨?_,a3.get⟩
 have e:aR.R l++[[.vs (BS b) .au]]=aR.R (l++[b]):=by rw[<-aR.kX];rfl
 rw[e]
 simp only[AV.strip,AV.a8,aR.dJ]
def aJt (ok:aA P tb) {l:List (List UInt8)} {t:aL} (hl:l.length<2^20) (hb: ∀b∈l,b.length<2^20):al P 196 [.vs (aR.R l) t] h (match l with|[]=> .aE [.vs [] .au, .vs [] .au, .bool false]|b::m=> .aE [.vs (BS b) .au, .vs (aR.R m) .au, .bool true]) h:=by
 refine ok.df (rf:=TP) rfl (bT rfl) (by split<;>simp only[AV.bD,AV.cG,aR.jD,vx]<;>rfl) ?_
 cases l with
 |nil=>
  simp+decide only[sv,TP,aaf,aae,aqz,aad,aR.ye,aV]
  first|rfl|exact⟨rfl,fun _ _=>rfl⟩
 |cons b m=>
  have hz: ¬(((m.length+1:Nat):Int)=0):=by omega
  have hg:(aR.R (b::m))[0]? =some [.vs (BS b) .au]:=rfl
  have k1:bQ 1 (aR.R (b::m))=true:=aR.fl
  have k3:Int.toNat 1<=(aR.R (b::m)).length:=by grind
  have k4:List.take ((aR.R (b::m)).length-Int.toNat 1) (List.drop (Int.toNat 1) (aR.R (b::m)))=aR.R m:=by rw[bX (by simp)];rfl
  have pR:=hb b (pY ..)
  simp+decide only[sv,TP,aaf,aae,aR.aD,hz]
  refine bq 10 rfl rfl ?_
  simp+decide only[sv,aad,hg]
  refine dX (FJ ok (z:=[.int .u8 0]) (f:=94) rfl (by omega)) (ba (ak _)) ?_
  simp+decide only[sv,k1,k3,k4]
  refine dX (aGL ok (by grind) (fun x hx=>hb x (eH _ hx))) (ba (ak _)) ?_
  simp+decide only[sv,aV]
  refine⟨?_,fun x hx=>?_⟩
  ·simp only[AV.strip,AV.a8,aR.dJ,iz]
  grind
def aId (ok:aA P tb) {n:Nat} (h0:0<n) (hn:n<2^30):al P 175 [.cJ, .int .i64 n] h (.rs h.next 0 0 1) (h.at h.next (.cells (List.replicate n [AV.int .u8 0]).flatten)):=by
 refine ok.gO agQ ?_
 have h1: ¬(n:Int)<0:=by omega
 have h2:(0:Int)<(n:Int):=by omega
 have w0:IntKind.wrap .i64 ((0:Int)-0)=0:=rfl
 have w1:IntKind.wrap .i64 ((n:Int)-0)=n:=by rw[bj]<;>omega
 have a1: ∀id,DR 1 [.int .u8 0] id h .cJ (.int .i64 n)=some (.rs id 0 n 1,h.at id (.cells (List.replicate n [AV.int .u8 0]).flatten)):=fun id=>by
  simp only[DR]
  grind
 have s1: ∀ρ:Env,ρ 19= .int .i64 0->m9 ρ 1 .cJ none (some (Am.t 19)) none=some .cJ:=fun ρ hr=>by simp[m9,ei,Am.t,aJ.ev,hr]
 have s2: ∀(ρ:Env) (b:Nat),ρ 24= .int .i64 0->m9 ρ 1 (.rs b 0 n 1) none (some (Am.t 24)) none=some (.rs b 0 0 1):=fun ρ b hr=>by simp[m9,ei,aJ.ev,hr]
 simp+decide only[sv,agQ,arL,arK,arJ,arI,arH,arG,arF,h1,h2,w0,w1,a1,s1,s2]
theorem JU:(BS l).flatten=l.map fun b=>AV.int .u8 b.toNat:=by
 induction l with
 |nil=>rfl
 |cons b l ih=>simp only[BS,eG,mG] at ih ⊢;rw[ih];rfl
theorem ajn: ∀{l:List UInt8},rowsOf (BS l).flatten 0 1 l.length=BS l
 |[]=>rfl
 |b::l=>by
  have ih:=ajn (l:=l)
  have hc:BS (b::l)=[.int .u8 b.toNat]::BS l:=rfl
  rw[hc,mG,cQ,rowsOf]
  rw[show 0+1=([AV.int .u8 b.toNat]).length+0 by rfl,Io (by rw[JU,fp];omega),ih]
  rfl
theorem ah1: ∀{n off m:Nat} {cs:List AV},off+n<=m->rowsOf cs off 1 n=rowsOf (cs.take m) off 1 n
 |0,_,_,_,_=>rfl
 |n+1,off,m,cs,h=>by
  simp only[rowsOf]
  rw[ah1 (n:=n) (off:=off+1) (m:=m) (by omega),List.drop_take,List.take_take,Gu (by omega)]
def aGa:rowsOf cs 0 1 n=rowsOf (cs.take n) 0 1 n:=ah1 (by omega)
def aFZ (ok:aA P tb) {t:aL} (h0:0<l.flatten.length) (hl:l.length<2^20) (hs:l.flatten.length<2^30):al P 138 [.vs (aR.R l) t] h (.vs (BS l.flatten) .au) h:=by
 refine ok.Xy (rf:=ahh) rfl (bT rfl) dt.i7 ?_
 have Cp: ∀i,(l.take i).flatten.length<=l.flatten.length:=fun i=>by
  have:=congrArg List.length (congrArg List.flatten (J3 i l))
  grind
 have ac4: ∀i (hi:i<l.length),(l.take (i+1)).flatten=(l.take i).flatten++l[i]:=fun i hi=>by
  rw[<-lM hi,B7];simp
 simp+decide only[sv,ahh,auF,auE,auD]
 let I:Nat->Env->aa->Prop:=fun n ρ H=>H=h/\ ∃i:Nat,l.length=i+n/\ρ 0= .vs (aR.R l) t/\ρ 9= .vs (aR.R l) t/\ρ 10= .int .i64 l.length/\ρ 11= .int .i64 i/\ρ 3= .int .i64 (l.take i).flatten.length
 refine dv I ?_ l.length ⟨rfl,0,by omega,rfl,rfl,by simp+decide only[sv,aR.aD],rfl,rfl⟩
 rintro n ρ H ⟨rfl,i,aN,r0,r9,bK,gd,r3⟩
 by_cases hi:i<l.length
 ·have av:(i:Int)<(l.length:Int):=by omega
  have aK:(0:Int)<=i:=by omega
  have hw:=dj (show i<2^61 by omega)
  have du:(aR.R l)[i]? =some [.vs (BS l[i]) .au]:=aR.cj hi
  have h1:=Cp (i+1)
  have h2:=congrArg List.length (ac4 i hi)
  rw[cw] at h2
  have w1:IntKind.wrap .i64 (((l.take i).flatten.length:Int)+(l[i].length:Int))=((l.take (i+1)).flatten.length:Int):=by rw[bj]<;>omega
  have w2: ¬((l.take (i+1)).flatten.length:Int)<0:=by omega
  simp+decide only[sv,abG,auC,auB,auA,auz,r3,r9,bK,gd,av,aK,du,aY,w1,w2,hw]
  exact⟨n-1,by omega,rfl,i+1,by omega,r0,r9,bK,rfl,rfl⟩
 have av: ¬(i:Int)<(l.length:Int):=by omega
 rw[bX (by omega)] at r3
 simp+decide only[sv,abG,auy,r3,bK,gd,av]
 refine ao (aId ok h0 hs) ?_
 simp+decide only[sv,ama,r0]
 let I2:Nat->Env->aa->Prop:=fun n ρ X=>(∀x,x<H.next->X.get x=H.get x)/\ ∃i b cs:_,l.length=i+n/\ρ 25= .vs (aR.R l) t/\ρ 26= .int .i64 l.length/\ρ 27= .int .i64 (i:Nat)/\ρ 6= .rs b 0 (l.take i).flatten.length 1/\X.get b=some (.cells cs)/\cs.take (l.take i).flatten.length=(BS (l.take i).flatten).flatten/\H.next<=b/\b<X.next
 refine dv I2 ?_ l.length ⟨fun x hx=>by simp[aa.at,show¬x=H.next by omega],0,H.next,_,by omega,rfl,by simp+decide only[sv,aR.aD],rfl,rfl,by simp[aa.at];rfl,by simp[BS],ak _,by simp[aa.at]⟩
 rintro n ρ X ⟨ho,i,b,cs,aN,Ui,Ax,Ea,r6,hb,ji,gw,dB⟩
 by_cases hi:i<l.length
 ·have av:(i:Int)<(l.length:Int):=by omega
  have aK:(0:Int)<=(i:Int):=by omega
  have hw:=dj (show i<2^61 by omega)
  have du:(aR.R l)[i]? =some [.vs (BS l[i]) .au]:=aR.cj hi
  have cS:ef 1 X (.vs (BS l[i]) .au)=some (BS l[i]):=amn
  have h1:=Cp (i+1)
  have h2:=congrArg List.length (ac4 i hi)
  rw[cw] at h2
  have d9:(l.take i).flatten.length<=cs.length:=by
   have:=congrArg List.length ji
   rw[jQ,JU,fp] at this
   omega
  have hc:=aq hb
  by_cases hz:l[i]=[]
  ·have ha:iS 1 1 X.next X (.rs b 0 (l.take i).flatten.length 1) (some (BS l[i]))=some (.rs b 0 (l.take i).flatten.length 1,X):=by simp[iS,hz,BS]
   have he:(l.take (i+1)).flatten=(l.take i).flatten:=by grind
   simp+decide only[sv,OQ,Xh,Xg,Xf,r6,Ui,Ax,Ea,av,aK,du,cS,ha,hw]
   exact⟨n-1,by omega,ho,i+1,b,cs,by omega,Ui,Ax,rfl,by rw[he];rfl,hb,by grind,gw,dB⟩
  ·have aT:BS l[i]≠[]:=by simp[BS,hz]
   have ha:iS 1 1 X.next X (.rs b 0 (l.take i).flatten.length 1) (some (BS l[i]))=some (.rs X.next 0 ((l.take i).flatten.length+l[i].length) 1,(X.set b none).at X.next (.cells (cs.take (l.take i).flatten.length++(BS l[i]).flatten))):=by
    simp only[iS,hc,me,aY,Nat.mul_one]
    grind
   simp+decide only[sv,OQ,Xh,Xg,Xf,r6,Ui,Ax,Ea,av,aK,du,cS,ha,hw]
   refine⟨n-1,by omega,fun x hx=>?_,i+1,X.next,cs.take (l.take i).flatten.length++(BS l[i]).flatten,by omega,Ui,Ax,rfl,by rw[h2];rfl,by simp only[aa.at,dP],?_,by omega,by simp[aa.at,aa.set]⟩
   ·simp[aa.at,aa.set,show¬x=X.next by omega,show¬x=b by omega,ho x hx]
   ·rw[ji,ac4 i hi,<-JV,B7]
    exact bX (by rw[cw,JU,JU,fp,fp,cw];omega)
 ·have av: ¬(i:Int)<(l.length:Int):=by omega
  have jM:l.take i=l:=bX (by omega)
  rw[jM] at r6 ji
  simp+decide only[sv,OQ,al9,r6,Ax,Ea,av]
  have d9:l.flatten.length<=cs.length:=by
   have:=congrArg List.length ji
   rw[jQ,JU,fp] at this
   omega
  have UB:rowsOf cs 0 1 l.flatten.length=BS l.flatten:=by
   have h1:rowsOf cs 0 1 l.flatten.length=rowsOf (BS l.flatten).flatten 0 1 l.flatten.length:=by
    rw[<-ji]
    exact aGa
   rw[h1,ajn]
  have hfz:AV.gE b cs (.rs b 0 l.flatten.length 1)= .vs (BS l.flatten) .au:=by
   simp only[AV.gE,dP]
   grind
  refine NZ.2 ⟨.rs b 0 l.flatten.length 1,b,cs,by simp+decide only[sv],hb,gw,?_,?_,ho⟩
  ·rw[hfz];exact dt.i7
  ·rw[hfz];exact dt.iy
def cq (s:List UInt8):List UInt8:=be s.length 2++s
def Vw (ok:aA P tb) {b:List UInt8} {t:aL} (hb:b.length<2^28) (hs:s.length<2^28):al P 90 [.vs (BS b) t, .vs (BS s) t'] h (.vs (BS (b++cq s)) .au) h:=by
 refine ok.gO c90 ?_
 have w1:IntKind.wrap .u64 (s.length:Int)=s.length:=eo (by omega)
 have hc:=aFZ ok (l:=[b++be s.length 2,s]) (t:= .au) (h:=h) (by simp[bG];omega) (by simp) (by simp[bG];omega)
 have cI:=hc.Lp (SI:=[.vs [[.vs (BS (b++be s.length 2)) .au],[.vs (BS s) t']] .full]) rfl (fun i x y hx hy=>by
  match i with
  |0=>
   cases hx;cases hy
   refine .inr (.inr (.inr ?_))
   simp only[AV.strip,AV.fU,AV.a8,iz];rfl
  |i+1=>simp at hx)
 simp+decide only[sv,c90,axD,ado,aY,w1]
 refine ao (sy ok (v:=s.length) (n:=2) (by omega) (by omega) (by omega)) ?_
 simp+decide only[sv,ado]
 refine ao cI ?_
 have e:[b++be s.length 2,s].flatten=b++cq s:=by simp[cq]
 simp+decide only[sv,e]
def tW (b:List UInt8):List UInt8×Nat×Nat:=if b.length<2 then([],0,3) else if b.length-2<de (b.take 2) then([],0,3) else((b.drop 2).take (de (b.take 2)),2+de (b.take 2),0)
def Ox (r:List UInt8×Nat×Nat):AV:= .aE [.vs (BS r.1) .au, .int .i64 r.2.1, .int .i64 r.2.2]
def akF {n m:Nat} {t:aL}:(AV.aE [.vs (BS l) t, .int .i64 n, .int .i64 m]).strip= .aE [.vs (BS l) .au, .int .i64 n, .int .i64 m]:=by simp only[AV.strip,AV.a8,iz]
def ahM (ok:aA P tb) {b:List UInt8} {t:aL} (hb:b.length<2^28):al P 211 [.vs (BS b) t] h (Ox (tW b)) h:=by
 refine ok.df (rf:=L8) rfl (bT rfl) (by simp only[Ox,AV.bD,AV.cG,vx];rfl) ?_
 have ht:=E5 ok (b:=b) (t:=t) (n:=2) (h:=h) (by omega) (by omega)
 unfold tW
 by_cases h1:b.length<2
 ·rw[ax h1] at ht
  simp+decide only[sv,L8,PB,PA,Pz,ZW,Py,ZV,Px]
  refine ao ht ?_
  simp+decide only[sv,aV,h1]
  first|rfl|exact⟨rfl,fun _ _=>rfl⟩
 rw[aj h1] at ht
 have hv:=Ce (b.take 2)
 have hle:(b.take 2).length<=2:=uj ..
 have h3:(256:Nat)^(b.take 2).length<=256^2:=DA (by omega) hle
 generalize hV:de (b.take 2)=V at*
 have w1:IntKind.wrap .i64 ((b.length:Int)-2)=((b.length-2:Nat):Int):=by rw[bj]<;>omega
 have w2:IntKind.wrap .i64 (V:Int)=V:=x8 (by omega)
 by_cases h2:b.length-2<V
 ·have cB:((b.length-2:Nat):Int)<(V:Int):=by omega
  simp+decide only[sv,L8,PB,PA,Pz,ZW,Py,ZV,Px]
  refine ao ht ?_
  simp+decide only[sv,aV,aY,h1,h2,cB,w1,w2]
  first|rfl|exact⟨rfl,fun _ _=>rfl⟩
 have cB: ¬((b.length-2:Nat):Int)<(V:Int):=by omega
 have w3:IntKind.wrap .i64 (2+(V:Int))=((2+V:Nat):Int):=by rw[bj]<;>omega
 have k1:Int.toNat 2<=2+V/\2+V<=(BS b).length/\bQ 1 (BS b)=true:=⟨by omega,by rw[aY];omega,iM⟩
 have k2:List.take (2+V-Int.toNat 2) (List.drop (Int.toNat 2) (BS b))=BS ((b.drop 2).take V):=by
  rw[show 2+V-Int.toNat 2=V by omega,<-Fu,<-vw];rfl
 have d9:=FJ ok (z:=[.int .u8 0]) (f:=94) rfl (l:=(b.drop 2).take V) (t:=vg t (BS b).length (Int.toNat 2) (2+V)) (h:=h) (by grind)
 simp+decide only[sv,L8,PB,PA]
 refine ao ht ?_
 simp+decide only[sv,Pz,Py,aY,cB,w1,w2]
 simp+decide only[sv,Px,w2,w3,k1.1,k1.2.1,k1.2.2,k2]
 refine ao d9 ?_
 simp+decide only[sv,w2,w3,aV,h1,h2]
 first|rfl|exact⟨akF,fun _ _=>rfl⟩|exact akF
def mf (l:List (List UInt8)):List UInt8:=be l.length 1++l.flatMap cq
def aG8 (ok:aA P tb) {b:List UInt8} {t:aL} (hs: ∀x∈l,x.length<2^10) (hl:l.length<2^10) (hb:b.length<2^20):al P 92 [.vs (BS b) t, .vs (aR.R l) t'] h (.vs (BS (b++mf l)) .au) h:=by
 refine ok.df (rf:=c92) rfl (bT rfl) dt.i7 ?_
 have w2:IntKind.wrap .u64 (l.length:Int)=l.length:=eo (by omega)
 have da: ∀(m:List (List UInt8)),(∀x∈m,x.length<2^10)->(m.flatMap cq).length<=1026*m.length:=by
  intro m
  induction m with
  |nil=>intro _;simp
  |cons c m ih=>
   intro hm
   have h1:=ih (fun x hx=>hm x (eH _ hx))
   have h2:=hm c (pY ..)
   simp only[jR,cw,cq,bG,cQ] at h1 ⊢;omega
 simp+decide only[sv,c92,axv,axu,aR.aD,w2]
 refine ao (sy ok (v:=l.length) (n:=1) (by omega) (by omega) (by omega)) ?_
 simp+decide only[sv,axt]
 let I:Nat->Env->aa->Prop:=fun n ρ H=>H=h/\ ∃i:Nat,l.length=i+n/\ρ 13= .vs (aR.R l) t'/\ρ 14= .int .i64 l.length/\ρ 15= .int .i64 i/\ρ 5= .vs (BS (b++be l.length 1++(l.take i).flatMap cq)) .au
 refine dv I ?_ l.length ⟨rfl,0,by omega,rfl,by simp+decide only[sv,aR.aD],rfl,by simp only[kD,sS,fE];rfl⟩
 rintro n ρ H ⟨rfl,i,aN,fv,jg,fZ,r5⟩
 by_cases hi:i<l.length
 ·have av:(i:Int)<(l.length:Int):=by omega
  have aK:(0:Int)<=i:=by omega
  have hw:=dj (show i<2^61 by omega)
  have du:(aR.R l)[i]? =some [.vs (BS l[i]) .au]:=aR.cj hi
  have Ep:=hs _ (bw hi)
  have h1:=da (l.take i) (fun x hx=>hs x (uk hx))
  have h2:=uj i l
  simp+decide only[sv,adm,axs,axr,fv,jg,fZ,r5,av,aK,du]
  refine ao (Vw ok (by simp only[cw,bG];omega) (by omega)) ?_
  simp+decide only[sv,axq,fZ,hw]
  refine⟨n-1,by omega,rfl,i+1,by omega,fv,jg,rfl,?_⟩
  show AV.vs (BS _) .au=_
  rw[<-lM hi]
  grind
 ·have av: ¬(i:Int)<(l.length:Int):=by omega
  simp+decide only[sv,adm,axp,jg,fZ,r5,av,aV]
  rw[bX (by omega)]
  simp only[mf,eR]
  first|exact dt.iy|exact⟨dt.iy,fun x hx=>rfl⟩
theorem aMY (ok:aA P tb) {t:aL} (hl:l.length<2^30) (hg:dV P g=true) (hq: ∀p∈l,al P g (.vs (BS p) .au::iG) h (.bool (q p)) h):
 al P 220 [.vs (aR.R l) t, .fn g [] iG] h (.int .i64 (iU q l)) h:=by
 refine ok.gO agt ?_
 simp+decide only[sv,agt,apD,apC,aR.aD]
 let I:Nat->Env->aa->Prop:=fun n ρ h'=>h'=h/\ ∃i:Nat,l.length=i+n/\(∀j,j<i-> ∀hj:j<l.length,q l[j]=false)/\ρ 0= .vs (aR.R l) t/\ρ 1= .fn g [] iG/\ρ 7= .int .i64 l.length/\ρ 8= .int .i64 i
 refine dv I ?_ l.length ⟨rfl,0,by omega,by omega,rfl,rfl,rfl,rfl⟩
 rintro n ρ h' ⟨rfl,i,aN,hf,r0,r1,r7,r8⟩
 by_cases hi:i<l.length
 ·have av:(i:Int)<(l.length:Int):=by omega
  have aK:(0:Int)<=i:=by omega
  have hw:=dj (show i<2^61 by omega)
  have du:(aR.R l)[i]? =some [.vs (BS l[i]) .au]:=aR.cj hi
  simp+decide only[sv,ZB,ZA,Zz,Zy,Zx,Zw,r0,r1,r7,r8,av,aK,du]
  refine vm hg (hq l[i] (bw hi)) ?_
  by_cases wR:q l[i]=true
  ·simp+decide only[sv,wR,C4 hi hf wR]
  ·have Eu:q l[i]=false:=by grind
   simp+decide only[sv,Eu,r8,hw]
   refine⟨n-1,by omega,rfl,i+1,by omega,fun j hj iu=>?_,r0,r1,r7,rfl⟩
   grind
 ·have av: ¬(i:Int)<(l.length:Int):=by omega
  have il:=Fq (q:=q) (l:=l) (fun j _ hj=>hf j (by omega) hj)
  simp+decide only[sv,ZB,ZA,Zz,Zy,Zx,Zw,r7,r8,av,il]
  try rfl
def mN (l:List (List UInt8)):Bool:=decide (l.length<=4)&&!l.any (fun b=>decide (16<b.length))
def aiS (ok:aA P tb) {t:aL} (hl:l.length<2^30):al P 137 [.vs (aR.R l) t] h (.bool (mN l)) h:=by
 refine ok.gO T5 ?_
 unfold mN
 have hc:al P 173 [.vs (aR.R l) t, .fn 174 [] []] h (.bool (l.any (fun b=>decide (16<b.length)))) h:=by
  refine ok.gO agS ?_
  simp+decide only[sv,agS,arP,arO]
  refine ao (aMY ok hl (ok.dV _ rfl) (q:=fun b=>decide (16<b.length)) (fun p hp=>?_)) ?_
  ·refine ok.gO agR ?_
   have e:decide ((16:Int)<(p.length:Int))=decide (16<p.length):=by grind
   simp+decide only[sv,agR,arN,arM,aY,e]
  ·simp+decide only[sv,WG]
 by_cases h1:l.length<=4
 ·have br:(l.length:Int)<=4:=by omega
  simp+decide only[sv,T5,abI,abH,aR.aD,br]
  refine ao hc ?_
  simp+decide only[sv,h1]
  all_goals simp
 ·have br: ¬(l.length:Int)<=4:=by omega
  simp+decide only[sv,T5,abI,abH,aR.aD,br,h1]
  grind
def uJ (b:List UInt8) (k:Nat):List Nat:=(List.range k).map fun i=>de ((b.drop (1+2*i)).take 2)
def Ow {b:List UInt8}:(uJ b k).length=k:=by simp[uJ]
def aJJ {b:List UInt8}:uJ b (k+1)=uJ b k++[de ((b.drop (1+2*k)).take 2)]:=by simp[uJ,B4]
def RB (b:List UInt8):List Nat×Nat×Nat:=
 if b.length<1 then([],0,3) else if b.length<1+2*de (b.take 1) then([],0,3) else if lL (uJ b (de (b.take 1))) then(uJ b (de (b.take 1)),1+2*de (b.take 1),0) else([],0,2)
def Xm (r:List Nat×Nat×Nat):AV:= .aE [.vs ((ay .u16).R r.1) .au, .int .i64 r.2.1, .int .i64 r.2.2]
def aGM (ok:aA P tb) {b:List UInt8} {t:aL} (hb:b.length<2^20):al P 212 [.vs (BS b) t] h (Xm (RB b)) h:=by
 refine ok.df (rf:=L7) rfl (bT rfl) (by simp only[Xm,AV.bD,AV.cG,(ay .u16).jD];rfl) ?_
 have ht:=E5 ok (b:=b) (t:=t) (n:=1) (h:=h) (by omega) (by omega)
 unfold RB
 by_cases h1:b.length<1
 ·rw[ax h1] at ht
  simp+decide only[sv,L7,Pw,Pv]
  refine ao ht ?_
  simp+decide only[sv,Pu,ap5,aV,h1]
  first|rfl|exact⟨rfl,fun _ _=>rfl⟩
 rw[aj h1] at ht
 have hv:=Ce (b.take 1)
 have hle:(b.take 1).length<=1:=uj ..
 have h3:(256:Nat)^(b.take 1).length<=256^1:=DA (by omega) hle
 generalize hV:de (b.take 1)=V at*
 have w1:IntKind.wrap .i64 (V:Int)=V:=x8 (by omega)
 have w2:IntKind.wrap .i64 (2*(V:Int))=((2*V:Nat):Int):=by rw[bj]<;>omega
 have w3:IntKind.wrap .i64 (1+((2*V:Nat):Int))=((1+2*V:Nat):Int):=by rw[bj]<;>omega
 by_cases h2:b.length<1+2*V
 ·have cB:(b.length:Int)<((1+2*V:Nat):Int):=by omega
  simp+decide only[sv,L7,Pw,Pv]
  refine ao ht ?_
  simp+decide only[sv,Pu,ZU,ZT,ap4,aV,aY,h1,h2,cB,w1,w2,w3]
  first|rfl|exact⟨rfl,fun _ _=>rfl⟩
 have cB: ¬(b.length:Int)<((1+2*V:Nat):Int):=by omega
 simp+decide only[sv,L7,Pw,Pv]
 refine ao ht ?_
 simp+decide only[sv,Pu,ZU,ZT,ap3,aY,h1,h2,cB,w1,w2,w3]
 let I:Nat->Env->aa->Prop:=fun n ρ H=>Old h H/\ ∃i:Nat,V=i+n/\ρ 0= .vs (BS b) t/\ρ 3= .int .i64 ((1+2*V:Nat):Int)/\ρ 26= .int .i64 V/\ρ 27= .int .i64 i/\App h H (ρ 2) ((ay .u16).R (uJ b i))
 refine dv I ?_ V ⟨Old.refl h,0,by omega,rfl,rfl,rfl,rfl,App.nil h h⟩
 rintro n ρ H ⟨ho,i,aN,r0,r3,Ax,Ea,ha⟩
 by_cases hi:i<V
 ·have av:(i:Int)<(V:Int):=by omega
  have hw:=dj (show i<2^61 by omega)
  have q1:IntKind.wrap .i64 (2*(i:Int))=((2*i:Nat):Int):=by rw[bj]<;>omega
  have q2:IntKind.wrap .i64 (1+((2*i:Nat):Int))=((1+2*i:Nat):Int):=by rw[bj]<;>omega
  have k1:1+2*i<=b.length:=by omega
  have k2:bQ 1 (BS b)=true:=iM
  have k3:(BS b).drop (1+2*i)=BS (b.drop (1+2*i)):=vw
  have k4:List.take (b.length-(1+2*i)) (BS (b.drop (1+2*i)))=BS (b.drop (1+2*i)):=bX (by rw[aY,oI];omega)
  have UA:=E5 ok (b:=b.drop (1+2*i)) (t:=vg t b.length (1+2*i) b.length) (n:=2) (h:=H) (by omega) (by grind)
  rw[aj (by grind)] at UA
  have En:=aJJ (b:=b) (k:=i)
  have hW2:de ((b.drop (1+2*i)).take 2)<65536:=by
   have h1:=Ce ((b.drop (1+2*i)).take 2)
   grind
  generalize hW:de ((b.drop (1+2*i)).take 2)=W at*
  have q3:IntKind.wrap .u16 (W:Int)=W:=by simp[IntKind.wrap,IntKind.signed,IntKind.bits];omega
  obtain⟨v',h2b,a1,a2,a3,a4,a5,a6⟩:=ha.app ho (bytes:=2) (sz:=1) (id:=H.next) ho.next [[.int .u16 W]] (ay .u16).fl (by rw[(ay .u16).aD,Ow];grind) (by rw[(ay .u16).aD,Ow];grind)
  simp+decide only[sv,ZS,ap2,alq,r0,Ax,Ea,av,q1,q2,aY,k1,k2,k3,k4]
  refine ao UA ?_
  simp+decide only[sv,alp,alo,Ea,q3,a1,hw]
  exact⟨n-1,by omega,a3,i+1,by omega,r0,r3,Ax,rfl,by rw[En,<-(ay .u16).kX];exact a2⟩
 ·have av: ¬(i:Int)<(V:Int):=by omega
  have hiV:i=V:=by omega
  subst hiV
  obtain⟨tt,nR,_⟩:=ha
  have hm:=ajf ok (l:=uJ b i) (t:=tt) (h:=H) (by rw[Ow];omega)
  simp+decide only[sv,ZS,aln,Ax,Ea,av,nR]
  refine ao hm ?_
  cases mA:lL (uJ b i) with
  |false=>
   simp+decide only[sv,alm,aV,h2]
   exact⟨rfl,ho.get⟩
  |true=>
   simp+decide only[sv,alk,aV,nR,r3]
   exact⟨by simp only[AV.strip,AV.a8,(ay .u16).dJ];rfl,ho.get⟩
def yB (b:List UInt8):Nat->Nat->List (List UInt8)->List (List UInt8)×Nat×Nat
 |0,n,acc=>if mN acc then(acc,n,0) else([],0,2)
 |k+1,n,acc=>if(tW (b.drop n)).2.2=0 then yB b k (n+(tW (b.drop n)).2.1) (acc++[(tW (b.drop n)).1]) else([],0,(tW (b.drop n)).2.2)
def Rz (b:List UInt8):List (List UInt8)×Nat×Nat:=if b.length<1 then([],0,3) else yB b (de (b.take 1)) 1 []
def Xl (r:List (List UInt8)×Nat×Nat):AV:= .aE [.vs (aR.R r.1) .au, .int .i64 r.2.1, .int .i64 r.2.2]
def aIl {b:List UInt8}:(tW b).2.1<=b.length:=by
 unfold tW
 grind
def aGh (ok:aA P tb) {b:List UInt8} {t:aL} (hb:b.length<2^20):al P 213 [.vs (BS b) t] h (Xl (Rz b)) h:=by
 refine ok.df (rf:=TN) rfl (bT rfl) (by simp only[Xl,AV.bD,AV.cG,aR.jD];rfl) ?_
 have ht:=E5 ok (b:=b) (t:=t) (n:=1) (h:=h) (by omega) (by omega)
 unfold Rz
 by_cases h1:b.length<1
 ·rw[ax h1] at ht
  simp+decide only[sv,TN,ZR,ZQ]
  refine ao ht ?_
  simp+decide only[sv,ZP,ap1,aV,h1]
  first|rfl|exact⟨rfl,fun _ _=>rfl⟩
 rw[aj h1] at ht
 rw[aj h1]
 have hv:=Ce (b.take 1)
 have hle:(b.take 1).length<=1:=uj ..
 have h3:(256:Nat)^(b.take 1).length<=256^1:=DA (by omega) hle
 generalize hV:de (b.take 1)=V at*
 simp+decide only[sv,TN,ZR,ZQ]
 refine ao ht ?_
 simp+decide only[sv,ZP,ap0,apZ]
 let I:Nat->Env->aa->Prop:=fun m ρ H=>Old h H/\ ∃i n acc,V=i+m/\n<=b.length/\List.length acc=i/\yB b V 1 []=yB b m n acc/\ρ 0= .vs (BS b) t/\ρ 3= .int .i64 (n:Nat)/\ρ 17= .int .u64 V/\ρ 18= .int .u64 (i:Nat)/\App h H (ρ 2) (aR.R acc)
 refine dv I ?_ V ⟨Old.refl h,0,1,[],by omega,by omega,rfl,rfl,rfl,rfl,rfl,rfl,App.nil h h⟩
 rintro m ρ H ⟨ho,i,n,acc,aN,hnb,LU,heq,r0,r3,oR,r18,ha⟩
 cases m with
 |zero=>
  have av: ¬(i:Int)<(V:Int):=by omega
  obtain⟨tt,nR,_⟩:=ha
  have hm:=aiS ok (l:=acc) (t:=tt) (h:=H) (by omega)
  rw[heq,yB]
  simp+decide only[sv,ZO,alh,oR,r18,av,nR]
  refine ao hm ?_
  cases mA:mN acc with
  |false=>
   simp+decide only[sv,alg,aV]
   exact⟨rfl,ho.get⟩
  |true=>
   simp+decide only[sv,alf,aV,nR,r3]
   exact⟨by simp only[AV.strip,AV.a8,aR.dJ];rfl,ho.get⟩
 |succ m=>
  have av:(i:Int)<(V:Int):=by omega
  have k2:bQ 1 (BS b)=true:=iM
  have k3:(BS b).drop n=BS (b.drop n):=vw
  have k4:List.take (b.length-n) (BS (b.drop n))=BS (b.drop n):=bX (by rw[aY,oI];omega)
  have MC:=ahM ok (b:=b.drop n) (t:=vg t b.length n b.length) (h:=H) (by grind)
  have lZ:=aIl (b:=b.drop n)
  rw[oI] at lZ
  unfold Ox at MC
  rw[heq,yB]
  generalize hR:tW (b.drop n)=R at*
  obtain⟨s,k,e⟩:=R
  simp only at lZ MC ⊢
  have hw:IntKind.wrap .u64 ((i:Int)+1)=((i+1:Nat):Int):=by
   rw[show(i:Int)+1=((i+1:Nat):Int) by omega];exact eo (by omega)
  have hwn:IntKind.wrap .i64 ((n:Int)+(k:Int))=((n+k:Nat):Int):=by rw[bj]<;>omega
  simp+decide only[sv,ZO,apY,r0,r3,oR,r18,av,aY,hnb,k2,k3,k4]
  refine ao MC ?_
  by_cases he:e=0
  ·subst he
   obtain⟨v',h2b,a1,a2,a3,a4,a5,a6⟩:=ha.app ho (bytes:=24) (sz:=1) (id:=H.next) ho.next [[.vs (BS s) .au]] aR.fl (by rw[aR.aD];grind) (by rw[aR.aD];grind)
   simp+decide only[sv,ZN,alj,ali,r3,r18,a1,hw,hwn]
   exact⟨m,by omega,a3,i+1,n+k,acc++[s],by omega,by omega,by simp[LU],by rw[heq,yB,hR];rfl,r0,rfl,oR,rfl,by rw[<-aR.kX];exact a2⟩
  ·have bP: ¬(e:Int)=0:=by omega
   simp+decide only[sv,ZN,apX,aV,bP,he]
   exact⟨rfl,ho.get⟩
def uF (o:Ob):Bool:=dF o.ai&&(dQ o.ai.ps).length==0
def aHd (ok:aA P tb) {t:Nat->aL} (hl:o.ai.ok):al P 135 [.agg (o.c t)] h (.bool (uF o)) h:=by
 refine ok.bA ahi ?_
 have mW:=hl.len
 simp+decide only[sv,ahi,auG,Qj,Ob.c]
 refine ao (Wq (l:=o.ai) (t:=t 0) ok hl) ?_
 unfold uF
 cases hm:dF o.ai with
 |false=>
  simp+decide only[sv,Qj]
  grind
 |true=>
  simp+decide only[sv,Qj]
  refine ao (VS (l:=o.ai) (t:=t 0) ok (by omega)) ?_
  have e:decide (((dQ o.ai.ps).length:Int)=0)=((dQ o.ai.ps).length==0):=by grind
  simp+decide only[sv,(ay .u16).aD,e]
  grind
def ko (o:Ob):Bool:=if o.kind=1 then decide (0<=o.used)&&decide (o.used<=o.aP)&&decide (o.aP<=400)&&decide (1<=o.next)&&decide (o.next<=64) else if o.kind=2 then decide (o.data.length<=64) else if o.kind=3 then lL o.bf else if o.kind=4 then mN o.ring else false
def eS (o:Ob):Bool:=cP o.id&&uF o&&ko o
def aiW (ok:aA P tb) {t:Nat->aL} (hl:o.ai.ok) (aM:o.id<2^64) (hc:o.bf.length<2^30) (hr:o.ring.length<2^30):al P 88 [.agg (o.c t)] h (.bool (eS o)) h:=by
 refine ok.bA Vg ?_
 simp+decide only[sv,Vg,axP,axO,Ob.c]
 refine ao (ND ok aM) ?_
 unfold eS
 cases hm:cP o.id with
 |false=>
  simp+decide only[sv,DN]
  grind
 |true=>
  simp+decide only[sv,Vg]
  refine ao (aHd (t:=t) ok hl) ?_
  cases gQ:uF o with
  |false=>
   simp+decide only[sv,DN]
   grind
  |true=>
   unfold ko
   by_cases h1:o.kind=1
   ·by_cases a1:0<=o.used
    case neg=>
     simp+decide only[sv,wh,wg,we,h1,a1]
     grind
    by_cases a2:o.used<=o.aP
    case neg=>
     simp+decide only[sv,wh,wg,we,h1,a1,a2]
     grind
    by_cases a3:o.aP<=400
    case neg=>
     simp+decide only[sv,wh,wg,we,h1,a1,a2,a3]
     grind
    by_cases a4:1<=o.next
    case neg=>
     simp+decide only[sv,wh,wg,we,h1,a1,a2,a3,a4]
     grind
    by_cases a5:o.next<=64
    case neg=>
     simp+decide only[sv,wh,wg,we,h1,a1,a2,a3,a4,a5]
     grind
    simp+decide only[sv,wh,wg,we,h1,a1,a2,a3,a4,a5]
    grind
   by_cases h2:o.kind=2
   ·have e:decide ((o.data.length:Int)<=64)=decide (o.data.length<=64):=by grind
    simp+decide only[sv,DN,wh,wg,we,KJ,Kz,Ky,Kx,Jn,Jm,Df,h2,aY,e]
    grind
   by_cases h3:o.kind=3
   ·simp+decide only[sv,DN,wh,wg,we,KJ,Kz,Ky,Kx,Jn,Jm,Df,h3]
    refine ao (ajf ok hc) ?_
    simp+decide only[sv,Df]
    grind
   by_cases h4:o.kind=4
   ·simp+decide only[sv,DN,wh,wg,we,KJ,Kz,Ky,Kx,Jn,Jm,Df,h4]
    refine ao (aiS ok hr) ?_
    simp+decide only[sv,Df]
    grind
   simp+decide only[sv,DN,wh,wg,we,KJ,Kz,Ky,Kx,Jn,Jm,Df,h1,h2,h3,h4]
   grind
def Iu {c:cO} (hw:WP P c (iD (fun ρ' h'=>WP P (.loop c) K ρ' h') K) ρ h):WP P (.loop c) K ρ h:=by
 obtain⟨e,ρ',h',hb,hk⟩:=hw
 cases e with
 |normal=>
  obtain⟨e2,ρ2,h2,dB,mX⟩:=hk
  exact⟨_,_,_, .loop hb dB,mX⟩
 |exit id=>exact⟨_,_,_, .DF hb (by simp),hk⟩
 |goto l=>exact⟨_,_,_, .DF hb (by simp),hk⟩
 |ret=>exact⟨_,_,_, .DF hb (by simp),hk⟩
theorem aLG:wL k K .ret ρ h=K .ret ρ h:=rfl
theorem aHH:wL k K .normal ρ h=K .normal ρ h:=rfl
theorem aKu:wL k K (.exit i) ρ h=K (.exit i) ρ h:=rfl
def xi:=aw @aLG<|aw @aHH @aKu
def aKt (hf:jw body l=some rest) (hw:WP P (.inScope body rest) K ρ h):wL (fun l=>(jw body l).map fun rest=>WP P (.inScope body rest) K) K (.goto l) ρ h:=by
 show(match(jw body l).map fun rest=>WP P (.inScope body rest) K with|some k=>k ρ h|none=>K (.goto l) ρ h)
 grind
def al.au (hc:al P f (AV.a8 args) h r h'):al P f args h r h':=by
 refine hc.Lp CU fun i a b ha hb=>?_
 obtain⟨u,hu,rfl⟩:=Bj ha
 grind
theorem J6 {α:Type} {a v:α} {l:List α}:(a::l).set 0 v=v::l:=rfl
theorem aNN {α:Type} {a v:α} {l:List α}:(a::l).set (n+1) v=a::l.set n v:=rfl
theorem Tg {α:Type} {z:α}:List.replicate 1 z=[z]:=rfl
theorem aO8 {α:Type} {z:α}:List.replicate 3 z=[z,z,z]:=rfl
theorem aO7 {α:Type} {z:α}:List.replicate 4 z=[z,z,z,z]:=rfl
theorem wr1:IntKind.wrap .i64 (0+1)=1:=rfl
theorem wr2:IntKind.wrap .i64 (1+1)=2:=rfl
theorem wr3:IntKind.wrap .i64 (2+1)=3:=rfl
theorem tn1:Int.toNat 1=1:=rfl
theorem tn2:Int.toNat 2=2:=rfl
def aST:(1<=n+1)=True:=bW (by omega)
def aNY {h:aa} {b:Nat}:(h.set b x).set b y=h.set b y:=by
 unfold aa.set;grind
def nz1:(((n+1:Nat):Int)=0)=False:=bk (by omega)
def xr:=aw @J6<|aw @aNN<|aw @aO8<|aw @aO7<|aw wr1<|aw wr2<|aw wr3<|aw tn1<|aw tn2<|aw @aST<|aw @aNY @nz1
def aJu {t:aL}:(AV.vs (BS l) t).strip= .vs (BS l) .au:=dt.iy
theorem seg {α:Type} {f:α->List UInt8} (hf: ∀a,(f a).length=k): ∀{l:List α} {i:Nat} (hi:i<l.length),(l.flatMap f++r).drop (k*i)=f l[i]++((l.drop (i+1)).flatMap f++r)
 |[],i,hi=>by simp at hi
 |a::l,0,hi=>by simp
 |a::l,i+1,hi=>by
  have ih:=seg hf (r:=r) (l:=l) (i:=i) (by simpa using hi)
  rw[jR,eR,B5,xZ (by grind),kF,hf,show k*(i+1)-k=k*i by grind,ih];rfl
def Dd (h:v<256^n):de (be v n)=v:=by rw[aOn,Nat.mod_eq_of_lt h]
def vi {α:Type} {l m:List α} (h:l.length=n):(l++m).take n=l:=by grind
def zi {α:Type} {l m:List α} (h:l.length=n):(l++m).drop n=m:=by grind
def acY {v:Nat} (h:v<256):(UInt8.ofNat v).toNat=v:=by simp;omega
def de1 {b:UInt8}:de [b]=b.toNat:=by simp[de]
def aJG (hp: ∀p∈l.ps,p.1<65536/\p.2<256):mU (cE l++r) l.ps.length=l.ps:=by
 refine B6 (by simp[Ov]) fun i h1 h2=>?_
 have hb:=hp _ (bw h2)
 have e:(cE l++r).drop (2+3*i)=mI l.ps[i]++((l.ps.drop (i+1)).flatMap mI++r):=by
  rw[<-vV]
  have:(cE l++r).drop 2=l.ps.flatMap mI++r:=by unfold cE;rw[eR];exact zi (by simp[bG])
  rw[this]
  exact seg (fun a=>by simp[mI,bG]) h2
 have e2:(cE l++r).getD (4+3*i) 0=UInt8.ofNat l.ps[i].2:=by
  have h3:(cE l++r).getD (4+3*i) 0=((cE l++r).drop (2+3*i)).getD 2 0:=by
   grind
  rw[h3,e]
  simp[mI,be,uX,Nat.mod_eq_of_lt hb.2]
 simp only[mU,List.getElem_map,List.getElem_range,e,e2]
 refine Prod.ext ?_ (acY hb.2)
 show de _=_
 unfold mI
 rw[eR,vi bG,Dd (by omega)]
def aIj (hm:dF l=true) (hp: ∀p∈l.ps,p.1<65536/\p.2<256):wz (cE l++r)=(l,(cE l).length,0):=by
 have hl:l.d<=4/\l.ps.length<=16:=by
  unfold dF at hm;grind
 have h0:(cE l++r).getD 0 0=UInt8.ofNat l.d:=by
  simp[cE,be,uX,Nat.mod_eq_of_lt (show l.d<256 by omega)]
 have h1:(cE l++r).getD 1 0=UInt8.ofNat l.ps.length:=by
  simp[cE,be,uX,Nat.mod_eq_of_lt (show l.ps.length<256 by omega)]
 have hlen:=CZ (l:=l)
 unfold wz
 rw[h0,h1,acY (show l.d<256 by omega),acY (show l.ps.length<256 by omega),aj (by grind),aj (by grind),aJG hp]
 simp_all
def ahP (hs:s.length<65536):tW (cq s++r)=(s,(cq s).length,0):=by
 have h0:(cq s++r).take 2=be s.length 2:=by unfold cq;rw[eR];exact vi bG
 have h1:(cq s++r).drop 2=s++r:=by unfold cq;rw[eR];exact zi bG
 have hl:(cq s++r).length=2+s.length+r.length:=by simp[cq,bG,rJ]
 unfold tW
 rw[h0,h1,hl,Dd (by omega),aj (by omega),aj (by omega),vi rfl]
 grind
def aIk (hc: ∀c∈l,c<65536):uJ (nx l++r) l.length=l:=by
 refine B6 (by simp[Ow]) fun i h1 h2=>?_
 have hb:=hc _ (bw h2)
 have e:(nx l++r).drop (1+2*i)=be l[i] 2++((l.drop (i+1)).flatMap (fun c=>be c 2)++r):=by
  rw[<-vV]
  have:(nx l++r).drop 1=l.flatMap (fun c=>be c 2)++r:=by unfold nx;rw[eR];exact zi bG
  rw[this]
  exact seg (fun a=>bG) h2
 simp only[uJ,List.getElem_map,List.getElem_range,e]
 rw[vi bG,Dd (by omega)]
theorem XD {α:Type} {f:α->List UInt8} (hf: ∀a,(f a).length=k): ∀{l:List α},(l.flatMap f).length=k*l.length
 |[]=>by simp
 |a::l=>by rw[jR,cw,hf,XD hf,cQ,Nat.mul_add];omega
def Iw:(nx l).length=1+2*l.length:=by
 unfold nx
 rw[cw,bG,XD (k:=2) (fun a=>bG)]
def aF4 (hm:lL l=true) (hc: ∀c∈l,c<65536):RB (nx l++r)=(l,(nx l).length,0):=by
 have hl:l.length<=16:=by unfold lL at hm;grind
 have h0:(nx l++r).take 1=be l.length 1:=by unfold nx;rw[eR];exact vi bG
 have h1:(nx l++r).length=1+2*l.length+r.length:=by rw[cw,Iw]
 unfold RB
 rw[h0,h1,Dd (by omega),aj (by omega),aj (by omega),aIk hc,ax hm,Iw]
theorem ajj: ∀{m done:List (List UInt8)} {b:List UInt8} {n:Nat},b.drop n=m.flatMap cq++r->(∀x∈m,x.length<65536)->mN (done++m)=true->yB b m.length n done=(done++m,n+(m.flatMap cq).length,0)
 |[],done,b,n,hb,_,hm=>by simp only[fE] at hm;simp[yB,hm]
 |x::m,done,b,n,hb,hx,hm=>by
  have hx0:=hx x (pY ..)
  have ht:tW (b.drop n)=(x,(cq x).length,0):=by rw[hb,jR,eR];exact ahP hx0
  have:=ajj (r:=r) (m:=m) (done:=done++[x]) (b:=b) (n:=n+(cq x).length) (by rw[<-vV,hb,jR,eR,zi rfl]) (fun y hy=>hx y (eH _ hy)) (by simpa using hm)
  rw[cQ,yB,ht]
  simp only[dP]
  rw[this];simp[rJ]
def aF3 (hm:mN l=true) (hs: ∀x∈l,x.length<65536):Rz (mf l++r)=(l,(mf l).length,0):=by
 have hl:l.length<=4:=by unfold mN at hm;grind
 have h0:(mf l++r).take 1=be l.length 1:=by unfold mf;rw[eR];exact vi bG
 have h1:(mf l++r).drop 1=l.flatMap cq++r:=by unfold mf;rw[eR];exact zi bG
 have h2: ¬(mf l++r).length<1:=by simp[mf,bG]
 unfold Rz
 rw[aj h2,h0,Dd (by omega),ajj (r:=r) h1 hs (by simpa using hm)]
 simp[mf,bG]
end
section
open Go
variable {P:Program} {h:aa}
def eQ {c:cO} (sl i0 n) (hn:n<2^61) (aN:i0<=n) (J:Nat->Env->aa->Prop)
 (round: ∀i ρ h,J i ρ h->ρ sl= .int .i64 i->i0<=i->i<n->(i:Int)<(n:Int)->(0:Int)<=i->IntKind.wrap .i64 ((i:Int)+1)=((i+1:Nat):Int)->WP P c (iD (fun ρ' h'=>J (i+1) ρ' h'/\ρ' sl= .int .i64 ((i+1:Nat):Int)) K) ρ h)
 (last: ∀ρ h,J n ρ h->ρ sl= .int .i64 n-> ¬(n:Int)<(n:Int)->WP P c (iD (fun _ _=>False) K) ρ h)
 (hJ:J i0 ρ h) (h0:ρ sl= .int .i64 i0):WP P (.loop c) K ρ h:=by
 refine dv (fun m ρ h=> ∃i,n=i+m/\i0<=i/\J i ρ h/\ρ sl= .int .i64 i) ?_ (n-i0) ⟨i0,by omega,ak _,hJ,h0⟩
 rintro m ρ h ⟨i,uT,aK,hJ,hs⟩
 by_cases hi:i<n
 ·obtain⟨e,ρ',h',hb,hk⟩:=round i ρ h hJ hs aK hi (by omega) (by omega) (dj (by omega))
  refine⟨e,ρ',h',hb,?_⟩
  cases e with
  |normal=>exact⟨m-1,by omega,i+1,by omega,by omega,hk.1,hk.2⟩
  |exit _=>exact hk
  |goto _=>exact hk
  |ret=>exact hk
 grind
def Old.cells (o:Old h h') {b:Nat} (hb:b<h.next) (c:cellsOf h b=some cs):cellsOf h' b=some cs:=by
 unfold cellsOf at c ⊢;rw[o.get b hb];exact c
def App.start (E:aF α) (h0 h):App h0 h (.vs [] .full) (E.R []):=App.nil h0 h
def App.more {E:aF α} (a:App h0 h v (E.R l)) (o:Old h0 h) (bytes sz) (m) (ys) (hy:E.R m=ys) (hs:E.sz=sz) (hl:l.length+m.length<2^30) (hb:bytes<=512):
 ∃v' h',qc bytes sz h.next h v (some ys)=some (v',h')/\App h0 h' v' (E.R (l++m))/\Old h0 h'/\ ∀b,h.get b≠some .tail->b<h.next->h'.get b=h.get b:=by
 subst hy;subst hs
 obtain⟨v,h2,a1,a2,a3,_,_,a6,_⟩:=a.app o (bytes:=bytes) (sz:=E.sz) (id:=h.next) o.next (E.R m) E.fl (by
  rw[E.aD,E.aD]
  exact J0 (Nat.mul_le_mul (Nat.le_of_lt hl) hb) (by decide)) (by rw[E.aD,E.aD];omega)
 rw[E.kX] at a2
 grind
def App.oJ {E:aF α} (a:App h0 h v (E.R l)) (o:Old h0 h) (bytes sz) (m) (ys) (hy:E.R m=ys) (hs:E.sz=sz) (hb:h0.next<=base) (hf: ∀j,j<n->h.get (base+j)=none\/j<=i) (hl:l.length+m.length<2^30) (dB:bytes<=512):
 ∃v' h',qc bytes sz (base+i) h v (some ys)=some (v',h')/\App h0 h' v' (E.R (l++m))/\Old h0 h'/\dY n base i h':=by
 subst hy;subst hs
 obtain⟨v,h2,a1,a2,a3,_,a5⟩:=a.qT o (bytes:=bytes) (sz:=E.sz) (base:=base) (n:=n) (i:=i) hb hf (E.R m) E.fl (by
  rw[E.aD,E.aD]
  exact J0 (Nat.mul_le_mul (Nat.le_of_lt hl) dB) (by decide)) (by rw[E.aD,E.aD];omega)
 rw[E.kX] at a2
 grind
end
section
open Go
def jJ (x:Nat):List Nat->List Nat
 |[]=>[x]
 |y::l=>if y<x then y::jJ x l else if y=x then y::l else x::y::l
def jf (l:List Nat):List Nat:=l.foldl (fun out x=>jJ x out) []
theorem WC {z:Nat}: ∀{l:List Nat},z∈jJ x l->z=x\/z∈l
 |[],h=>by simpa [jJ] using h
 |y::l,h=>by
  unfold jJ at h
  split at h
  ·rcases List.mem_cons.1 h with h|h
   ·grind
   ·rcases WC h with h|h
    ·exact .inl h
    grind
  grind
theorem akt: ∀{l:List Nat},l.Pairwise (· < ·)->(jJ x l).Pairwise (· < ·)
 |[],_=>by simp[jJ]
 |y::l,h=>by
  have h':=List.pairwise_cons.1 h
  unfold jJ
  split
  ·refine List.pairwise_cons.2 ⟨fun z hz=>?_,akt h'.2⟩
   rcases WC hz with rfl|hz
   ·assumption
   grind
  split
  ·exact h
  ·refine List.pairwise_cons.2 ⟨fun z hz=>?_,h⟩
   grind
theorem aku: ∀{l:List Nat},(jJ x l).length<=l.length+1
 |[]=>by simp[jJ]
 |y::l=>by
  have:=aku (x:=x) (l:=l)
  unfold jJ
  grind
theorem alc: ∀{l:List Nat} {k:Nat},(∀j (hj:j<l.length),j<k->l[j]<x)->k<=l.length->(∀hk:k<l.length,¬l[k]<x)->jJ x l=if(∃hk:k<l.length,l[k]=x) then l else l.take k++x::l.drop k
 |[],k,_,hk,_=>by
  rw[aj (fun⟨h,_⟩=>by simp at h)]
  simp[jJ]
 |y::l,0,_,_,h=>by
  have hy:=h (by simp)
  simp only[J4] at hy
  unfold jJ
  rw[aj hy]
  simp_all
 |y::l,k+1,h1,hk,h2=>by
  have hy:=h1 0 (by simp) (by omega)
  simp only[J4] at hy
  have ih:=alc (x:=x) (l:=l) (k:=k) (fun j hj hjk=>by grind) (by simpa using hk) (fun gC=>by grind)
  unfold jJ
  rw[ax hy,ih]
  by_cases e: ∃hk:k<l.length,l[k]=x
  ·simp_all
  simp_all
def xz (l):(jf l).Pairwise (· < ·)/\(∀z∈jf l,z∈l)/\(jf l).length<=l.length:=by
 have key: ∀(l out:List Nat),out.Pairwise (· < ·)->(l.foldl (fun out x=>jJ x out) out).Pairwise (· < ·)/\(∀z∈l.foldl (fun out x=>jJ x out) out,z∈out\/z∈l)/\(l.foldl (fun out x=>jJ x out) out).length<=out.length+l.length:=by
  intro l
  induction l with
  |nil=>grind
  |cons x l ih=>
   intro out h
   obtain⟨a1,a2,a3⟩:=ih (jJ x out) (akt h)
   refine⟨a1,fun z hz=>?_,?_⟩
   ·rcases a2 z hz with h|h
    ·rcases WC h with rfl|h
     ·grind
     ·exact .inl h
    grind
   ·have:=aku (x:=x) (l:=out)
    grind
 obtain⟨a1,a2,a3⟩:=key l [] List.Pairwise.nil
 refine⟨a1,fun z hz=>?_,by unfold jf;simpa using a3⟩
 rcases a2 z hz with h|h
 ·cases h
 ·exact h
def aJM:jf (l++[x])=jJ x (jf l):=by simp[jf]
def mJ (d:Nat) (l:List (Nat×Nat)) (c:Nat):Nat:=l.foldl (fun v p=>if p.1=c then p.2 else v) d
def ai2 {c:Nat} {p:Nat×Nat}:mJ d (l++[p]) c=if p.1=c then p.2 else mJ d l c:=by simp[mJ]
def akp {c m:Nat} (hd:d<=m): ∀{l:List (Nat×Nat)},(∀p∈l,p.2<=m)->mJ d l c<=m:=by
 intro l
 unfold mJ
 induction l generalizing d with
 |nil=>grind
 |cons p l ih=>
  grind
def kG (d:Nat) (l:List (Nat×Nat)) (c:Nat):List (Nat×Nat):=if mJ d l c=d then [] else [(c,mJ d l c)]
def kO (d:Nat) (l:List (Nat×Nat)):Lb:=⟨d,(jf (l.map (·.1))).flatMap (kG d l)⟩
def aIt {c:Nat}:(kG d l c).length<=1:=by unfold kG;split<;>simp
theorem Nl: ∀{cs:List Nat},(cs.flatMap (kG d l)).length<=cs.length
 |[]=>by simp
 |c::cs=>by
  have:=Nl (d:=d) (l:=l) (cs:=cs)
  have:=aIt (d:=d) (c:=c) (l:=l)
  grind
theorem Nk: ∀{cs:List Nat},cs.Pairwise (· < ·)->(cs.flatMap (kG d l)).Pairwise (fun a b=>a.1<b.1)
 |[],_=>by simp
 |c::cs,h=>by
  have h':=List.pairwise_cons.1 h
  have ih:=Nk (d:=d) (l:=l) h'.2
  have hm: ∀q∈cs.flatMap (kG d l),c<q.1:=by
   intro q hq
   obtain⟨x,hx,hq⟩:=List.mem_flatMap.1 hq
   unfold kG at hq
   grind
  rw[jR]
  unfold kG
  split
  ·exact ih
  grind
def ak0 {cs:List Nat} (h:q∈cs.flatMap (kG d l)):q.1∈cs/\q.2=mJ d l q.1/\q.2≠d:=by
 obtain⟨x,hx,hq⟩:=List.mem_flatMap.1 h
 unfold kG at hq
 grind
def amB (h1:1<=d) (h4:d<=4) (hl:l.length<=16) (hp: ∀p∈l,p.1<65536/\p.2<=4):(kO d l).ok/\dF (kO d l)=true/\(kO d l).ps.length<=l.length:=by
 obtain⟨s1,s2,s3⟩:=xz (l.map (·.1))
 have hlen:(kO d l).ps.length<=l.length:=by
  have:=Nl (d:=d) (l:=l) (cs:=jf (l.map (·.1)))
  rw[fp] at s3
  show((jf (l.map (·.1))).flatMap (kG d l)).length<=_
  omega
 have hq: ∀q∈(kO d l).ps,q.1<65536/\q.2<=4/\q.2≠d:=by
  intro q hq
  obtain⟨a1,a2,a3⟩:=ak0 hq
  obtain⟨p,hpm,hpe⟩:=List.mem_map.1 (s2 _ a1)
  refine⟨by grind,?_,a3⟩
  rw[a2];exact akp h4 (fun p pe=>(hp p pe).2)
 refine⟨⟨by show d<256;omega,fun q h=>⟨(hq q h).1,by grind⟩,by omega⟩,?_,hlen⟩
 unfold dF
 have aQ:=Nk (d:=d) (l:=l) s1
 have e1:decide (1<=(kO d l).d)=true:=mF h1
 have e2:decide ((kO d l).d<=4)=true:=mF h4
 have e3:decide ((kO d l).ps.length<=16)=true:=by simp;omega
 rw[e1,e2,e3]
 simp only[zR,ui,List.mem_range]
 intro i hi
 unfold tg
 have gi:(kO d l).ps.getD i (0,0)=(kO d l).ps[i]:=by grind
 rw[gi]
 have:=hq _ (bw hi)
 simp only[fV,rK,Bool.not_eq_true',beq_eq_false_iff_ne,Bool.or_eq_true,beq_iff_eq]
 refine⟨⟨this.2.1,this.2.2⟩,?_⟩
 by_cases h0:i=0
 ·exact .inl h0
 ·right
  have qZ:i-1<(kO d l).ps.length:=by omega
  rw[mr,bn qZ]
  exact(List.pairwise_iff_getElem.1 aQ) (i-1) i qZ hi (by omega)
end
section
open Go
variable {P:Program} {h:aa}
def aGI (ok:aA P tb) {t:aL} (hl:l.length<2^20):al P 161 [.vs ((ay .u16).R l) t] h (.vs ((ay .u16).R (jf l)) .au) h:=by
 refine ok.df (rf:=ag3) rfl (bT rfl) (ay .u16).i7 ?_
 simp+decide only[sv,ag3,asN,asM,asL]
 let I:Nat->Env->aa->Prop:=fun m ρ H=>Old h H/\ ∃i:Nat,l.length=i+m/\ρ 0= .vs ((ay .u16).R l) t/\ρ 4= .int .i64 i/\App h H (ρ 3) ((ay .u16).R (jf (l.take i)))
 refine dv I ?_ l.length ⟨Old.refl h,0,by omega,rfl,rfl,App.nil h h⟩
 rintro m ρ H ⟨ho,i,uT,r0,r4,ha⟩
 by_cases hi:i<l.length
 ·have av:(i:Int)<(l.length:Int):=by omega
  have aK:(0:Int)<=i:=by omega
  have gi:((ay .u16).R l)[i]? =some [.int .u16 l[i]]:=(ay .u16).cj hi
  have hs:=(xz (l.take i)).2.2
  have uP:(jf (l.take i)).length<=i:=by grind
  have yH:jf (l.take (i+1))=jJ l[i] (jf (l.take i)):=by rw[lN hi,aJM]
  simp+decide only[sv,aaR,asK,r0,r4,aF.aD,av]
  generalize jf (l.take i)=out at*
  generalize l[i]=x at*
  obtain⟨tt,r3,htt⟩:=id ha
  have haV:App h H (.vs ((ay .u16).R out) tt) ((ay .u16).R out):=by grind
  generalize hK:jO 2 _=K2
  have fin: ∀(ρ:Env) (H':aa) (k:Nat),Old H H'->k<=out.length->(∀j (hj:j<out.length),j<k->out[j]<x)->(∀hk:k<out.length,¬out[k]<x)->ρ 0= .vs ((ay .u16).R l) t->ρ 3= .vs ((ay .u16).R out) tt->ρ 4= .int .i64 i->ρ 5= .int .i64 k->K2 (.exit 2) ρ H':=by
   intro ρ H' k oH hk h1 h2 r0 r3 r4 r5
   rw[<-hK]
   have e:=alc h1 hk h2
   have oh:=ho.trans oH
   have hw:=dj (show i<2^61 by omega)
   have od:(0:Int)<=k:=by omega
   simp+decide only[sv,asI]
   generalize U3:jO 1 _=K1
   have kn: ∀(ρ:Env) (G:aa),Old h G->App h G (ρ 3) ((ay .u16).R (jJ x out))->ρ 0= .vs ((ay .u16).R l) t->ρ 4= .int .i64 i->K1 .normal ρ G:=by
    intro ρ G oG aG r0 r4
    rw[<-U3]
    simp+decide only[sv,asH,r4,hw]
    exact⟨m-1,by omega,oG,i+1,by omega,r0,rfl,by rw[yH];exact aG⟩
   clear U3
   refine bq 15 rfl rfl ?_
   have oh':Old h (H'.clean 15):=oh.clean
   have ah':App h (H'.clean 15) (.vs ((ay .u16).R out) tt) ((ay .u16).R out):=(haV.old oH).old (Old.refl H').clean
   by_cases aN: ∃hk:k<out.length,out[k]=x
   ·rw[ax aN] at e
    obtain⟨mY,hx⟩:=aN
    have gC: ¬(k:Int)=(out.length:Int):=by omega
    have gk:((ay .u16).R out)[k]? =some [.int .u16 x]:=by rw[(ay .u16).cj mY,hx];rfl
    simp+decide only[sv,r0,r3,r4,r5,aF.aD,gC,od,aK,gk,gi]
    exact kn _ _ oh' (by rw[e];show App h _ (ρ 3) _;grind) r0 r4
   ·rw[aj aN] at e
    generalize H'.clean 15=Z at*
    have ins: ∀ρ:Env,ρ 0= .vs ((ay .u16).R l) t->ρ 3= .vs ((ay .u16).R out) tt->ρ 4= .int .i64 i->ρ 5= .int .i64 k->WP P (.jG aaQ [[],[],[],[],[],[],[],[],[4],[],[],[],[],[],[],[]]) K1 ρ Z:=by
     intro ρ r0 r3 r4 r5
     refine m6 ?_
     have e1:((ay .u16).R out).take k=(ay .u16).R (out.take k):=by simp[aF.R]
     have e2:((ay .u16).R out).drop k=(ay .u16).R (out.drop k):=by simp[aF.R]
     have k0:0<=k:=bM k
     have hh: ∀l,bQ 1 ((ay .u16).R l)=true:=fun l=>(ay .u16).fl
     have hfc: ∀j,(Z.clean 16).get (Z.next+j)=none:=fun j=>by simp only[aa.clean];grind
     obtain⟨v1,h1,a1,⟨t1,rfl,q1⟩,a3,a4,a5⟩:=(App.nil Z (Z.clean 16)).qT (Old.refl Z).clean (bytes:=2) (sz:=1) (base:=Z.next) (n:=16) (i:=4) (ak _) (fun j _=> .inl (hfc j)) ((ay .u16).R (out.take k)) rfl (by grind) (by grind)
     simp+decide only[sv,aaQ,r0,r3,r4,r5,od,aK,gi,aF.aD,hh,hk,k0,e1,qF,np,a1]
     refine⟨a5,fun y hy=>by rw[a3.get y hy,(Old.refl Z).clean.get y hy],?_⟩
     have fr: ∀{G:aa} {i1 i2:Nat},i1<=i2->dY 16 Z.next i1 G-> ∀j,j<16->G.get (Z.next+j)=none\/j<=i2:=fun{G} {i1 i2} dU hf j hj=>by
      by_cases jt:j<=i2
      ·exact .inr jt
      ·exact .inl (hf j (by omega) hj)
     obtain⟨v2,h2,b1,⟨t2,rfl,q2⟩,b3,b4,b5⟩:=(show App Z h1 (.vs ((ay .u16).R (out.take k)) t1) ((ay .u16).R (out.take k)) from⟨t1,rfl,q1⟩).qT a3 (bytes:=2) (sz:=1) (base:=Z.next) (n:=16) (i:=10) (ak _) (fr (by decide) a5) [[AV.int .u16 x]] (hh _) (by grind) (by grind)
     have e3:(ay .u16).R (out.take k)++[[AV.int .u16 x]]=(ay .u16).R (out.take k++[x]):=by rw[<-aF.kX];rfl
     rw[e3] at b1
     simp+decide only[sv,b1]
     refine⟨b5,fun y hy=>by rw[b3.get y hy,a3.get y hy],?_⟩
     obtain⟨v3,h3,c1,c2,c3,c4,c5⟩:=(show App Z h2 (.vs ((ay .u16).R (out.take k++[x])) t2) ((ay .u16).R (out.take k++[x])) from⟨t2,rfl,q2⟩).qT b3 (bytes:=2) (sz:=1) (base:=Z.next) (n:=16) (i:=14) (ak _) (fr (by decide) b5) ((ay .u16).R (out.drop k)) (hh _) (by rw[aF.aD,aF.aD,cw,jQ,oI];grind) (by rw[aF.aD,aF.aD,cw,jQ,oI];grind)
     have kl:k<=out.length:=hk
     have e5:(ay .u16).R (out.drop k)=((ay .u16).R (out.drop k)).take (out.length-k):=by rw[bX];rw[aF.aD,oI];omega
     simp+decide only[sv,r3,r5,od,aF.aD,hh,hk,e2,ak,<-e5,c1]
     refine⟨c5,fun y hy=>by rw[c3.get y hy,b3.get y hy],?_⟩
     refine kn _ _ (oh'.trans c3) ?_ r0 r4
     rw[e]
     rw[aF.kX] at c2
     have e6:out.take k++[x]++out.drop k=out.take k++x::out.drop k:=by simp
     rw[e6] at c2
     obtain⟨t3,q,w⟩:=c2
     exact⟨t3,q,w.imp id fun⟨j,q1,q2,q3,q4⟩=>⟨j,q1,by have:=oh'.next;omega,q3,q4⟩⟩
    by_cases mY:k<out.length
    ·have gC: ¬(k:Int)=(out.length:Int):=by omega
     have gk:((ay .u16).R out)[k]? =some [.int .u16 out[k]]:=(ay .u16).cj mY
     have aT: ¬(out[k]:Int)=(x:Int):=fun q=>aN ⟨mY,by omega⟩
     simp+decide only[sv,r0,r3,r4,r5,aF.aD,gC,od,aK,gk,gi,aT]
     exact ins _ r0 r3 r4 r5
    ·have gC:(k:Int)=(out.length:Int):=by omega
     simp+decide only[sv,r3,r5,aF.aD,gC,gi]
     exact ins _ r0 r3 r4 (by rw[<-gC];exact r5)
  clear hK
  let J:Nat->Env->aa->Prop:=fun m ρ H'=>Old H H'/\ ∃k:Nat,out.length=k+m/\(∀j (hj:j<out.length),j<k->out[j]<x)/\ρ 0= .vs ((ay .u16).R l) t/\ρ 3= .vs ((ay .u16).R out) tt/\ρ 4= .int .i64 i/\ρ 5= .int .i64 k
  refine dv J ?_ out.length ⟨Old.refl H,0,by omega,fun j _ hj=>by omega,r0,r3,r4,rfl⟩
  clear r0 r3 r4
  rintro n ρ H' ⟨oH,k,ML,h1,r0,r3,r4,r5⟩
  simp+decide only[sv]
  refine bq 15 rfl rfl ?_
  by_cases hk:k<out.length
  ·have gC:(k:Int)<(out.length:Int):=by omega
   have od:(0:Int)<=k:=by omega
   have gk:((ay .u16).R out)[k]? =some [.int .u16 out[k]]:=(ay .u16).cj hk
   have hw:=dj (show k<2^61 by omega)
   by_cases aS:out[k]<x
   ·have jK:(out[k]:Int)<(x:Int):=by omega
    simp+decide only[sv,Qf,asJ,r0,r3,r4,r5,aF.aD,gC,od,aK,gk,gi,jK,hw]
    refine⟨n-1,by omega,oH.clean,k+1,by omega,fun j hj hjk=>?_,r0,r3,r4,rfl⟩
    grind
   ·have jK: ¬(out[k]:Int)<(x:Int):=by omega
    simp+decide only[sv,Qf,r0,r3,r4,r5,aF.aD,gC,od,aK,gk,gi,jK]
    exact fin _ _ k oH.clean (by omega) h1 (fun _=>aS) r0 r3 r4 r5
  ·have gC: ¬(k:Int)<(out.length:Int):=by omega
   simp+decide only[sv,Qf,r3,r5,aF.aD,gC]
   exact fin _ _ k oH.clean (by omega) h1 (fun h=>absurd h hk) r0 r3 r4 r5
 ·have av: ¬(i:Int)<(l.length:Int):=by omega
  obtain⟨tt,r3,htt⟩:=ha
  simp+decide only[sv,aaR,alF,r0,r3,r4,aF.aD,av,aV]
  rw[bX (by omega)]
  exact⟨(ay .u16).iy,ho.get⟩
def aiw (ok:aA P tb) {m:List (Nat×Nat)} {d e:Nat} {t:aL} (hl:l.length<2^18) (hm:m.length<2^18):al P 104 [.agg [.int .u8 d, .vs (aB.R l) t], .agg [.int .u8 e, .vs (aB.R m) t']] h (.vs ((ay .u16).R (jf (l.map (·.1)++m.map (·.1)))) .au) h:=by
 refine ok.df (rf:=ahD) rfl (bT rfl) (ay .u16).i7 ?_
 simp+decide only[sv,ahD,awk,awj,awi]
 generalize hX:aa.at _ _ _=X
 have oX:Old h X:=by rw[<-hX];exact((Old.refl h).at (ak _)).at (by omega)
 have nX:X.next=h.next+2:=by rw[<-hX];simp[aa.at]
 have x0:cellsOf X h.next=some [.int .u8 d, .vs (aB.R l) t]:=by rw[<-hX];exact aq (by simp[aa.at])
 have x1:cellsOf X (h.next+1)=some [.int .u8 e, .vs (aB.R m) t']:=by rw[<-hX];exact aq (by simp[aa.at])
 clear hX
 let J:Nat->Env->aa->Prop:=fun i ρ H=>Old X H/\ρ 2= .ptr h.next 0/\ρ 3= .ptr (h.next+1) 0/\App X H (ρ 5) ((ay .u16).R ((l.take i).map (·.1)))
 refine eQ 6 0 l.length (by omega) (bM _) J ?_ ?_ ⟨Old.refl X,rfl,rfl,App.nil X X⟩ rfl
 ·rintro i ρ H ⟨ho,r2,r3,ha⟩ r6-hi av aK hw
  have y0:=ho.cells (by omega) x0
  obtain⟨t0,r5,_⟩:=id ha
  have gi:(aB.R l)[i]? =some [.int .u16 l[i].1, .int .u8 l[i].2]:=aB.cj hi
  have mW:(l.take i).length=i:=by grind
  obtain⟨v,h2,a1,a2,a3,_⟩:=ha.app ho (bytes:=2) (sz:=1) (id:=H.next) ho.next [[.int .u16 l[i].1]] (ay .u16).fl (by rw[aF.aD,fp,mW];grind) (by rw[aF.aD,fp,mW];grind)
  rw[r5] at a1
  simp+decide only[sv,acF,awh,awg,r2,r5,r6,y0,aF.aD,av,aK,gi,hw,a1]
  refine⟨a3,r2,r3,?_⟩
  rw[lN hi,jz,<-aF.kX]
  exact a2
 ·rintro ρ H ⟨ho,r2,r3,ha⟩ r6 av
  have y0:=ho.cells (by omega) x0
  rw[bX (ak _)] at ha
  simp+decide only[sv,acF,awf,r2,r6,y0,aF.aD,av]
  let J:Nat->Env->aa->Prop:=fun i ρ H=>Old X H/\ρ 3= .ptr (h.next+1) 0/\App X H (ρ 5) ((ay .u16).R (l.map (·.1)++(m.take i).map (·.1)))
  refine eQ 7 0 m.length (by omega) (bM _) J ?_ ?_ ⟨ho,r3,by rw[kD,sQ,fE];exact ha⟩ rfl
  ·clear ha r2 r3 r6 av y0
   rintro i ρ H ⟨ho,r3,ha⟩ r7-hi av aK hw
   have y1:=ho.cells (by omega) x1
   obtain⟨t0,r5,_⟩:=id ha
   have gi:(aB.R m)[i]? =some [.int .u16 m[i].1, .int .u8 m[i].2]:=aB.cj hi
   have mW:(m.take i).length=i:=by grind
   obtain⟨v,h2,a1,a2,a3,_⟩:=ha.app ho (bytes:=2) (sz:=1) (id:=H.next) ho.next [[.int .u16 m[i].1]] (ay .u16).fl (by rw[aF.aD,cw,fp,fp,mW];grind) (by rw[aF.aD,cw,fp,fp,mW];grind)
   rw[r5] at a1
   simp+decide only[sv,acE,awe,awd,r3,r5,r7,y1,aF.aD,av,aK,gi,hw,a1]
   refine⟨a3,r3,?_⟩
   rw[lN hi,jz,<-eR,<-aF.kX (l:=l.map (·.1)++(m.take i).map (·.1))]
   exact a2
  ·clear ha r2 r3 r6 av y0
   rintro ρ H ⟨ho,r3,ha⟩ r7 av
   have y1:=ho.cells (by omega) x1
   obtain⟨t0,r5,_⟩:=id ha
   rw[bX (ak _)] at r5
   simp+decide only[sv,acE,amh,r3,r5,r7,y1,aF.aD,av]
   refine ao (aGI ok (l:=l.map (·.1)++m.map (·.1)) (by grind)) ?_
   simp+decide only[sv,aV]
   exact⟨(ay .u16).iy,(oX.trans ho).get⟩
def Nh (ok:aA P tb) {d:Nat} {t:aL} (hl:l.length<2^18):al P 67 [.int .u8 d, .vs (aB.R l) t] h (.agg ((kO d l).c .au)) h:=by
 refine ok.df (rf:=c67) rfl (bT rfl) (by simp only[AV.bD,AV.cG,Lb.c,aB.jD];rfl) ?_
 simp+decide only[sv,c67,azA,azz]
 generalize hX:aa.set _ _ _=X
 have oX:Old h X:=by rw[<-hX];exact(((Old.refl h).at (ak _)).at (by omega)).set (by omega)
 have nX:X.next=h.next+2:=by rw[<-hX];simp[aa.at,aa.set]
 have x1:X.get (h.next+1)=some (.cells [.int .u8 d, .vs [] .full]):=by rw[<-hX];simp[aa.set]
 have x0:X.get h.next=some (.cells [.int .u8 0, .vs [] .full]):=by rw[<-hX];simp[aa.set,aa.at]
 clear hX
 simp+decide only[sv,azy]
 refine ao (aiw ok (d:=0) (e:=0) (m:=[]) (t':= .full) hl (by decide)) ?_
 rw[sQ,fE]
 simp+decide only[sv,azx]
 have d9:=(xz (l.map (·.1))).2.2
 rw[fp] at d9
 have hmk:kO d l=⟨d,(jf (l.map (·.1))).flatMap (kG d l)⟩:=rfl
 rw[hmk]
 generalize jf (l.map (·.1))=cs at*
 let I:Nat->Env->aa->Prop:=fun m ρ H=> ∃i v,cs.length=i+m/\Old h H/\h.next+2<=H.next/\H.get (h.next+1)=some (.cells [.int .u8 d,v])/\H.get h.next=some (.cells [.int .u8 0, .vs [] .full])/\App ⟨h.get,h.next+2⟩ H v (aB.R ((cs.take i).flatMap (kG d l)))/\ρ 0= .int .u8 d/\ρ 1= .vs (aB.R l) t/\ρ 4= .ptr h.next 0/\ρ 5= .ptr (h.next+1) 0/\ρ 6= .vs ((ay .u16).R cs) .au/\ρ 7= .int .i64 i
 refine dv I ?_ cs.length ⟨0,_,by omega,oX,by omega,x1,x0,⟨_,rfl, .inl rfl⟩,rfl,rfl,rfl,rfl,rfl,rfl⟩
 rintro m ρ H ⟨i,v,uT,ho,iJ,g1,g0,ha,r0,r1,r4,r5,r6,r7⟩
 by_cases hi:i<cs.length
 ·have av:(i:Int)<(cs.length:Int):=by omega
  have aK:(0:Int)<=i:=by omega
  have gi:((ay .u16).R cs)[i]? =some [.int .u16 cs[i]]:=(ay .u16).cj hi
  have hw:=dj (show i<2^61 by omega)
  simp+decide only[sv,adY,azw,azv,r0,r6,r7,aF.aD,av]
  let J:Nat->Env->aa->Prop:=fun n ρ H'=>Old H H'/\ ∃k:Nat,l.length=k+n/\ρ 0= .int .u8 d/\ρ 1= .vs (aB.R l) t/\ρ 4= .ptr h.next 0/\ρ 5= .ptr (h.next+1) 0/\ρ 6= .vs ((ay .u16).R cs) .au/\ρ 7= .int .i64 i/\ρ 8= .int .u8 (mJ d (l.take k) cs[i])/\ρ 9= .int .i64 k
  refine dv J ?_ l.length ⟨Old.refl H,0,by omega,r0,r1,r4,r5,r6,r7,rfl,rfl⟩
  clear r0 r1 r4 r5 r6 r7
  rintro n ρ H' ⟨oH,k,ML,r0,r1,r4,r5,r6,r7,r8,r9⟩
  by_cases hk:k<l.length
  ·have gC:(k:Int)<(l.length:Int):=by omega
   have od:(0:Int)<=k:=by omega
   have gk:(aB.R l)[k]? =some [.int .u16 l[k].1, .int .u8 l[k].2]:=aB.cj hk
   have hwk:=dj (show k<2^61 by omega)
   have e:=ai2 (d:=d) (c:=cs[i]) (l:=l.take k) (p:=l[k])
   rw[<-lN hk] at e
   simp+decide only[sv,So,r1,r9,aF.aD,gC]
   refine bq 10 rfl rfl ?_
   by_cases hq:l[k].1=cs[i]
   ·rw[ax hq] at e
    have js:(l[k].1:Int)=(cs[i]:Int):=by omega
    simp+decide only[sv,adX,azu,X7,r1,r6,r7,r9,gk,gi,od,aK,js,hwk]
    exact⟨n-1,by omega,oH.clean,k+1,by omega,r0,r1,r4,r5,r6,r7,by rw[e];rfl,rfl⟩
   ·rw[aj hq] at e
    have js: ¬(l[k].1:Int)=(cs[i]:Int):=by omega
    simp+decide only[sv,adX,X7,r1,r6,r7,r9,gk,gi,od,aK,js,hwk]
    exact⟨n-1,by omega,oH.clean,k+1,by omega,r0,r1,r4,r5,r6,r7,by rw[e];exact r8,rfl⟩
  ·have gC: ¬(k:Int)<(l.length:Int):=by omega
   rw[bX (by omega)] at r8
   have hs:(cs.take (i+1)).flatMap (kG d l)=(cs.take i).flatMap (kG d l)++kG d l cs[i]:=by
    rw[lN hi,vX];simp
   by_cases hd:mJ d l cs[i]=d
   ·have jh:(mJ d l cs[i]:Int)=(d:Int):=by omega
    have hp:kG d l cs[i]=[]:=ax hd
    simp+decide only[sv,So,X6,X5,r0,r1,r7,r8,r9,aF.aD,gC,jh,hw]
    refine⟨m-1,by omega,i+1,v,by omega,ho.trans oH,by have:=oH.next;omega,by rw[oH.get _ (by omega)];exact g1,by rw[oH.get _ (by omega)];exact g0,?_,r0,r1,r4,r5,r6,rfl⟩
    rw[hs,hp,fE]
    exact ha.old oH
   ·have jh: ¬(mJ d l cs[i]:Int)=(d:Int):=by omega
    have hp:kG d l cs[i]=[(cs[i],mJ d l cs[i])]:=aj hd
    have jM:((cs.take i).flatMap (kG d l)).length<=i:=by
     have:=Nl (d:=d) (l:=l) (cs:=cs.take i)
     grind
    have on:=oH.next
    have c1:cellsOf H' (h.next+1)=some [.int .u8 d,v]:=aq (by rw[oH.get _ (by omega)];exact g1)
    have n1:h.next+1<H'.next:=by omega
    simp+decide only[sv,So,X6,r0,r1,r8,r9,aF.aD,gC,jh]
    refine jk 9 12 rfl (by omega) rfl ?_
    simp+decide only[sv,anB,r5,r6,r7,r8,c1,n1,gi,aK]
    have qt:App ⟨(H'.clean 12).get,h.next+2⟩ (H'.clean 12) v (aB.R ((cs.take i).flatMap (kG d l))):=(ha.old oH).old (Old.refl H').clean
    obtain⟨v',h2,a1,a2,a3,a4,a5⟩:=qt.qT ⟨by show h.next+2<=H'.next+12;omega,fun b hb=>rfl⟩ (bytes:=4) (sz:=2) (base:=H'.next) (n:=12) (i:=9) (by grind) (fun j hj=> .inl (by simp only[aa.clean];grind)) [[AV.int .u16 cs[i],AV.int .u8 (mJ d l cs[i])]] aB.fl (by rw[aF.aD];grind) (by rw[aF.aD];grind)
    have gg: ∀b,b<h.next+2->h2.get b=H.get b:=fun b hb=>by
     rw[a3.get b hb];simp only[aa.clean];rw[ax (by omega),oH.get b (by omega)]
    have c2:cellsOf h2 (h.next+1)=some [.int .u8 d,v]:=aq (by grind)
    have v1:v'.one=true/\v'.cells=[v']:=by obtain⟨t,rfl,_⟩:=a2;exact⟨rfl,rfl⟩
    have f2: ∀x,dY 12 H'.next 11 (h2.set (h.next+1) x):=fun x j wV sf=>by omega
    simp+decide only[sv,a1,a5,c2,v1.1,v1.2,r5,f2]
    simp+decide only[sv,X5,r7,hw]
    have n2:=a3.next
    have n2':H'.next+12<=h2.next:=by have:=a4;show(H'.clean 12).next<=h2.next;exact this
    refine⟨m-1,by omega,i+1,v',by omega,?_,by show h.next+2<=h2.next;omega,by simp[aa.set],by simp only[aa.set];grind,?_,r0,r1,r4,r5,r6,rfl⟩
    ·exact⟨by show h.next<=h2.next;omega,fun b hb=>by simp only[aa.set];rw[aj (by omega),gg b (by omega),ho.get b hb]⟩
    ·rw[hs,hp,<-aF.kX]
     obtain⟨t3,q,w⟩:=a2
     refine⟨t3,q,w.imp id fun⟨j,q1,q2,q3,q4⟩=>⟨j,q1,q2,q3,?_⟩⟩
     simp only[aa.set]
     grind
 ·have av: ¬(i:Int)<(cs.length:Int):=by omega
  have c1:=aq g1
  have c0:=aq g0
  obtain⟨tt,rfl,_⟩:=ha
  simp+decide only[sv,adY,anA,r4,r5,r6,r7,c0,c1,aF.aD,av,aV]
  rw[bX (by omega)]
  refine⟨by simp only[AV.strip,AV.a8,aB.dJ,Lb.c],fun b hb=>?_⟩
  rw[aj (by omega),ho.get b hb]
end
section
open Go
variable {P:Program}
def mH (o:Ob):List UInt8:=if o.kind=1 then be o.aP.toNat 2++be o.used.toNat 2++be o.next.toNat 2 else if o.kind=2 then cq o.data else if o.kind=3 then nx o.bf else mf o.ring
def eM (o:Ob):List UInt8:=[1,UInt8.ofNat o.kind.toNat]++be o.id 8++cE o.ai++mH o
def y5 (h:eS o=true):o.kind=1\/o.kind=2\/o.kind=3\/o.kind=4:=by
 unfold eS ko at h
 grind
def IG (h:eS o=true):dF o.ai=true/\dQ o.ai.ps=[]/\cP o.id=true:=by
 unfold eS uF at h
 grind
def Bp (h:dF l=true):l.ps.length<=16:=by
 unfold dF at h;grind
def zf (h:eS o=true) (h1:o.kind=1):0<=o.used/\o.used<=o.aP/\o.aP<=400/\1<=o.next/\o.next<=64:=by
 unfold eS ko at h
 grind
def qy (h:eS o=true) (h1:o.kind=2):o.data.length<=64:=by
 unfold eS ko at h
 grind
def Fa (h:eS o=true) (h1:o.kind=3):lL o.bf=true:=by
 unfold eS ko at h
 grind
def xg (h:eS o=true) (h1:o.kind=4):mN o.ring=true:=by
 unfold eS ko at h
 grind
def Fk (h:lL l=true):l.length<=16:=by
 unfold lL at h;grind
def xj (h:mN l=true):l.length<=4/\ ∀x∈l,x.length<=16:=by
 unfold mN at h;grind
structure HF (o:Ob):Prop where
 ai:o.ai.ok
 id:o.id<2^64
 bf:o.bf.length<2^20
 ring:o.ring.length<2^20
 cat: ∀c∈o.bf,c<65536
def DE (o:Ob):AV:= .aE (if eS o then [.vs (BS (eM o)) .au, .int .i64 0] else [.vs [] .au, .int .i64 1])
theorem aiX (ok:aA P tb) {t:Nat->aL} (k:HF o):al P 41 [.agg (o.c t)] h (DE o) h:=by
 refine al.au ?_
 rw[show AV.a8 [.agg (o.c t)]=[.agg (o.c aC)] by simp only[AV.a8,Xt]]
 refine ok.df (rf:=EL) rfl (bT rfl) (by unfold DE;split<;>simp only[AV.bD,AV.cG,vx]<;>rfl) ?_
 simp+decide only[sv,EL,aBP,Ob.c]
 obtain⟨X,hX⟩: ∃X,X=h.at h.next (.cells (o.c aC)):=⟨_,rfl⟩
 have xo:Old h X:=by subst hX;exact(Old.refl h).at (ak _)
 have x1:cellsOf X h.next=some (o.c aC):=by subst hX;exact aq (by simp[aa.at])
 have xn:h.next<X.next:=by subst hX;simp[aa.at]
 have hX':=hX
 simp only[Ob.c] at hX' x1
 rw[<-hX']
 simp+decide only[sv,aBO,x1]
 refine ao (aiW (o:=o) (t:=aC) ok k.ai k.id (by have:=k.bf;omega) (by have:=k.ring;omega)) ?_
 unfold DE
 cases hm:eS o with
 |false=>
  simp+decide only[sv,aBN,aV]
  exact⟨rfl,xo.get⟩
 |true=>
  obtain⟨kk,hk,mY,UO⟩: ∃kk:UInt8,o.kind=kk.toNat/\1<=kk.toNat/\kk.toNat<=4:=by
   rcases y5 hm with h|h|h|h<;>rw[h]
   ·exact⟨1,rfl,by decide⟩
   ·exact⟨2,rfl,by decide⟩
   ·exact⟨3,rfl,by decide⟩
   ·exact⟨4,rfl,by decide⟩
  obtain⟨m1,m2,m3⟩:=IG hm
  have mW:=Bp m1
  have qY:=CZ (l:=o.ai)
  have w1:IntKind.wrap .u8 o.kind=kk.toNat:=by rw[hk,wrap_u8];unfold wG;simp;omega
  have x2: ∀k,cellsOf (X.clean k) h.next=some (o.c aC):=fun k=>by simp only[Ob.c];simp+decide only[sv,x1,xn]
  simp only[Ob.c] at x2
  simp+decide only[sv,EL]
  refine m6 ?_
  simp+decide only[sv,aBM,x1,xn,w1]
  refine dh (sy ok (b:=[1,kk]) (v:=o.id) (n:=8) k.id (by omega) (by simp)) (ba (ak _)) ?_
  simp+decide only[sv,x1,xn]
  refine dh (NF ok (b:=[1,kk]++be o.id 8) (l:=o.ai) (t':= .au) k.ai (by simp[bG])) (ba (ak _)) ?_
  simp+decide only[sv,xn]
  generalize hρ:put _ _ _=ρ1
  have r1:ρ1 1= .ptr h.next 0:=by rw[<-hρ];rfl
  obtain⟨B0,hB0⟩: ∃B0,B0=[1,kk]++be o.id 8++cE o.ai:=⟨_,rfl⟩
  have r4:ρ1 4= .vs (BS B0) .au:=by rw[<-hρ,hB0];rfl
  have ph:UInt8.ofNat o.kind.toNat=kk:=by rw[hk];simp
  have hhl:B0.length<=70:=by rw[hB0];simp only[cw,bG,cQ,fI];omega
  have fin: ∀{ρ:Env} {H:aa} {tl:List UInt8},Old h H->ρ 4= .vs (BS (B0++tl)) .au->mH o=tl->exec P Ye ρ H (iD (WP P .ret (um [.tmp 2, .tmp 3] (.aE [.vs (BS (eM o)) .au, .int .i64 0]) h)) (um [.tmp 2, .tmp 3] (.aE [.vs (BS (eM o)) .au, .int .i64 0]) h) .normal):=by
   intro ρ H tl ho h4 ht
   simp+decide only[sv,Ye,h4,aV]
   rw[show eM o=B0++tl by rw[hB0,<-ht,<-ph];rfl]
   exact⟨by simp only[AV.strip,AV.a8,iz],ho.get⟩
  simp+decide only[sv,aBL,x2,r1]
  by_cases h1:o.kind=1
  ·obtain⟨b1,b2,b3,b4,b5⟩:=zf hm h1
   obtain⟨q,hq⟩:=uD (show 0<=o.aP by omega)
   obtain⟨u,hu⟩:=uD (show 0<=o.used by omega)
   obtain⟨n,hn⟩:=uD (show 0<=o.next by omega)
   have w2:IntKind.wrap .u64 o.aP=q:=by rw[hq];exact eo (by omega)
   have w3:IntKind.wrap .u64 o.used=u:=by rw[hu];exact eo (by omega)
   have w4:IntKind.wrap .u64 o.next=n:=by rw[hn];exact eo (by omega)
   simp+decide only[sv,Lg,aBK,x2,r1,h1,xr]
   refine Iu ?_
   simp+decide only[sv,aBJ,aBI,aBH,anO,r4,w2]
   refine ao (sy ok (v:=q) (n:=2) (by omega) (by omega) (by omega)) ?_
   simp+decide only[sv,xr]
   refine Iu ?_
   simp+decide only[sv,r4,w3,xr]
   refine ao (sy ok (b:=B0++be q 2) (v:=u) (n:=2) (by omega) (by omega) (by simp[bG];omega)) ?_
   simp+decide only[sv,xr]
   refine Iu ?_
   simp+decide only[sv,r4,w4,xr]
   refine ao (sy ok (b:=B0++be q 2++be u 2) (v:=n) (n:=2) (by omega) (by omega) (by simp[bG];omega)) ?_
   simp+decide only[sv,xr]
   refine Iu ?_
   simp+decide only[sv,xr]
   refine fin (tl:=mH o) ?_ ?_ rfl
   ·exact xo.clean
   ·unfold mH
    rw[ax h1,hq,hu,hn]
    show AV.vs (BS (B0++be q 2++be u 2++be n 2)) .au=_
    simp
  by_cases h2:o.kind=2
  ·have hd:=qy hm h2
   simp+decide only[sv,Lg,Pg,anN,x2,r1,r4,h2]
   refine ao (Vw ok (by omega) (by omega)) ?_
   simp+decide only[sv,EL]
   refine fin (tl:=mH o) xo.clean ?_ rfl
   unfold mH
   rw[aj h1,ax h2];rfl
  by_cases h3:o.kind=3
  ·simp+decide only[sv,Lg,Pg,Yf,anM,x2,r1,r4,h3]
   refine ao (aHY ok k.cat (by have:=k.bf;omega) (by omega)) ?_
   simp+decide only[sv,EL]
   refine fin (tl:=mH o) xo.clean ?_ rfl
   unfold mH
   rw[aj h1,aj h2,ax h3];rfl
  have h4:o.kind=4:=by omega
  have hr:=xj (xg hm h4)
  simp+decide only[sv,Lg,Pg,Yf,anL,x2,r1,r4,h4]
  refine ao (aG8 ok (fun x hx=>by grind) (by omega) (by omega)) ?_
  simp+decide only[sv,EL]
  refine fin (tl:=mH o) xo.clean ?_ rfl
  unfold mH
  rw[aj h1,aj h2,aj h3];rfl
def aOY {b:List UInt8}:List.take (b.length-n) (BS (b.drop n))=BS (b.drop n):=bX (by rw[aY,oI];omega)
def Tf (ok:aA P tb) {b:List UInt8} (hg:cellsOf h rb=some (.vs (BS b) .au::os)) (hn:n<=8) (hl:n<=b.length) (hb:b.length<2^20):
 al P 208 [.ptr rb 0, .int .i64 n] h (.aE [.int .u64 (de (b.take n)), .int .i64 0]) (h.set rb (some (.cells (.vs (BS (b.drop n)) .au::os)))):=by
 refine ok.gO agA ?_
 have ht:=E5 ok (b:=b) (t:= .au) (n:=n) (h:=h) hn (by omega)
 rw[aj (by omega)] at ht
 have k2:bQ 1 (BS b)=true:=iM
 simp+decide only[sv,agA,aqp,aqo,hg]
 refine ao ht ?_
 simp+decide only[sv,aqn,aqm,aql,aqk,hg,aY,hl,k2,vw,aOY,xr]
structure iL (rb:Nat) (h h':aa) (cs:List AV):Prop where
 cell:cellsOf h' rb=some cs
 next:h.next<=h'.next
 old: ∀x,x<h.next->x≠rb->h'.get x=h.get x
def iL.set:iL rb h (h.set rb (some (.cells cs))) cs:=⟨aq (by simp[aa.set]),ak _,fun x _ hx=>by simp[aa.set,hx]⟩
def iL.trans (a:iL rb h h1 cs) (b:iL rb h1 h2 ds):iL rb h h2 ds:=⟨b.cell,fm a.next b.next,fun x h1 h2=>by rw[b.old x (bJ h1 a.next) h2,a.old x h1 h2]⟩
def iL.clean (a:iL rb h h1 cs) (hr:rb<h.next):iL rb h (h1.clean n) cs:=⟨by have:=a.cell;have:=a.next;simp+decide only[sv,a.cell,show rb<h1.next by omega],fm a.next (by simp[aa.clean]),fun x h1 h2=>by have:=a.next;simp only[aa.clean];rw[ax (by omega)];exact a.old x h1 h2⟩
def jH (a b c d:aL):Nat->aL:=fun i=>if i=0 then a else if i=4 then b else if i=5 then c else if i=6 then d else .full
def aNP (ok:aA P tb) {id:Nat} (hg:cellsOf h rb=some (.vs (BS ([1,k]++be id 8++cE l++r)) .au::bz.c (jH .full .full .full .full)))
 (aM:id<2^64) (hk:1<=k.toNat/\k.toNat<=4) (hm:dF l=true) (hl:l.ok) (hr:r.length<2^18):
 ∃h',al P 156 [.ptr rb 0] h (.int .i64 0) h'/\iL rb h h' (.vs (BS r) .au::Ob.c {bz with id:=id,kind:=k.toNat,ai:=l} (jH .au .full .full .full)):=by
 refine ok.dr ag4 ?_
 have mW:=Bp hm
 have qY:=CZ (l:=l)
 have hlen:([1,k]++be id 8++cE l++r).length=12+3*l.ps.length+r.length:=by simp[bG,qY];omega
 generalize CM:[1,k]++be id 8++cE l++r=b0 at hg hlen
 have e0:b0=1::(k::(be id 8++(cE l++r))):=by grind
 simp+decide only[sv,ag4,asZ,asY,asX,asW]
 refine ao (Tf ok hg (n:=1) (by omega) (by omega) (by omega)) ?_
 have d1:de (b0.take 1)=1:=by rw[e0];rfl
 have d2:b0.drop 1=k::(be id 8++(cE l++r)):=by rw[e0];rfl
 simp+decide only[sv,asV,asU,asT,d1,d2]
 refine ao (Tf ok (rb:=rb) (b:=k::(be id 8++(cE l++r))) (os:=bz.c (jH .full .full .full .full)) (aq (by simp[aa.set])) (n:=1) (by omega) (by simp) (by grind)) ?_
 have d3:de [k]=k.toNat:=de1
 have w1:IntKind.wrap .i64 (k.toNat:Int)=k.toNat:=bj (by omega) (by omega)
 have k1: ¬((k.toNat:Int)<1):=by omega
 have k4: ¬((4:Int)<k.toNat):=by omega
 simp+decide only[sv,asS,alN,alM,alL,d3,w1,k1,k4,bz,Ob.c,jH,qV,xr]
 refine ao (Tf ok (rb:=rb) (b:=be id 8++(cE l++r)) (os:=Ob.c {bz with kind:=k.toNat} (jH .full .full .full .full)) (aq (by simp[aa.set];rfl)) (n:=8) (by omega) (by simp[bG]) (by grind)) ?_
 rw[vi bG,zi bG,Dd (by omega)]
 simp+decide only[sv,alK,alJ,bz,Ob.c,jH,qV,xr]
 refine ao (aGp ok (b:=cE l++r) (t:= .au) (by grind)) ?_
 rw[aIj hm hl.ps]
 have k2:bQ 1 (BS (cE l++r))=true:=iM
 have k3:(BS (cE l++r)).drop (cE l).length=BS r:=by rw[vw,zi rfl]
 have k5:(cE l).length<=(cE l++r).length:=by simp
 have k6:List.take ((cE l++r).length-(cE l).length) (BS r)=BS r:=bX (by simp[aY])
 simp+decide only[sv,alI,alH,alG,acZ,Lb.c,xr,aY,k2,k3,k5,k6]
 exact⟨rfl,iL.set⟩
def A8 (q u n:Nat) (o:Ob):Nat->List UInt8×Ob
 |0=>([],{o with aP:=q,used:=u,next:=n})
 |1=>(be n 2,{o with aP:=q,used:=u})
 |2=>(be u 2++be n 2,{o with aP:=q})
 |_=>(be q 2++(be u 2++be n 2),o)
def bxP (rb:Nat):Nat->List (List AV)
 |0=>[]
 |1=>[[.ptr rb 10]]
 |2=>[[.ptr rb 9],[.ptr rb 10]]
 |_=>[[.ptr rb 8],[.ptr rb 9],[.ptr rb 10]]
def aO9 (ok:aA P tb) {o:Ob} {t:Nat->aL} (hg:cellsOf h rb=some (.vs (BS (be q 2++(be u 2++be n 2))) .au::o.c t)) (UC:rb<h.next) (hq:q<2^16) (hu:u<2^16) (hn:n<2^16):
 ∃h',al P 210 [.ptr rb 0] h (.int .i64 0) h'/\iL rb h h' (.vs (BS []) .au::Ob.c {o with aP:=q,used:=u,next:=n} t):=by
 refine ok.dr agy ?_
 have w1:IntKind.wrap .i64 (q:Int)=q:=bj (by omega) (by omega)
 have w2:IntKind.wrap .i64 (u:Int)=u:=bj (by omega) (by omega)
 have w3:IntKind.wrap .i64 (n:Int)=n:=bj (by omega) (by omega)
 simp+decide only[sv,agy,ap8]
 let J:Nat->Env->aa->Prop:=fun m ρ H=>m<=3/\ρ 0= .ptr rb 0/\(∃t',ρ 3= .vs (bxP rb m) t')/\iL rb h H (.vs (BS (A8 q u n o m).1) .au::(A8 q u n o m).2.c t)
 refine ry 0 rfl rfl J (fun l' ρ h hk=>hk) ?_ ?_
 ·simp+decide only[sv,pE,List.foldr]
  refine bq 14 rfl rfl ?_
  simp+decide only[sv,ap7,xr]
  exact⟨3,ak _,rfl,⟨_,rfl⟩,iL.clean ⟨hg,ak _,fun _ _ _=>rfl⟩ UC⟩
 have step: ∀{x:Nat} {bs:List UInt8} {rest:List (List AV)} {off:Nat} {t':aL} {ρ:Env} {H:aa} {cs ds:List AV} {K:cC->Env->aa->Prop},x<2^16->ρ 0= .ptr rb 0->ρ 3= .vs ([.ptr rb (off+1)]::rest) t'->bQ 1 rest=true->iL rb h H (.vs (BS (be x 2++bs)) .au::cs)->bs.length<2^10->off+1<=cs.length->List.take off cs++[.int .i64 x]++List.drop (off+1) cs=ds->
  (∀ρ' H',ρ' 0= .ptr rb 0->(∃t',ρ' 3= .vs rest t')->iL rb h H' (.vs (BS bs) .au::ds)->K (.goto 0) ρ' H')->WP P (.seq (.seq (.cA PC) (.cond (Am.t 21) (.seq (.cA Z3) .ret) .skip)) (.seq (.cA ZZ) (.seq (.seq (.cA ZY) (.cond (Am.t 28) (.seq (.cA ap6) .ret) .skip)) (.seq (.jG ZX [[],[],[],[],[],[],[],[],[],[]]) (.goto 0))))) K ρ H:=by
  intro x bs rest off t' ρ H cs ds K hx r0 r3 hh ha AZ ji iF hK
  have hw:IntKind.wrap .i64 (x:Int)=x:=bj (by omega) (by omega)
  simp+decide only[sv,PC,ZZ,r0,r3,xr]
  refine ao (Tf ok ha.cell (n:=2) (by omega) (by simp[bG]) (by simp[bG];omega)) ?_
  rw[vi bG,zi bG,Dd (by omega)]
  simp+decide only[sv,ZY]
  refine bq 10 rfl rfl ?_
  have dB:=iL.clean (n:=10) (ha.trans (iL.set (cs:= .vs (BS bs) .au::cs))) UC
  have hc:=dB.cell
  have MO:bQ 1 ([.ptr rb (off+1)]::rest)=true:=rfl
  have k1:List.take (rest.length+1-1) rest=rest:=bX (by omega)
  have hle:off+1+1<=cs.length+1:=by omega
  have hrH:rb<H.next:=by have:=ha.next;omega
  simp+decide only[sv,ZX,r3,hc,hw,k1,hle,iF,xr]
  refine⟨fun j hj hn=>?_,?_⟩
  ·simp only[aa.set,aa.clean]
   grind
  refine hK _ _ r0 ⟨_,rfl⟩ (dB.trans iL.set)
 rintro m ρ H ⟨hm3,r0,⟨t',r3⟩,ha⟩
 match m,hm3 with
 |0,_=>
  simp+decide only[sv,PC,Z3,r3,bxP]
  exact⟨rfl,ha⟩
 |1,_=>exact step (rest:=[]) (off:=9) (bs:=[]) (cs:=(A8 q u n o 1).2.c t) (ds:=(A8 q u n o 0).2.c t) hn r0 r3 rfl (by simpa only[A8,fE] using ha) (by simp) (by simp[Ob.c]) rfl (fun ρ' H' h0 h3 h4=>⟨0,by omega,by omega,h0,h3,h4⟩)
 |2,_=>exact step (rest:=[[.ptr rb 10]]) (off:=8) (bs:=be n 2) (cs:=(A8 q u n o 2).2.c t) (ds:=(A8 q u n o 1).2.c t) hu r0 r3 rfl ha (by simp[bG]) (by simp[Ob.c]) rfl (fun ρ' H' h0 h3 h4=>⟨1,by omega,by omega,h0,h3,h4⟩)
 |3,_=>exact step (rest:=[[.ptr rb 9],[.ptr rb 10]]) (off:=7) (bs:=be u 2++be n 2) (cs:=(A8 q u n o 3).2.c t) (ds:=(A8 q u n o 2).2.c t) hq r0 r3 rfl ha (by simp[bG]) (by simp[Ob.c]) rfl (fun ρ' H' h0 h3 h4=>⟨2,by omega,by omega,h0,h3,h4⟩)
def mo (o:Ob):Ob:=if o.kind=1 then{o with data:=[],bf:=[],ring:=[],st:=qV} else if o.kind=2 then{bz with id:=o.id,kind:=o.kind,ai:=o.ai,data:=o.data} else if o.kind=3 then{bz with id:=o.id,kind:=o.kind,ai:=o.ai,bf:=o.bf} else{bz with id:=o.id,kind:=o.kind,ai:=o.ai,ring:=o.ring}
def aNO (ok:aA P tb) (k:HF o) (hm:eS o=true) (hg:cellsOf h rb=some (.vs (BS (mH o)) .au::Ob.c {bz with id:=o.id,kind:=o.kind,ai:=o.ai} (jH .au .full .full .full))) (UC:rb<h.next):
 ∃h',al P 157 [.ptr rb 0] h (.int .i64 0) h'/\ ∃t,iL rb h h' (.vs (BS []) .au::(mo o).c t):=by
 refine ok.dr D7 ?_
 simp only[Ob.c] at hg
 unfold mH at hg
 by_cases h1:o.kind=1
 ·obtain⟨b1,b2,b3,b4,b5⟩:=zf hm h1
  rw[ax h1] at hg
  obtain⟨h',hc,ha⟩:=aO9 ok (o:={bz with id:=o.id,kind:=o.kind,ai:=o.ai}) (t:=jH .au .full .full .full) (by rw[hg,eR];rfl) UC (show o.aP.toNat<2^16 by omega) (show o.used.toNat<2^16 by omega) (show o.next.toNat<2^16 by omega)
  simp+decide only[sv,D7,JJ,JI,JH,JG,asR,hg,h1]
  refine ao hc ?_
  simp+decide only[sv,D7]
  refine⟨rfl,jH .au .full .full .full,?_⟩
  have:mo o={bz with id:=o.id,kind:=o.kind,ai:=o.ai,aP:=o.aP.toNat,used:=o.used.toNat,next:=o.next.toNat}:=by
   unfold mo
   rw[ax h1,Int.toNat_of_nonneg (by omega),Int.toNat_of_nonneg (by omega),Int.toNat_of_nonneg (by omega)];rfl
  grind
 rw[aj h1] at hg
 by_cases h2:o.kind=2
 ·have hd:=qy hm h2
  rw[ax h2] at hg
  have e:mo o={bz with id:=o.id,kind:=o.kind,ai:=o.ai,data:=o.data}:=by unfold mo;grind
  have ht:=ahM ok (b:=cq o.data) (t:= .au) (h:=h) (by simp[cq,bG];omega)
  have hp:=ahP (s:=o.data) (r:=[]) (by omega)
  rw[fE] at hp
  rw[hp] at ht
  have k2:bQ 1 (BS (cq o.data))=true:=iM
  have k3:(BS (cq o.data)).drop (cq o.data).length=[]:=xZ (by rw[aY];omega)
  simp+decide only[sv,D7,JJ,JI,JH,JG,Qg,asQ,hg,h2]
  refine ao ht ?_
  simp+decide only[sv,ON,OM,hg,Ox,xr,k2,k3,aY,List.take_nil]
  refine⟨rfl,jH .au .au .full .full,?_⟩
  rw[e];exact iL.set
 rw[aj h2] at hg
 by_cases h3:o.kind=3
 ·have hc:=Fa hm h3
  have d9:=Fk hc
  rw[ax h3] at hg
  have e:mo o={bz with id:=o.id,kind:=o.kind,ai:=o.ai,bf:=o.bf}:=by unfold mo;grind
  have ht:=aGM ok (b:=nx o.bf) (t:= .au) (h:=h) (by rw[Iw];omega)
  have hp:=aF4 (l:=o.bf) (r:=[]) hc k.cat
  rw[fE] at hp
  rw[hp] at ht
  have k2:bQ 1 (BS (nx o.bf))=true:=iM
  have k3:(BS (nx o.bf)).drop (nx o.bf).length=[]:=xZ (by rw[aY];omega)
  simp+decide only[sv,D7,JJ,JI,JH,JG,Qg,aba,asP,hg,h3]
  refine ao ht ?_
  simp+decide only[sv,ON,OM,hg,Xm,xr,k2,k3,aY,List.take_nil]
  refine⟨rfl,jH .au .full .au .full,?_⟩
  rw[e];exact iL.set
 rw[aj h3] at hg
 have h4:o.kind=4:=by rcases y5 hm with h|h|h|h<;>first|omega|exact h
 have hr:=xg hm h4
 have jL:=xj hr
 have e:mo o={bz with id:=o.id,kind:=o.kind,ai:=o.ai,ring:=o.ring}:=by unfold mo;grind
 have hp:=aF3 (l:=o.ring) (r:=[]) hr (fun x hx=>by grind)
 rw[fE] at hp
 have AQ:(mf o.ring).length<2^20:=by
  have da: ∀(m:List (List UInt8)),(∀x∈m,x.length<=16)->(m.flatMap cq).length<=18*m.length:=by
   intro m
   induction m with
   |nil=>intro _;simp
   |cons c m ih=>
    intro hm
    have h1:=ih (fun x hx=>hm x (eH _ hx))
    have h2:=hm c (pY ..)
    simp only[jR,cw,cq,bG,cQ] at h1 ⊢;omega
  have:=da o.ring jL.2
  unfold mf
  rw[cw,bG];omega
 have ht:=aGh ok (b:=mf o.ring) (t:= .au) (h:=h) AQ
 rw[hp] at ht
 have k2:bQ 1 (BS (mf o.ring))=true:=iM
 have k3:(BS (mf o.ring)).drop (mf o.ring).length=[]:=xZ (by rw[aY];omega)
 simp+decide only[sv,D7,JJ,JI,JH,JG,Qg,aba,asO,hg,h4]
 refine ao ht ?_
 simp+decide only[sv,ON,OM,hg,Xl,xr,k2,k3,aY,List.take_nil]
 refine⟨rfl,jH .au .full .full .au,?_⟩
 rw[e];exact iL.set
def aGj (ok:aA P tb) {t:aL} (k:HF o) (hm:eS o=true) (hn:mo o=o):al P 98 [.vs (BS (eM o)) t] h (.aE [.agg (o.c aC), .int .i64 0]) h:=by
 refine al.au ?_
 rw[show AV.a8 [.vs (BS (eM o)) t]=[.vs (BS (eM o)) .au] by simp only[AV.a8,aJu]]
 refine ok.df (rf:=c98) rfl (bT rfl) (by simp only[AV.bD,AV.cG,sD];rfl) ?_
 simp+decide only[sv,c98,axc]
 refine V7 (Rw ?_)
 simp+decide only[sv,axb,axa]
 generalize hX:aa.at _ _ _=X
 have xo:Old h X:=by rw[<-hX];exact((Old.refl h).at (ak _)).at (by omega)
 have x0:cellsOf X h.next=some (bz.c (jH .full .full .full .full)):=by rw[<-hX];exact aq (by simp[aa.at];rfl)
 have x1:cellsOf X (h.next+1)=some (.vs (BS (eM o)) .au::bz.c (jH .full .full .full .full)):=by rw[<-hX];exact aq (by simp[aa.at];rfl)
 have xn:X.next=h.next+2:=by rw[<-hX];simp[aa.at]
 obtain⟨kk,hk,mY,UO⟩: ∃kk:UInt8,o.kind=kk.toNat/\1<=kk.toNat/\kk.toNat<=4:=by
  rcases y5 hm with h|h|h|h<;>rw[h]
  ·exact⟨1,rfl,by decide⟩
  ·exact⟨2,rfl,by decide⟩
  ·exact⟨3,rfl,by decide⟩
  ·exact⟨4,rfl,by decide⟩
 have ph:UInt8.ofNat o.kind.toNat=kk:=by rw[hk];simp
 have hpt:(mH o).length<2^18:=by
  unfold mH
  split
  ·simp[bG]
  split
  ·rename_i h2;have:=qy hm h2;simp[cq,bG];omega
  split
  ·rename_i h3;have:=Fk (Fa hm h3);rw[Iw];omega
  ·rename_i h1 h2 h3
   have h4:o.kind=4:=by omega
   have jL:=xj (xg hm h4)
   have da: ∀(m:List (List UInt8)),(∀x∈m,x.length<=16)->(m.flatMap cq).length<=18*m.length:=by
    intro m
    induction m with
    |nil=>intro _;simp
    |cons c m ih=>
     intro hm
     have h1:=ih (fun x hx=>hm x (eH _ hx))
     have h2:=hm c (pY ..)
     simp only[jR,cw,cq,bG,cQ] at h1 ⊢;omega
   have:=da o.ring jL.2
   unfold mf
   rw[cw,bG];omega
 obtain⟨H1,cN,a1⟩:=aNP ok (rb:=h.next+1) (h:=X) (r:=mH o) (id:=o.id) (k:=kk) (l:=o.ai) (by rw[x1];unfold eM;rw[ph]) k.id ⟨mY,UO⟩ (IG hm).1 k.ai hpt
 rw[<-hk] at a1
 refine ao cN ?_
 simp+decide only[sv,aw9,aw8]
 obtain⟨H2,cI,t2,a2⟩:=aNO ok k hm a1.cell (by have:=a1.next;omega)
 rw[hn] at a2
 refine ao cI ?_
 have a3:=a1.trans a2
 have c3:=a3.cell
 have z3:cellsOf H2 h.next=some (bz.c (jH .full .full .full .full)):=by rw[<-x0];unfold cellsOf;rw[a3.old _ (by omega) (by omega)]
 simp only[Ob.c] at c3 z3
 simp+decide only[sv,aw7,aw6,c3]
 refine ao (aiW (o:=o) (t:=t2) ok k.ai k.id (by have:=k.bf;omega) (by have:=k.ring;omega)) ?_
 rw[hm]
 simp+decide only[sv,aw5,c3,z3,xi,aV,bz,qV]
 refine⟨?_,fun b hb=>?_⟩
 ·show(AV.aE [.agg (o.c t2), .int .i64 0]).strip=_
  simp only[AV.strip,AV.a8,vj]
 ·rw[aj (by omega),a3.old _ (by omega) (by omega)]
  exact xo.get b hb
end
section
open Go
variable {P:Program} {h:aa} {bm bl:Nat} {fs:List Fr}
def lR (fs:List Fr) (f:Int):Option Nat:=if 0<=f then(match fs[f.toNat]? with|some x=>if x.taken then some f.toNat else none|none=>none) else none
def uo:Option Nat->Nat->AV
 |some i,bl=> .aE [.ptr bl (i*17), .int .i64 0]
 |none,_=> .aE [.nil, .int .i64 7]
def ai5 (ok:aA P tb) (M:ig h bm bl fs) (hb:bl<h.next) (f):al P 242 [.ptr bm 0, .int .i64 f] h (uo (lR fs f) bl) h:=by
 have h1:=M.top
 have h2:=M.row
 refine ok.keeps (rf:=HC) rfl (bT rfl) ?_ ?_
 ·unfold uo;split<;>simp[AV.bD,AV.cG,hb]
 have hc:=aq h1
 have cI:=aq h2
 by_cases h0:f<0
 ·have:lR fs f=none:=by simp[lR];omega
  rw[this]
  simp+decide only[st,HC,Jx,Jw,Jv,Ju,Jt,Js,uo,h0]
 ·obtain⟨n,rfl⟩:=uD (show 0<=f by omega)
  by_cases hn:n<fs.length
  ·have hf:fs[n]? =some fs[n]:=bn hn
   have ht:=M.taken hf
   have hle: ¬fs.length<=n:=by omega
   cases hk:fs[n].taken
   ·have:lR fs n=none:=by simp[lR,hf,hk]
    rw[this]
    rw[hk] at ht
    simp+decide only[st,HC,Jx,Jw,Jv,Ju,Jt,Js,uo,hc,cI,hn,hle,ht]
   ·have:lR fs n=some n:=by simp[lR,hf,hk]
    rw[this]
    rw[hk] at ht
    simp+decide only[st,HC,Jx,Jw,Jv,Ju,Jt,Js,uo,hc,cI,hn,hle,ht]
  ·have:lR fs n=none:=by simp[lR,GC (show fs.length<=n by omega)]
   rw[this]
   have hle:fs.length<=n:=by omega
   simp+decide only[st,HC,Jx,Jw,Jv,Ju,Jt,Js,uo,hc,hle]
def pX (fs:List Fr) (f off:Int):Option (Nat×Nat)×Int:=match lR fs f with
 |none=>(none,7)
 |some i=>if off<0\/16<=off then(none,11) else(some (i,off.toNat),0)
def xy (bl:Nat):Option (Nat×Nat)->AV
 |none=> .nil
 |some (i,j)=> .ptr bl (i*17+j)
def Wj (e:lR fs f=some i): ∃x,fs[i]? =some x/\x.taken=true/\f=i:=by
 unfold lR at e
 grind
def ajg (ok:aA P tb) (M:ig h bm bl fs) (hb:bl<h.next) (f off):
 al P 214 [.ptr bm 0, .int .i64 f, .int .i64 off] h (.aE [xy bl (pX fs f off).1, .int .i64 (pX fs f off).2]) h:=by
 have qp:=ai5 ok M hb f
 have hc:=aq M.top
 refine ok.keeps (rf:=TM) rfl (bT rfl) ?_ ?_
 ·unfold xy;split<;>simp[AV.bD,AV.cG,hb]
 unfold pX
 cases e:lR fs f with
 |none=>
  rw[e] at qp
  simp+decide only[st,TM,ZM,ZL,ZK,ZJ,ZI,ZH,ZG]
  refine ao qp ?_
  simp+decide only[st,uo,xy]
 |some i=>
  rw[e] at qp
  simp+decide only[st,TM,ZM,ZL,ZK,ZJ,ZI,ZH,ZG]
  refine ao qp ?_
  by_cases h0:off<0
  ·simp+decide only[st,uo,xy,h0,true_or]
  ·by_cases h1:16<=off
   ·simp+decide only[st,uo,xy,h0,h1,or_true]
   ·obtain⟨j,rfl⟩:=uD (show 0<=off by omega)
    have h2:(j:Int)<(16:Nat):=by omega
    simp+decide only[st,uo,xy,h0,h1,or_self,h2,Nat.mul_one]
def ig.byte (M:ig h bm bl fs) (hi:fs[i]? =some x) (hj:j<16):(fs.map Fr.enc).flatten[i*17+j]? =(x.b[j]?).map (.int .u8):=by
 have hx:=M.len x (iC hi)
 rw[zj M.rows (row:=x.enc) (by simp[hi]) (by omega)]
 simp[Fr.enc,Hm (show j<(x.b.map (AV.int .u8)).length by grind)]
def ais {e:Int} (hb:pX fs f off=(some (i,j),e)):e=0/\j<16/\f=i/\off=j/\ ∃x,fs[i]? =some x/\x.taken=true:=by
 unfold pX at hb
 split at hb
 ·cases hb
 ·rename_i k hk
  obtain⟨x,h1,h2,h3⟩:=Wj hk
  grind
def ait {e:Int} (hb:pX fs f off=(none,e)):e≠0:=by
 unfold pX at hb
 grind
def FG (fs:List Fr) (f off:Int):Int×Int:=match pX fs f off with
 |(none,e)=>(0,e)
 |(some (i,j),e)=>(((fs[i]?).bind fun x=>x.b[j]?).getD 0,e)
def aHn (ok:aA P tb) (M:ig h bm bl fs) (hb:bl<h.next) (f off):
 al P 160 [.ptr bm 0, .int .i64 f, .int .i64 off] h (.aE [.int .u8 (FG fs f off).1, .int .i64 (FG fs f off).2]) h:=by
 have AY:=ajg ok M hb f off
 have cI:=aq M.row
 refine ok.bA TX ?_
 unfold FG
 rcases hq:pX fs f off with⟨_|⟨i,j⟩,e⟩
 ·have he:=ait hq
  rw[hq] at AY
  simp+decide only[st,TX,aaW,aaV,aaU,aaT,aaS]
  refine ao AY ?_
  simp+decide only[st,xy,he]
 ·obtain⟨rfl,hj,rfl,rfl,x,hx,_⟩:=ais hq
  have tF:=M.len x (iC hx)
  have hcell:=M.byte hx hj
  rw[bn (show j<x.b.length by omega)] at hcell
  rw[hq] at AY
  simp+decide only[st,TX,aaW,aaV,aaU,aaT,aaS]
  refine ao AY ?_
  simp+decide only[st,xy,cI,hcell,hx,bn (show j<x.b.length by omega),iQ]
def jI (h:aa) (bl:Nat) (fs:List Fr):aa:=h.set bl (some (.cells (fs.map Fr.enc).flatten))
def ig.qe (M:ig h bm bl fs) (h1:gs.length=fs.length) (h2: ∀f∈gs,f.b.length=16):ig (jI h bl gs) bm bl gs where
 top:=by simp[jI,aa.set,M.ne,M.top,h1]
 row:=by simp[jI,aa.set]
 ne:=M.ne
 len:=h2
 small:=by rw[h1];exact M.small
def ig.same (M:ig h bm bl fs):jI h bl fs=h:=aa.jy M.row
def vv (fs:List Fr) (f off b:Int):List Fr:=match pX fs f off with
 |(none,_)=>fs
 |(some (i,j),_)=>match fs[i]? with
  |none=>fs
  |some x=>fs.set i {x with b:=x.b.set j b}
def ahQ {α:Type} {l:List α} {v:α} (hj:j<l.length):l.take j++[v]++l.drop (j+1)=l.set j v:=by
 rw[List.set_eq_take_append_cons_drop];simp[hj]
def aF6 (ok:aA P tb) (M:ig h bm bl fs) (hb:bl<h.next) (f off b):
 al P 165 [.ptr bm 0, .int .i64 f, .int .i64 off, .int .u8 b] h (.int .i64 (pX fs f off).2) (jI h bl (vv fs f off b)):=by
 have AY:=ajg ok M hb f off
 have cI:=aq M.row
 refine ok.gO TW ?_
 unfold vv
 rcases hq:pX fs f off with⟨_|⟨i,j⟩,e⟩
 ·have he:=ait hq
  rw[hq] at AY
  simp+decide only[st,TW,aaP,aaO,aaN,aaM,aaL]
  refine ao AY ?_
  simp+decide only[st,xy,he,M.same]
 ·obtain⟨rfl,hj,rfl,rfl,x,hx,_⟩:=ais hq
  have tF:=M.len x (iC hx)
  rw[hq] at AY
  have mP:=IM (v:=[AV.int .u8 b]) M.rows (i:=i) (j:=j) (row:=x.enc) (by simp[hx]) (by simp;omega)
  have hlen:=Fj M.rows
  have hi:=(List.getElem?_eq_some_iff.1 hx).1
  have hle:i*17+j+1<=(fs.map Fr.enc).flatten.length:=by grind
  have cS:x.enc.take j++[AV.int .u8 b]++x.enc.drop (j+1)=Fr.enc {x with b:=x.b.set j b}:=by
   rw[ahQ (by rw[Fr.IX tF];omega)]
   simp[Fr.enc,tF,hj]
  simp only[qH] at mP
  rw[cS] at mP
  simp+decide only[st,TW,aaP,aaO,aaN,aaM,aaL]
  refine ao AY ?_
  simp only[List.map_set,hx,jI]
  rw[<-mP]
  simp+decide only[st,xy,cI,hle,eR]
def m8 (fs:List Fr) (f:Int):List Fr:=match lR fs f with
 |none=>fs
 |some i=>match fs[i]? with
  |none=>fs
  |some x=>fs.set i {x with taken:=false}
def aHL (ok:aA P tb) (M:ig h bm bl fs) (hb:bl<h.next) (f):
 al P 252 [.ptr bm 0, .int .i64 f] h (.int .i64 (if(lR fs f).isSome then 0 else 7)) (jI h bl (m8 fs f)):=by
 have qp:=ai5 ok M hb f
 have cI:=aq M.row
 refine ok.gO TG ?_
 unfold m8
 cases e:lR fs f with
 |none=>
  rw[e] at qp
  simp+decide only[st,TG,YJ,YI,YH,YG,YF]
  refine ao qp ?_
  simp+decide only[st,uo,M.same]
 |some i=>
  obtain⟨x,hx,_,rfl⟩:=Wj e
  have tF:=M.len x (iC hx)
  rw[e] at qp
  have mP:=IM (v:=[AV.bool false]) M.rows (i:=i) (j:=16) (row:=x.enc) (by simp[hx]) (by simp)
  have hlen:=Fj M.rows
  have hi:=(List.getElem?_eq_some_iff.1 hx).1
  have hle:i*17+16+1<=(fs.map Fr.enc).flatten.length:=by grind
  have cS:x.enc.take 16++[AV.bool false]++x.enc.drop (16+1)=Fr.enc {x with taken:=false}:=by
   rw[ahQ (by rw[Fr.IX tF];omega)]
   simp[Fr.enc,tF]
  simp only[qH] at mP
  rw[cS] at mP
  simp+decide only[st,TG,YJ,YI,YH,YG,YF]
  refine ao qp ?_
  simp only[List.map_set,hx,jI]
  rw[<-mP]
  simp+decide only[st,uo,cI,hle,eR,Option.isSome]
def tV (fs:List Fr):Option Nat:=fs.findIdx? fun f=>!f.taken
def lG (fs:List Fr):List Fr:=match tV fs with
 |none=>fs
 |some i=>fs.set i ⟨List.replicate 16 0,true⟩
def aIK (ok:aA P tb) (M:ig h bm bl fs):al P 215 [.ptr bm 0] h (.int .i64 fs.length) h:=by
 have hc:=aq M.top
 refine ok.bA agx ?_
 simp+decide only[st,agx,apW,apV,apU,apT,hc]
def aG4 (ok:aA P tb) (M:ig h bm bl fs):
 al P 164 [.ptr bm 0] h (match tV fs with|some i=> .aE [.int .i64 i, .int .i64 0]|none=> .aE [.int .i64 0, .int .i64 9]) (jI h bl (lG fs)):=by
 have hc:=aq M.top
 have cI:=aq M.row
 have Eo:=M.small
 refine ok.gO ag0 ?_
 simp+decide only[st,ag0,asA,asz,asy,asx,asw,asv,asu,ast,ass,asr,alE,hc]
 let I:Nat->Env->aa->Prop:=fun n ρ h'=>h'=h/\ ∃i:Nat,fs.length=i+n/\ρ 0= .ptr bm 0/\ρ 11= .int .i64 fs.length/\ρ 12= .int .i64 i/\ ∀j,j<i-> ∀x,fs[j]? =some x->x.taken=true
 refine dv I ?_ fs.length ⟨rfl,0,by omega,rfl,rfl,rfl,fun j hj=>by omega⟩
 rintro n ρ h' ⟨rfl,i,aN,r0,gd,iI,mv⟩
 by_cases hi:i<fs.length
 ·have hx:fs[i]? =some fs[i]:=bn hi
  have hcell:=M.taken hx
  have tF:=M.len _ (iC hx)
  cases wN:fs[i].taken
  ·have hl:tV fs=some i:=by
    unfold tV
    rw[List.findIdx?_eq_some_iff_getElem]
    grind
   rw[wN] at hcell
   have mP:=IM (v:=Fr.enc ⟨List.replicate 16 0,true⟩) M.rows (i:=i) (j:=0) (row:=fs[i].enc) (by simp[hx]) (by simp[Fr.enc])
   have hlen:=Fj M.rows
   have hle:i*17+17<=(fs.map Fr.enc).flatten.length:=by grind
   have cS:fs[i].enc.take 0++Fr.enc ⟨List.replicate 16 0,true⟩++fs[i].enc.drop (0+(Fr.enc ⟨List.replicate 16 0,true⟩).length)=Fr.enc ⟨List.replicate 16 0,true⟩:=by
    rw[xZ (by rw[Fr.IX tF];simp[Fr.enc])];simp
   rw[cS] at mP
   simp only[Fr.enc,List.replicate,List.map,Gw,kF,List.length,qG,Nat.reduceAdd] at mP
   simp+decide only[st,r0,gd,iI,hi,hc,cI,hcell,hl,hle,Nat.reduceAdd]
   simp only[lG,hl,jI,List.map_set,Fr.enc,List.replicate,List.map,Gw,kF]
   rw[<-mP]
  ·rw[wN] at hcell
   have hw:IntKind.wrap .i64 ((i:Int)+1)=((i+1:Nat):Int):=by rw[bj]<;>omega
   simp+decide only[st,r0,gd,iI,hi,hc,cI,hcell,hw]
   refine⟨n-1,by omega,rfl,i+1,by omega,?_,?_,?_,fun j hj x hjx=>?_⟩
   ·simp+decide only[st,r0]
   ·simp+decide only[st,gd]
   ·simp+decide only[st]
   grind
 ·have dN:i=fs.length:=by omega
  have hl:tV fs=none:=by
   unfold tV
   rw[List.findIdx?_eq_none_iff]
   intro x hx
   obtain⟨j,hj⟩:=List.mem_iff_getElem?.1 hx
   grind
  simp+decide only[st,gd,iI,hi,hl]
  simp only[lG,hl,M.same]
def aK6 (ok:aA P tb) (M:ig h bm bl fs) (aS:bm<h.next/\bl<h.next):al P 216 [.ptr bm 0] h (.int .i64 (eX fs)) h:=aG1 ok rfl M aS
def Cc (n:Int):Nat:=(max 0 (min n 512)).toNat
def aIC (ok:aA P tb) (n):al P 162 [.int .i64 n] h (.ptr (h.next+1) 0)
 ((h.at h.next (.cells (List.replicate (Cc n) (Fr.enc ⟨List.replicate 16 0,false⟩)).flatten)).at (h.next+1) (.cells [.rs h.next 0 (Cc n) 17])):=by
 refine ok.gO ag2 ?_
 have hm:qA 17 (.int .i64 (max 0 (min n 512))) (.int .i64 (max 0 (min n 512)))=some (Cc n):=by
  unfold qA Cc
  grind
 simp+decide only[st,ag2,asG,asF,hm,Nat.reduceAdd]
 simp[Fr.enc,List.replicate]
def F0:Fr:=⟨List.replicate 16 0,false⟩
def aLp (ok:aA P tb) (h) (n): ∃bm bl h',al P 162 [.int .i64 n] h (.ptr bm 0) h'/\ig h' bm bl (List.replicate (Cc n) F0)/\h.next<=bm/\h.next<=bl/\bm<h'.next/\bl<h'.next/\h.next<=h'.next/\ ∀b,b<h.next->h'.get b=h.get b:=by
 refine⟨h.next+1,h.next,_,aIC ok n,⟨?_,?_,?_,?_,?_⟩,by omega,by omega,?_,?_,?_,?_⟩
 ·simp[aa.at]
 ·simp[aa.at,F0]
 ·omega
 ·intro f hf;simp[List.mem_replicate] at hf;simp[hf.2,F0]
 ·simp[Cc];omega
 ·simp[aa.at]
 ·simp[aa.at];omega
 ·simp[aa.at];omega
 ·intro b hb;simp[aa.at,show b≠h.next by omega,show b≠h.next+1 by omega]
def V2:(lG fs).length=fs.length:=by unfold lG;split<;>simp
def WD (hl: ∀f∈fs,f.b.length=16): ∀f∈lG fs,f.b.length=16:=by
 unfold lG
 grind
def air {b:Int}:(vv fs f off b).length=fs.length:=by unfold vv;grind
def ajH {b:Int} (hl: ∀f∈fs,f.b.length=16): ∀x∈vv fs f off b,x.b.length=16:=by
 unfold vv
 grind
def V3:(m8 fs f).length=fs.length:=by unfold m8;grind
def WE (hl: ∀f∈fs,f.b.length=16): ∀x∈m8 fs f,x.b.length=16:=by
 unfold m8
 grind
def ig.take (M:ig h bm bl fs):ig (jI h bl (lG fs)) bm bl (lG fs):=M.qe V2 (WD M.len)
def ig.store (M:ig h bm bl fs) (f off b):ig (jI h bl (vv fs f off b)) bm bl (vv fs f off b):=M.qe air (ajH M.len)
def ig.free (M:ig h bm bl fs) (f):ig (jI h bl (m8 fs f)) bm bl (m8 fs f):=M.qe V3 (WE M.len)
end
section
open Go
structure Tb where
 l:List Nat
 n:Nat
def fc (l:List Nat):List (List AV):=l.map fun(f:Nat)=>[AV.int .i64 f]
def Tb.enc (t:Tb):AV:= .agg [.vs (fc t.l) .au, .int .i64 t.n]
def A9:AV:= .agg [.vs [] .au, .int .i64 0]
abbrev mw:=List (Int×Tb)
def sA (ts:mw):List (AV×AV):=ts.map fun e=>(.int .u64 e.1,e.2.enc)
def gJ (ts:mw) (id:Int):Option Tb:=(ts.find? fun e=>id==e.1).map (·.2)
def yl (ts:mw) (id:Int):Option Nat:=ts.findIdx? fun e=>id==e.1
theorem NL {id:Int}: ∀(ts:mw) (i:Nat),rM (.int .u64 id) (sA ts) i=some ((yl ts id).map (· +i))
 |[],i=>rfl
 |e::ts,i=>by
  have ih:=NL (id:=id) ts (i+1)
  simp only[sA,eG,rM,dP,yl,List.findIdx?_cons] at ih ⊢
  by_cases h:(id==e.1)=true
  ·simp[h]
  ·have h':(id==e.1)=false:=by simpa using h
   simp only[h',fj,nj]
   rw[ih]
   simp only[Option.map_map]
   congr 2
   grind
def VJ {id:Int}:Bw (.int .u64 id) (sA ts)=some ((gJ ts id).map Tb.enc):=by
 unfold Bw
 rw[NL]
 simp only[iB,Option.some.injEq]
 unfold yl gJ
 induction ts with
 |nil=>rfl
 |cons e ts ih=>
  simp only[List.findIdx?_cons,List.find?_cons]
  by_cases h:(id==e.1)=true
  ·simp[h,sA]
  ·have h':(id==e.1)=false:=by simpa using h
   simp only[h',fj,nj]
   rw[<-ih]
   cases ts.findIdx? (fun e=>id==e.1)<;>simp[sA]
structure fu (h:aa) (bs bm bl bp:Nat) (fs:List Fr) (ts:mw):Prop where
 top:h.get bs=some (.cells [.ptr bm 0, .map (some bp)])
 mem:ig h bm bl fs
 map:h.get bp=some (.map (sA ts))
 n1:bs≠bm
 n2:bs≠bl
 n3:bs≠bp
 n4:bp≠bm
 n5:bp≠bl
 l1:bs<h.next
 l2:bm<h.next
 l3:bl<h.next
 l4:bp<h.next
 tn: ∀e∈ts,e.2.n<=64/\e.2.l.length=(e.2.n+15)/16
variable {P:Program} {h:aa} {bs bm bl bp:Nat} {fs:List Fr} {ts:mw}
def fu.look (S:fu h bs bm bl bp fs ts) (id) (h') (hh:h'.get bp=h.get bp):sB (.agg [.vs [] .full, .int .i64 0]) true h' (.map (some bp)) (.int .u64 id)=
 some (match gJ ts id with|some t=> .aE [t.enc, .bool true]|none=> .aE [.agg [.vs [] .full, .int .i64 0], .bool false]):=by
 unfold sB
 simp only[hh,S.map,VJ,iB]
 grind
def v7:Option Tb->AV
 |some t=> .aE [t.enc, .int .i64 0]
 |none=> .aE [A9, .int .i64 7]
theorem NJ: ∀(l:List Nat),AV.fU (fc l)=fc l
 |[]=>rfl
 |x::xs=>by
  have:=NJ xs
  simp only[fc,eG,AV.fU,AV.a8,AV.strip] at this ⊢
  rw[this]
theorem ajF {p:Nat->Bool}: ∀(l:List Nat),AV.kW p (fc l)=true
 |[]=>rfl
 |x::xs=>by
  have:=ajF (p:=p) xs
  simp only[fc,eG,AV.kW,AV.cG,AV.bD,Dw,zR] at this ⊢
  exact this
def Tb.akE {p:Nat->Bool} {t:Tb}:t.enc.bD p=true:=by simp only[Tb.enc,AV.bD,AV.cG,ajF,BX]
def aHe {p:Nat->Bool}:(v7 o).bD p=true:=by
 cases o
 ·rfl
 ·simp only[v7,AV.bD,AV.cG,Tb.akE,BX]
def Ww (ok:aA P tb) (S:fu h bs bm bl bp fs ts) (id):al P 158 [.ptr bs 0, .int .u64 id] h (v7 (gJ ts id)) h:=by
 have hc:=aq S.top
 have hk:=fun h' hh=>S.look id h' hh
 have l1:=S.l1
 have l4:=S.l4
 have n1: ¬bs=h.next:=by omega
 have n4: ¬bp=h.next:=by omega
 have aT: ∀b,b<h.next-> ¬b=h.next:=fun b hb=>by omega
 have Cs: ∀b,b<h.next-> ¬b=h.next+1:=fun b hb=>by omega
 have e1: ¬h.next=h.next+1:=by omega
 have e2: ¬h.next+1=h.next:=by omega
 refine ok.df (rf:=TZ) rfl (bT rfl) aHe ?_
 cases fg:gJ ts id with
 |none=>
  simp only[fg] at hk
  simp+decide only[st,TZ,aa9,aa8,aa7,aa6,aa5,aa4,aa3,hc,n1,n4,hk,e1,e2,aV,AV.strip,AV.a8,AV.fU,v7,A9]
  grind
 |some t=>
  simp only[fg] at hk
  have sE:t.enc.cells=[.vs (fc t.l) .au, .int .i64 t.n]:=rfl
  have UY:AV.agg [.vs (fc t.l) .au, .int .i64 t.n]=t.enc:=rfl
  simp+decide only[st,TZ,aa9,aa8,aa7,aa6,aa5,aa4,aa3,hc,n1,n4,hk,e1,e2,aV,AV.strip,AV.a8,NJ,v7,Tb.enc]
  grind
def NN {id:Int} {t:Tb} (e:gJ ts id=some t): ∃x∈ts,x.1=id/\x.2=t:=by
 unfold gJ at e
 obtain⟨x,h1,h2⟩:=Option.map_eq_some_iff.1 e
 grind
def fu.small (S:fu h bs bm bl bp fs ts) {id:Int} {t:Tb} (e:gJ ts id=some t):t.n<=64:=by
 obtain⟨x,h1,_,rfl⟩:=NN e
 exact(S.tn x h1).1
def fu.afe (S:fu h bs bm bl bp fs ts) {id:Int} {t:Tb} (e:gJ ts id=some t):t.l.length=(t.n+15)/16:=by
 obtain⟨x,h1,_,rfl⟩:=NN e
 exact(S.tn x h1).2
def lq (ts:mw) (id off n:Int):Option Tb×Int:=match gJ ts id with
 |none=>(none,7)
 |some t=>if off<0\/n<0\/(t.n:Int)<off\/(t.n:Int)-off<n then(none,11) else(some t,0)
def Aw:Option Tb->AV
 |none=>A9
 |some t=>t.enc
def aJL {p:Nat->Bool}:(Aw o).bD p=true:=by
 cases o
 ·rfl
 ·exact Tb.akE
def Nm (ok:aA P tb) (S:fu h bs bm bl bp fs ts) (id off n):al P 159 [.ptr bs 0, .int .u64 id, .int .i64 off, .int .i64 n] h (.aE [Aw (lq ts id off n).1, .int .i64 (lq ts id off n).2]) h:=by
 have rY:=fun h' (S':fu h' bs bm bl bp fs ts)=>Ww ok S' id
 have aT: ∀b,b<h.next-> ¬b=h.next:=fun b hb=>by omega
 have Cs: ∀b,b<h.next-> ¬b=h.next+1:=fun b hb=>by omega
 have e1: ¬h.next=h.next+1:=by omega
 have e2: ¬h.next+1=h.next:=by omega
 have S1:fu (h.at h.next (.cells [.vs [] .full, .int .i64 0])) bs bm bl bp fs ts:=
  {S with top:=by rw[aa.QH,aj (aT _ S.l1)];exact S.top
          mem:={S.mem with top:=by rw[aa.QH,aj (aT _ S.l2)];exact S.mem.top,row:=by rw[aa.QH,aj (aT _ S.l3)];exact S.mem.row}
          map:=by rw[aa.QH,aj (aT _ S.l4)];exact S.map
          l1:=by rw[aa.OS];have:=S.l1;omega
          l2:=by rw[aa.OS];have:=S.l2;omega
          l3:=by rw[aa.OS];have:=S.l3;omega
          l4:=by rw[aa.OS];have:=S.l4;omega}
 refine ok.df (rf:=TY) rfl (bT rfl) (by simp only[AV.bD,AV.cG,aJL,BX]) ?_
 unfold lq
 cases fg:gJ ts id with
 |none=>
  simp only[fg,v7] at rY
  simp+decide only[st,TY,aa2,aa1,aa0,aaZ,Ge,aaY,aaX]
  refine ao (rY _ S1) ?_
  simp+decide only[st,e1,e2,A9,aV,AV.strip,AV.a8,AV.fU,Aw]
  grind
 |some t=>
  have Eo:=S.small fg
  simp only[fg,v7] at rY
  have sE:t.enc.cells=[.vs (fc t.l) .au, .int .i64 t.n]:=rfl
  simp+decide only[st,TY,aa2,aa1,aa0,aaZ,aaY,aaX]
  refine ao (rY _ S1) ?_
  simp+decide only[st,e2,sE]
  refine IP (Q:=fun ρ'=>ρ' 8= .ptr h.next 0/\ρ' 10= .ptr (h.next+1) 0/\ρ' 23= .bool (decide (off<0\/n<0\/(t.n:Int)<off\/(t.n:Int)-off<n))) ?_ ?_
  ·by_cases h1:off<0
   ·simp+decide only[st,Ge,h1,true_or]
   ·by_cases h2:n<0
    ·simp+decide only[st,Ge,h1,h2,true_or,or_true]
    ·by_cases h3:(t.n:Int)<off
     ·simp+decide only[st,Ge,e2,h1,h2,h3,true_or,or_true]
     ·have AF:IntKind.wrap .i64 ((t.n:Int)-off)=(t.n:Int)-off:=bj (by omega) (by omega)
      simp+decide only[st,Ge,e2,h1,h2,h3,false_or,AF]
  ·rintro ρ' ⟨q8,q10,Ul⟩
   by_cases hc:off<0\/n<0\/(t.n:Int)<off\/(t.n:Int)-off<n
   ·simp+decide only[st,q8,Ul,hc,e1,A9,aV,AV.strip,AV.a8,AV.fU,Aw]
    grind
   ·simp+decide only[st,q8,q10,Ul,hc,e1,e2,aV,AV.strip,AV.a8,NJ,Aw,Tb.enc]
    grind
def aHp (ok:aA P tb) (S:fu h bs bm bl bp fs ts) (id):al P 99 [.ptr bs 0, .int .u64 id] h (match gJ ts id with|some t=> .aE [.int .i64 t.n, .int .i64 0]|none=> .aE [.int .i64 0, .int .i64 7]) h:=by
 have rY:=Ww ok S id
 have aT: ∀b,b<h.next-> ¬b=h.next:=fun b hb=>by omega
 refine ok.keeps (rf:=Vf) rfl (bT rfl) (by split<;>rfl) ?_
 cases fg:gJ ts id with
 |none=>
  simp only[fg,v7] at rY
  simp+decide only[st,Vf,adh,adg,adf]
  refine ao rY ?_
  simp+decide only[st,A9]
  grind
 |some t=>
  simp only[fg,v7] at rY
  have sE:t.enc.cells=[.vs (fc t.l) .au, .int .i64 t.n]:=rfl
  simp+decide only[st,Vf,adh,adg,adf]
  refine ao rY ?_
  simp+decide only[st,sE]
  grind
def fu.clean (S:fu h bs bm bl bp fs ts) (n):fu (h.clean n) bs bm bl bp fs ts:=
 {S with top:=by simp only[aa.clean];rw[ax S.l1];exact S.top
         mem:={S.mem with top:=by simp only[aa.clean];rw[ax S.l2];exact S.mem.top,row:=by simp only[aa.clean];rw[ax S.l3];exact S.mem.row}
         map:=by simp only[aa.clean];rw[ax S.l4];exact S.map
         l1:=bJ S.l1 (Nat.le_add_right _ _)
         l2:=bJ S.l2 (Nat.le_add_right _ _)
         l3:=bJ S.l3 (Nat.le_add_right _ _)
         l4:=bJ S.l4 (Nat.le_add_right _ _)}
def aK7:eX fs<=fs.length:=List.countP_le_length
def aFq (ok:aA P tb) (S:fu h bs bm bl bp fs ts):al P 163 [.ptr bs 0] h (.int .i64 ((fs.length-eX fs:Nat):Int)) h:=by
 have S1:=S.clean 12
 have hc:=aq S1.top
 have Eo:=S.mem.small
 have hul:=aK7 (fs:=fs)
 have hlen:=aIK ok S1.mem
 have MA:=aK6 ok S1.mem ⟨S1.l2,S1.l3⟩
 have hw:IntKind.wrap .i64 ((fs.length:Int)-(eX fs:Int))=((fs.length-eX fs:Nat):Int):=by rw[bj]<;>omega
 refine ok.bA ag1 ?_
 simp+decide only[st,ag1,asE,asD,asC,asB]
 refine m6 ?_
 simp only[cQ,fI,rI,Nat.reduceAdd]
 simp+decide only[st,hc]
 refine dh hlen (by simp+decide only[st]) ?_
 simp+decide only[st,hc,S.l1]
 refine dh MA (by simp+decide only[st]) ?_
 simp+decide only[st,hw]
 grind
def fu.more (S:fu h bs bm bl bp fs ts) (hn:h.next<=h'.next) (hk: ∀b,b<h.next->h'.get b=h.get b):fu h' bs bm bl bp fs ts:=
 {S with top:=by rw[hk _ S.l1];exact S.top
         mem:={S.mem with top:=by rw[hk _ S.l2];exact S.mem.top,row:=by rw[hk _ S.l3];exact S.mem.row}
         map:=by rw[hk _ S.l4];exact S.map
         l1:=bJ S.l1 hn
         l2:=bJ S.l2 hn
         l3:=bJ S.l3 hn
         l4:=bJ S.l4 hn}
def fu.turn (S:fu h bs bm bl bp fs ts) (h1:gs.length=fs.length) (h2: ∀f∈gs,f.b.length=16):fu (jI h bl gs) bs bm bl bp gs ts:=
 {S with top:=by simp only[jI,aa.set];rw[aj S.n2];exact S.top
         mem:=S.mem.qe h1 h2
         map:=by simp only[jI,aa.set];rw[aj S.n5];exact S.map}
def aMv (ok:aA P tb) (h) (n): ∃bs bm bl bp h',al P 107 [.int .i64 n] h (.ptr bs 0) h'/\fu h' bs bm bl bp (List.replicate (Cc n) F0) []/\
 h.next<=bs/\h.next<=bm/\h.next<=bl/\h.next<=bp/\h.next<=h'.next/\ ∀b,b<h.next->h'.get b=h.get b:=by
 obtain⟨bm,bl,h1,kZ,M,g1,g2,g3,g4,g5,g6⟩:=aLp ok h n
 refine⟨h1.next+1,bm,bl,h1.next,(h1.at h1.next (.map [])).at (h1.next+1) (.cells [.ptr bm 0, .map (some h1.next)]),?_,⟨?_,⟨?_,?_,M.ne,M.len,M.small⟩,?_,?_,?_,?_,?_,?_,?_,?_,?_,?_,?_⟩,?_,g1,g2,?_,?_,?_⟩
 ·refine ok.gO ahB ?_
  simp+decide only[st,ahB,av7,av6]
  refine ao kZ ?_
  simp+decide only[st]
 ·simp[aa.at]
 ·simp only[aa.at];rw[aj (by omega),aj (by omega)];exact M.top
 ·simp only[aa.at];rw[aj (by omega),aj (by omega)];exact M.row
 ·simp[aa.at,sA]
 ·omega
 ·omega
 ·omega
 ·omega
 ·omega
 ·simp[aa.at]
 ·simp[aa.at];omega
 ·simp[aa.at];omega
 ·simp[aa.at];omega
 ·simp
 ·omega
 ·omega
 ·simp[aa.at];omega
 ·intro b hb
  simp only[aa.at]
  grind
def takeN (fs:List Fr):Nat->List Fr×List Nat
 |0=>(fs,[])
 |k+1=>(lG (takeN fs k).1,(takeN fs k).2++[(tV (takeN fs k).1).getD 0])
def Iv:(takeN fs k).1.length=fs.length/\(takeN fs k).2.length=k:=by
 induction k with
 |zero=>exact⟨rfl,rfl⟩
 |succ k ih=>
  simp only[takeN,V2,cw,qH]
  omega
def aLa (hl: ∀f∈fs,f.b.length=16): ∀f∈(takeN fs k).1,f.b.length=16:=by
 induction k with
 |zero=>exact hl
 |succ k ih=>exact WD ih
def Vx (h:eX fs<fs.length): ∃i,tV fs=some i/\eX (lG fs)=eX fs+1:=by
 cases hl:tV fs with
 |none=>
  unfold tV at hl
  rw[List.findIdx?_eq_none_iff] at hl
  have:eX fs=fs.length:=by
   unfold eX
   simp_all
  omega
 |some i=>
  refine⟨i,rfl,?_⟩
  simp only[lG,hl]
  unfold tV at hl
  rw[List.findIdx?_eq_some_iff_getElem] at hl
  obtain⟨hi,h1,_⟩:=hl
  have hft:fs[i].taken=false:=by simpa using h1
  unfold eX
  grind
def VT (hk:k<=fs.length-eX fs):eX (takeN fs k).1=eX fs+k:=by
 induction k with
 |zero=>rfl
 |succ k ih=>
  have ih:=ih (by omega)
  have hl:=(Iv (fs:=fs) (k:=k)).1
  obtain⟨i,h1,h2⟩:=Vx (fs:=(takeN fs k).1) (by omega)
  simp only[takeN]
  omega
def kT (n:Int):Nat:=((n+15)/16).toNat
def qR (fs:List Fr) (ts:mw) (id n:Int):Int×List Fr×mw:=
 if n<0\/64<n then(1,fs,ts)
 else if(gJ ts id).isSome then(1,fs,ts)
 else if fs.length-eX fs<kT n then(9,fs,ts)
 else(0,(takeN fs (kT n)).1,ts++[(id,⟨(takeN fs (kT n)).2,n.toNat⟩)])
theorem aHk {id:Int} (hn:gJ ts id=none):zk (.int .u64 id) v (sA ts)=some (sA ts++[(.int .u64 id,v)]):=by
 unfold zk
 rw[NL]
 have:yl ts id=none:=by
  unfold gJ at hn
  unfold yl
  rw[List.findIdx?_eq_none_iff]
  intro x hx
  have:=List.find?_eq_none.1 (Option.map_eq_none_iff.1 hn) x hx
  grind
 rw[this]
 rfl
def NW {id:Int} (q0:ρ 0= .ptr bs 0) (q1:ρ 1= .int .u64 id) (q2:ρ 2= .int .i64 n):
 exec P QC ρ h (fun ρ' h'=>(ρ' 0= .ptr bs 0/\ρ' 1= .int .u64 id/\ρ' 2= .int .i64 n/\ρ' 22= .bool (decide (n<0\/64<n)))/\h'=h):=by
 by_cases h1:n<0
 ·simp+decide only[st,QC,q0,q1,q2,h1,true_or]
 ·simp+decide only[st,QC,q0,q1,q2,h1,false_or]
def aIF (ok:aA P tb) (S:fu h bs bm bl bp fs ts) (id n): ∃h',al P 110 [.ptr bs 0, .int .u64 id, .int .i64 n] h (.int .i64 (qR fs ts id n).1) h'/\
 (fu h' bs bm bl bp (qR fs ts id n).2.1 (qR fs ts id n).2.2/\h.next<=h'.next/\ ∀b,b<h.next->b≠bl->b≠bp->h'.get b=h.get b):=by
 have hc:=aq S.top
 have afr:=WA S.map
 have aT: ∀b,b<h.next-> ¬b=h.next:=fun b hb=>by omega
 have Cs: ∀b,b<h.next-> ¬b=h.next+1:=fun b hb=>by omega
 have e1: ¬h.next=h.next+1:=by omega
 have n1: ¬bs=h.next:=by have:=S.l1;omega
 have n4: ¬bp=h.next:=by have:=S.l4;omega
 by_cases hn:n<0\/64<n
 ·have hR:qR fs ts id n=(1,fs,ts):=by simp[qR,hn]
  rw[hR]
  refine ok.dr Ak ?_
  simp+decide only[st,Ak,JT,JS,JR,JQ,JP,JO,JN,JM,I9,I8,I7,I6,I5,I4,I3,IZ,IY]
  refine IP _ (NW (bs:=bs) (id:=id) (n:=n) (by simp+decide only[st]) (by simp+decide only[st]) (by simp+decide only[st])) ?_
  rintro ρ1 ⟨q0,q1,q2,tz⟩
  rw[mF hn] at tz
  simp+decide only[st,tz,pq]
  exact S
 obtain⟨n,rfl⟩: ∃k:Nat,n=k:=⟨n.toNat,by omega⟩
 have aTd:n<=64:=by omega
 cases fg:gJ ts id with
 |some t=>
  have hR:qR fs ts id n=(1,fs,ts):=by simp only[qR,aj hn,fg,Option.isSome,dP]
  have AU:=VJ (ts:=ts) (id:=id)
  rw[fg] at AU
  have sE:t.enc.cells=[.vs (fc t.l) .au, .int .i64 t.n]:=rfl
  rw[hR]
  refine ok.dr Ak ?_
  simp+decide only[st,Ak,JT,JS,QB,JR,JQ,JP,JO,JN,JM,I9,I8,I7,I6,I5,I4,I3,IZ,IY]
  refine IP _ (NW (bs:=bs) (id:=id) (n:=n) (by simp+decide only[st]) (by simp+decide only[st]) (by simp+decide only[st])) ?_
  rintro ρ1 ⟨q0,q1,q2,tz⟩
  rw[mc hn] at tz
  simp+decide only[st,q0,q1,tz,hc,afr,AU,VA,Rv,sE,pq]
  refine⟨S.more (by simp+decide only[st];omega) (fun b hb=>by simp+decide only[st,aT b hb]),by omega,fun b hb _ _=>?_⟩
  grind
 |none=>
  have AU:=VJ (ts:=ts) (id:=id)
  rw[fg] at AU
  have aUi:kT n<=4:=by unfold kT;omega
  have aUv:kT n<2^40:=by omega
  have tH:IntKind.wrap .i64 ((n:Int)+16)=(n:Int)+16:=bj (by omega) (by omega)
  have gP:IntKind.wrap .i64 ((n:Int)+16-1)=(n:Int)+15:=by rw[bj (by omega) (by omega)];omega
  have hq:((n:Int)+15).tdiv 16=(kT n:Int):=by rw[Int.tdiv_eq_ediv_of_nonneg (by omega)];unfold kT;omega
  have AF:=x8 (n:=kT n) (by omega)
  let h1:aa:=(h.at h.next (.cells [.vs [] .full, .int .i64 0])).set h.next (some (.cells [.vs [] .full, .int .i64 0]))
  have S1:fu h1 bs bm bl bp fs ts:=S.more (by simp[h1,aa.at,aa.set]) (fun b hb=>by simp[h1,aa.at,aa.set,aT b hb])
  have ka:=aFq ok S1
  by_cases ic:fs.length-eX fs<kT n
  ·have hR:qR fs ts id n=(9,fs,ts):=by simp only[qR,aj hn,fg,Option.isSome,ic,dP,nj,fj]
   rw[hR]
   refine ok.dr Ak ?_
   simp+decide only[st,Ak,JT,JS,QB,JR,JQ,JP,JO,JN,JM,I9,I8,I7,I6,I5,I4,I3,IZ,IY]
   refine IP _ (NW (bs:=bs) (id:=id) (n:=n) (by simp+decide only[st]) (by simp+decide only[st]) (by simp+decide only[st])) ?_
   rintro ρ1 ⟨q0,q1,q2,tz⟩
   rw[mc hn] at tz
   simp+decide only[st,q0,q1,q2,tz,hc,afr,AU,VA,Rv,tH,gP,hq,AF,Option.map_none]
   refine ao ka ?_
   simp+decide only[st,ic,pq]
   refine⟨S1,by simp[h1,aa.at,aa.set],fun b hb _ _=>by simp[h1,aa.at,aa.set,aT b hb]⟩
  ·have hR:qR fs ts id n=(0,(takeN fs (kT n)).1,ts++[(id,⟨(takeN fs (kT n)).2,n⟩)]):=by simp only[qR,aj hn,fg,Option.isSome,ic,nj,fj,i9]
   rw[hR]
   refine ok.dr Ak ?_
   simp+decide only[st,Ak,JT,JS,QB,JR,JQ,JP,JO,JN,JM,I9,I8,I7,I6,I5,I4,I3,IZ,IY]
   refine IP _ (NW (bs:=bs) (id:=id) (n:=n) (by simp+decide only[st]) (by simp+decide only[st]) (by simp+decide only[st])) ?_
   rintro ρ1 ⟨q0,q1,q2,tz⟩
   rw[mc hn] at tz
   simp+decide only[st,q0,q1,q2,tz,hc,afr,AU,VA,Rv,tH,gP,hq,AF,Option.map_none]
   refine ao ka ?_
   simp+decide only[st,q2,ic]
   have afB:h1.next=h.next+1:=by simp only[h1,aa.at,aa.set];omega
   have du: ∀b,b<h.next->h1.get b=h.get b:=fun b hb=>by simp[h1,aa.at,aa.set,aT b hb]
   rw[afB]
   let I:Nat->Env->aa->Prop:=fun m ρ h'=> ∃i,i+m=kT n/\ρ 0= .ptr bs 0/\ρ 1= .int .u64 id/\ρ 10= .ptr (h.next+1) 0/\ρ 43= .int .i64 (kT n)/\ρ 44= .int .i64 i/\
    fu h' bs bm bl bp (takeN fs i).1 ts/\h.next+1<h'.next/\(∃a,h'.get (h.next+1)=some (.cells [a, .int .i64 n])/\wi h.next h' a (fc (takeN fs i).2))/\ ∀b,b<h.next->b≠bl->h'.get b=h.get b
   refine dv I ?_ (kT n) ⟨0,by omega,by simp+decide only[st,q0],by simp+decide only[st,q1],by simp+decide only[st],by simp+decide only[st],by simp+decide only[st],S1.more (by simp+decide only[st,afB];omega) (fun b hb=>(by
    have: ¬b=h.next+1:=by omega
    simp+decide only[st,this])),by simp+decide only[st,afB];omega,⟨.vs [] .full,by simp+decide only[st], .nil⟩,fun b hb _=>(by
    simp+decide only[st,Cs b hb,du b hb])⟩
   rintro m ρ h2 ⟨i,uT,r0,r1,bK,r43,r44,Sp,aS,⟨a,hga,LU⟩,v8⟩
   obtain⟨tl,rfl⟩:=LU.vs
   have jN:=aq Sp.top
   by_cases hi:i<kT n
   ·have MA:=VT (fs:=fs) (k:=i) (by omega)
    have AQ:=Iv (fs:=fs) (k:=i)
    obtain⟨f,hf1,hf2⟩:=Vx (fs:=(takeN fs i).1) (by omega)
    have iJ:takeN fs (i+1)=(lG (takeN fs i).1,(takeN fs i).2++[f]):=by simp only[takeN,hf1,iQ]
    have ht:=aG4 ok Sp.mem
    rw[hf1] at ht
    have uY:=Sp.turn (gs:=lG (takeN fs i).1) V2 (WD Sp.mem.len)
    have HT:(jI h2 bl (lG (takeN fs i).1)).next=h2.next:=rfl
    have HX: ∀b,b≠bl->(jI h2 bl (lG (takeN fs i).1)).get b=h2.get b:=fun b hb=>by simp only[jI,aa.set];rw[aj hb]
    have hgl:(jI h2 bl (lG (takeN fs i).1)).get bl≠some .tail:=by simp[jI,aa.set]
    generalize jI h2 bl (lG (takeN fs i).1)=h3 at*
    have lZ: ∀x,h.next<=x->x≠bl:=fun x hx=>by have:=S.l3;omega
    have aTo:h3.get (h.next+1)=some (.cells [.vs (fc (takeN fs i).2) tl, .int .i64 n]):=by grind
    have aOg:wi h.next h3 (.vs (fc (takeN fs i).2) tl) (fc (takeN fs i).2):=by
     rcases LU with⟨h5,h6⟩|⟨t0,h5,h6,h7,h8⟩
     ·exact .inl ⟨h5,h6⟩
     ·exact .inr ⟨t0,h5,by grind,h7,by omega⟩
    have jL:(fc (takeN fs i).2).length=i:=by simp[fc,AQ.2]
    have hhd:bQ 1 (fc (takeN fs i).2)=true:=by
     cases(takeN fs i).2<;>simp[fc,bQ]
    obtain⟨a4,h4,ha4,adb,MI,UO,aUQ⟩:=aH8 (bytes:=8) (sz:=1) (id:=h3.next) (ys:=[[.int .i64 f]]) aOg (ak _) (by omega) (by simp) hhd (by grind) (by grind)
    have cS:fc (takeN fs i).2++[[.int .i64 (f:Int)]]=fc (takeN fs (i+1)).2:=by rw[iJ];simp[fc]
    rw[cS] at adb
    obtain⟨tl4,rfl⟩:=adb.vs
    have aTn:h4.get (h.next+1)=some (.cells [.vs (fc (takeN fs i).2) tl, .int .i64 n]):=by grind
    have hc4:=aq aTn
    simp+decide only[st,r0,r43,r44,hi,jN]
    refine ao ht ?_
    simp+decide only[st,bK,r44,aq aTo,List.replicate,List.set,ha4,hc4,dj (show i<2^61 by omega)]
    have yW:fu h4 bs bm bl bp (takeN fs (i+1)).1 ts:=by
     rw[iJ]
     have UN: ∀b,b<h2.next->b<h.next\/h3.get b≠some .tail->h4.get b=h3.get b:=fun b hb hor=>by
      grind
     exact{uY with
      top:=by rw[UN _ Sp.l1 (.inl S.l1)];exact uY.top
      mem:={uY.mem with top:=by rw[UN _ Sp.l2 (.inl S.l2)];exact uY.mem.top,row:=by rw[UN _ Sp.l3 (.inl S.l3)];exact uY.mem.row}
      map:=by rw[UN _ Sp.l4 (.inl S.l4)];exact uY.map
      l1:=by have:=uY.l1;omega
      l2:=by have:=uY.l2;omega
      l3:=by grind
      l4:=by have:=uY.l4;omega}
    have hold: ∀b,b<h.next-> ¬b=h.next+1:=fun b hb=>by omega
    refine⟨m-1,by omega,i+1,by omega,by simp+decide only[st,r0],by simp+decide only[st,r1],by simp+decide only[st,bK],by simp+decide only[st,r43],by simp+decide only[st],?_,by simp+decide only[st];omega,⟨.vs (fc (takeN fs (i+1)).2) tl4,by simp+decide only[st],adb.of (by simp+decide only[st]) (fun t0 AH=>?_)⟩,fun b hb dB=>?_⟩
    ·exact{yW with
      top:=by simp+decide only[st,hold _ S.l1];exact yW.top
      mem:={yW.mem with top:=by simp+decide only[st,hold _ S.l2];exact yW.mem.top,row:=by simp+decide only[st,hold _ S.l3];exact yW.mem.row}
      map:=by simp+decide only[st,hold _ S.l4];exact yW.map
      l1:=yW.l1,l2:=yW.l2,l3:=yW.l3,l4:=yW.l4}
    ·have: ¬t0=h.next+1:=fun e=>by grind
     simp+decide only[st,this]
     exact AH
    ·simp+decide only[st,hold b hb]
     grind
   ·have dN:i=kT n:=by omega
    subst dN
    have aS1:AV.strip (.agg [.vs (fc (takeN fs (kT n)).2) tl, .int .i64 n])=(⟨(takeN fs (kT n)).2,n⟩:Tb).enc:=by simp only[AV.strip,AV.a8,NJ,Tb.enc]
    have iF:=aHk (ts:=ts) (v:=(⟨(takeN fs (kT n)).2,n⟩:Tb).enc) fg
    simp+decide only[st,r0,r43,r44,hi,jN]
    refine On rfl ?_
    have l1':=Sp.l1
    have l4':=Sp.l4
    simp+decide only[st,r0,r1,bK,jN,l1',aS,aq hga,WA Sp.map,l4',aS1,iF]
    refine⟨(jx l4').2 (by simp+decide only[st]),?_⟩
    simp+decide only[st,pq]
    refine⟨?_,?_,fun b hb gw dB=>?_⟩
    ·have Sc:=Sp.clean 7
     exact{Sc with
      top:=by simp+decide only[st,S.n3,l1'];exact Sp.top
      mem:={Sc.mem with top:=by simp+decide only[st,S.n4.symm,Sp.l2];exact Sp.mem.top,row:=by simp+decide only[st,S.n5.symm,Sp.l3];exact Sp.mem.row}
      map:=by simp+decide only[st,sA,jz,eG,sQ]
      l1:=Sc.l1,l2:=Sc.l2,l3:=Sc.l3,l4:=Sc.l4
      tn:=fun e he=>by
       rcases List.mem_append.1 he with he|he
       ·exact S.tn e he
       ·simp at he;subst he;exact⟨aTd,by show(takeN fs (kT n)).2.length=(n+15)/16;rw[Iv.2];grind⟩}
    ·omega
    grind
end
section
open Go
variable {P:Program} {h:aa} {bs bm bl bp:Nat} {fs:List Fr} {ts:mw}
def qB (fs:List Fr) (l:List Nat):List Fr:=l.foldl (fun fs (f:Nat)=>m8 fs f) fs
def Cn (ts:mw) (id:Int):mw:=match yl ts id with
 |some i=>ts.eraseIdx i
 |none=>ts
theorem aip: ∀{l:List Nat} {fs:List Fr},(qB fs l).length=fs.length
 |[],_=>rfl
 |f::l,fs=>by
  have:=aip (l:=l) (fs:=m8 fs f)
  simp only[qB,Dx,V3] at this ⊢
  exact this
theorem ajG: ∀{l:List Nat} {fs:List Fr},(∀f∈fs,f.b.length=16)-> ∀f∈qB fs l,f.b.length=16
 |[],_,h=>h
 |f::l,fs,h=>ajG (l:=l) (fs:=m8 fs f) (WE h)
theorem Wf {α β:Type} {f:α->β}: ∀{l:List α} {i:Nat},(l.map f).eraseIdx i=(l.eraseIdx i).map f
 |[],i=>by simp
 |a::l,0=>by simp
 |a::l,i+1=>by simp[Wf (l:=l) (i:=i)]
def vy (fs:List Fr) (ts:mw) (id:Int):Int×List Fr×mw:=match gJ ts id with
 |none=>(7,fs,ts)
 |some t=>(0,qB fs t.l,Cn ts id)
def aGm {id:Int} {t:Tb} (hf:gJ ts id=some t):zm (.int .u64 id) (sA ts)=some (sA (Cn ts id)):=by
 unfold zm
 rw[NL]
 have: ∃i,yl ts id=some i:=by
  cases ht:yl ts id with
  |some i=>exact⟨i,rfl⟩
  |none=>
   unfold yl at ht
   unfold gJ at hf
   grind
 obtain⟨i,hi⟩:=this
 simp only[Cn,hi,iB,qG,sA,Option.some.injEq]
 rw[Wf]
def aJI {id:Int} {e:Int×Tb} (he:e∈Cn ts id):e∈ts:=by
 unfold Cn at he
 split at he
 ·exact List.mem_of_mem_eraseIdx he
 ·exact he
def aF2 (ok:aA P tb) (S:fu h bs bm bl bp fs ts) (id): ∃h',al P 233 [.ptr bs 0, .int .u64 id] h (.int .i64 (vy fs ts id).1) h'/\
 (fu h' bs bm bl bp (vy fs ts id).2.1 (vy fs ts id).2.2/\h.next<=h'.next/\ ∀b,b<h.next->b≠bl->b≠bp->h'.get b=h.get b):=by
 have rY:=Ww ok S id
 have aT: ∀b,b<h.next-> ¬b=h.next:=fun b hb=>by omega
 cases fg:gJ ts id with
 |none=>
  have hR:vy fs ts id=(7,fs,ts):=by simp only[vy,fg]
  rw[fg] at rY
  rw[hR]
  refine ok.dr LZ ?_
  simp+decide only[st,LZ,Zb,Za,Y9,Y8,Y7,Y6,Y5,Y4,Y3,Y0,W1]
  refine ao rY ?_
  simp+decide only[st,v7,A9,pq]
  refine⟨S.more (by simp+decide only[st];omega) (fun b hb=>by simp+decide only[st,aT b hb]),by omega,fun b hb _ _=>?_⟩
  grind
 |some t=>
  have hR:vy fs ts id=(0,qB fs t.l,Cn ts id):=by simp only[vy,fg]
  rw[fg] at rY
  rw[hR]
  have sE:t.enc.cells=[.vs (fc t.l) .au, .int .i64 t.n]:=rfl
  have jL:(fc t.l).length=t.l.length:=by simp[fc]
  have mW:=S.afe fg
  have Eo:=S.small fg
  refine ok.dr LZ ?_
  simp+decide only[st,LZ,Zb,Za,Y9,Y8,Y7,Y6,Y5,Y4,Y3,Y0,W1]
  refine ao rY ?_
  simp+decide only[st,v7,sE,jL]
  let I:Nat->Env->aa->Prop:=fun m ρ h'=> ∃i,i+m=t.l.length/\ρ 0= .ptr bs 0/\ρ 1= .int .u64 id/\ρ 19= .vs (fc t.l) .au/\ρ 20= .int .i64 t.l.length/\ρ 21= .int .i64 i/\
   fu h' bs bm bl bp (qB fs (t.l.take i)) ts/\h.next<=h'.next/\ ∀b,b<h.next->b≠bl->b≠bp->h'.get b=h.get b
  refine dv I ?_ t.l.length ⟨0,by omega,by simp+decide only[st],by simp+decide only[st],by simp+decide only[st],by simp+decide only[st],by simp+decide only[st],S.more (by simp+decide only[st];omega) (fun b hb=>(by simp+decide only[st,aT b hb])),by simp+decide only[st];omega,fun b hb _ _=>(by simp+decide only[st,aT b hb])⟩
  rintro m ρ h2 ⟨i,uT,r0,r1,Mj,wH,uM,Sp,iJ,v8⟩
  have hc:=aq Sp.top
  by_cases hi:i<t.l.length
  ·have hg:(fc t.l)[i]? =some [.int .i64 (t.l[i]:Int)]:=by simp[fc,bn hi]
   have ka:=aHL ok Sp.mem Sp.l3 (t.l[i]:Int)
   have hfa:qB fs (t.l.take (i+1))=m8 (qB fs (t.l.take i)) (t.l[i]:Int):=by
    rw[<-lM hi];simp only[qB,List.foldl_append,Dx,List.foldl_nil]
   have uY:=Sp.turn (gs:=m8 (qB fs (t.l.take i)) (t.l[i]:Int)) V3 (WE Sp.mem.len)
   rw[<-hfa] at uY ka
   simp+decide only[st,r0,Mj,wH,uM,hi,hg,hc]
   refine ao ka ?_
   simp+decide only[st,uM,dj (show i<2^61 by omega)]
   ·refine⟨m-1,by omega,i+1,by omega,by simp+decide only[st,r0],by simp+decide only[st,r1],by simp+decide only[st,Mj],by simp+decide only[st,wH],by simp+decide only[st],uY,iJ,fun b hb h1 h2=>?_⟩
    simp only[jI,aa.set]
    grind
  ·have dN:i=t.l.length:=by omega
   subst dN
   rw[List.take_length] at Sp
   simp+decide only[st,r0,r1,wH,uM,hi,hc,WA Sp.map,aGm fg,pq]
   refine⟨{Sp with
    top:=by simp+decide only[st,Sp.n3];exact Sp.top
    mem:={Sp.mem with top:=by simp+decide only[st,Sp.n4.symm];exact Sp.mem.top,row:=by simp+decide only[st,Sp.n5.symm];exact Sp.mem.row}
    map:=by simp+decide only[st]
    l1:=Sp.l1,l2:=Sp.l2,l3:=Sp.l3,l4:=Sp.l4
    tn:=fun e he=>S.tn e (aJI he)},iJ,fun b hb h1 h2=>?_⟩
   grind
def rV (fs:List Fr) (t:Tb) (j:Nat):Int:=(FG fs ((t.l[j/16]?.getD 0:Nat):Int) ((j%16:Nat):Int)).1
def kN (fs:List Fr) (t:Tb) (off n:Nat):List Int:=(List.range n).map fun j=>rV fs t (off+j)
def qa (l:List Int):List (List AV):=l.map fun b=>[AV.int .u8 b]
def IQ {t:Tb}:(kN fs t off n).length=n:=by simp[kN]
def aG7 (ok:aA P tb) (S:fu h bs bm bl bp fs ts) {id:Int} {off n:Nat} {t:Tb} (aN:lq ts id off n=(some t,0)): ∃bo h',al P 100 [.ptr bs 0, .int .u64 id, .int .i64 off, .int .i64 n] h (.aE [.rs bo 0 n 1, .int .i64 0]) h'/\
 (h'.get bo=some (.cells ((kN fs t off n).map (.int .u8)))/\h.next<=bo/\bo<h'.next/\ ∀b,b<h.next->h'.get b=h.get b):=by
 have pN:=Nm ok S id off n
 rw[aN] at pN
 have fg:gJ ts id=some t:=by
  unfold lq at aN
  grind
 have aS3:off+n<=t.n:=by
  unfold lq at aN
  grind
 have Eo:=S.small fg
 have mW:=S.afe fg
 have sE:t.enc.cells=[.vs (fc t.l) .au, .int .i64 t.n]:=rfl
 have AP:qA 1 (.int .i64 n) (.int .i64 n)=some n:=by
  unfold qA
  grind
 have aT: ∀b,b<h.next-> ¬b=h.next:=fun b hb=>by omega
 have Cs: ∀b,b<h.next-> ¬b=h.next+1:=fun b hb=>by omega
 have e1: ¬h.next=h.next+1:=by omega
 have e2: ¬h.next+1=h.next:=by omega
 refine⟨h.next+1,ok.dr Mg ?_⟩
 simp+decide only[st,Mg,acT]
 let J:Nat->Env->aa->Prop:=fun m ρ h'=> ∃i,i+m=n/\ρ 0= .ptr bs 0/\ρ 2= .int .i64 off/\ρ 3= .int .i64 n/\ρ 10= .ptr h.next 0/\ρ 12= .rs (h.next+1) 0 n 1/\ρ 13= .int .i64 i/\
  h.next+1<h'.next/\h'.get h.next=some (.cells [.vs (fc t.l) .au, .int .i64 t.n])/\h'.get (h.next+1)=some (.cells ((kN fs t off i).map (.int .u8)++List.replicate (n-i) (.int .u8 0)))/\ ∀b,b<h.next->h'.get b=h.get b
 refine ry 0 rfl rfl J (fun l' ρ h hk=>hk) ?_ ?_
 ·simp+decide only[st,acS,acR,acQ,acP,acO,pE]
  refine ao pN ?_
  simp+decide only[st,Aw,sE,AP,fI]
  refine⟨n,0,by omega,by simp+decide only[st],by simp+decide only[st],by simp+decide only[st],by simp+decide only[st],by simp+decide only[st],by simp+decide only[st],by simp+decide only[st];omega,?_,?_,fun b hb=>?_⟩
  ·simp+decide only[st,e1]
  ·have:(List.replicate n [AV.int .u8 0]).flatten=List.replicate n (.int .u8 0):=by simp
   simp+decide only[st,this,kN,List.range_zero,sQ,qF]
  ·simp+decide only[st,aT b hb,Cs b hb]
 ·rintro m ρ h2 ⟨i,uT,r0,r2,r3,bK,iI,fv,aS,du,HX,v8⟩
  have S2:=S.more (h':=h2) (by omega) v8
  have hc:=aq S2.top
  by_cases hi:i<n
  ·have hq:((off:Int)+(i:Int)).tdiv 16=(((off+i)/16:Nat):Int):=by grind
   have hm:((off:Int)+(i:Int)).tmod 16=(((off+i)%16:Nat):Int):=by grind
   have hw:IntKind.wrap .i64 ((off:Int)+(i:Int))=(off:Int)+(i:Int):=bj (by omega) (by omega)
   have gP:=x8 (n:=(off+i)/16) (by omega)
   have lY:(off+i)/16<t.l.length:=by omega
   have cS:(fc t.l)[(off+i)/16]? =some [.int .i64 (t.l[(off+i)/16]:Int)]:=by simp[fc,bn lY]
   have S3:=S2.clean 20
   have hld:=aHn ok S3.mem S3.l3 (t.l[(off+i)/16]:Int) (((off+i)%16:Nat):Int)
   have pc:rV fs t (off+i)=(FG fs (t.l[(off+i)/16]:Int) (((off+i)%16:Nat):Int)).1:=by simp only[rV,bn lY,iQ]
   rw[<-pc] at hld
   have l1:=S2.l1
   have CM:h.next<h2.next:=by omega
   simp+decide only[st,acN,acM,acL,acK,Xj,r2,r3,fv,hi,hw]
   refine On rfl ?_
   simp+decide only[st,r0,bK,iI,fv,hc,l1,CM,aq du,hq,gP,cS,fI]
   refine dX hld (by simp+decide only[st]) ?_
   have aUS:(i:Int)<(n:Nat):=by omega
   have aN6:((kN fs t off i).map (AV.int .u8)++List.replicate (n-i) (AV.int .u8 0)).length=n:=by simp[IQ];omega
   have lg:i+1<=n:=by omega
   have jK:h.next+1<h2.next:=aS
   simp+decide only[st,fv,hi,Nat.mul_one,jK,aq HX,aN6,lg,dj (show i<2^61 by omega)]
   have hA:((kN fs t off i).map (AV.int .u8)).length=i:=by grind
   have ji:List.take i ((kN fs t off i).map (AV.int .u8)++List.replicate (n-i) (AV.int .u8 0))++[AV.int .u8 (rV fs t (off+i))]++List.drop (i+1) ((kN fs t off i).map (AV.int .u8)++List.replicate (n-i) (AV.int .u8 0))=
    (kN fs t off (i+1)).map (AV.int .u8)++List.replicate (n-(i+1)) (AV.int .u8 0):=by
    rw[List.take_append_of_le_length (by omega),bX (by omega),B5,xY (by omega),kF,hA,List.drop_replicate]
    simp only[kN,B4,jz,eG,sQ]
    congr 2;omega
   refine⟨(jx aS).2 (by simp+decide only[st]),m-1,by omega,i+1,by omega,by simp+decide only[st,r0],by simp+decide only[st,r2],by simp+decide only[st,r3],by simp+decide only[st,bK],by simp+decide only[st,iI],by simp+decide only[st],by simp+decide only[st];omega,?_,?_,fun b hb=>?_⟩
   ·simp+decide only[st,e1,CM]
    exact du
   ·simp+decide only[st,ji]
   ·have:b<h2.next:=by omega
    simp+decide only[st,Cs b hb,this]
    grind
  ·have dN:i=n:=by omega
   subst dN
   rw[Nat.sub_self,np,fE] at HX
   simp+decide only[st,acN,acM,acL,acK,Xj,r3,iI,fv,hi,pz,pq]
   grind
def aJW (ok:aA P tb) (S:fu h bs bm bl bp fs ts) {id:Int} {off n:Nat} {t:Tb} (aN:lq ts id off n=(some t,0)):al P 100 [.ptr bs 0, .int .u64 id, .int .i64 off, .int .i64 n] h (.aE [.vs (qa (kN fs t off n)) .au, .int .i64 0]) h:=by
 obtain⟨bo,h',hc,hg,h1,h2,h3⟩:=aG7 ok S aN
 have aN0: ∀(l:List Int),rowsOf (l.map (AV.int .u8)) 0 1 l.length=qa l:=by
  have gen: ∀(l:List Int) (pre:List AV),rowsOf (pre++l.map (AV.int .u8)) pre.length 1 l.length=qa l:=by
   intro l
   induction l with
   |nil=>intro pre;rfl
   |cons x xs ih=>
    intro pre
    simp only[cQ,rowsOf,eG,List.drop_left]
    have:=ih (pre++[AV.int .u8 x])
    simp only[eR,List.singleton_append,cw,qH] at this
    rw[this]
    rfl
  intro l
  simpa using gen l []
 have hfz:AV.gE bo ((kN fs t off n).map (AV.int .u8)) (.aE [.rs bo 0 n 1, .int .i64 0])= .aE [.vs (qa (kN fs t off n)) .au, .int .i64 0]:=by
  have:=aN0 (kN fs t off n)
  rw[IQ] at this
  simp only[AV.gE,AV.wE,dP]
  rw[ax (by simp[IQ]),this]
 have mv: ∀p:Nat->Bool,AV.kW p (qa (kN fs t off n))=true:=by
  intro p
  induction kN fs t off n with
  |nil=>rfl
  |cons x xs ih=>simp only[qa,eG,AV.kW,AV.cG,AV.bD,Dw,zR] at ih ⊢;exact ih
 have ka:=hc.freeze hg h1 (by rw[hfz];simp only[AV.bD,AV.cG,mv,BX])
 rw[hfz] at ka
 refine ka.restore (fun b hb=>?_) (by simp only[AV.bD,AV.cG,mv,BX])
 simp only[aa.set]
 grind
def aIr (ok:aA P tb) (S:fu h bs bm bl bp fs ts) {id e:Int} (aN:lq ts id off n=(none,e)) (he:e≠0):al P 100 [.ptr bs 0, .int .u64 id, .int .i64 off, .int .i64 n] h (.aE [.vs [] .full, .int .i64 e]) h:=by
 have pN:=Nm ok S id off n
 rw[aN] at pN
 have aT: ∀b,b<h.next-> ¬b=h.next:=fun b hb=>by omega
 refine ok.bA Mg ?_
 simp+decide only[st,Mg,acT]
 refine ry 0 rfl rfl (fun _ _ _=>False) (fun l' ρ h hk=>hk) ?_ (fun _ _ _ hf=>hf.elim)
 simp+decide only[st,acS,acR,acQ,acP,acO,pE]
 refine ao pN ?_
 simp+decide only[st,Aw,A9,he]
 grind
def Au (fs:List Fr) (t:Tb) (a:Nat) (v:Int):List Fr:=vv fs ((t.l[a/16]?.getD 0:Nat):Int) ((a%16:Nat):Int) v
def mT (fs:List Fr) (t:Tb) (off:Nat) (bs:List Int):Nat->List Fr
 |0=>fs
 |i+1=>Au (mT fs t off bs i) t (off+i) (bs[i]?.getD 0)
def WL {t:Tb} {bs:List Int}:(mT fs t off bs i).length=fs.length:=by
 induction i with
 |zero=>rfl
 |succ i ih=>simp only[mT,Au,air,ih]
def awA {t:Tb} {bs:List Int} (hl: ∀f∈fs,f.b.length=16): ∀f∈mT fs t off bs i,f.b.length=16:=by
 induction i with
 |zero=>exact hl
 |succ i ih=>exact ajH ih
def aGZ (ok:aA P tb) (S:fu h bs bm bl bp fs ts) {id e:Int} (aN:lq ts id off xs.length=(none,e)) (he:e≠0):al P 111 [.ptr bs 0, .int .u64 id, .int .i64 off, .vs xs tl] h (.int .i64 e) h:=by
 have pN:=Nm ok S id off xs.length
 rw[aN] at pN
 have aT: ∀b,b<h.next-> ¬b=h.next:=fun b hb=>by omega
 refine ok.bA Mf ?_
 simp+decide only[st,Mf,acp]
 refine ry 0 rfl rfl (fun _ _ _=>False) (fun l' ρ h hk=>hk) ?_ (fun _ _ _ hf=>hf.elim)
 simp+decide only[st,aco,acn,acm,ack,pE]
 refine ao pN ?_
 simp+decide only[st,Aw,A9,he]
 grind
def aF1 (ok:aA P tb) (S:fu h bs bm bl bp fs ts) {id:Int} {off:Nat} {t:Tb} (aN:lq ts id off vs.length=(some t,0)): ∃h',al P 111 [.ptr bs 0, .int .u64 id, .int .i64 off, .vs (qa vs) tl] h (.int .i64 0) h'/\
 (fu h' bs bm bl bp (mT fs t off vs vs.length) ts/\h.next<=h'.next/\ ∀b,b<h.next->b≠bl->h'.get b=h.get b):=by
 have pN:=Nm ok S id off vs.length
 rw[aN] at pN
 have lZ:(qa vs).length=vs.length:=by simp[qa]
 have fg:gJ ts id=some t:=by
  unfold lq at aN
  grind
 have aS3:off+vs.length<=t.n:=by
  unfold lq at aN
  grind
 have Eo:=S.small fg
 have mW:=S.afe fg
 have sE:t.enc.cells=[.vs (fc t.l) .au, .int .i64 t.n]:=rfl
 have aT: ∀b,b<h.next-> ¬b=h.next:=fun b hb=>by omega
 refine ok.dr Mf ?_
 simp+decide only[st,Mf,acp]
 let J:Nat->Env->aa->Prop:=fun m ρ h'=> ∃i,i+m=vs.length/\ρ 0= .ptr bs 0/\ρ 2= .int .i64 off/\ρ 3= .vs (qa vs) tl/\ρ 9= .ptr h.next 0/\ρ 11= .int .i64 i/\
  h.next<h'.next/\h'.get h.next=some (.cells [.vs (fc t.l) .au, .int .i64 t.n])/\fu h' bs bm bl bp (mT fs t off vs i) ts/\ ∀b,b<h.next->b≠bl->h'.get b=h.get b
 refine ry 0 rfl rfl J (fun l' ρ h hk=>hk) ?_ ?_
 ·simp+decide only[st,aco,acn,acm,ack,pE,lZ]
  refine ao pN ?_
  simp+decide only[st,Aw,sE]
  exact⟨vs.length,0,by omega,by simp+decide only[st],by simp+decide only[st],by simp+decide only[st],by simp+decide only[st],by simp+decide only[st],by simp+decide only[st];omega,by simp+decide only[st],S.more (by simp+decide only[st];omega) (fun b hb=>(by simp+decide only[st,aT b hb])),fun b hb _=>(by simp+decide only[st,aT b hb])⟩
 ·rintro m ρ h2 ⟨i,uT,r0,r2,r3,r9,gd,aS,du,Sp,v8⟩
  have hc:=aq Sp.top
  by_cases hi:i<vs.length
  ·have hq:((off:Int)+(i:Int)).tdiv 16=(((off+i)/16:Nat):Int):=by grind
   have hm:((off:Int)+(i:Int)).tmod 16=(((off+i)%16:Nat):Int):=by grind
   have hw:IntKind.wrap .i64 ((off:Int)+(i:Int))=(off:Int)+(i:Int):=bj (by omega) (by omega)
   have gP:=x8 (n:=(off+i)/16) (by omega)
   have lY:(off+i)/16<t.l.length:=by omega
   have cS:(fc t.l)[(off+i)/16]? =some [.int .i64 (t.l[(off+i)/16]:Int)]:=by simp[fc,bn lY]
   have hv:(qa vs)[i]? =some [.int .u8 vs[i]]:=by simp[qa,bn hi]
   have S3:=Sp.clean 17
   have fy:=aF6 ok S3.mem S3.l3 (t.l[(off+i)/16]:Int) (((off+i)%16:Nat):Int) vs[i]
   have Mz:mT fs t off vs (i+1)=vv (mT fs t off vs i) (t.l[(off+i)/16]:Int) (((off+i)%16:Nat):Int) vs[i]:=by
    simp only[mT,Au,bn lY,bn hi,iQ]
   have S4:=S3.turn (gs:=mT fs t off vs (i+1)) (by rw[WL,WL]) (awA S.mem.len)
   rw[<-Mz] at fy
   have l1:=Sp.l1
   have l3:=Sp.l3
   have sd:((off:Int)+(i:Int)).tmod 16=(((off+i)%16:Nat):Int):=hm
   simp+decide only[st,acj,aci,ach,acg,acf,r2,r3,gd,hi,hw,lZ]
   refine On rfl ?_
   simp+decide only[st,r0,r3,r9,gd,hc,l1,aS,aq du,hq,gP,cS,hv,sd,fI]
   refine dX fy ((jx l3).2 (by simp+decide only[st])) ?_
   simp+decide only[st,gd,dj (show i<2^61 by omega)]
   refine⟨m-1,by omega,i+1,by omega,by simp+decide only[st,r0],by simp+decide only[st,r2],by simp+decide only[st,r3],by simp+decide only[st,r9],by simp+decide only[st],?_,?_,S4,fun b hb h1=>?_⟩
   ·simp only[jI,aa.set,aa.clean];omega
   ·have:h.next≠bl:=by have:=S.l3;omega
    simp only[jI,aa.set,aa.clean]
    grind
   ·simp only[jI,aa.set,aa.clean]
    grind
  ·have dN:i=vs.length:=by omega
   subst dN
   simp+decide only[st,acj,aci,ach,acg,acf,r3,gd,hi,lZ,pz,pq]
   grind
end
section
open Go
variable {fs:List Fr} {ts:mw}
def Valid (fs:List Fr) (l:List Nat):Prop:= ∀f∈l,∃x,fs[f]? =some x/\x.taken=true/\x.b.length=16
def DK (fs:List Fr) (f j:Nat):Int:=((fs[f]?).bind fun x=>x.b[j]?).getD 0
def C9 {t:Tb} (hv:Valid fs t.l) (hj:j<16*t.l.length): ∃f,t.l[j/16]? =some f/\rV fs t j=DK fs f (j%16):=by
 have aS:j/16<t.l.length:=by omega
 have hg:=bn aS
 obtain⟨x,h1,h2,h3⟩:=hv _ (bw aS)
 refine⟨_,hg,?_⟩
 have ha:lR fs (t.l[j/16]:Int)=some t.l[j/16]:=by
  simp only[lR,i9,h1,h2]
  grind
 have hb:pX fs (t.l[j/16]:Int) ((j%16:Nat):Int)=(some (t.l[j/16],j%16),0):=by
  simp only[pX,ha]
  grind
 simp only[rV,hg,iQ,FG,hb,DK]
def OU {t:Tb} {a:Nat} (hv:Valid fs t.l) (ha:a<16*t.l.length): ∃f x,t.l[a/16]? =some f/\fs[f]? =some x/\x.taken=true/\x.b.length=16/\Au fs t a v=fs.set f {x with b:=x.b.set (a%16) v}:=by
 have aS:a/16<t.l.length:=by omega
 have hg:=bn aS
 obtain⟨x,h1,h2,h3⟩:=hv _ (bw aS)
 refine⟨_,x,hg,h1,h2,h3,?_⟩
 have hA:lR fs (t.l[a/16]:Int)=some t.l[a/16]:=by
  simp only[lR,i9,h1,h2]
  grind
 have hb:pX fs (t.l[a/16]:Int) ((a%16:Nat):Int)=(some (t.l[a/16],a%16),0):=by
  simp only[pX,hA]
  grind
 simp only[Au,hg,iQ,vv,hb,h1]
def aIg {b:List Int} (hv:Valid fs l) (hx:fs[f]? =some x) (ht:x.taken=true) (hb:b.length=16):Valid (fs.set f {x with b:=b}) l:=by
 intro g hg
 obtain⟨y,h1,h2,h3⟩:=hv g hg
 grind
def NM {t:Tb} {a:Nat} (hv:Valid fs t.l) (ha:a<16*t.l.length) (hl:Valid fs l):Valid (Au fs t a v) l:=by
 obtain⟨f,x,_,h1,h2,h3,he⟩:=OU (v:=v) hv ha
 rw[he]
 exact aIg hl h1 h2 (by simp[h3])
def aJx {t:Tb} {a:Nat} (hv:Valid fs t.l) (ha:a<16*t.l.length):eX (Au fs t a v)=eX fs:=by
 obtain⟨f,x,_,h1,h2,h3,he⟩:=OU (v:=v) hv ha
 obtain⟨aS,Mw⟩:=List.getElem?_eq_some_iff.1 h1
 rw[he]
 unfold eX
 grind
def Iy {α:Type} {l:List α} (hn:l.Nodup) (hi) (hj:j<l.length) (h:l[i]=l[j]):i=j:=by
 rw[List.nodup_iff_pairwise_ne,List.pairwise_iff_getElem] at hn
 grind
def aNR {t:Tb} {a:Nat} (hv:Valid fs t.l) (hn:t.l.Nodup) (ha:a<16*t.l.length) (hj:j<16*t.l.length):rV (Au fs t a v) t j=if j=a then v else rV fs t j:=by
 obtain⟨f,x,hf,h1,h2,h3,he⟩:=OU (v:=v) hv ha
 obtain⟨g,hg,e1⟩:=C9 hv hj
 obtain⟨g',dz,e2⟩:=C9 (NM (v:=v) hv ha hv) hj
 rw[hg] at dz;cases dz
 rw[e1,e2,he]
 have aS:=(List.getElem?_eq_some_iff.1 h1).1
 unfold DK
 by_cases hfg:f=g
 ·subst hfg
  have hdiv:a/16=j/16:=by
   have h5:=(List.getElem?_eq_some_iff.1 hf)
   have h6:=(List.getElem?_eq_some_iff.1 hg)
   exact Iy hn h5.1 h6.1 (h5.2.trans h6.2.symm)
  grind
 grind
def aGg {t:Tb} {a:Nat} (hv:Valid fs t.l) (d7:Valid fs t'.l) (hd: ∀f∈t.l,f∉t'.l) (ha:a<16*t.l.length) (hj:j<16*t'.l.length):rV (Au fs t a v) t' j=rV fs t' j:=by
 obtain⟨f,x,hf,h1,h2,h3,he⟩:=OU (v:=v) hv ha
 obtain⟨g,hg,e1⟩:=C9 d7 hj
 obtain⟨g',dz,e2⟩:=C9 (NM (v:=v) hv ha d7) hj
 rw[hg] at dz;cases dz
 rw[e1,e2,he]
 have hfg:f≠g:=fun h=>hd f (iC hf) (by grind)
 unfold DK
 grind
section
variable {t:Tb} {off:Nat} {bs:List Int}
theorem Is (hv:Valid fs t.l) (hl:Valid fs l): ∀{i:Nat},off+i<=16*t.l.length->Valid (mT fs t off bs i) t.l/\Valid (mT fs t off bs i) l
 |0,_=>⟨hv,hl⟩
 |i+1,hi=>by
  obtain⟨h1,h2⟩:=Is hv hl (i:=i) (by omega)
  exact⟨NM h1 (by omega) h1,NM h1 (by omega) h2⟩
theorem ajX (hv:Valid fs t.l): ∀{i:Nat},off+i<=16*t.l.length->eX (mT fs t off bs i)=eX fs
 |0,_=>rfl
 |i+1,hi=>by
  have h1:=(Is (bs:=bs) hv hv (i:=i) (off:=off) (by omega)).1
  simp only[mT]
  rw[aJx h1 (by omega),ajX hv (by omega)]
theorem amx (hv:Valid fs t.l) (hn:t.l.Nodup) (hj:j<16*t.l.length): ∀{i:Nat},off+i<=16*t.l.length->rV (mT fs t off bs i) t j=if off<=j/\j<off+i then bs[j-off]?.getD 0 else rV fs t j
 |0,_=>by rw[aj (by omega)];rfl
 |i+1,hi=>by
  have h1:=(Is (bs:=bs) hv hv (i:=i) (off:=off) (by omega)).1
  simp only[mT]
  rw[aNR h1 hn (by omega) hj,amx hv hn hj (by omega)]
  grind
theorem ah2 (hv:Valid fs t.l) (d7:Valid fs t'.l) (hd: ∀f∈t.l,f∉t'.l) (hj:j<16*t'.l.length): ∀{i:Nat},off+i<=16*t.l.length->rV (mT fs t off bs i) t' j=rV fs t' j
 |0,_=>rfl
 |i+1,hi=>by
  obtain⟨h1,h2⟩:=Is (bs:=bs) hv d7 (i:=i) (off:=off) (by omega)
  simp only[mT]
  rw[aGg h1 h2 hd (by omega) hj,ah2 hv d7 hd hj (by omega)]
end
theorem aiL (hl: ∀f∈fs,f.b.length=16): ∀{k:Nat},k<=fs.length-eX fs->Valid (takeN fs k).1 (takeN fs k).2/\(takeN fs k).2.Nodup/\
 (∀f∈(takeN fs k).2,∃x,fs[f]? =some x/\x.taken=false)/\(∀f∈(takeN fs k).2,∀j,DK (takeN fs k).1 f j=0)/\ ∀f,f∉(takeN fs k).2->(takeN fs k).1[f]? =fs[f]?
 |0,_=>⟨fun f hf=>(by cases hf),List.nodup_nil,fun f hf=>(by cases hf),fun f hf=>(by cases hf),fun _ _=>rfl⟩
 |k+1,hk=>by
  obtain⟨h1,h2,h3,h4,h5⟩:=aiL hl (k:=k) (by omega)
  have MA:=VT (fs:=fs) (k:=k) (by omega)
  have AQ:=Iv (fs:=fs) (k:=k)
  obtain⟨i,hi,_⟩:=Vx (fs:=(takeN fs k).1) (by omega)
  have av:=hi
  unfold tV at av
  rw[List.findIdx?_eq_some_iff_getElem] at av
  obtain⟨aS,hft,_⟩:=av
  have hft:(takeN fs k).1[i].taken=false:=by grind
  have hni:i∉(takeN fs k).2:=fun h=>by
   obtain⟨x,e1,e2,_⟩:=h1 i h
   grind
  have hT:lG (takeN fs k).1=(takeN fs k).1.set i ⟨List.replicate 16 0,true⟩:=by simp only[lG,hi]
  have bB: ∀f,f≠i->(lG (takeN fs k).1)[f]? =(takeN fs k).1[f]?:=fun f hf=>by grind
  have awO:(lG (takeN fs k).1)[i]? =some ⟨List.replicate 16 0,true⟩:=by grind
  simp only[takeN,hi,iQ]
  refine⟨?_,?_,?_,?_,?_⟩
  ·intro f hf
   by_cases hfi:f=i
   ·grind
   ·have wY:f∈(takeN fs k).2:=by grind
    rw[bB f hfi];exact h1 f wY
  ·grind
  ·grind
  ·intro f hf j
   unfold DK
   by_cases hfi:f=i
   ·grind
   ·rw[bB f hfi];exact h4 f (by grind) j
  grind
end
section
open Go
variable {fs:List Fr} {ts:mw}
abbrev Mem:=List (Int×List Int)
def oK (n:Nat):Nat:=(n+15)/16
def qM (A:Mem):Nat:=(A.map fun e=>oK e.2.length).sum
def kM (A:Mem) (id:Int):Option (List Int):=(A.find? fun e=>id==e.1).map (·.2)
def oP (ts:mw):List Nat:=(ts.map (·.2.l)).flatten
def qS (fs:List Fr) (t:Tb):List Int:=kN fs t 0 t.n
structure kJ (N:Nat) (A:Mem) (fs:List Fr) (ts:mw):Prop where
 len:fs.length=N
 yS:A=ts.map fun e=>(e.1,qS fs e.2)
 tn: ∀e∈ts,e.2.n<=64/\e.2.l.length=(e.2.n+15)/16
 keys:(ts.map (·.1)).Nodup
 valid:Valid fs (oP ts)
 nodup:(oP ts).Nodup
 used:eX fs=(oP ts).length
 b: ∀f∈fs,f.b.length=16
variable {N:Nat} {A:Mem}
def akk {e:Int×Tb} (he:e∈ts) (hf:f∈e.2.l):f∈oP ts:=List.mem_flatten.2 ⟨_,List.mem_map.2 ⟨e,he,rfl⟩,hf⟩
def kJ.val (R:kJ N A fs ts) {e:Int×Tb} (he:e∈ts):Valid fs e.2.l:=fun f hf=>R.valid f (akk he hf)
theorem akL {id:Int}: ∀{ts:mw},kM (ts.map fun e=>(e.1,g e)) id=(ts.find? fun e=>id==e.1).map g
 |[]=>rfl
 |e::ts=>by
  have ih:=akL (g:=g) (id:=id) (ts:=ts)
  simp only[kM,eG,List.find?_cons] at ih ⊢
  grind
theorem kJ.get (R:kJ N A fs ts) (id):kM A id=(gJ ts id).map (qS fs):=by
 rw[R.yS,akL]
 simp only[gJ,Option.map_map]
 rfl
def C1 {t:Tb}:(qS fs t).length=t.n:=IQ
def kJ.qM (R:kJ N A fs ts):qM A=eX fs:=by
 rw[R.used,R.yS]
 have h:=R.tn
 clear R
 unfold Am.qM oP
 induction ts with
 |nil=>rfl
 |cons e ts ih=>
  have h1:=(h e (by simp)).2
  simp only[eG,List.sum_cons,mG,cw,C1,oK,h1]
  have:=ih (fun x hx=>h x (eH _ hx))
  simp only[oK] at this
  omega
def ajc {t:Tb} (hv:Valid fs t.l) (hl:t.n<=16*t.l.length) (h: ∀f∈t.l,gD[f]? =fs[f]?):qS gD t=qS fs t:=by
 unfold qS kN
 refine xX (fun j hj=>?_)
 have mZ:j<t.n:=by simpa using hj
 rw[rI]
 have d7:Valid gD t.l:=fun f hf=>by rw[h f hf];exact hv f hf
 obtain⟨f,h1,h2⟩:=C9 hv (j:=j) (by omega)
 obtain⟨g,h3,h4⟩:=C9 d7 (j:=j) (by omega)
 rw[h1] at h3;cases h3
 rw[h2,h4]
 unfold DK
 grind
def Dl (N:Nat) (A:Mem) (id n:Int):Int×Mem:=
 if n<0\/64<n then(1,A) else if(kM A id).isSome then(1,A) else if N-qM A<oK n.toNat then(9,A) else(0,A++[(id,List.replicate n.toNat 0)])
def aG3 {id:Int} (h:gJ ts id=none):id∉ts.map (·.1):=by
 unfold gJ at h
 intro hm
 obtain⟨e,he,h2⟩:=List.mem_map.1 hm
 have:=List.find?_eq_none.1 (Option.map_eq_none_iff.1 h) e he
 grind
def kJ.map (R:kJ N A fs ts) (id n):(qR fs ts id n).1=(Dl N A id n).1/\kJ N (Dl N A id n).2 (qR fs ts id n).2.1 (qR fs ts id n).2.2:=by
 unfold qR Dl
 by_cases h1:n<0\/64<n
 ·grind
 rw[aj h1,aj h1]
 obtain⟨n,rfl⟩: ∃k:Nat,n=k:=⟨n.toNat,by omega⟩
 rw[R.get id,Option.isSome_map]
 cases fg:gJ ts id with
 |some t=>grind
 |none=>
  simp only[Option.isSome,nj,fj]
  have hn:kT n=oK n:=by unfold kT oK;omega
  rw[R.qM,hn,i9,<-R.len]
  by_cases h2:fs.length-eX fs<oK n
  ·simp only[ax h2];exact⟨trivial,R.len▸R⟩
  ·simp only[aj h2]
   refine⟨trivial,?_⟩
   obtain⟨g1,g2,g3,g4,g5⟩:=aiL R.b (k:=oK n) (by omega)
   have AQ:=Iv (fs:=fs) (k:=oK n)
   have D1: ∀f∈oP ts,f∉(takeN fs (oK n)).2:=fun f hf hf2=>by
    obtain⟨x,e1,e2,_⟩:=R.valid f hf
    grind
   have mv:oP (ts++[(id,⟨(takeN fs (oK n)).2,n⟩)])=oP ts++(takeN fs (oK n)).2:=by simp[oP]
   have uI: ∀e∈ts,qS (takeN fs (oK n)).1 e.2=qS fs e.2:=fun e he=>
    ajc (R.val he) (by have:=(R.tn e he).2;omega) (fun f hf=>g5 f (D1 f (akk he hf)))
   exact
   {len:=AQ.1
    yS:=by
     rw[jz,eG,sQ,R.yS]
     congr 1
     ·exact xX (fun e he=>by rw[uI e he])
     ·congr 2
      refine B6 (by rw[C1];simp) (fun j wV sf=>?_)
      have hjn:j<n:=by grind
      simp only[List.getElem_replicate,qS,kN,List.getElem_map,List.getElem_range,rI]
      obtain⟨f,e1,e2⟩:=C9 (t:=⟨(takeN fs (oK n)).2,n⟩) g1 (j:=j) (by show j<16*(takeN fs (oK n)).2.length;rw[AQ.2];unfold oK;omega)
      grind
    tn:=fun e he=>by
     rcases List.mem_append.1 he with he|he
     ·exact R.tn e he
     ·simp at he;subst he;exact⟨by grind,AQ.2⟩
    keys:=by
     rw[jz,List.nodup_append]
     refine⟨R.keys,by simp,fun a ha b hb=>?_⟩
     simp at hb;subst hb
     exact fun h=>aG3 fg (h▸ha)
    valid:=by
     rw[mv]
     intro f hf
     rcases List.mem_append.1 hf with hf|hf
     ·rw[g5 f (D1 f hf)];exact R.valid f hf
     ·exact g1 f hf
    nodup:=by
     rw[mv,List.nodup_append]
     exact⟨R.nodup,g2,fun a ha b hb h=>D1 a ha (h▸hb)⟩
    used:=by
     rw[mv,cw,VT (by omega),R.used,AQ.2]
    b:=aLa R.b}
def Ch (A:Mem) (id:Int) (off:Nat) (vs:List Int):Mem:=A.map fun e=>if id==e.1 then(e.1,e.2.take off++vs++e.2.drop (off+vs.length)) else e
def akv {id:Int} {t:Tb} {e:Int} (h:lq ts id off n=(some t,e)):gJ ts id=some t/\0<=off/\0<=n/\off+n<=t.n/\e=0:=by
 unfold lq at h
 grind
theorem keys_eq {e:Int×Tb} (hk:(ts.map (·.1)).Nodup) (he:e∈ts) (bP:e'∈ts) (h:e.1=e'.1):e=e':=by
 obtain⟨i,hi⟩:=List.mem_iff_getElem.1 he
 obtain⟨j,hj⟩:=List.mem_iff_getElem.1 bP
 obtain⟨hi,rfl⟩:=hi
 obtain⟨hj,rfl⟩:=hj
 have:=Iy hk (i:=i) (j:=j) (by simpa using hi) (by simpa using hj) (by simpa using h)
 subst this
 rfl
def aI4 {α:Type} {ls:List (List α)} (hn:ls.flatten.Nodup) {j:Nat} {a b:List α} (AX:i≠j) (ha:ls[i]? =some a) (hb:ls[j]? =some b): ∀x∈a,x∉b:=by
 have hp:ls.Pairwise (fun a b=> ∀x∈a,x∉b):=by
  grind
 rw[List.pairwise_iff_getElem] at hp
 grind
def kJ.eN (R:kJ N A fs ts) {e:Int×Tb} (he:e∈ts) (bP:e'∈ts) (h:e≠e'): ∀f∈e.2.l,f∉e'.2.l:=by
 obtain⟨i,hi⟩:=List.mem_iff_getElem?.1 he
 obtain⟨j,hj⟩:=List.mem_iff_getElem?.1 bP
 refine aI4 R.nodup (i:=i) (j:=j) (fun AX=>?_) (by simp[hi]) (by simp[hj])
 grind
def kJ.amC (R:kJ N A fs ts) {e:Int×Tb} (he:e∈ts):e.2.l.Nodup:=by
 have:=R.nodup
 unfold oP at this
 grind
def kJ.write (R:kJ N A fs ts) {id:Int} {off:Nat} {t:Tb} {e:Int} (aN:lq ts id off vs.length=(some t,e)):kJ N (Ch A id off vs) (mT fs t off vs vs.length) ts:=by
 obtain⟨fg,_,_,hle,_⟩:=akv aN
 obtain⟨x,hx,pM,rfl⟩:=NN fg
 have wM:=R.tn x hx
 have hv:=R.val hx
 have Tp:off+vs.length<=16*x.2.l.length:=by omega
 have hvalid: ∀l,Valid fs l->Valid (mT fs x.2 off vs vs.length) l:=fun l hl=>(Is hv hl Tp).2
 exact
 {len:=by rw[WL,R.len]
  yS:=by
   unfold Ch
   conv=>lhs;rw[R.yS]
   rw[List.map_map]
   refine xX (fun y hy=>?_)
   simp only[Function.comp]
   by_cases aM:id=y.1
   ·have yG:y=x:=keys_eq R.keys hy hx (by rw[<-aM,pM])
    subst yG
    simp only[aM,xW,dP]
    congr 1
    refine B6 (by simp[C1];omega) (fun j wV sf=>?_)
    have hjn:j<y.2.n:=by rw[C1] at sf;exact sf
    simp only[qS,kN,List.getElem_map,List.getElem_range,rI]
    rw[amx hv (R.amC hx) (by omega) Tp]
    grind
   ·have hb:(id==y.1)=false:=by grind
    simp only[hb,nj,fj]
    have aT:x≠y:=fun h=>aM (by rw[<-h,pM])
    congr 1
    unfold qS kN
    refine xX (fun j hj=>?_)
    have hjn:j<y.2.n:=by simpa using hj
    rw[ah2 hv (R.val hy) (R.eN hx hy aT) (by have:=(R.tn y hy).2;omega) Tp]
  tn:=R.tn
  keys:=R.keys
  valid:=hvalid _ R.valid
  nodup:=R.nodup
  used:=by rw[ajX hv Tp,R.used]
  b:=awA R.b}
def kJ.read (R:kJ N A fs ts) {id:Int} {off n:Nat} {t:Tb} {e:Int} (aN:lq ts id off n=(some t,e)):kN fs t off n=((qS fs t).drop off).take n:=by
 obtain⟨fg,_,_,hle,_⟩:=akv aN
 refine B6 (by simp[IQ,C1];omega) (fun j h1 h2=>?_)
 simp[kN,qS]
end
section
open Go
variable {fs:List Fr} {ts:mw} {N:Nat} {A:Mem}
def Al (A:Mem) (id:Int):Mem:=A.eraseP fun e=>id==e.1
theorem akT {id:Int}: ∀{ts:mw},Cn ts id=ts.eraseP fun e=>id==e.1
 |[]=>rfl
 |e::ts=>by
  have ih:=akT (id:=id) (ts:=ts)
  simp only[Cn,yl,List.findIdx?_cons,List.eraseP_cons] at ih ⊢
  grind
def ai6 {g:Nat} (h:g≠f):(m8 fs (f:Int))[g]? =fs[g]?:=by
 unfold m8
 split
 ·rfl
 ·rename_i i hi
  obtain⟨x,_,_,e⟩:=Wj hi
  grind
theorem aiq: ∀{l:List Nat} {fs:List Fr} {g:Nat},g∉l->(qB fs l)[g]? =fs[g]?
 |[],_,_,_=>rfl
 |f::l,fs,g,h=>by
  have h1:=aiq (l:=l) (fs:=m8 fs f) (g:=g) (fun hm=>h (eH _ hm))
  simp only[qB,Dx] at h1 ⊢
  rw[h1,ai6 (fun e=>h (by rw[e];simp))]
def aGD {f:Nat} (hx:fs[f]? =some x) (ht:x.taken=true):eX (m8 fs (f:Int))+1=eX fs:=by
 have ha:lR fs (f:Int)=some f:=by
  simp only[lR,i9,hx,ht]
  grind
 obtain⟨aS,Mw⟩:=List.getElem?_eq_some_iff.1 hx
 simp only[m8,ha,hx]
 unfold eX
 grind
theorem ah7: ∀{l:List Nat} {fs:List Fr},l.Nodup->Valid fs l->eX (qB fs l)+l.length=eX fs
 |[],_,_,_=>rfl
 |f::l,fs,hn,hv=>by
  obtain⟨x,h1,h2,_⟩:=hv f (by simp)
  have cV:=List.nodup_cons.1 hn
  have:=ah7 (l:=l) (fs:=m8 fs f) cV.2 (fun g hg=>by
   have hgf:g≠f:=fun e=>cV.1 (by grind)
   rw[ai6 hgf]
   exact hv g (eH _ hg))
  have h3:=aGD h1 h2
  simp only[qB,Dx,cQ] at this ⊢
  omega
def C3 (A:Mem) (id:Int):Int×Mem:=match kM A id with
 |none=>(7,A)
 |some _=>(0,Al A id)
def eraseP_map {α β:Type} {p:β->Bool} {f:α->β}: ∀{l:List α},(l.map f).eraseP p=(l.eraseP (p∘f)).map f
 |[]=>rfl
 |a::l=>by
  grind
def kJ.acX (R:kJ N A fs ts) (id):(vy fs ts id).1=(C3 A id).1/\kJ N (C3 A id).2 (vy fs ts id).2.1 (vy fs ts id).2.2:=by
 unfold vy C3
 rw[R.get id]
 cases fg:gJ ts id with
 |none=>exact⟨rfl,R⟩
 |some t=>
  simp only[iB]
  refine⟨trivial,?_⟩
  obtain⟨x,hx,pM,rfl⟩:=NN fg
  obtain⟨a,l1,l2,h1,h2,h3,h4⟩:=List.exists_of_eraseP hx (p:=fun e=>id==e.1) (by simp[pM])
  have hax:a=x:=keys_eq R.keys (by rw[h3];simp) hx (by grind)
  subst hax
  rw[akT,h4]
  have ez: ∀e∈l1++l2,e∈ts:=fun e he=>by
   grind
  have rT:=R.keys
  rw[h3,jz,eG] at rT
  have mY: ∀e∈l1++l2,e≠a:=fun e he h=>by
   grind
  have D1: ∀e∈l1++l2,∀f∈e.2.l,f∉a.2.l:=fun e he=>R.eN (ez e he) hx (mY e he)
  have bB: ∀e∈l1++l2,∀f∈e.2.l,(qB fs a.2.l)[f]? =fs[f]?:=fun e he f hf=>aiq (D1 e he f hf)
  have aTb:=R.nodup
  have MA:=R.used
  have hfu:=ah7 (R.amC hx) (R.val hx)
  have aOf:oP ts=oP l1++(a.2.l++oP l2):=by rw[h3];simp[oP]
  have aUz:oP (l1++l2)=oP l1++oP l2:=by simp[oP]
  rw[aOf] at aTb MA
  exact
  {len:=by rw[aip,R.len]
   yS:=by
    unfold Al
    conv=>lhs;rw[R.yS]
    rw[eraseP_map]
    have:(fun e=>id==e.1)∘(fun e:Int×Tb=>(e.1,qS fs e.2))=fun e=>id==e.1:=rfl
    rw[this,h4]
    refine xX (fun e he=>?_)
    congr 1
    exact(ajc (R.val (ez e he)) (by have:=(R.tn e (ez e he)).2;omega) (bB e he)).symm
   tn:=fun e he=>R.tn e (ez e he)
   keys:=by
    grind
   valid:=fun f hf=>by
    obtain⟨l,hl,da⟩:=List.mem_flatten.1 hf
    obtain⟨e,he,rfl⟩:=List.mem_map.1 hl
    rw[bB e he f da]
    exact R.val (ez e he) f da
   nodup:=by
    grind
   used:=by
    grind
   b:=ajG R.b}
variable {P:Program} {h:aa} {bs bm bl bp:Nat}
def ki (h:aa) (bs bm bl bp N:Nat) (A:Mem):Prop:= ∃fs ts,fu h bs bm bl bp fs ts/\kJ N A fs ts
def ki.more (S:ki h bs bm bl bp N A) (hn:h.next<=h'.next) (hk: ∀b,b<h.next->h'.get b=h.get b):ki h' bs bm bl bp N A:=by
 obtain⟨fs,ts,S,R⟩:=S
 exact⟨fs,ts,S.more hn hk,R⟩
def ki.clean (S:ki h bs bm bl bp N A) (n):ki (h.clean n) bs bm bl bp N A:=by
 obtain⟨fs,ts,S,R⟩:=S
 exact⟨fs,ts,S.clean n,R⟩
def ki.lt (S:ki h bs bm bl bp N A):bs<h.next/\bm<h.next/\bl<h.next/\bp<h.next:=by
 obtain⟨fs,ts,S,R⟩:=S
 exact⟨S.l1,S.l2,S.l3,S.l4⟩
def aOZ (ok:aA P tb) (h) (n): ∃bs bm bl bp h',al P 107 [.int .i64 n] h (.ptr bs 0) h'/\ki h' bs bm bl bp (Cc n) []/\
 h.next<=bs/\h.next<=bm/\h.next<=bl/\h.next<=bp/\h.next<=h'.next/\ ∀b,b<h.next->h'.get b=h.get b:=by
 obtain⟨bs,bm,bl,bp,h',h1,h2,h3⟩:=aMv ok h n
 refine⟨bs,bm,bl,bp,h',h1,⟨_,_,h2,?_⟩,h3⟩
 exact{len:=by simp,yS:=rfl,tn:=fun e he=>(by cases he),keys:=List.nodup_nil,valid:=fun f hf=>(by cases hf),nodup:=List.nodup_nil
       used:=by unfold eX;rw[List.countP_replicate];rfl
       b:=fun f hf=>by simp[List.mem_replicate] at hf;simp[hf.2,F0]}
def aO0 (ok:aA P tb) (S:ki h bs bm bl bp N A) (id n): ∃h',al P 110 [.ptr bs 0, .int .u64 id, .int .i64 n] h (.int .i64 (Dl N A id n).1) h'/\
 (ki h' bs bm bl bp N (Dl N A id n).2/\h.next<=h'.next/\ ∀b,b<h.next->b≠bl->b≠bp->h'.get b=h.get b):=by
 obtain⟨fs,ts,S,R⟩:=S
 obtain⟨h',h1,h2,h3⟩:=aIF ok S id n
 obtain⟨e1,e2⟩:=R.map id n
 rw[e1] at h1
 exact⟨h',h1,⟨_,_,h2,e2⟩,h3⟩
def aMq (ok:aA P tb) (S:ki h bs bm bl bp N A) (id): ∃h',al P 233 [.ptr bs 0, .int .u64 id] h (.int .i64 (C3 A id).1) h'/\
 (ki h' bs bm bl bp N (C3 A id).2/\h.next<=h'.next/\ ∀b,b<h.next->b≠bl->b≠bp->h'.get b=h.get b):=by
 obtain⟨fs,ts,S,R⟩:=S
 obtain⟨h',h1,h2,h3⟩:=aF2 ok S id
 obtain⟨e1,e2⟩:=R.acX id
 rw[e1] at h1
 exact⟨h',h1,⟨_,_,h2,e2⟩,h3⟩
def aO1 (ok:aA P tb) (S:ki h bs bm bl bp N A) (id):al P 99 [.ptr bs 0, .int .u64 id] h (match kM A id with|some d=> .aE [.int .i64 d.length, .int .i64 0]|none=> .aE [.int .i64 0, .int .i64 7]) h:=by
 obtain⟨fs,ts,S,R⟩:=S
 have:=aHp ok S id
 rw[R.get id]
 cases fg:gJ ts id with
 |none=>grind
 |some t=>rw[fg] at this;simp only[iB,C1];exact this
def yd (A:Mem) (id off n:Int):Option (List Int)×Int:=match kM A id with
 |none=>(none,7)
 |some d=>if off<0\/n<0\/(d.length:Int)<off\/(d.length:Int)-off<n then(none,11) else(some d,0)
theorem kJ.Uw (R:kJ N A fs ts) (id off n):yd A id off n=((lq ts id off n).1.map (qS fs),(lq ts id off n).2):=by
 unfold yd lq
 rw[R.get id]
 cases gJ ts id with
 |none=>rfl
 |some t=>
  simp only[iB,C1]
  split<;>rfl
def aNK (ok:aA P tb) (S:ki h bs bm bl bp N A) {id:Int} {off n:Nat} (aN:yd A id off n=(some d,0)):al P 100 [.ptr bs 0, .int .u64 id, .int .i64 off, .int .i64 n] h (.aE [.vs (qa ((d.drop off).take n)) .au, .int .i64 0]) h:=by
 obtain⟨fs,ts,S,R⟩:=S
 rw[R.Uw] at aN
 cases hr:lq ts id off n with
 |mk o e=>
  rw[hr] at aN
  cases o with
  |none=>cases aN
  |some t=>
   cases aN
   have:=aJW ok S hr
   rw[R.read hr] at this
   exact this
def aGY (ok:aA P tb) (S:ki h bs bm bl bp N A) {id e:Int} (aN:yd A id off n=(none,e)) (he:e≠0):al P 100 [.ptr bs 0, .int .u64 id, .int .i64 off, .int .i64 n] h (.aE [.vs [] .full, .int .i64 e]) h:=by
 obtain⟨fs,ts,S,R⟩:=S
 rw[R.Uw] at aN
 cases hr:lq ts id off n with
 |mk o e'=>
  rw[hr] at aN
  cases o with
  |none=>cases aN;exact aIr ok S hr he
  |some t=>cases aN
def aMp (ok:aA P tb) (S:ki h bs bm bl bp N A) {id:Int} {off:Nat} (aN:yd A id off vs.length=(some d,0)): ∃h',al P 111 [.ptr bs 0, .int .u64 id, .int .i64 off, .vs (qa vs) tl] h (.int .i64 0) h'/\
 (ki h' bs bm bl bp N (Ch A id off vs)/\h.next<=h'.next/\ ∀b,b<h.next->b≠bl->h'.get b=h.get b):=by
 obtain⟨fs,ts,S,R⟩:=S
 rw[R.Uw] at aN
 cases hr:lq ts id off vs.length with
 |mk o e=>
  rw[hr] at aN
  cases o with
  |none=>cases aN
  |some t=>
   cases aN
   obtain⟨h',h1,h2,h3⟩:=aF1 ok S (tl:=tl) hr
   exact⟨h',h1,⟨_,_,h2,R.write hr⟩,h3⟩
def aF0 (ok:aA P tb) (S:ki h bs bm bl bp N A) {id e:Int} (aN:yd A id off xs.length=(none,e)) (he:e≠0):al P 111 [.ptr bs 0, .int .u64 id, .int .i64 off, .vs xs tl] h (.int .i64 e) h:=by
 obtain⟨fs,ts,S,R⟩:=S
 rw[R.Uw] at aN
 cases hr:lq ts id off xs.length with
 |mk o e'=>
  rw[hr] at aN
  cases o with
  |none=>cases aN;exact aGZ ok S hr he
  |some t=>cases aN
end
section
open Go
variable {P:Program}
structure Sl where
 r:Option (Nat×List UInt8)
 turn:Int
def Sl.enc (s:Sl):List AV:=match s.r with
 |some (id,b)=>[.int .u64 id, .vs (BS b) .au, .bool true, .int .i64 s.turn]
 |none=>[.int .u64 0, .vs [] .full, .bool false, .int .i64 s.turn]
theorem Sl.len {s:Sl}:s.enc.length=4:=by unfold Sl.enc;split<;>rfl
def vt {S:List Sl}: ∀r∈S.map Sl.enc,r.length=4:=fun r hr=>by
 obtain⟨s,_,rfl⟩:=List.mem_map.1 hr
 exact s.len
def Sl.taken {s:Sl}:s.enc[2]? =some (.bool s.r.isSome):=by unfold Sl.enc;grind
theorem Sl.trn {s:Sl}:s.enc[3]? =some (.int .i64 s.turn):=by unfold Sl.enc;split<;>rfl
theorem Sl.aww {s:Sl}:s.enc.all AV.one=true:=by unfold Sl.enc;split<;>rfl
def p4 (es:List (Nat×Nat)):List (AV×AV):=es.map fun e=>(.int .u64 e.1, .int .i64 e.2)
def dw (es:List (Nat×Nat)) (id:Nat):Option Nat:=(es.find? fun e=>id==e.1).map (·.2)
def ti (es:List (Nat×Nat)) (id:Nat):Option Nat:=es.findIdx? fun e=>id==e.1
def aKU {a b:Nat}:((a:Int)==(b:Int))=(a==b):=by
 grind
theorem OI {id:Nat}: ∀(es:List (Nat×Nat)) (i:Nat),rM (.int .u64 id) (p4 es) i=some ((ti es id).map (· +i))
 |[],i=>rfl
 |e::es,i=>by
  have ih:=OI (id:=id) es (i+1)
  simp only[p4,eG,rM,dP,ti,List.findIdx?_cons,aKU] at ih ⊢
  by_cases h:(id==e.1)=true
  ·simp[h]
  ·have h':(id==e.1)=false:=by simpa using h
   simp only[h',nj,fj,ih,Option.map_map]
   cases List.findIdx? (fun e=>id==e.1) es with
   |none=>rfl
   |some k=>grind
theorem NU {id:Nat}: ∀{es:List (Nat×Nat)},dw es id=(ti es id).bind fun i=>(es[i]?).map (·.2)
 |[]=>rfl
 |e::es=>by
  have ih:=NU (id:=id) (es:=es)
  simp only[dw,ti,List.find?_cons,List.findIdx?_cons] at ih ⊢
  cases h:id==e.1
  ·simp only[nj,fj,ih]
   cases List.findIdx? (fun e=>id==e.1) es<;>rfl
  ·rfl
def aLt {id:Nat}:Bw (.int .u64 id) (p4 es)=some ((dw es id).map fun i=> .int .i64 i):=by
 unfold Bw
 rw[OI,NU]
 cases hq:ti es id with
 |none=>rfl
 |some i=>
  have:=(List.findIdx?_eq_some_iff_getElem.1 hq).1
  simp[p4,bn this]
def OE {id:Nat} (hm:h.get mb=some (.map (p4 es))) {b:Bool}:sB (.int .i64 0) b h (.map (some mb)) (.int .u64 id)=some (match dw es id with|some i=>if b then .aE [.int .i64 i, .bool true] else .int .i64 i|none=>if b then .aE [.int .i64 0, .bool false] else .int .i64 0):=by
 simp only[sB,hm,aLt,iB]
 grind
def aJ7 {id i:Nat} (hn:dw es id=none):zk (.int .u64 id) (.int .i64 i) (p4 es)=some (p4 (es++[(id,i)])):=by
 have:ti es id=none:=by
  unfold dw at hn;unfold ti
  rw[Option.map_eq_none_iff,List.find?_eq_none] at hn
  grind
 unfold zk
 rw[OI,this]
 simp[p4]
def aJ8 {id:Nat} (hn:ti es id=some i):zm (.int .u64 id) (p4 es)=some (p4 (es.eraseIdx i)):=by
 unfold zm
 rw[OI,hn]
 simp only[iB,qG,Option.some.injEq,p4]
 exact Wf
structure fF (h:aa) (ab mb lb dp:Nat) (S:List Sl) (es:List (Nat×Nat)):Prop where
 top: ∃lv,h.get ab=some (.cells [.int .u8 dp,lv, .map (some mb)])/\((S=[]/\lv= .vs [] .full)\/(S≠[]/\lv= .rs lb 0 S.length 4/\h.get lb=some (.cells (S.map Sl.enc).flatten)/\lb<h.next/\lb≠ab/\lb≠mb))
 map:h.get mb=some (.map (p4 es))
 l1:ab<h.next
 l2:mb<h.next
 n1:ab≠mb
 small:S.length<2^20
variable {h:aa} {ab mb lb dp:Nat} {S:List Sl} {es:List (Nat×Nat)}
def fF.more (A:fF h ab mb lb dp S es) (hn:h.next<=h'.next) (h1:h'.get ab=h.get ab) (h2:h'.get mb=h.get mb) (h3:S≠[]->h'.get lb=h.get lb):fF h' ab mb lb dp S es:=by
 obtain⟨lv,t1,t2⟩:=A.top
 refine⟨⟨lv,by rw[h1,t1],?_⟩,by rw[h2,A.map],bJ A.l1 hn,bJ A.l2 hn,A.n1,A.small⟩
 grind
def fF.qg (A:fF h ab mb lb dp S es): ∃lv,h.get ab=some (.cells [.int .u8 dp,lv, .map (some mb)])/\lv.one=true/\lv.cells=[lv]/\ ∀h',h'.get lb=h.get lb->lz h' lv 4 (S.map Sl.enc):=by
 obtain⟨lv,t1,t2⟩:=A.top
 rcases t2 with⟨rfl,rfl⟩|⟨e0,rfl,e2,e3,e4,e5⟩
 ·exact⟨_,t1,rfl,rfl,fun h' _=>⟨rfl,fun i hi=>by simp at hi⟩⟩
 ·refine⟨_,t1,rfl,rfl,fun h' hl=>?_⟩
  have:=lz.rs (h:=h') (b:=lb) (sz:=4) (rows:=S.map Sl.enc) (cs:=(S.map Sl.enc).flatten) (aq (by rw[hl,e2])) (by rw[<-kS vt,List.take_length]) vt
  grind
theorem aMW (ok:aA P tb) (hv:lz h v 4 (S.map Sl.enc)) (hl:S.length<2^30) (hg:dV P g=true) (hq: ∀p∈S,al P g (.agg p.enc::iG) h (.bool (q p)) h):
 al P 139 [v, .fn g [] iG] h (.int .i64 (iU q S)) h:=by
 refine ok.gO ahg ?_
 have hlen:jV v=some S.length:=by rw[hv.len,fp]
 simp+decide only[sv,ahg,auw,auv,hlen]
 let I:Nat->Env->aa->Prop:=fun n ρ h'=>h'=h/\ ∃i:Nat,S.length=i+n/\(∀j,j<i-> ∀hj:j<S.length,q S[j]=false)/\ρ 0=v/\ρ 1= .fn g [] iG/\ρ 7= .int .i64 S.length/\ρ 8= .int .i64 i
 refine dv I ?_ S.length ⟨rfl,0,by omega,by omega,rfl,rfl,rfl,rfl⟩
 rintro n ρ h' ⟨rfl,i,aN,hf,r0,r1,r7,r8⟩
 by_cases hi:i<S.length
 ·have av:(i:Int)<(S.length:Int):=by omega
  have hw:=dj (show i<2^61 by omega)
  obtain⟨p,g1,g2⟩:=hv.get i (by grind)
  rw[List.getElem_map] at g2
  simp+decide only[sv,abF,abE,abD,abC,abB,abA,r0,r1,r7,r8,av,g1,g2]
  refine vm hg (hq S[i] (bw hi)) ?_
  by_cases wR:q S[i]=true
  ·simp+decide only[sv,wR,C4 hi hf wR]
  ·have Eu:q S[i]=false:=by grind
   simp+decide only[sv,Eu,r8,hw]
   refine⟨n-1,by omega,rfl,i+1,by omega,fun j hj iu=>?_,r0,r1,r7,rfl⟩
   grind
 ·have av: ¬(i:Int)<(S.length:Int):=by omega
  have il:=Fq (q:=q) (l:=S) (fun j _ hj=>hf j (by omega) hj)
  simp+decide only[sv,abF,abE,abD,abC,abB,abA,r7,r8,av,il]
  try rfl
def GG (S:List Sl):Option Nat:=S.findIdx? fun s=>s.r.isNone
def aI5:iU (fun s=>!s.r.isSome) S=match GG S with|some i=>(i:Int)|none=> -1:=by
 unfold iU GG
 cases hq:S.findIdx? (fun s=>s.r.isNone) with
 |none=>
  grind
 |some i=>
  obtain⟨hi,h1,h2⟩:=List.findIdx?_eq_some_iff_getElem.1 hq
  have:S.findIdx (fun s=>!s.r.isSome)=i:=by
   rw[List.findIdx_eq hi]
   grind
  grind
def aOh (ok:aA P tb) {s:Sl}:al P 140 [.agg s.enc] h (.bool (!s.r.isSome)) h:=by
 refine ok.bA ahf ?_
 simp+decide only[sv,ahf,auu,aut,Sl.aww,Sl.taken]
 grind
def ae8 (ok:aA P tb) (A:fF h ab mb lb dp S es) {id:Nat}:al P 155 [.ptr ab 0, .int .u64 id] h (match dw es id with|some i=> .aE [.int .i64 i, .int .i64 0]|none=> .aE [.int .i64 0, .int .i64 7]) h:=by
 refine ok.keeps (rf:=ag5) rfl (bT rfl) (by cases dw es id<;>rfl) ?_
 obtain⟨lv,t1,t2⟩:=A.top
 have hc:=aq t1
 have hl:=OE A.map (id:=id) (b:=true)
 simp+decide only[sv,ag5,as4,as3,as2,hc,hl]
 cases hn:dw es id with
 |none=>
  simp+decide only[sv,abb,as1]
 |some i=>
  simp+decide only[sv,abb,as0]
def aT8 (ok:aA P tb) (A:fF h ab mb lb dp S es) {id:Nat} (hk: ∀i,dw es id=some i-> ∃rec turn,S[i]? =some ⟨some (id,rec),turn⟩/\rec.length<2^20):
 al P 97 [.ptr ab 0, .int .u64 id] h (match(dw es id).bind fun i=>(S[i]?).bind (·.r) with|some r=> .aE [.vs (BS r.2) .au, .int .i64 0]|none=> .aE [.vs [] .au, .int .i64 7]) h:=by
 refine ok.df (rf:=c97) rfl (bT rfl) (by split<;>simp only[AV.bD,AV.cG,vx]<;>rfl) ?_
 obtain⟨lv,t1,q1,q2,qg⟩:=A.qg
 have hc:=aq t1
 simp+decide only[sv,c97,axg,axf]
 refine ao (ae8 ok A) ?_
 cases hn:dw es id with
 |none=>
  simp+decide only[sv,adi,axe,aV]
  rfl
 |some i=>
  obtain⟨rec,turn,hs,jL⟩:=hk i hn
  have hi:i<S.length:=by
   grind
  have Ep:S[i]=⟨some (id,rec),turn⟩:=by grind
  have rows:(S.map Sl.enc)[i]? =some [.int .u64 id, .vs (BS rec) .au, .bool true, .int .i64 turn]:=by rw[Dz,hs];rfl
  obtain⟨lv',mz,t2⟩:=A.top
  rw[t1] at mz
  injection mz with mz;injection mz with mz;injection mz with _ mz;injection mz with mz _
  subst mz
  rcases t2 with⟨rfl,_⟩|⟨e0,rfl,e2,e3,e4,e5⟩
  ·simp at hi
  have cI:=aq e2
  have av:(i:Int)<(S.length:Int):=by omega
  have g1:=zj (sz:=4) (j:=1) vt rows (by omega)
  simp+decide only[sv,adi,axd,hc,cI,av,hs,g1]
  refine ao (FJ ok rfl (l:=rec) (t:= .au) (by omega)) ?_
  simp+decide only[sv,aV]
  simp only[AV.strip,AV.a8,iz]
end
section
open Go
variable {P:Program} {h:aa} {ab mb lb dp:Nat} {S:List Sl} {es:List (Nat×Nat)}
def lj (S:List Sl):Nat×List Sl:=match GG S with
 |some i=>(i,S)
 |none=>(S.length,S++[⟨none,0⟩])
def aOS (ok:aA P tb) (A:fF h ab mb lb dp S es) (hs:S.length<2^19): ∃h',al P 93 [.ptr ab 0] h (.int .i64 (lj S).1) h'/\ ∃aW,fF h' ab mb aW dp (lj S).2 es/\h.next<=h'.next/\(aW=lb\/h.next<=aW)/\ ∀b,b<h.next->b≠ab->b≠lb->h'.get b=h.get b:=by
 refine ok.dr c93 ?_
 obtain⟨lv,t1,q1,q2,qg⟩:=A.qg
 have hc:=aq t1
 simp+decide only[sv,c93,axo,axn,hc]
 refine ao (aMW ok (qg h rfl) (q:=fun s=>!s.r.isSome) (by omega) (ok.dV _ rfl) (fun p _=>aOh ok)) ?_
 rw[aI5]
 unfold lj
 cases hq:GG S with
 |some i=>
  have hi: ¬((i:Int)<0):=by omega
  simp+decide only[sv,R7,R6,pq]
  grind
 |none=>
  obtain⟨lv',mz,t2⟩:=A.top
  rw[t1] at mz
  injection mz with mz;injection mz with mz;injection mz with _ mz;injection mz with mz _
  subst mz
  have l1:=A.l1
  have l2:=A.l2
  have n1:=A.n1
  have tm:=A.map
  rcases t2 with⟨rfl,rfl⟩|⟨e0,rfl,e2,e3,e4,e5⟩
  ·have ha:iS 48 4 h.next h (.vs [] .full) (some [[.int .u64 0, .vs [] .full, .bool false, .int .i64 0]])=some (.rs h.next 0 1 4,h.at h.next (.cells [.int .u64 0, .vs [] .full, .bool false, .int .i64 0])):=rfl
   have q2: ¬(ab=h.next):=by omega
   simp+decide only[sv,R7,adl,adk,R6,pq,hc,ha,q2]
   refine⟨h.next,⟨⟨.rs h.next 0 1 4,by simp[aa.set,aa.at], .inr ⟨by simp,rfl,?_,?_,by omega,by omega⟩⟩,?_,?_,?_,n1,by simp⟩,?_, .inr (ak _),fun b hb h1 h2=>?_⟩
   all_goals (try simp only[aa.set,aa.at])
   ·rw[aj (by omega),ax trivial];rfl
   ·omega
   ·grind
   ·omega
   ·omega
   ·omega
   grind
  ·have hlen:(S.map Sl.enc).flatten.length=S.length*4:=by rw[kS vt,fp]
   have cI:=aq e2
   have ha:iS 48 4 h.next h (.rs lb 0 S.length 4) (some [[.int .u64 0, .vs [] .full, .bool false, .int .i64 0]])=some (.rs h.next 0 (S.length+1) 4,(h.set lb none).at h.next (.cells ((S++[(⟨none,0⟩:Sl)]).map Sl.enc).flatten)):=by
    simp only[iS,cI,me]
    rw[aj (by simp),ax (by grind),bX (by omega)]
    simp only[jz,B7];rfl
   have q2: ¬(ab=h.next):=by omega
   have q3: ¬(ab=lb):=fun e=>e4 e.symm
   simp+decide only[sv,R7,adl,adk,R6,pq,hc,ha,q2,q3]
   refine⟨h.next,⟨⟨.rs h.next 0 (S.length+1) 4,by simp[aa.set,aa.at], .inr ⟨by simp,by simp,?_,?_,by omega,by omega⟩⟩,?_,?_,?_,n1,by simp;omega⟩,?_, .inr (ak _),fun b hb h1 h2=>?_⟩
   all_goals (try simp only[aa.set,aa.at])
   ·grind
   ·omega
   ·grind
   ·omega
   ·omega
   ·omega
   grind
def fF.old (A:fF h ab mb lb dp S es) (hn:h.next<=h'.next) (hk: ∀b,b<h.next->h'.get b=h.get b):fF h' ab mb lb dp S es:=by
 refine A.more hn (hk _ A.l1) (hk _ A.l2) fun hS=>?_
 obtain⟨lv,t1,t2⟩:=A.top
 grind
def fF.clean (A:fF h ab mb lb dp S es):fF (h.clean n) ab mb lb dp S es:=A.old (by simp[aa.clean]) fun b hb=>by simp only[aa.clean];rw[ax hb]
def fF.DW (A:fF h ab mb lb dp S es) (hS:S≠[]):h.get ab=some (.cells [.int .u8 dp, .rs lb 0 S.length 4, .map (some mb)])/\h.get lb=some (.cells (S.map Sl.enc).flatten)/\lb<h.next/\lb≠ab/\lb≠mb:=by
 obtain⟨lv,t1,t2⟩:=A.top
 grind
def fF.aD6 (A:fF h ab mb lb dp S es) (hS:S≠[]) (hT:T.length=S.length):fF (h.set lb (some (.cells (T.map Sl.enc).flatten))) ab mb lb dp T es:=by
 obtain⟨t1,e2,e3,e4,e5⟩:=A.DW hS
 have hT0:T≠[]:=fun e=>hS (List.length_eq_zero_iff.1 (by grind))
 refine⟨⟨_,by simp only[aa.set];rw[aj (fun e=>e4 e.symm),t1], .inr ⟨hT0,by rw[hT],by simp[aa.set],e3,e4,e5⟩⟩,by simp only[aa.set];rw[aj (fun e=>e5 e.symm),A.map],A.l1,A.l2,A.n1,by rw[hT];exact A.small⟩
def fF.aD7 (A:fF h ab mb lb dp S es):fF (h.set mb (some (.map (p4 bE)))) ab mb lb dp S bE:=by
 obtain⟨lv,t1,t2⟩:=A.top
 refine⟨⟨lv,by simp only[aa.set];rw[aj A.n1,t1],?_⟩,by simp[aa.set],A.l1,A.l2,A.n1,A.small⟩
 rcases t2 with t2|⟨e0,e1,e2,e3,e4,e5⟩
 ·exact .inl t2
 ·exact .inr ⟨e0,e1,by simp only[aa.set];grind,e3,e4,e5⟩
def m5 (h h':aa) (ab mb lb:Nat):Prop:=h.next<=h'.next/\ ∀b,b<h.next->b≠ab->b≠mb->b≠lb->h'.get b=h.get b
def aOR (ok:aA P tb) (A:fF h ab mb lb dp S es) {id:Nat} {t:aL} (hr:rec.length<2^30) (hi) (r0:ρ 0= .ptr ab 0) (r1:ρ 1= .int .u64 id) (r2:ρ 2= .vs (BS rec) t) (r7:ρ 7= .int .i64 i)
 (hK: ∀ρ' h',ρ' 6= .int .i64 0->fF h' ab mb lb dp (S.set i ⟨some (id,rec),IntKind.wrap .i64 (S[i].turn+1)⟩) es->m5 h h' ab mb lb->K .ret ρ' h'):
 WP P (.jG SA [[],[],[],[],[],[],[],[3],[],[],[],[7],[],[],[],[7],[],[],[],[]]) (iD (WP P (.seq (.cA Pc) .ret) K) K) ρ h:=by
 have hS:S≠[]:=fun e=>by grind
 obtain⟨t1,e2,e3,e4,e5⟩:=A.DW hS
 have l1:=A.l1
 have c1:=aq t1
 have c2:=aq e2
 have av:(i:Int)<(S.length:Int):=by omega
 have rows:(S.map Sl.enc)[i]? =some S[i].enc:=by grind
 have g3:=zj (sz:=4) (j:=3) vt rows (by omega)
 rw[Sl.trn] at g3
 have hlen:(S.map Sl.enc).flatten.length=S.length*4:=by rw[kS vt,fp]
 have hle:i*4+4<=S.length*4:=by omega
 have iF:=Oh (sz:=4) (S.map Sl.enc) vt i (Sl.enc ⟨some (id,rec),IntKind.wrap .i64 (S[i].turn+1)⟩) (by simpa using hi) rfl
 rw[<-List.map_set] at iF
 refine jk 16 20 rfl (by omega) rfl ?_
 simp+decide only[sv,SA,r0,r1,r2,r7,c1,l1]
 refine dh (FJ ok rfl (l:=rec) (t:=t) (by omega)) (ba (ak _)) ?_
 simp+decide only[sv,r0,r7,c1,c2,l1,e3,av,g3]
 rw[show List.take (i*4) (List.map Sl.enc S).flatten++[AV.int IntKind.u64 ↑id,AV.vs (BS rec) aL.au,AV.bool true,AV.int IntKind.i64 (IntKind.i64.wrap (S[i].turn+1))]++List.drop (i*4+(1+1+1+1)) (List.map Sl.enc S).flatten=_ from iF.symm]
 simp+decide only[sv,Pc,hlen,hle]
 refine⟨fun j hj hn=>?_,hK _ _ rfl (A.clean.aD6 hS (by simp)) ⟨by simp[aa.set,aa.clean],fun b hb h1 h2 h3=>?_⟩⟩
 ·omega
 ·simp only[aa.set,aa.clean]
  grind
def m5.refl:m5 h h ab mb lb:=⟨ak _,fun _ _ _ _ _=>rfl⟩
def m5.trans (a:m5 h h1 ab mb lb) (b:m5 h1 h2 ab mb aW) (hl:aW=lb\/h.next<=aW):m5 h h2 ab mb lb:=⟨fm a.1 b.1,fun x h1 h2 h3 h4=>by
 have:=a.1
 rw[b.2 x (by omega) h2 h3 (by omega),a.2 x h1 h2 h3 h4]⟩
def m5.clean:m5 h (h.clean n) ab mb lb:=⟨by simp[aa.clean],fun b hb _ _ _=>by simp only[aa.clean];grind⟩
def Jc:(lj S).1<(lj S).2.length/\(lj S).2.length<=S.length+1:=by
 unfold lj
 cases hq:GG S with
 |none=>simp
 |some i=>exact⟨(List.findIdx?_eq_some_iff_getElem.1 hq).1,by simp⟩
def Ho (n:Int):Int:=IntKind.wrap .i64 (n+1)
def qQ (S:List Sl) (es:List (Nat×Nat)) (id:Nat) (rec:List UInt8):List Sl×List (Nat×Nat):=match dw es id with
 |some i=>(S.set i ⟨some (id,rec),Ho (S.getD i ⟨none,0⟩).turn⟩,es)
 |none=>((lj S).2.set (lj S).1 ⟨some (id,rec),Ho ((lj S).2.getD (lj S).1 ⟨none,0⟩).turn⟩,es++[(id,(lj S).1)])
def aT6 (ok:aA P tb) (A:fF h ab mb lb dp S es) {id:Nat} {t:aL} (hv:x.toNat=dp) (hr:rec.length<2^20) (hs:S.length<2^19) (hk: ∀i,dw es id=some i->i<S.length):
 ∃h',al P 42 [.ptr ab 0, .int .u64 id, .vs (BS (x::rec)) t] h (.int .i64 0) h'/\ ∃aW,fF h' ab mb aW dp (qQ S es id (x::rec)).1 (qQ S es id (x::rec)).2/\(aW=lb\/h.next<=aW)/\m5 h h' ab mb lb:=by
 refine ok.dr c42 ?_
 obtain⟨lv,t1,_⟩:=A.top
 have l1:=A.l1
 have hc:=aq t1
 have b0:(BS (x::rec))=[.int .u8 x.toNat]::BS rec:=rfl
 have hvv:((x.toNat:Int)=(dp:Int))=True:=by rw[hv];simp
 simp+decide only[sv,c42,aBG]
 refine bq 17 rfl rfl ?_
 simp+decide only[sv,aBF,hc,l1,b0,hvv,xr]
 have A1:=A.clean (n:=17)
 have k1:= @m5.clean h ab mb lb 17
 have cN:cellsOf (h.clean 17) ab=_:=aq (by rw[show(h.clean 17).get ab=h.get ab by simp only[aa.clean];grind];exact t1)
 have ir:=OE A1.map (id:=id) (b:=true)
 generalize hX:h.clean 17=X at*
 have hXn:h.next<=X.next:=by rw[<-hX];simp[aa.clean]
 have fin: ∀{aW:Nat} {S1:List Sl} {es1:List (Nat×Nat)} {H:aa} {ρ:Env} {i:Nat},fF H ab mb aW dp S1 es1->(aW=lb\/h.next<=aW)->m5 h H ab mb lb->(hi:i<S1.length)->ρ 0= .ptr ab 0->ρ 1= .int .u64 id->ρ 2= .vs ([.int .u8 x.toNat]::BS rec) t->ρ 7= .int .i64 i->
  qQ S es id (x::rec)=(S1.set i ⟨some (id,x::rec),IntKind.wrap .i64 (S1[i].turn+1)⟩,es1)->WP P (.jG SA [[],[],[],[],[],[],[],[3],[],[],[],[7],[],[],[],[7],[],[],[],[]]) (iD (WP P (.seq (.cA Pc) .ret) (Cd [.tmp 6] (.int .i64 0) fun h'=> ∃aW,fF h' ab mb aW dp (qQ S es id (x::rec)).1 (qQ S es id (x::rec)).2/\(aW=lb\/h.next<=aW)/\m5 h h' ab mb lb)) (Cd [.tmp 6] (.int .i64 0) fun h'=> ∃aW,fF h' ab mb aW dp (qQ S es id (x::rec)).1 (qQ S es id (x::rec)).2/\(aW=lb\/h.next<=aW)/\m5 h h' ab mb lb)) ρ H:=by
  intro aW S1 es1 H ρ i B1 gQ hK hi r0 r1 r2 r7 hs
  refine aOR ok B1 (rec:=x::rec) (t:=t) (by simp;omega) hi r0 r1 r2 r7 fun ρ' h' r6 B2 k2=>?_
  rw[hs]
  exact⟨by simp[ft,C8,r6,ja],aW,B2,gQ,hK.trans k2 gQ⟩
 simp+decide only[sv,aBE,cN,ir]
 cases hn:dw es id with
 |some i=>
  have hi:=hk i hn
  simp+decide only[sv,aew]
  refine fin A1 (.inl rfl) k1 hi rfl rfl rfl rfl ?_
  unfold qQ
  rw[hn]
  simp only[Ho,mr,bn hi,iQ]
 |none=>
  obtain⟨H1,cI,aW,A2,HT,iq,AM⟩:=aOS ok A1 hs
  simp+decide only[sv,aew,aBD]
  refine ao cI ?_
  obtain⟨lv2,t2,_⟩:=A2.top
  have c2:=aq t2
  have sd:mapOf H1 mb=some (p4 es):=by simp[mapOf,A2.map]
  have pP:=aJ7 (id:=id) (i:=(lj S).1) hn
  simp+decide only[sv,aBC,aBB,c2,sd,AV.strip,pP]
  refine fin (A2.aD7 (bE:=es++[(id,(lj S).1)])) (by omega) (k1.trans ⟨?_,fun b hb h1 h2 h3=>?_⟩ (.inl rfl)) Jc.1 rfl rfl rfl rfl ?_
  ·exact HT
  ·simp only[aa.set]
   grind
  ·unfold qQ
   rw[hn]
   simp only[Ho,mr,bn Jc.1,iQ]
end
section
open Go
variable {P:Program} {h:aa}
def aGA (ok:aA P tb) {a:Nat}:al P 240 [.int .u64 a] h (.bool false) h:=by
 refine ok.bA agk ?_
 simp+decide only[sv,agk,ao2,ao1]
def aHo (ok:aA P tb) {a b:Nat}:al P 203 [.int .u64 a, .int .u64 b] h (.bool (decide (a<b))) h:=by
 refine ok.bA agC ?_
 simp+decide only[sv,agC,aqu,aaa]
 refine ao (aGA ok) ?_
 simp+decide only[sv,aaa]
 first|done|rfl|skip
def akV {α:Type} {l m:List α} {v w:α} (h:l.length=n):List.take n (l++v::m)++[w]++List.drop (n+1) (l++v::m)=l++w::m:=by
 rw[vi h,<-vV,zi h];simp
def aj1 {m:List Nat}:List.map (fun(n:Nat)=>AV.int .u64 n) (l++x::m)=List.map (fun(n:Nat)=>AV.int .u64 n) l++ .int .u64 x::List.map (fun(n:Nat)=>AV.int .u64 n) m:=by simp
def gA (l:List Nat):List AV:=l.map fun(n:Nat)=> .int .u64 n
def Wr:(gA l).length=l.length:=by simp[gA]
def akQ {m:List Nat}:(gA (l++x::m))[l.length]? =some (.int .u64 x):=by simp[gA]
structure ES (L0:List Nat) (A:List Nat) (x:Nat) (B C:List Nat):Prop where
 perm:(A++x::(B++C)).Perm L0
 aQ:(A++B).Pairwise (· <= ·)
 lt: ∀b∈B,x<=b
def ES.step (I:ES L0 (A++[y]) x B C) (yG:x<y):ES L0 A x (y::B) C where
 perm:=by
  refine List.Perm.trans ?_ I.perm
  grind
 aQ:=by simpa using I.aQ
 lt b hb:=by
  rcases List.mem_cons.1 hb with rfl|hb
  ·omega
  ·exact I.lt b hb
def ES.fin (I:ES L0 A x B C) (h: ∀y,A.getLast?=some y->y<=x):(A++x::B).Pairwise (· <= ·):=by
 rw[List.pairwise_append]
 have hs:=List.pairwise_append.1 I.aQ
 refine⟨hs.1,List.pairwise_cons.2 ⟨fun b hb=>I.lt b hb,hs.2.1⟩,fun a ha b hb=>?_⟩
 have hax:a<=x:=by
  rcases List.eq_nil_or_concat A with rfl|⟨A',y,rfl⟩
  ·cases ha
  grind
 grind
def aNW (ok:aA P tb) {b:Nat} (hb:b<h.next) (hc:cellsOf h b=some (gA L)) (hl:L.length<2^20):
 ∃h',al P 197 [.rs b 0 L.length 1, .int .i64 0, .int .i64 L.length] h (.aE []) h'/\ ∃M,M.Perm L/\M.Pairwise (· <= ·)/\iL b h h' (gA M):=by
 refine ok.dr agD ?_
 simp+decide only[sv,agD,aqy,xr]
 let I:Nat->Env->aa->Prop:=fun n ρ H=> ∃i M,L.length+1-i=n/\1<=i/\M.Perm L/\(M.take i).Pairwise (· <= ·)/\iL b h H (gA M)/\ρ 0= .rs b 0 L.length 1/\ρ 1= .int .i64 0/\ρ 2= .int .i64 L.length/\ρ 6= .int .i64 i
 have h1:(L.take 1).Pairwise (· <= ·):=by
  cases L with
  |nil=>simp
  |cons a l=>simp
 refine dv I ?_ L.length ⟨1,L,by omega,by omega,List.Perm.refl _,h1,⟨hc,ak _,fun _ _ _=>rfl⟩,rfl,rfl,rfl,rfl⟩
 rintro n ρ H ⟨i,M,hn,qZ,hp,hs,ha,r0,r1,r2,r6⟩
 have hML:=hp.length_eq
 by_cases hi:i<L.length
 ·have av:(i:Int)<(L.length:Int):=by omega
  simp+decide only[sv,aac,aqx,r2,r6,av]
  have hw:=dj (show i<2^61 by omega)
  let J:Nat->Env->aa->Prop:=fun j ρ H=> ∃A x B C,A.length=j/\j+B.length=i/\ES L A x B C/\iL b h H (gA (A++x::(B++C)))/\ρ 0= .rs b 0 L.length 1/\ρ 1= .int .i64 0/\ρ 2= .int .i64 L.length/\ρ 6= .int .i64 i/\ρ 7= .int .i64 j
  have hMi:M.take i++M[i]::([]++M.drop (i+1))=M:=by
   simp_all
  have U4:J i (put (put (put (put (put ρ (some 10) (ρ 6)) (some 11) (ρ 2)) (some 12) (.bool true)) (some 15) (ρ 6)) (some 7) (ρ 6)) H:=⟨M.take i,M[i],[],M.drop (i+1),by simp;omega,by simp,⟨by grind,by simpa using hs,by simp⟩,by grind,r0,r1,r2,r6,r6⟩
  rw[r6,r2] at U4
  refine dv J ?_ i U4
  rintro j ρ H ⟨A,x,B,C,hA,hAB,hI,ha,r0,r1,r2,r6,r7⟩
  have hc:=ha.cell
  have hlen:=hI.perm.length_eq
  simp only[cw,cQ] at hlen
  have hn9:b<H.next:=by have:=ha.next;omega
  have afC:=ha.clean (n:=15) hb
  have fin:(A++x::B).Pairwise (· <= ·)-> ∀{ρ':Env},ρ' 0= .rs b 0 L.length 1->ρ' 1= .int .i64 0->ρ' 2= .int .i64 L.length->ρ' 6= .int .i64 ((i+1:Nat):Int)-> ∃m,m<n/\I m ρ' (H.clean 15):=by
   intro hpw ρ' q0 q1 q2 q6
   refine⟨L.length+1-(i+1),by omega,i+1,A++x::(B++C),rfl,by omega,hI.perm,?_,afC,q0,q1,q2,q6⟩
   have:(A++x::(B++C)).take (i+1)=A++x::B:=by
    rw[show A++x::(B++C)=(A++x::B)++C by simp,vi (by simp;omega)]
   grind
  simp+decide only[sv]
  refine bq 15 rfl rfl ?_
  rcases List.eq_nil_or_concat A with rfl|⟨A',y,rfl⟩
  ·have:j=0:=by grind
   subst this
   simp+decide only[sv,aab,PG,r1,r6,r7,hw]
   exact fin (hI.fin (by simp)) r0 r1 r2 rfl
  ·have wV:j=A'.length+1:=by grind
   have hjp:(0:Int)<(j:Int):=by omega
   have iu:(j:Int)<(L.length:Int):=by omega
   have tH:IntKind.wrap .i64 ((j:Int)-1)=(A'.length:Int):=by rw[bj]<;>omega
   have hal:(A'.length:Int)<(L.length:Int):=by omega
   have g1:(gA ((A'.concat y)++x::(B++C)))[j]? =some (.int .u64 x):=by rw[<-hA];exact akQ
   have g2:(gA ((A'.concat y)++x::(B++C)))[A'.length]? =some (.int .u64 y):=by rw[List.concat_append];exact akQ
   simp+decide only[sv,aab,r0,r1,r7,tH,hjp,iu,hal,hc,hn9,g1,g2,Nat.mul_one]
   refine dX (aHo ok) (fun k h1 h2=>by simp only[aa.clean];grind) ?_
   by_cases yG:x<y
   ·have aTw:=afC.cell
    have g0:(A'.concat y)++x::(B++C)=(A'++[y])++x::(B++C):=by simp
    have g5:List.take j (gA ((A'.concat y)++x::(B++C)))++[.int .u64 y]++List.drop (j+1) (gA ((A'.concat y)++x::(B++C)))=gA (A'++y::(y::(B++C))):=by
     rw[g0];unfold gA;rw[aj1,akV (by simp[wV])];simp
    have g6:List.take A'.length (gA (A'++y::(y::(B++C))))++[.int .u64 x]++List.drop (A'.length+1) (gA (A'++y::(y::(B++C))))=gA (A'++x::(y::(B++C))):=by unfold gA;rw[aj1,akV (by simp)];simp
    have g7:j+1<=(gA ((A'.concat y)++x::(B++C))).length:=by grind
    have g8:A'.length+1<=(gA (A'++y::(y::(B++C)))).length:=by grind
    have afA:b<H.next+15:=by omega
    simp+decide only[sv,aqw,aqv,PG,yG]
    refine bq 18 rfl rfl ?_
    simp+decide only[sv,r0,r7,tH,iu,hal,aTw,afA,g1,g2,g5,g6,g7,g8,Nat.mul_one]
    have fr:=fun i=>(jx (n:=18) (i:=i) (h:=(H.clean 15).clean 18) (x:=some (.cells (gA (A'++y::y::(B++C))))) afA).2 (ba (h:=H.clean 15) (by simp[aa.clean]))
    refine⟨fr _,(jx afA).2 (fr _),A'.length,by omega,A',x,y::B,C,rfl,by simp;omega,ES.step (by simpa using hI) yG,((afC.clean hb).trans iL.set).trans iL.set,r0,r1,r2,r6,rfl⟩
   ·simp+decide only[sv,PG,yG,r6,hw]
    exact fin (hI.fin (by simp;omega)) r0 r1 r2 rfl
 ·have av: ¬(i:Int)<(L.length:Int):=by omega
  simp+decide only[sv,aac,r6,r2,av]
  refine⟨rfl,M,hp,?_,ha⟩
  rwa [bX (by omega)] at hs
def aG5 (ok:aA P tb) {b:Nat} (hb:b<h.next) (hc:cellsOf h b=some (gA L)) (hl:L.length<=12):
 ∃h',al P 96 [.rs b 0 L.length 1] h (.aE []) h'/\ ∃M,M.Perm L/\M.Pairwise (· <= ·)/\iL b h h' (gA M):=by
 refine ok.dr M6 ?_
 have hw:IntKind.wrap .u64 (L.length:Int)=L.length:=eo (by omega)
 obtain⟨y,hy⟩:=aFn ok (show L.length<13 by omega) (h:=h)
 have hp: ∃h',al P 153 [.rs b 0 L.length 1, .int .i64 0, .int .i64 L.length, .int .i64 y] h (.aE []) h'/\ ∃M,M.Perm L/\M.Pairwise (· <= ·)/\iL b h h' (gA M):=by
  refine ok.dr T2 ?_
  have w1:IntKind.wrap .i64 ((L.length:Int)-0)=L.length:=by rw[bj]<;>omega
  have dU:(L.length:Int)<=12:=by omega
  obtain⟨h',c1,hM⟩:=aNW ok hb hc (by omega)
  simp+decide only[sv,T2,atb,ata]
  refine Iu ?_
  simp+decide only[sv,as9,as8,as7,w1,dU]
  refine ao c1 ?_
  simp+decide only[sv,T2]
  exact⟨rfl,hM⟩
 obtain⟨h',c1,hM⟩:=hp
 simp+decide only[sv,M6,axi,axh,hw]
 refine ao hy ?_
 simp+decide only[sv,M6]
 refine ao c1 ?_
 simp+decide only[sv,M6]
 exact⟨rfl,hM⟩
end
section
open Go
variable {P:Program} {h:aa} {ab mb lb dp:Nat} {S:List Sl} {es:List (Nat×Nat)}
def aT7 (ok:aA P tb) {v:Nat}: ∃h',al P 40 [.int .u8 v] h (.ptr (h.next+1) 0) h'/\fF h' (h.next+1) h.next (h.next+2) v [] []/\h'.next=h.next+2/\Old h h':=by
 refine ok.dr c40 ?_
 simp+decide only[sv,c40,aBR,aBQ]
 refine⟨rfl,⟨⟨_,by simp only[aa.at,dP], .inl ⟨rfl,rfl⟩⟩,by simp[aa.at,p4],by simp[aa.at],by simp[aa.at];omega,by omega,by simp⟩,by simp[aa.at],((Old.refl h).at (ak _)).at (by omega)⟩
def zU (S:List Sl) (es:List (Nat×Nat)) (id:Nat):List Sl×List (Nat×Nat):=match dw es id,ti es id with
 |some i,some j=>(S.set i ⟨none,(S.getD i ⟨none,0⟩).turn⟩,es.eraseIdx j)
 |_,_=>(S,es)
def aOT (ok:aA P tb) (A:fF h ab mb lb dp S es) {id:Nat} (hk: ∀i,dw es id=some i->i<S.length):
 ∃e h',al P 232 [.ptr ab 0, .int .u64 id] h (.int .i64 e) h'/\fF h' ab mb lb dp (zU S es id).1 (zU S es id).2/\m5 h h' ab mb lb:=by
 have ir:=OE A.map (id:=id) (b:=true)
 cases hn:dw es id with
 |none=>
  refine⟨7,ok.dr L6 ?_⟩
  simp+decide only[sv,L6,Zg,Ze]
  refine ao (ae8 ok A) ?_
  rw[hn]
  simp+decide only[sv,Zd,Zc]
  refine⟨rfl,?_, .refl⟩
  unfold zU
  grind
 |some i=>
  refine⟨0,ok.dr L6 ?_⟩
  have hi:=hk i hn
  have hS:S≠[]:=fun e=>by grind
  obtain⟨t1,e2,e3,e4,e5⟩:=A.DW hS
  have l1:=A.l1
  have l2:=A.l2
  have c1:=aq t1
  have c2:=aq e2
  have av:(i:Int)<(S.length:Int):=by omega
  have rows:(S.map Sl.enc)[i]? =some S[i].enc:=by grind
  have g3:=zj (sz:=4) (j:=3) vt rows (by omega)
  rw[Sl.trn] at g3
  have hlen:(S.map Sl.enc).flatten.length=S.length*4:=by rw[kS vt,fp]
  have hle:i*4+4<=S.length*4:=by omega
  have iF:=Oh (sz:=4) (S.map Sl.enc) vt i (Sl.enc ⟨none,S[i].turn⟩) (by simpa using hi) rfl
  rw[<-List.map_set] at iF
  obtain⟨j,hj⟩: ∃j,ti es id=some j:=by
   rw[NU] at hn
   cases hq:ti es id with
   |none=>grind
   |some j=>exact⟨j,rfl⟩
  have hmd:=aJ8 hj
  have sd:mapOf h mb=some (p4 es):=by simp[mapOf,A.map]
  simp+decide only[sv,L6,Zg,Ze]
  refine ao (ae8 ok A) ?_
  rw[hn]
  simp+decide only[sv,Zd]
  refine bq 16 rfl rfl ?_
  simp+decide only[sv,apb,c1,c2,l1,e3,av,g3]
  rw[show List.take (i*4) (List.map Sl.enc S).flatten++[AV.int IntKind.u64 0,AV.vs [] .full,AV.bool false,AV.int IntKind.i64 S[i].turn]++List.drop (i*4+(1+1+1+1)) (List.map Sl.enc S).flatten=_ from iF.symm]
  have nb: ¬ab=lb:=fun e=>e4 e.symm
  have nm: ¬mb=lb:=fun e=>e5 e.symm
  simp+decide only[sv,apa,Zc,hlen,hle,c1,l1,nb,nm,sd,l2,hmd]
  have hsd:zU S es id=(S.set i ⟨none,S[i].turn⟩,es.eraseIdx j):=by
   unfold zU
   grind
  refine⟨(jx e3).2 (ba (ak _)),rfl,?_,?_,fun b hb h1 h2 h3=>?_⟩
  ·rw[hsd];exact(A.clean.aD6 hS (by simp)).aD7
  ·simp[aa.set,aa.clean]
  ·simp only[aa.set,aa.clean]
   grind
def jo (S:List Sl):List Nat:=S.filterMap fun s=>s.r.map (·.1)
def aJO:(jo S).length<=S.length:=List.length_filterMap_le _ _
def ET (h H:aa) (v:AV) (l:List Nat):Prop:=(l=[]/\v= .vs [] .full)\/ ∃b,l≠[]/\v= .rs b 0 l.length 1/\cellsOf H b=some (gA l)/\h.next<=b/\b<H.next
def ET.app (g:ET h H v l) (ho:h.next<=H.next) (x:Nat) (hl:l.length<2^20): ∃v' H',iS 8 1 H.next H v (some [[.int .u64 x]])=some (v',H')/\ET h H' v' (l++[x])/\H.next<=H'.next/\ ∀b,b<h.next->H'.get b=H.get b:=by
 rcases g with⟨rfl,rfl⟩|⟨b,h0,rfl,hc,h1,h2⟩
 ·refine⟨_,_,by simp only[iS,qH,Gv,fj];rfl, .inr ⟨H.next,by simp,rfl,aq (by simp[aa.at,gA]),ho,by simp[aa.at]⟩,by simp[aa.at],fun b hb=>by simp only[aa.at];grind⟩
 ·have hlen:=Wr (l:=l)
  refine⟨.rs H.next 0 (l.length+1) 1,(H.set b none).at H.next (.cells (gA (l++[x]))),?_, .inr ⟨H.next,by simp,by simp,aq (by simp[aa.at]),ho,by simp[aa.at];omega⟩,by simp[aa.at,aa.set],fun c hb=>by simp only[aa.at,aa.set];grind⟩
  simp only[iS,hc,me,qH,Gv,fj]
  rw[ax (by grind),bX (by omega)]
  simp[gA]
def ET.to (g:ET h H v l) (o:Old H X):ET h X v l:=by
 rcases g with g|⟨b,h0,h1,hc,h2,h3⟩
 ·exact .inl g
 ·refine .inr ⟨b,h0,h1,?_,h2,bJ h3 o.next⟩
  unfold cellsOf at hc ⊢
  rw[o.get b h3];exact hc
def DY (x:Nat):List Nat->List Nat
 |[]=>[x]
 |y::l=>if x<=y then x::y::l else y::DY x l
def qI:List Nat->List Nat
 |[]=>[]
 |x::l=>DY x (qI l)
theorem Wd: ∀{l:List Nat},(DY x l).Perm (x::l)
 |[]=> .refl _
 |y::l=>by
  unfold DY
  split
  ·exact .refl _
  ·exact(Wd.cons y).trans (.swap ..)
theorem Bk: ∀{l:List Nat},(qI l).Perm l
 |[]=> .refl _
 |x::l=>Wd.trans (Bk.cons x)
theorem akh: ∀{l:List Nat},l.Pairwise (· <= ·)->(DY x l).Pairwise (· <= ·)
 |[],_=>by simp[DY]
 |y::l,h=>by
  have h':=List.pairwise_cons.1 h
  unfold DY
  split
  ·refine List.pairwise_cons.2 ⟨fun z hz=>?_,h⟩
   grind
  ·refine List.pairwise_cons.2 ⟨fun z hz=>?_,akh h'.2⟩
   rcases List.mem_cons.1 (Wd.mem_iff.1 hz) with rfl|hz
   ·omega
   grind
theorem Wb: ∀{l:List Nat},(qI l).Pairwise (· <= ·)
 |[]=>by simp[qI]
 |x::l=>akh Wb
theorem Wt: ∀{l m:List Nat},l.Pairwise (· <= ·)->m.Pairwise (· <= ·)->l.Perm m->l=m
 |[],m,_,_,hp=>(List.Perm.nil_eq hp)
 |x::l,[],_,_,hp=>absurd hp.length_eq (by simp)
 |x::l,y::m,hl,hm,hp=>by
  have h1:=List.pairwise_cons.1 hl
  have h2:=List.pairwise_cons.1 hm
  have yG:x=y:=by
   have hx:x∈y::m:=hp.mem_iff.1 (by simp)
   have hy:y∈x::l:=hp.mem_iff.2 (by simp)
   grind
  subst yG
  rw[Wt h1.2 h2.2 (List.perm_cons x |>.1 hp)]
theorem aiO: ∀{l:List Nat},rowsOf (gA l) 0 1 l.length=(ay .u64).R l
 |[]=>rfl
 |x::l=>by
  have ih:=aiO (l:=l)
  have hc:gA (x::l)=[AV.int .u64 x]++gA l:=rfl
  rw[cQ,rowsOf,hc,show 0+1=[AV.int .u64 (x:Nat)].length+0 by rfl,Io (by rw[Wr];omega),ih];rfl
def aIh {p:Nat->Bool}:(AV.vs ((ay .u64).R M) .au).bD p=true:=aF.i7 _
def ajm (hi):jo (S.take (i+1))=jo (S.take i)++(match S[i].r with|some r=>[r.1]|none=>[]):=by
 rw[<-lM hi,jo,jo,List.filterMap_append]
 grind
def aEX (ok:aA P tb) (A:fF h ab mb lb dp S es) (h0:jo S≠[]) (dU:(jo S).length<=12):
 al P 51 [.ptr ab 0] h (.vs ((ay .u64).R (qI (jo S))) .au) h:=by
 obtain⟨lv,t1,q1,q2,qg⟩:=A.qg
 have l1:=A.l1
 have hc:=aq t1
 have Eo:=A.small
 have hlen:jV lv=some S.length:=by rw[(qg h rfl).len,fp]
 refine ok.Xy (rf:=c51) rfl (bT rfl) (aF.i7 _) ?_
 simp+decide only[sv,c51,aAM,aAL,aAK,aAJ,hc,hlen]
 let I:Nat->Env->aa->Prop:=fun n ρ H=> ∃i,S.length=i+n/\Old h H/\ET h H (ρ 3) (jo (S.take i))/\ρ 11=lv/\ρ 12= .int .i64 S.length/\ρ 13= .int .i64 i
 refine dv I ?_ S.length ⟨0,by omega,Old.refl h, .inl ⟨by simp[jo],rfl⟩,rfl,rfl,rfl⟩
 rintro n ρ H ⟨i,aN,ho,hg,gd,iI,fv⟩
 have wT:=ho.next
 have gQ:S≠[]->H.get lb=h.get lb:=fun hS=>ho.get _ (A.DW hS).2.2.1
 by_cases hi:i<S.length
 ·have av:(i:Int)<(S.length:Int):=by omega
  have hw:=dj (show i<2^61 by omega)
  obtain⟨p,g1,g2⟩:=(qg H (gQ (fun e=>by grind))).get i (by grind)
  rw[List.getElem_map] at g2
  have e4:S[i].enc.length=4:=Sl.len
  have st4:ew [AV.int .u64 0, .vs [] .full, .bool false, .int .i64 0] 0 S[i].enc=S[i].enc:=aIp e4.symm
  simp+decide only[sv,aek,aAI,gd,iI,fv,av,g1,g2,Sl.aww,e4]
  generalize hX:aa.set _ _ _=X
  have xo:Old H X:=by rw[<-hX];exact((Old.refl H).at (ak _)).set (ak _)
  have xc:cellsOf X H.next=some S[i].enc:=by rw[<-hX];exact aq (by simp[aa.set])
  have xn:=xo.next
  have tk:=Sl.taken (s:=S[i])
  cases hr:S[i].r with
  |none=>
   rw[hr] at tk
   simp+decide only[sv,aej,aei,xc,tk,fv,hw,Option.isSome_none]
   refine⟨n-1,by omega,i+1,by omega,ho.trans xo,?_,gd,iI,rfl⟩
   rw[ajm hi,hr,fE]
   exact hg.to xo
  |some r=>
   rw[hr] at tk
   have aM:S[i].enc[0]? =some (.int .u64 r.1):=by simp[Sl.enc,hr]
   have uP:=aJO (S:=S.take i)
   obtain⟨v',H',ha,dz,cV,eV⟩:=(hg.to xo).app (fm wT xn) r.1 (by grind)
   simp+decide only[sv,aej,aAH,aei,xc,tk,fv,hw,Option.isSome_some,aM,ha]
   refine⟨n-1,by omega,i+1,by omega,⟨by omega,fun b hb=>by rw[eV b hb,xo.get b (by omega),ho.get b hb]⟩,?_,gd,iI,rfl⟩
   rw[ajm hi,hr]
   exact dz
 ·have av: ¬(i:Int)<(S.length:Int):=by omega
  rw[bX (by omega)] at hg
  rcases hg with⟨e,_⟩|⟨b,_,r3,qo,gw,dB⟩
  ·grind
  obtain⟨H',c1,M,hM,hMs,ha⟩:=aG5 ok dB qo dU
  have hMM:M=qI (jo S):=Wt hMs Wb (hM.trans Bk.symm)
  simp+decide only[sv,aek,anE,iI,fv,r3,av]
  refine ao c1 ?_
  simp+decide only[sv,anD,r3,NZ]
  have qt:=ha.cell
  rw[hMM] at qt
  subst hMM
  have AP:(qI (jo S)).length=(jo S).length:=Bk.length_eq
  have hfz:AV.gE b (gA (qI (jo S))) (.rs b 0 (jo S).length 1)= .vs ((ay .u64).R (qI (jo S))) .au:=by
   unfold AV.gE
   rw[ax rfl,ax (by rw[Wr];omega),<-AP,aiO]
  refine⟨_,b,gA (qI (jo S)),rfl,?_,gw,?_,?_,fun x hx=>?_⟩
  ·revert qt;unfold cellsOf;grind
  ·rw[hfz];exact aIh
  ·rw[hfz];exact aF.iy _
  ·rw[ha.old x (by omega) (by omega)];exact ho.get x hx
def J8 (S:List Sl) (es:List (Nat×Nat)) (id:Nat):List UInt8:=match(dw es id).bind fun i=>(S[i]?).bind (·.r) with
 |some r=>r.2
 |none=>[]
def vJ (S:List Sl) (es:List (Nat×Nat)) (l:List Nat):List UInt8:=l.flatMap fun id=>be id 8++cq (J8 S es id)
structure aE0 (S:List Sl) (es:List (Nat×Nat)) (B:Nat):Prop where
 rc: ∀id i,dw es id=some i-> ∃rec turn,S[i]? =some ⟨some (id,rec),turn⟩/\rec.length<B
 idx: ∀id i rec turn,S[i]? =some ⟨some (id,rec),turn⟩->dw es id=some i
 id: ∀id i,dw es id=some i->id<2^64
def aNI (ok:aA P tb) (A:fF h ab mb lb dp S es) (h0:jo S≠[]) (dU:(jo S).length<=12) (k:aE0 S es 1000):
 al P 43 [.ptr ab 0] h (.vs (BS (vJ S es (qI (jo S)))) .au) h:=by
 have hS:S≠[]:=fun e=>h0 (by rw[e];rfl)
 obtain⟨t1,e2,e3,e4,e5⟩:=A.DW hS
 have l1:=A.l1
 have l2:=A.l2
 have tm:=A.map
 have hc:=aq t1
 have cI:=aq e2
 refine ok.df (rf:=c43) rfl (bT rfl) (dt.i7) ?_
 simp+decide only[sv,c43,aBA,aBz,aBy]
 refine ao (aEX ok A h0 dU) ?_
 simp+decide only[sv,aF.aD]
 have uH: ∀id∈qI (jo S),∃i rec turn,dw es id=some i/\i<S.length/\S[i]? =some ⟨some (id,rec),turn⟩/\rec.length<1000/\id<2^64/\J8 S es id=rec:=by
  intro id aM
  have:=Bk.mem_iff.1 aM
  obtain⟨s,hs,hr⟩:=List.mem_filterMap.1 this
  obtain⟨i,hi⟩:=List.mem_iff_getElem?.1 hs
  obtain⟨⟨CC,rec⟩,pd,qh⟩:=Option.map_eq_some_iff.1 hr
  simp only at qh
  subst qh
  have Ep:S[i]? =some ⟨some (CC,rec),s.turn⟩:=by rw[hi];cases s;simp_all
  have hn:=k.idx CC i rec s.turn Ep
  obtain⟨aUA,aUo,h3,h4⟩:=k.rc CC i hn
  rw[Ep] at h3;cases h3
  refine⟨i,rec,s.turn,hn,?_,Ep,h4,k.id _ _ hn,?_⟩
  ·grind
  ·unfold J8;grind
 have AP:(qI (jo S)).length<=12:=by rw[Bk.length_eq];exact dU
 generalize qI (jo S)=M at*
 let I:Nat->Env->aa->Prop:=fun n ρ H=> ∃i,M.length=i+n/\Old h H/\ρ 0= .ptr ab 0/\(∃t,ρ 3= .vs (BS (vJ S es (M.take i))) t)/\ρ 7= .vs ((ay .u64).R M) .au/\ρ 8= .int .i64 M.length/\ρ 9= .int .i64 i
 refine dv I ?_ M.length ⟨0,by omega,Old.refl h,rfl,⟨_,rfl⟩,rfl,rfl,rfl⟩
 rintro n ρ H ⟨i,aN,ho,r0,⟨t3,r3⟩,r7,r8,r9⟩
 have wT:=ho.next
 by_cases hi:i<M.length
 ·have av:(i:Int)<(M.length:Int):=by omega
  have hw:=dj (show i<2^61 by omega)
  obtain⟨j,rec,turn,hn,hj,hs,jL,aM,tp⟩:=uH _ (bw hi)
  have g1:((ay .u64).R M)[i]? =some [.int .u64 M[i]]:=(ay .u64).cj hi
  have cH:cellsOf H ab=_:=(show cellsOf H ab=cellsOf h ab by unfold cellsOf;rw[ho.get _ l1]).trans hc
  have cH2:cellsOf H lb=_:=(show cellsOf H lb=cellsOf h lb by unfold cellsOf;rw[ho.get _ e3]).trans cI
  have CG: ∀n,sB (.int .i64 0) false (H.clean n) (.map (some mb)) (.int .u64 M[i])=some (.int .i64 j):=fun n=>by
   rw[OE (es:=es) (by simp only[aa.clean];rw[ax (by omega),ho.get _ l2,tm]),hn];rfl
  have rows:(S.map Sl.enc)[j]? =some [.int .u64 M[i], .vs (BS rec) .au, .bool true, .int .i64 turn]:=by rw[Dz,hs];rfl
  have g2:=zj (sz:=4) (j:=1) vt rows (by omega)
  have mZ:(j:Int)<(S.length:Int):=by omega
  have la:ab<H.next:=by omega
  have aW:lb<H.next:=by omega
  have lZ:(vJ S es (M.take i)).length<=1010*i:=by
   have: ∀(l:List Nat),(∀id∈l,(J8 S es id).length<=1000)->(vJ S es l).length<=1010*l.length:=by
    intro l
    induction l with
    |nil=>intro _;simp[vJ]
    |cons c l ih=>
     intro hm
     have h1:=ih (fun x hx=>hm x (eH _ hx))
     have h2:=hm c (pY ..)
     simp only[vJ,jR,cw,bG,cq,cQ] at h1 ⊢;omega
   grind
  simp+decide only[sv,aev,aBx,r7,r8,r9,av,g1]
  refine m6 ?_
  simp+decide only[sv,aBw,r3]
  refine dh (sy ok (n:=8) aM (by omega) (by omega)) (ba (ak _)) ?_
  simp+decide only[sv,r0,cH,la,CG,cH2,aW,mZ,g2]
  refine⟨show mb<H.next by omega,?_⟩
  refine dh (Vw ok (b:=vJ S es (M.take i)++be M[i] 8) (s:=rec) (by simp only[cw,bG];omega) (by omega)) (ba (ak _)) ?_
  simp+decide only[sv,aBv,r9,hw]
  refine⟨n-1,by omega,i+1,by omega,ho.clean,r0,⟨.au,?_⟩,r7,r8,rfl⟩
  show AV.vs (BS (vJ S es (M.take i)++be M[i] 8++cq rec)) .au=_
  rw[<-lM hi]
  simp only[vJ,vX,jR,sS,fE,eR,tp]
 ·have av: ¬(i:Int)<(M.length:Int):=by omega
  simp+decide only[sv,aev,aBu,r8,r9,r3,av,aV]
  rw[bX (by omega)]
  exact⟨dt.iy,ho.get⟩
end
end Go.Proofs.YtoioonbabnomkaaGreat.Am
