/- What the functions do. Conditions: none. -/
import Derived.Test.YtljapedlkdfafaaGreatCa
set_option maxRecDepth 100000
set_option maxHeartbeats 8000000
set_option linter.unusedSimpArgs false
set_option linter.unusedVariables false
set_option linter.unnecessarySimpa false
namespace Go.Proofs.YtljapedlkdfafaaGreat.Am
section
open Go
structure Lb where
 d:Nat
 ps:List (Nat×Nat)
 deriving DecidableEq
def Lb.c (l:Lb) (t:aG):List AV:=[.int .u8 l.d, .vs (aw.R l.ps) t]
structure Lb.ok (l:Lb):Prop where
 d:l.d<256
 ps: ∀p∈l.ps,p.1<65536/\p.2<256
 len:l.ps.length<2^20
def ki {α:Type} (q:α->Bool) (l:List α):Int:=if l.findIdx q<l.length then(l.findIdx q:Int) else -1
variable {P:Program}
theorem Yj (ok:ax P tb) {x y:Nat} (hx:x<256) (hy:y<256) (h:aa):an P 159 [.int .u8 x, .int .u8 y] h (.bool (decide (x<=y))) h:=by
 by_cases h5:x<6/\y<6
 ·have:=amK ok (fuel:=300) (f:=159) (k:= .u8) (n:=6) (m:=6) (g:=fun x y=> .bool (Nat.ble x y)) (by decide+kernel) h5.1 h5.2 rfl h
  have e:decide (x<=y)=Nat.ble x y:=by rw[Bool.eq_iff_iff];simp
  rw[e];exact this
 ·refine ok.calls (rf:=Ak) rfl (Nat.le_of_ble_eq_true rfl) ?_
  have e:(x:Int)<=(y:Int)↔x<=y:=by omega
  by_cases hx5:x<6
  ·have h1: ¬(5:Int)<(x:Int):=by omega
   have h2:(5:Int)<(y:Int):=by omega
   simp+decide only[st,Ak,NT,NS,NR,NQ,h1,h2,e]
  ·have h1:(5:Int)<(x:Int):=by omega
   simp+decide only[st,Ak,NT,NS,NR,NQ,h1,e]
def pX (x:Nat):Nat:=if x=0 then 5 else x
theorem amq (ok:ax P tb) {x:Nat} (h:aa):an P 178 [.int .u8 x] h (.int .u8 (pX x)) h:=by
 refine ok.calls (rf:=Ag) rfl (Nat.le_of_ble_eq_true rfl) ?_
 by_cases hx:x=0
 ·subst hx
  simp+decide only[st,Ag,Nu,Nt,Ns,Nr,pX]
  rfl
 ·have h1: ¬(x:Int)=0:=by omega
  simp+decide only[st,Ag,Nu,Nt,Ns,Nr,h1,pX,hx]
theorem anv (ok:ax P tb) {x:Nat} (h:aa):an P 40 [.int .u8 x] h (.bool (decide (x<=4))) h:=by
 refine ok.calls (rf:=FH) rfl (Nat.le_of_ble_eq_true rfl) ?_
 have e:(x:Int)<=4↔x<=4:=by omega
 simp+decide only[st,FH,afj,afi,e]
theorem GU {α:Type} {q:α->Bool} {l:List α} {i:Nat} (hi:i<l.length) (hf: ∀j,j<i-> ∀hj:j<l.length,q l[j]=false) (hq:q l[i]=true):ki q l=i:=by
 have:l.findIdx q=i:=by
  rw[List.findIdx_eq hi]
  exact⟨hq,fun j hj=>hf j hj (by omega)⟩
 simp[ki,this,hi]
theorem GS {α:Type} {q:α->Bool} {l:List α} (hf: ∀j,j<l.length-> ∀hj:j<l.length,q l[j]=false):ki q l= -1:=by
 have:l.findIdx q=l.length:=by
  rw[List.findIdx_eq_length]
  intro x hx
  obtain⟨j,hj,rfl⟩:=List.getElem_of_mem hx
  exact hf j hj hj
 simp[ki,this]
theorem ZB (ok:ax P tb) {g:Nat} {ed:List AV} {q:Nat×Nat->Bool} {l:List (Nat×Nat)} {v:AV} {h:aa} (hv:ik h v 2 (aw.R l)) (hl:l.length<2^30) (hg:cf P g=true) (hq: ∀p∈l,an P g (.agg (aw.e p)::ed) h (.bool (q p)) h):
 an P 134 [v, .fn g [] ed] h (.int .i64 (ki q l)) h:=by
 refine ok.calls (rf:=xA) rfl (Nat.le_of_ble_eq_true rfl) ?_
 have hlen:gC v=some l.length:=by rw[hv.len,aw.aR]
 simp+decide only[st,xv,xA,Hs,Hr,hlen]
 let I:Nat->Env->aa->Prop:=fun n ρ h'=>h'=h/\ ∃i:Nat,l.length=i+n/\(∀j,j<i-> ∀hj:j<l.length,q l[j]=false)/\ρ 0=v/\ρ 1= .fn g [] ed/\ρ 7= .int .i64 l.length/\ρ 8= .int .i64 i
 refine dO I ?_ l.length ⟨rfl,0,by omega,by omega,rfl,rfl,rfl,rfl⟩
 rintro n ρ h' ⟨rfl,i,aB,hf,r0,r1,r7,r8⟩
 by_cases hi:i<l.length
 ·have aA:(i:Int)<(l.length:Int):=by omega
  have hw:=dF (show i<2^61 by omega)
  obtain⟨p,g1,g2⟩:=hv.get i (by rw[aw.aR];exact hi)
  have g3:(aw.R l)[i]'(by rw[aw.aR];exact hi)=aw.e l[i]:=by simp[ey.R]
  rw[g3] at g2
  simp+decide only[st,xv,xA,Hs,Hr,OM,OL,OK,OJ,OI,OH,r0,r1,r7,r8,aA,g1,g2]
  refine pI hg (hq l[i] (List.getElem_mem hi)) ?_
  by_cases lU:q l[i]=true
  ·simp+decide only[st,xv,lU,r8,GU hi hf lU]
  ·have qt:q l[i]=false:=by simpa using lU
   simp+decide only[st,xv,qt,r8,hw]
   refine⟨n-1,by omega,rfl,i+1,by omega,fun j hj dU=>?_,r0,r1,r7,rfl⟩
   by_cases eu:j=i
   ·subst eu;exact qt
   ·exact hf j (by omega) dU
 ·have aA: ¬(i:Int)<(l.length:Int):=by omega
  have dL:=GS (q:=q) (l:=l) (fun j _ hj=>hf j (by omega) hj)
  simp+decide only[st,xv,xA,Hs,Hr,OM,OL,OK,OJ,OI,OH,r7,r8,aA,dL]
  rfl
theorem aoO (ok:ax P tb) {g:Nat} {ed:List AV} {q:Nat×Nat->Bool} {l:List (Nat×Nat)} {t:aG} {h:aa} (hl:l.length<2^30) (hg:cf P g=true) (hq: ∀p∈l,an P g (.agg (aw.e p)::ed) h (.bool (q p)) h):
 an P 134 [.vs (aw.R l) t, .fn g [] ed] h (.int .i64 (ki q l)) h:=ZB ok (ik.vs aw) hl hg hq
end
section
open Go
variable {P:Program}
def cidx (l:List (Nat×Nat)) (c:Nat):Int:=ki (fun p=>p.1==c) l
theorem atR (ok:ax P tb) {l:List (Nat×Nat)} {v:AV} {c:Nat} {h:aa} (hv: ∀h',(∀x,x<h.next->h'.get x=h.get x)->ik h' v 2 (aw.R l)) (hl:l.length<2^30):an P 158 [v, .int .u16 c] h (.int .i64 (cidx l c)) h:=by
 refine ok.keeps (rf:=Ez) rfl (Nat.le_of_ble_eq_true rfl) rfl ?_
 simp+decide only[st,xv,Ez,aaQ,aaP]
 refine au (ZB ok (hv _ (fun x hx=>by simp[aa.at,show¬x=h.next by omega])) hl (ok.cf _ rfl) (q:=fun p=>p.1==c) (fun p hp=>?_)) ?_
 ·refine ok.keeps (rf:=Ev) rfl (Nat.le_of_ble_eq_true rfl) rfl ?_
  simp+decide only[st,xv,Ev,aau,aat,aw,acm]
  first|(intro b hb;first|(intros;omega)|(repeat(first|rw[if_neg (by omega)]|rw[if_pos (by omega)]));done)|(refine⟨rfl,?_⟩;intro b hb;first|(intros;omega)|(repeat(first|rw[if_neg (by omega)]|rw[if_pos (by omega)])))
 ·simp+decide only[st,xv,cidx]
  first|(intro b hb;first|(intros;omega)|(repeat(first|rw[if_neg (by omega)]|rw[if_pos (by omega)]));done)|(refine⟨rfl,?_⟩;intro b hb;first|(intros;omega)|(repeat(first|rw[if_neg (by omega)]|rw[if_pos (by omega)])))
theorem al1 (ok:ax P tb) {l:List (Nat×Nat)} {t:aG} {c:Nat} {h:aa} (hl:l.length<2^30):an P 158 [.vs (aw.R l) t, .int .u16 c] h (.int .i64 (cidx l c)) h:=atR ok (fun _ _=>ik.vs aw) hl
def nx (l:Lb) (c:Nat):Nat:=match l.ps.find? (fun p=>p.1==c) with
 |some p=>p.2
 |none=>l.d
theorem Gn {α:Type} {q:α->Bool}: ∀{l:List α},(ki q l= -1/\l.find? q=none)\/ ∃i,∃hi:i<l.length,ki q l=(i:Int)/\l.find? q=some l[i]:=by
 intro l
 by_cases aC:l.findIdx q<l.length
 ·refine .inr ⟨_,aC,by simp[ki,aC],?_⟩
  have:=List.find?_eq_some_iff_getElem (xs:=l) (p:=q) (b:=l[l.findIdx q])
  rw[this]
  exact⟨List.findIdx_getElem,_,aC,rfl,fun j hj=>by simpa using List.not_of_lt_findIdx hj⟩
 ·refine .inl ⟨by simp[ki,aC],?_⟩
  rw[List.find?_eq_none]
  intro x hx hq
  exact aC (List.findIdx_lt_length_of_exists ⟨x,hx,by simpa using hq⟩)
theorem YJ (ok:ax P tb) {l:Lb} {t:aG} {c:Nat} {h:aa} (hl:l.ps.length<2^30):an P 136 [.agg (l.c t), .int .u16 c] h (.int .u8 (nx l c)) h:=by
 refine ok.keeps (rf:=ED) rfl (Nat.le_of_ble_eq_true rfl) rfl ?_
 simp+decide only[st,xv,ED,abk,abj,Lb.c]
 refine au (al1 ok hl) ?_
 unfold nx cidx
 rcases Gn (q:=fun p:Nat×Nat=>p.1==c) (l:=l.ps) with⟨e1,e2⟩|⟨i,hi,e1,e2⟩
 ·simp+decide only[st,xv,OF,OE,OD,e1,e2]
  first|(intro b hb;first|(intros;omega)|(repeat(first|rw[if_neg (by omega)]|rw[if_pos (by omega)]));done)|(refine⟨rfl,?_⟩;intro b hb;first|(intros;omega)|(repeat(first|rw[if_neg (by omega)]|rw[if_pos (by omega)])))
 ·have fg:(0:Int)<=i:=by omega
  have cC:(aw.R l.ps)[i]? =some [.int .u16 l.ps[i].1, .int .u8 l.ps[i].2]:=aw.gL hi
  simp+decide only[st,xv,OF,OE,OD,e1,e2,fg,cC]
  first|(intro b hb;first|(intros;omega)|(repeat(first|rw[if_neg (by omega)]|rw[if_pos (by omega)]));done)|(refine⟨rfl,?_⟩;intro b hb;first|(intros;omega)|(repeat(first|rw[if_neg (by omega)]|rw[if_pos (by omega)])))
def names (l:Lb):Bool:=l.d==2&&!l.ps.any (fun p=>p.2==3)
theorem L1 {α:Type} {q:α->Bool} {l:List α}:decide ((0:Int)<=ki q l)=l.any q:=by
 rcases Gn (q:=q) (l:=l) with⟨e1,e2⟩|⟨i,hi,e1,e2⟩
 ·rw[e1]
  have:l.any q=false:=by rw[List.any_eq_false];exact fun x hx=>by simpa using List.find?_eq_none.1 e2 x hx
  rw[this];rfl
 ·rw[e1]
  have:l.any q=true:=List.any_eq_true.2 ⟨_,List.getElem_mem hi,List.find?_some e2⟩
  rw[this];simp
theorem asP (ok:ax P tb) {g:Nat} {ed:List AV} {q:Nat×Nat->Bool} {l:List (Nat×Nat)} {t:aG} {h:aa} (hl:l.length<2^30) (hg:cf P g=true) (hq: ∀p∈l,an P g (.agg (aw.e p)::ed) h (.bool (q p)) h):
 an P 87 [.vs (aw.R l) t, .fn g [] ed] h (.bool (l.any q)) h:=by
 refine ok.calls (rf:=FD) rfl (Nat.le_of_ble_eq_true rfl) ?_
 simp+decide only[st,xv,FD,adn,adm]
 refine au (aoO ok hl hg hq) ?_
 simp+decide only[st,xv,L1]
theorem yA (ok:ax P tb) {l:Lb} {t:aG} {h:aa} (hl:l.ps.length<2^30):an P 56 [.agg (l.c t)] h (.bool (names l)) h:=by
 refine ok.keeps (rf:=A8) rfl (Nat.le_of_ble_eq_true rfl) rfl ?_
 by_cases hd:l.d=2
 ·have nN:(l.d:Int)=2:=by omega
  simp+decide only[st,xv,A8,RB,RA,Lb.c,nN]
  refine au (asP ok hl (ok.cf _ rfl) (q:=fun p=>p.2==3) (fun p hp=>?_)) ?_
  ·refine ok.keeps (rf:=FC) rfl (Nat.le_of_ble_eq_true rfl) rfl ?_
   have e:decide ((p.2:Int)=3)=(p.2==3):=by rw[Bool.eq_iff_iff];simp;omega
   simp+decide only[st,xv,FC,adl,adk,aw,e]
   first|(intro b hb;first|(intros;omega)|(repeat(first|rw[if_neg (by omega)]|rw[if_pos (by omega)]));done)|(refine⟨rfl,?_⟩;intro b hb;first|(intros;omega)|(repeat(first|rw[if_neg (by omega)]|rw[if_pos (by omega)])))
  ·simp+decide only[st,xv,names,hd]
   refine⟨by simp,?_⟩
   first|(intro b hb;first|(intros;omega)|(repeat(first|rw[if_neg (by omega)]|rw[if_pos (by omega)]));done)|(refine⟨rfl,?_⟩;intro b hb;first|(intros;omega)|(repeat(first|rw[if_neg (by omega)]|rw[if_pos (by omega)])))
 ·have nN: ¬(l.d:Int)=2:=by omega
  have e:(l.d==2)=false:=by simpa using hd
  simp+decide only[st,xv,A8,RB,RA,Lb.c,nN,names,e]
  refine⟨by simp,?_⟩
  first|(intro b hb;first|(intros;omega)|(repeat(first|rw[if_neg (by omega)]|rw[if_pos (by omega)]));done)|(refine⟨rfl,?_⟩;intro b hb;first|(intros;omega)|(repeat(first|rw[if_neg (by omega)]|rw[if_pos (by omega)])))
def dW (l:List (Nat×Nat)):List Nat:=(l.filter (fun p=>p.2==0)).map (·.1)
theorem Xd {l:List (Nat×Nat)}:(dW l).length<=l.length:=by simp[dW];exact List.length_filter_le _ _
theorem Lk (ok:ax P tb) {l:Lb} {t:aG} {h:aa} (hl:l.ps.length<2^30):an P 129 [.agg (l.c t)] h (.vs ((aH .u16).R (dW l.ps)) .ao) h:=by
 refine ok.eW (rf:=vj) rfl (Nat.le_of_ble_eq_true rfl) (aH .u16).mc ?_
 simp+decide only[st,xv,vj,Cz,Cy,OP,Lb.c]
 let I:Nat->Env->aa->Prop:=fun n ρ h'=>Old h h'/\ ∃i:Nat,l.ps.length=i+n/\ρ 7= .vs (aw.R l.ps) t/\ρ 8= .int .i64 l.ps.length/\ρ 9= .int .i64 i/\App h h' (ρ 3) ((aH .u16).R (dW (l.ps.take i)))
 refine dO I ?_ l.ps.length ⟨(Old.refl h).at (Nat.le_refl _),0,by omega,rfl,by simp+decide only[st,xv,aw.aR],rfl,(App.nil h h).old ((Old.refl h).at (Nat.le_refl _))⟩
 rintro n ρ h' ⟨ho,i,aB,r7,r8,r9,ha⟩
 by_cases hi:i<l.ps.length
 ·have aA:(i:Int)<(l.ps.length:Int):=by omega
  have fg:(0:Int)<=i:=by omega
  have hw:=dF (show i<2^61 by omega)
  have cC:(aw.R l.ps)[i]? =some [.int .u16 l.ps[i].1, .int .u8 l.ps[i].2]:=aw.gL hi
  have hO:Old h ((h'.at h'.next (.cells [.int .u16 0, .int .u8 0])).set h'.next (some (.cells [.int .u16 l.ps[i].1, .int .u8 l.ps[i].2]))):=(ho.at ho.next).set ho.next
  have hA:App h ((h'.at h'.next (.cells [.int .u16 0, .int .u8 0])).set h'.next (some (.cells [.int .u16 l.ps[i].1, .int .u8 l.ps[i].2]))) (ρ 3) ((aH .u16).R (dW (l.ps.take i))):=ha.to (by simp[aa.set,aa.at]) (fun k _ h2 h3=>by
   have: ¬k=h'.next:=by omega
   simp[aa.set,aa.at,this,h3])
  have dD:dW (l.ps.take (i+1))=dW (l.ps.take i)++dW [l.ps[i]]:=by
   rw[<-List.take_append_getElem hi];simp only[dW,List.filter_append,List.map_append]
  by_cases hs:l.ps[i].2=0
  ·have iF:(l.ps[i].2:Int)=0:=by omega
   rw[iF] at hO hA
   have qq:=Xd (l:=l.ps.take i)
   have nz:=List.length_take_le i l.ps
   obtain⟨v',h2,a1,a2,a3,a4,a5,a6⟩:=hA.app hO (bytes:=2) (sz:=1) (id:=h'.next+1) (by have:=ho.next;omega) [[.int .u16 l.ps[i].1]] (aH .u16).me (by rw[(aH .u16).aR];simp only[List.length_singleton];omega) (by rw[(aH .u16).aR];simp only[List.length_singleton];omega)
   simp+decide only[st,xv,vj,Cz,Cy,Hy,Hx,Hw,Hv,Hu,Ht,r7,r8,r9,aA,fg,hw,Int.toNat_natCast,cC,iF,a1,List.length_cons,List.length_nil]
   exact⟨n-1,by omega,a3,i+1,by omega,r7,r8,rfl,by rw[dD,show dW [l.ps[i]]=[l.ps[i].1] by simp[dW,hs],<-(aH .u16).oK];exact a2⟩
  ·have iF: ¬(l.ps[i].2:Int)=0:=by omega
   have E8:dW [l.ps[i]]=[]:=by simp[dW,hs]
   simp+decide only[st,xv,vj,Cz,Cy,Hy,Hx,Hw,Hv,Hu,Ht,r7,r8,r9,aA,fg,hw,Int.toNat_natCast,cC,iF,List.length_cons,List.length_nil]
   exact⟨n-1,by omega,hO,i+1,by omega,r7,r8,rfl,by rw[dD,E8,List.append_nil];exact hA⟩
 ·have aA: ¬(i:Int)<(l.ps.length:Int):=by omega
  have iI:i=l.ps.length:=by omega
  obtain⟨tt,hv,_⟩:=ha
  simp+decide only[st,xv,vj,Cz,Cy,OP,Hy,Hx,Hw,Hv,Hu,Ht,r8,r9,aA,hv,bG]
  exact⟨by rw[iI,List.take_length,(aH .u16).lh],ho.get⟩
end
section
open Go
variable {P:Program}
def mg (dx dy:Nat):List (Nat×Nat)->List (Nat×Nat)->List (Nat×Nat×Nat)
 |[],[]=>[]
 |(c,x)::l,[]=>(c,x,dy)::mg dx dy l []
 |[],(c,y)::m=>(c,dx,y)::mg dx dy [] m
 |(c,x)::l,(e,y)::m=>if c<e then(c,x,dy)::mg dx dy l ((e,y)::m) else if e<c then(e,dx,y)::mg dx dy ((c,x)::l) m else(c,x,y)::mg dx dy l m
termination_by l m=>l.length+m.length
theorem Ia {dx dy:Nat}:mg dx dy [] []=[]:=by rw[mg]
theorem PB {dx dy c x:Nat} {l:List (Nat×Nat)}:mg dx dy ((c,x)::l) []=(c,x,dy)::mg dx dy l []:=by rw[mg]
theorem PA {dx dy c x:Nat} {l:List (Nat×Nat)}:mg dx dy [] ((c,x)::l)=(c,dx,x)::mg dx dy [] l:=by rw[mg]
theorem Ib {dx dy c x e y:Nat} {l m:List (Nat×Nat)}:mg dx dy ((c,x)::l) ((e,y)::m)=if c<e then(c,x,dy)::mg dx dy l ((e,y)::m) else if e<c then(e,dx,y)::mg dx dy ((c,x)::l) m else(c,x,y)::mg dx dy l m:=by rw[mg]
def zr (p:Nat×Nat×Nat):List AV:=[.int .u16 p.1, .int .u8 p.2.1, .int .u8 p.2.2]
structure MJ (h:aa) (a b:Lb) (ta eU:aG) (g:Nat) (ed:List AV) (J:List (Nat×Nat×Nat)->aa->Prop) (l m:List (Nat×Nat)) (done:List (Nat×Nat×Nat)) (ρ:Env) (H:aa):Prop where
 l1:l.length<=a.ps.length
 l2:m.length<=b.ps.length
 r2:ρ 2= .fn g [] ed
 r3:ρ 3= .ptr h.next 0
 r4:ρ 4= .ptr (h.next+1) 0
 r6: ∃t,ρ 6= .vs (aw.R l) t
 r7: ∃t,ρ 7= .vs (aw.R m) t
 mg:mg a.d b.d a.ps b.ps=done++mg a.d b.d l m
 j:J done H
 n:h.next+2<=H.next
 ca:H.get h.next=some (.cells (a.c ta))
 cb:H.get (h.next+1)=some (.cells (b.c eU))
theorem Bt {h:aa} {a b:Lb} {ta eU:aG} {g:Nat} {ed:List AV} {J:List (Nat×Nat×Nat)->aa->Prop} {n:Nat} {done:List (Nat×Nat×Nat)} {H H1:aa} {ρ':Env} {K:aQ->Env->aa->Prop} {Q:Env->aa->Prop} {l2 m2:List (Nat×Nat)} {p:Nat×Nat×Nat}
 (hQ: ∀ρ2 H2 l2 m2 C0,l2.length+m2.length<n->MJ h a b ta eU g ed J l2 m2 C0 ρ2 H2->Q ρ2 H2)
 (hg:cf P g=true) (vD: ∀done H H',J done H->Old H H'->J done H')
 (rn: ∀done p rest H,mg a.d b.d a.ps b.ps=done++p::rest->J done H->h.next+2<=H.next-> ∃H',an P g (zr p++ed) H (.ay []) H'/\J (done++[p]) H'/\H.next<=H'.next/\ ∀x,h.next<=x->x<h.next+2->H'.get x=H.get x)
 (hj:J done H) (gU:h.next+2<=H.next) (ca:H.get h.next=some (.cells (a.c ta))) (cb:H.get (h.next+1)=some (.cells (b.c eU)))
 (q1:H.next<=H1.next) (q2: ∀x,x<H.next->H1.get x=H.get x) (q3:l2.length+m2.length<n) (q4:l2.length<=a.ps.length) (q5:m2.length<=b.ps.length)
 (q6:mg a.d b.d a.ps b.ps=done++p::mg a.d b.d l2 m2) (q7:ρ' 2= .fn g [] ed) (q8:ρ' 3= .ptr h.next 0) (q9:ρ' 4= .ptr (h.next+1) 0) (J4: ∃t,ρ' 6= .vs (aw.R l2) t) (q11: ∃t,ρ' 7= .vs (aw.R m2) t) (q12:ρ' 12= .int .u16 p.1) (q13:ρ' 8= .int .u8 p.2.1) (q14:ρ' 9= .int .u8 p.2.2):
 WP P (.seq (.af Mh) (.goto 0)) (jX 0 Q K) ρ' H1:=by
 obtain⟨H2,k1,k2,k3,k4⟩:=rn done p _ H1 q6 (vD _ _ _ hj ⟨q1,q2⟩) (by omega)
 simp+decide only[st,xv,Mh,q7,q12,q13,q14]
 refine pI hg k1 ?_
 simp+decide only[st,xv]
 exact hQ _ _ l2 m2 _ q3 ⟨q4,q5,q7,q8,q9,J4,q11,by rw[q6];simp,k2,by omega,by rw[k4 _ (by omega) (by omega),q2 _ (by omega),ca],by rw[k4 _ (by omega) (by omega),q2 _ (by omega),cb]⟩
theorem zB {α:Type} {E:ey α} {p:α} {m:List α}:List.take ((E.R (p::m)).length-Int.toNat 1) (List.drop (Int.toNat 1) (E.R (p::m)))=E.R m:=by
 rw[List.take_of_length_le (by simp)];rfl
theorem Wh (ok:ax P tb) {a b:Lb} {ta eU:aG} {g:Nat} {ed:List AV} {J:List (Nat×Nat×Nat)->aa->Prop} {h:aa} (hla:a.ps.length<2^30) (lV:b.ps.length<2^30) (hg:cf P g=true)
 (Kw:J [] h) (vD: ∀done H H',J done H->Old H H'->J done H')
 (rn: ∀done p rest H,mg a.d b.d a.ps b.ps=done++p::rest->J done H->h.next+2<=H.next-> ∃H',an P g (zr p++ed) H (.ay []) H'/\J (done++[p]) H'/\H.next<=H'.next/\ ∀x,h.next<=x->x<h.next+2->H'.get x=H.get x):
 ∃H',an P 160 [.agg (a.c ta), .agg (b.c eU), .fn g [] ed] h (.ay []) H'/\J (mg a.d b.d a.ps b.ps) H':=by
 refine ok.dI (rf:=eB) rfl (Nat.le_of_ble_eq_true rfl) ?_
 simp+decide only[st,xv,eB,aaO,Lb.c]
 refine l8 0 rfl rfl (fun n ρ H=> ∃l m done,l.length+m.length=n/\MJ h a b ta eU g ed J l m done ρ H) (fun l' ρ h hk=>hk) ?_ ?_
 ·simp+decide only[st,xv,j9,List.foldr]
  refine bU 6 rfl rfl ?_
  simp+decide only[st,xv,aaN,Lb.c]
  refine⟨_,a.ps,b.ps,[],rfl,Nat.le_refl _,Nat.le_refl _,rfl,rfl,rfl,⟨_,rfl⟩,⟨_,rfl⟩,rfl,vD _ _ _ Kw ⟨by simp[aa.clean,aa.at];omega,fun x hx=>?_⟩,by simp[aa.clean,aa.at],?_,?_⟩
  ·simp[aa.clean,aa.at,show¬x=h.next+1 by omega,show¬x=h.next by omega,show x<h.next+1+1 by omega]
  ·simp[aa.clean,aa.at,Lb.c];omega
  ·simp[aa.clean,aa.at,Lb.c]
 rintro n ρ H ⟨l,m,done,hn,M⟩
 obtain⟨l1,l2,r2,r3,r4,⟨t,r6⟩,⟨t',r7⟩,jL,hj,gU,ca,cb⟩:=M
 have hz: ∀k:Nat,¬(((k+1:Nat):Int)=0):=fun k=>by omega
 have ku: ∀k:Nat,(0:Int)<((k+1:Nat):Int):=fun k=>by omega
 have ga:=av ca
 have gb:=av cb
 have n1:h.next<H.next:=by omega
 have n2:h.next+1<H.next:=by omega
 have hZ:((0:Nat):Int)=0:=rfl
 have hQ: ∀ρ2 H2 l2 m2 C0,l2.length+m2.length<n->MJ h a b ta eU g ed J l2 m2 C0 ρ2 H2-> ∃m,m<n/\ ∃l m_1 done,l.length+m_1.length=m/\MJ h a b ta eU g ed J l m_1 done ρ2 H2:=fun ρ2 H2 l2 m2 C0 h1 h2=>⟨_,h1,l2,m2,C0,rfl,h2⟩
 have hd: ∀(e y:Nat) (m:List (Nat×Nat)),(aw.R ((e,y)::m))[0]? =some [.int .u16 e, .int .u8 y]:=fun _ _ _=>rfl
 have k1: ∀(p:Nat×Nat) (m:List (Nat×Nat)),dH 2 (aw.R (p::m))=true:=fun p m=>aw.me
 have k3: ∀(p:Nat×Nat) (m:List (Nat×Nat)),Int.toNat 1<=(aw.R (p::m)).length:=fun p m=>by rw[aw.aR];simp
 rcases l with _|⟨⟨c,x⟩,l⟩
 ·rcases m with _|⟨⟨e,y⟩,m⟩
  ·rw[Ia,List.append_nil] at jL
   have h0:IntKind.wrap .i64 ((0:Int)+0)=0:=rfl
   simp+decide only[st,xv,wo,r6,r7,aw.j8,List.length_nil,h0]
   exact⟨rfl,by rw[jL];exact hj⟩
  ·have hw:IntKind.wrap .i64 ((0:Int)+((m.length+1:Nat):Int))=((m.length+1:Nat):Int):=by simp only[List.length_cons] at l2;rw[bu]<;>omega
   rw[PA] at jL
   simp+decide only[st,xv,eB,wo,r6,r7,aw.j8,aw.aR,hw,hz,ku]
   refine bU 6 rfl rfl ?_
   simp+decide only[st,xv,eB,ze,r3,r4,ga,gb,n1,n2,Lb.c]
   refine bU 20 rfl rfl ?_
   simp+decide only[st,xv,eB,zd,r6,r7,aw.j8,aw.aR,hz,ku,hd]
   refine bU 20 rfl rfl ?_
   simp+decide only[st,xv,eB,y9,r6,r7,aw.j8,aw.aR,hz,ku,hd]
   simp+decide only[st,xv,eB,y8,y7]
   refine bU 13 rfl rfl ?_
   simp+decide only[st,xv,eB,Hk,y6,r6,r7,hd,k1,k3,zB]
   exact uy.1 (sL.1 (Bt (l2:=[]) (m2:=m) (p:=(e,a.d,y)) hQ hg vD rn hj gU ca cb (by simp[aa.clean];omega) (fun x hx=>by simp only[aa.clean];simp[show x<H.next+6 by omega,show x<H.next+6+20 by omega,show x<H.next+6+20+20 by omega,show x<H.next+6+20+20+13 by omega,show x<H.next+6+20+20+13+13 by omega,hx]) (by simp only[List.length_cons,List.length_nil] at hn ⊢;omega) (by simp only[List.length_cons,List.length_nil] at l1 ⊢;omega) (by simp only[List.length_cons,List.length_nil] at l2 ⊢;omega) jL r2 r3 r4 ⟨_,r6⟩ ⟨_,rfl⟩ rfl rfl rfl))
 ·rcases m with _|⟨⟨e,y⟩,m⟩
  ·have hw:IntKind.wrap .i64 (((l.length+1:Nat):Int)+0)=((l.length+1:Nat):Int):=by simp only[List.length_cons] at l1;rw[bu]<;>omega
   rw[PB] at jL
   simp+decide only[st,xv,eB,wo,r6,r7,aw.j8,aw.aR,hw,hz,ku]
   refine bU 6 rfl rfl ?_
   simp+decide only[st,xv,eB,ze,r3,r4,ga,gb,n1,n2,Lb.c]
   refine bU 20 rfl rfl ?_
   simp+decide only[st,xv,eB,zd,r6,r7,aw.j8,aw.aR,hz,ku,hd]
   refine bU 20 rfl rfl ?_
   simp+decide only[st,xv,eB,y9,r6,r7,aw.j8,aw.aR,hz,ku,hd]
   simp+decide only[st,xv,eB,y8,y7,y6]
   refine bU 13 rfl rfl ?_
   simp+decide only[st,xv,eB,GW,r6,r7,hd,k1,k3,zB]
   exact uy.1 (sL.1 (Bt (l2:=l) (m2:=[]) (p:=(c,x,b.d)) hQ hg vD rn hj gU ca cb (by simp[aa.clean];omega) (fun x hx=>by simp only[aa.clean];simp[show x<H.next+6 by omega,show x<H.next+6+20 by omega,show x<H.next+6+20+20 by omega,show x<H.next+6+20+20+13 by omega,show x<H.next+6+20+20+13+13 by omega,hx]) (by simp only[List.length_cons,List.length_nil] at hn ⊢;omega) (by simp only[List.length_cons,List.length_nil] at l1 ⊢;omega) (by simp only[List.length_cons,List.length_nil] at l2 ⊢;omega) jL r2 r3 r4 ⟨_,rfl⟩ ⟨_,r7⟩ rfl rfl rfl))
  ·have hw:IntKind.wrap .i64 (((l.length+1:Nat):Int)+((m.length+1:Nat):Int))=((l.length+1+(m.length+1):Nat):Int):=by simp only[List.length_cons] at l1 l2;rw[bu]<;>omega
   have UH: ¬((l.length+1+(m.length+1):Nat):Int)=0:=by omega
   rw[Ib] at jL
   by_cases h1:c<e
   ·rw[if_pos h1] at jL
    have f1:(c:Int)<=(e:Int):=by omega
    have f2: ¬(e:Int)<=(c:Int):=by omega
    simp+decide only[st,xv,eB,wo,r6,r7,aw.j8,aw.aR,hw,UH,hz,ku]
    refine bU 6 rfl rfl ?_
    simp+decide only[st,xv,eB,ze,r3,r4,ga,gb,n1,n2,Lb.c]
    refine bU 20 rfl rfl ?_
    simp+decide only[st,xv,eB,zd,r6,r7,aw.j8,aw.aR,hz,ku,hd,f1,f2]
    refine bU 20 rfl rfl ?_
    simp+decide only[st,xv,eB,y9,r6,r7,aw.j8,aw.aR,hz,ku,hd,f1,f2]
    simp+decide only[st,xv,eB,y8,y7,y6]
    refine bU 13 rfl rfl ?_
    simp+decide only[st,xv,eB,GW,r6,r7,hd,k1,k3,zB]
    exact uy.1 (sL.1 (Bt (l2:=l) (m2:=((e,y)::m)) (p:=(c,x,b.d)) hQ hg vD rn hj gU ca cb (by simp[aa.clean];omega) (fun x hx=>by simp only[aa.clean];simp[show x<H.next+6 by omega,show x<H.next+6+20 by omega,show x<H.next+6+20+20 by omega,show x<H.next+6+20+20+13 by omega,show x<H.next+6+20+20+13+13 by omega,hx]) (by simp only[List.length_cons,List.length_nil] at hn ⊢;omega) (by simp only[List.length_cons,List.length_nil] at l1 ⊢;omega) (by simp only[List.length_cons,List.length_nil] at l2 ⊢;omega) jL r2 r3 r4 ⟨_,rfl⟩ ⟨_,r7⟩ rfl rfl rfl))
   by_cases h2:e<c
   ·rw[if_neg h1,if_pos h2] at jL
    have f1: ¬(c:Int)<=(e:Int):=by omega
    have f2:(e:Int)<=(c:Int):=by omega
    simp+decide only[st,xv,eB,wo,r6,r7,aw.j8,aw.aR,hw,UH,hz,ku]
    refine bU 6 rfl rfl ?_
    simp+decide only[st,xv,eB,ze,r3,r4,ga,gb,n1,n2,Lb.c]
    refine bU 20 rfl rfl ?_
    simp+decide only[st,xv,eB,zd,r6,r7,aw.j8,aw.aR,hz,ku,hd,f1,f2]
    refine bU 20 rfl rfl ?_
    simp+decide only[st,xv,eB,y9,r6,r7,aw.j8,aw.aR,hz,ku,hd,f1,f2]
    simp+decide only[st,xv,eB,y8,y7]
    refine bU 13 rfl rfl ?_
    simp+decide only[st,xv,eB,Hk,y6,r6,r7,hd,k1,k3,zB]
    exact uy.1 (sL.1 (Bt (l2:=((c,x)::l)) (m2:=m) (p:=(e,a.d,y)) hQ hg vD rn hj gU ca cb (by simp[aa.clean];omega) (fun x hx=>by simp only[aa.clean];simp[show x<H.next+6 by omega,show x<H.next+6+20 by omega,show x<H.next+6+20+20 by omega,show x<H.next+6+20+20+13 by omega,show x<H.next+6+20+20+13+13 by omega,hx]) (by simp only[List.length_cons,List.length_nil] at hn ⊢;omega) (by simp only[List.length_cons,List.length_nil] at l1 ⊢;omega) (by simp only[List.length_cons,List.length_nil] at l2 ⊢;omega) jL r2 r3 r4 ⟨_,r6⟩ ⟨_,rfl⟩ rfl rfl rfl))
   ·rw[if_neg h1,if_neg h2] at jL
    have hce:c=e:=by omega
    subst hce
    have f1:(c:Int)<=(c:Int):=by omega
    simp+decide only[st,xv,eB,wo,r6,r7,aw.j8,aw.aR,hw,UH,hz,ku]
    refine bU 6 rfl rfl ?_
    simp+decide only[st,xv,eB,ze,r3,r4,ga,gb,n1,n2,Lb.c]
    refine bU 20 rfl rfl ?_
    simp+decide only[st,xv,eB,zd,r6,r7,aw.j8,aw.aR,hz,ku,hd,f1]
    refine bU 20 rfl rfl ?_
    simp+decide only[st,xv,eB,y9,r6,r7,aw.j8,aw.aR,hz,ku,hd,f1]
    simp+decide only[st,xv,eB,y8,y7]
    refine bU 13 rfl rfl ?_
    simp+decide only[st,xv,eB,Hk,y6,r6,r7,hd,k1,k3,zB]
    refine bU 13 rfl rfl ?_
    simp+decide only[st,xv,eB,GW,r6,r7,hd,k1,k3,zB]
    exact uy.1 (sL.1 (Bt (l2:=l) (m2:=m) (p:=(c,x,y)) hQ hg vD rn hj gU ca cb (by simp[aa.clean];omega) (fun x hx=>by simp only[aa.clean];simp[show x<H.next+6 by omega,show x<H.next+6+20 by omega,show x<H.next+6+20+20 by omega,show x<H.next+6+20+20+13 by omega,show x<H.next+6+20+20+13+13 by omega,hx]) (by simp only[List.length_cons,List.length_nil] at hn ⊢;omega) (by simp only[List.length_cons,List.length_nil] at l1 ⊢;omega) (by simp only[List.length_cons,List.length_nil] at l2 ⊢;omega) jL r2 r3 r4 ⟨_,rfl⟩ ⟨_,rfl⟩ rfl rfl rfl))
end
section
open Go
variable {P:Program}
theorem uA {dx dy:Nat} (hx:dx<256) (hy:dy<256): ∀{l m:List (Nat×Nat)},(∀p∈l,p.1<65536/\p.2<256)->(∀p∈m,p.1<65536/\p.2<256)-> ∀p∈mg dx dy l m,p.1<65536/\p.2.1<256/\p.2.2<256
 |[],[],_,_,p,hp=>by rw[Ia] at hp;cases hp
 |(c,x)::l,[],h1,h2,p,hp=>by
  rw[PB] at hp
  rcases List.mem_cons.1 hp with rfl|hp
  ·have:=h1 _ (List.mem_cons_self ..);exact⟨this.1,this.2,hy⟩
  ·exact uA hx hy (fun q hq=>h1 q (List.mem_cons_of_mem _ hq)) h2 p hp
 |[],(c,x)::l,h1,h2,p,hp=>by
  rw[PA] at hp
  rcases List.mem_cons.1 hp with rfl|hp
  ·have:=h2 _ (List.mem_cons_self ..);exact⟨this.1,hx,this.2⟩
  ·exact uA hx hy h1 (fun q hq=>h2 q (List.mem_cons_of_mem _ hq)) p hp
 |(c,x)::l,(e,y)::m,h1,h2,p,hp=>by
  rw[Ib] at hp
  have b1:=h1 _ (List.mem_cons_self ..)
  have b2:=h2 _ (List.mem_cons_self ..)
  have t1: ∀p∈l,p.1<65536/\p.2<256:=fun q hq=>h1 q (List.mem_cons_of_mem _ hq)
  have t2: ∀p∈m,p.1<65536/\p.2<256:=fun q hq=>h2 q (List.mem_cons_of_mem _ hq)
  split at hp
  ·rcases List.mem_cons.1 hp with rfl|hp
   ·exact⟨b1.1,b1.2,hy⟩
   ·exact uA hx hy t1 h2 p hp
  ·split at hp
   ·rcases List.mem_cons.1 hp with rfl|hp
    ·exact⟨b2.1,hx,b2.2⟩
    ·exact uA hx hy h1 t2 p hp
   ·rcases List.mem_cons.1 hp with rfl|hp
    ·exact⟨b1.1,b1.2,b2.2⟩
    ·exact uA hx hy t1 t2 p hp
termination_by l m=>l.length+m.length
def xM (p:Nat×Nat×Nat):Bool:=decide (p.2.1<=p.2.2)
def fI (a b:Lb):Bool:=decide (a.d<=b.d)&&(mg a.d b.d a.ps b.ps).all xM
theorem FW (ok:ax P tb) {a b:Lb} {ta eU:aG} {h:aa} (ha:a.ok) (hb:b.ok):an P 137 [.agg (a.c ta), .agg (b.c eU)] h (.bool (fI a b)) h:=by
 refine ok.keeps (rf:=vi) rfl (Nat.le_of_ble_eq_true rfl) rfl ?_
 simp+decide only[st,xv,vi,Cx,Cw,Lb.c]
 refine au (Yj ok ha.d hb.d _) ?_
 simp+decide only[st,xv,vi,Cx,Cw,Hq,Lb.c]
 let J:List (Nat×Nat×Nat)->aa->Prop:=fun done H=>h.next+1+1<H.next/\H.get (h.next+1+1)=some (.cells [.bool (decide (a.d<=b.d)&&done.all xM)])/\ ∀x,x<h.next->H.get x=h.get x
 obtain⟨H',k1,_,k2,k3⟩:=Wh ok (ta:=ta) (eU:=eU) (g:=161) (ed:=[.ptr (h.next+1+1) 0]) (J:=J) (h:=(((h.at h.next (.cells [.int .u8 a.d, .vs (aw.R a.ps) ta])).at (h.next+1) (.cells [.int .u8 b.d, .vs (aw.R b.ps) eU])).at (h.next+1+1) (.cells [.bool false])).set (h.next+1+1) (some (.cells [.bool (decide (a.d<=b.d))]))) (a:=a) (b:=b) (by have:=ha.len;omega) (by have:=hb.len;omega) (ok.cf _ rfl)
  ⟨by simp[aa.set,aa.at],by simp[aa.set],fun x hx=>by simp[aa.set,aa.at,show¬x=h.next+1+1 by omega,show¬x=h.next+1 by omega,show¬x=h.next by omega]⟩
  (fun done H H' hj ho=>⟨by have:=ho.next;have:=hj.1;omega,by rw[ho.get _ hj.1];exact hj.2.1,fun x hxx=>by rw[ho.get _ (by have:=hj.1;omega)];exact hj.2.2 x hxx⟩)
  (fun done p rest H jL hj hn=>by
    have hp:=uA ha.d hb.d ha.ps hb.ps p (by rw[jL];simp)
    have hc:=av hj.2.1
    refine⟨H.set (h.next+1+1) (some (.cells [.bool (decide (a.d<=b.d)&&(done++[p]).all xM)])),?_,⟨hj.1,by simp[aa.set],fun x hx=>by simp[aa.set,show¬x=h.next+1+1 by omega,hj.2.2 x hx]⟩,by simp[aa.set],fun x h1 h2=>?_⟩
    ·refine ok.calls (rf:=Aj) rfl (Nat.le_of_ble_eq_true rfl) ?_
     cases hq:(decide (a.d<=b.d)&&done.all xM) with
     |true=>
      rw[hq] at hc
      simp+decide only[st,xv,Aj,NO,hc,zr]
      refine au (Yj ok hp.2.1 hp.2.2 _) ?_
      have e:(decide (a.d<=b.d)&&(done++[p]).all xM)=decide (p.2.1<=p.2.2):=by
       rw[List.all_append,<-Bool.and_assoc,hq];simp[xM]
      simp+decide only[st,xv,e,hc]
     |false=>
      rw[hq] at hc
      have e:(decide (a.d<=b.d)&&(done++[p]).all xM)=false:=by
       rw[List.all_append,<-Bool.and_assoc,hq];rfl
      simp+decide only[st,xv,Aj,NO,hc,zr,e]
    ·have: ¬x=h.next+1+1:=by simp[aa.set,aa.at] at h1;omega
     simp[aa.set,this])
 simp+decide only[st,xv,vi,Cx,Cw,Hq,OC,Lb.c]
 refine au k1 ?_
 have hc:=av k2
 simp+decide only[st,xv,vi,Cx,Cw,Hq,OC,hc]
 exact⟨rfl,k3⟩
end
section
open Go
variable {P:Program}
def mz (F:Nat->Nat->Nat) (D:Nat) (l:List (Nat×Nat×Nat)):List (Nat×Nat):=l.filterMap fun p=>if F p.2.1 p.2.2=D then none else some (p.1,F p.2.1 p.2.2)
theorem YR {F:Nat->Nat->Nat} {D:Nat} {l:List (Nat×Nat×Nat)}:(mz F D l).length<=l.length:=List.length_filterMap_le _ _
theorem yV {dx dy:Nat}: ∀{l m:List (Nat×Nat)},(mg dx dy l m).length<=l.length+m.length
 |[],[]=>by rw[Ia];simp
 |(c,x)::l,[]=>by rw[PB];have:=yV (dx:=dx) (dy:=dy) (l:=l) (m:=[]);simp only[List.length_cons,List.length_nil] at this ⊢;omega
 |[],(c,x)::l=>by rw[PA];have:=yV (dx:=dx) (dy:=dy) (l:=[]) (m:=l);simp only[List.length_cons,List.length_nil] at this ⊢;omega
 |(c,x)::l,(e,y)::m=>by
  rw[Ib]
  have h1:=yV (dx:=dx) (dy:=dy) (l:=l) (m:=(e,y)::m)
  have h2:=yV (dx:=dx) (dy:=dy) (l:=(c,x)::l) (m:=m)
  have h3:=yV (dx:=dx) (dy:=dy) (l:=l) (m:=m)
  split
  ·simp only[List.length_cons] at h1 ⊢;omega
  ·split
   ·simp only[List.length_cons] at h2 ⊢;omega
   ·simp only[List.length_cons] at h3 ⊢;omega
termination_by l m=>l.length+m.length
def Ie (F:Nat->Nat->Nat) (a b:Lb):Lb:=⟨F a.d b.d,mz F (F a.d b.d) (mg a.d b.d a.ps b.ps)⟩
def BJ (h:aa) (g:Nat) (F:Nat->Nat->Nat) (D:Nat) (done:List (Nat×Nat×Nat)) (H:aa):Prop:=
 h.next+1+1+1+1+1<=H.next/\H.get (h.next+1+1)=some (.cells [.fn g [] []])/\H.get (h.next+1+1+1)=some (.cells [.int .u8 0, .vs [] .full])/\(∃v,H.get (h.next+1+1+1+1)=some (.cells [.int .u8 D,v])/\App ⟨h.get,h.next+1+1+1+1+1+2⟩ H v (aw.R (mz F D done)))/\ ∀x,x<h.next->H.get x=h.get x
theorem ajC (ok:ax P tb) {a b:Lb} {ta eU:aG} {h:aa} (ha:a.ok) (hb:b.ok) {g:Nat} {F:Nat->Nat->Nat} (hg:cf P g=true) (hF: ∀x y:Nat,x<256->y<256-> ∀h,an P g [.int .u8 x, .int .u8 y] h (.int .u8 (F x y)) h):
 an P 176 [.agg (a.c ta), .agg (b.c eU), .fn g [] []] h (.agg ((Ie F a b).c .ao)) h:=by
 refine ok.eW (rf:=xt) rfl (Nat.le_of_ble_eq_true rfl) (by simp only[AV.bD,AV.b8,Lb.c,aw.iw];rfl) ?_
 simp+decide only[st,xv,xt,Nw,Nv,Lb.c]
 refine pI hg (hF _ _ ha.d hb.d _) ?_
 simp+decide only[st,xv,xt,Nw,Nv,aas,Lb.c]
 have hD:F a.d b.d=(Ie F a b).d:=rfl
 have key: ∀X:aa,X.next=h.next+1+1+1+1+1->X.get (h.next+1+1)=some (.cells [.fn g [] []])->X.get (h.next+1+1+1)=some (.cells [.int .u8 0, .vs [] .full])->X.get (h.next+1+1+1+1)=some (.cells [.int .u8 (F a.d b.d), .vs [] .full])->(∀x,x<h.next->X.get x=h.get x)->
  ∃H',an P 160 [.agg (a.c ta), .agg (b.c eU), .fn 182 [] [.ptr (h.next+1+1) 0, .ptr (h.next+1+1+1+1) 0]] X (.ay []) H'/\BJ h g F (F a.d b.d) (mg a.d b.d a.ps b.ps) H':=by
  intro X x1 x2 x3 x4 x5
  refine Wh ok (J:=BJ h g F (F a.d b.d)) (by have:=ha.len;omega) (by have:=hb.len;omega) (ok.cf _ rfl) ⟨by omega,x2,x3,⟨_,x4,⟨_,rfl, .inl rfl⟩⟩,x5⟩ ?_ ?_
  ·rintro done H H' ⟨j1,j2,j3,⟨v,j4,j5⟩,j6⟩ ho
   have hn:=ho.next
   exact⟨by omega,by rw[ho.get _ (by omega),j2],by rw[ho.get _ (by omega),j3],⟨v,by rw[ho.get _ (by omega),j4],j5.to hn (fun k _ q2 q3=>by rw[ho.get _ q2,q3])⟩,fun x hx=>by rw[ho.get _ (by omega),j6 x hx]⟩
  ·rintro done p rest H jL ⟨j1,j2,j3,⟨v,j4,j5⟩,j6⟩ hn
   have hp:=uA ha.d hb.d ha.ps hb.ps p (by rw[jL];simp)
   have tK:=av j2
   have AL:=av j4
   have hlen:done.length<=a.ps.length+b.ps.length:=by
    have h1:=yV (dx:=a.d) (dy:=b.d) (l:=a.ps) (m:=b.ps)
    rw[jL] at h1;simp at h1;omega
   have Vb:=ha.len
   have kC:=hb.len
   have qq:=YR (F:=F) (D:=F a.d b.d) (l:=done)
   refine ok.dI (rf:=vc) rfl (Nat.le_of_ble_eq_true rfl) ?_
   by_cases hv:F p.2.1 p.2.2=F a.d b.d
   ·have cV:((F p.2.1 p.2.2:Nat):Int)=((F a.d b.d:Nat):Int):=by omega
    have hs:mz F (F a.d b.d) (done++[p])=mz F (F a.d b.d) done:=by simp[mz,hv]
    simp+decide only[st,xv,vc,Cj,Ci,Ch,tK,AL,zr]
    refine pI hg (hF _ _ hp.2.1 hp.2.2 _) ?_
    simp+decide only[st,xv,vc,Cj,Ci,Ch,tK,AL,hv]
    exact⟨rfl,⟨j1,j2,j3,⟨v,j4,by rw[hs];exact j5⟩,j6⟩,Nat.le_refl _,fun _ _ _=>rfl⟩
   ·have cV: ¬((F p.2.1 p.2.2:Nat):Int)=((F a.d b.d:Nat):Int):=by omega
    have hs:mz F (F a.d b.d) (done++[p])=mz F (F a.d b.d) done++[(p.1,F p.2.1 p.2.2)]:=by simp[mz,hv]
    have j5':App ⟨H.get,h.next+1+1+1+1+1+2⟩ H v (aw.R (mz F (F a.d b.d) done)):=j5
    obtain⟨v',h2,a1,a2,a3,a4,a5,a6⟩:=j5'.app ⟨by rw[<-x1];exact hn,fun _ _=>rfl⟩ (bytes:=4) (sz:=2) (id:=H.next) (by rw[<-x1];exact hn) [[.int .u16 p.1, .int .u8 (F p.2.1 p.2.2)]] aw.me (by rw[aw.aR];simp only[List.length_singleton];omega) (by rw[aw.aR];simp only[List.length_singleton];omega)
    simp+decide only[st,xv,vc,Cj,Ci,Ch,tK,AL,zr]
    refine pI hg (hF _ _ hp.2.1 hp.2.2 _) ?_
    have auE:cellsOf h2 (h.next+1+1+1+1)=some [.int .u8 (F a.d b.d),v]:=av (by rw[a3.get _ (by simp),j4])
    obtain⟨tt,rfl,ht⟩:=a2
    simp+decide only[st,xv,vc,Cj,Ci,Ch,tK,AL,hv,a1,auE]
    refine⟨rfl,⟨by simp[aa.set];omega,by simp[aa.set,a3.get,j2],by simp[aa.set,a3.get,j3],⟨.vs (aw.R (mz F (F a.d b.d) done)++[[.int .u16 p.1, .int .u8 (F p.2.1 p.2.2)]]) tt,by simp[aa.set],?_⟩,fun x hx=>?_⟩,by simp[aa.set];omega,fun x h1 fT=>?_⟩
    ·rw[hs,<-aw.oK]
     exact App.to (h:=h2) ⟨tt,rfl,ht⟩ (by simp[aa.set]) (fun k q1 q2 q3=>by
      have: ¬k=h.next+1+1+1+1:=by have:h.next+1+1+1+1+1+2<=k:=q1;omega
      simp[aa.set,this,q3])
    ·simp only[aa.set];rw[if_neg (by omega),a3.get x (show x<h.next+1+1+1+1+1+2 by omega),j6 x hx]
    ·simp only[aa.set];rw[if_neg (by omega),a3.get x (show x<h.next+1+1+1+1+1+2 by omega)]
 refine(key _ ?_ ?_ ?_ ?_ ?_).elim (fun H' hk=>au hk.1 ?_)
 ·simp[aa.set,aa.at]
 ·simp[aa.set,aa.at]
 ·simp[aa.set,aa.at]
 ·simp[aa.set,aa.at]
 ·intro x hx
  simp[aa.set,aa.at,show¬x=h.next+1+1+1+1 by omega,show¬x=h.next+1+1+1 by omega,show¬x=h.next+1+1 by omega,show¬x=h.next+1 by omega,show¬x=h.next by omega]
 ·obtain⟨_,j1,j2,j3,⟨v,j4,⟨tt,rfl,_⟩⟩,j6⟩:=hk
  have hc6:=av j3
  have AL:=av j4
  simp+decide only[st,xv,xt,aar,hc6,AL,bG]
  exact⟨by simp only[AV.strip,AV.bH,aw.fx];rfl,fun x hx=>by rw[if_neg (by omega),j6 x hx]⟩
theorem Mc {d:Nat}: ∀{l:List (Nat×Nat)},mg d d l l=l.map fun p=>(p.1,p.2,p.2)
 |[]=>by rw[Ia];rfl
 |(c,x)::l=>by rw[Ib,if_neg (by omega),if_neg (by omega),Mc];rfl
def BA (l:Lb):Lb:=Ie (fun x _=>pX x) l l
theorem Yh {x:Nat} (h:x<256):pX x<256:=by unfold pX;split<;>omega
theorem aim {l:Lb} (hl:l.ok):(BA l).ok:=by
 refine⟨Yh hl.d,fun p hp=>?_,?_⟩
 ·simp only[BA,Ie,mz,List.mem_filterMap] at hp
  obtain⟨q,hq,he⟩:=hp
  have:=uA hl.d hl.d hl.ps hl.ps q hq
  split at he
  ·cases he
  ·cases he;exact⟨this.1,Yh this.2.1⟩
 ·have h1:(mz (fun x _=>pX x) (pX l.d) (mg l.d l.d l.ps l.ps)).length<=(mg l.d l.d l.ps l.ps).length:=YR
  rw[Mc] at h1
  have h2:(BA l).ps=mz (fun x _=>pX x) (pX l.d) (mg l.d l.d l.ps l.ps):=rfl
  rw[h2,Mc]
  simp only[List.length_map] at h1
  have:=hl.len
  omega
theorem ajK (ok:ax P tb) {l:Lb} {t:aG} {h:aa} (hl:l.ok):an P 164 [.agg (l.c t)] h (.agg ((BA l).c .ao)) h:=by
 refine ok.eW (rf:=Ex) rfl (Nat.le_of_ble_eq_true rfl) (by simp only[AV.bD,AV.b8,Lb.c,aw.iw];rfl) ?_
 simp+decide only[st,xv,Ex,aaK,aaJ,Lb.c]
 refine au (ajC ok hl hl (F:=fun x _=>pX x) (ok.cf _ rfl) (fun x y hx hy h=>?_)) ?_
 ·refine ok.calls (rf:=Eu) rfl (Nat.le_of_ble_eq_true rfl) ?_
  simp+decide only[st,xv,Eu,aaq,aap]
  refine au (amq ok _) ?_
  simp+decide only[st,xv]
 ·simp+decide only[st,xv,Lb.c,bG]
  refine⟨by simp only[AV.strip,AV.bH,aw.fx];rfl,?_⟩
  first|(intro b hb;first|(intros;omega)|(repeat(first|rw[if_neg (by omega)]|rw[if_pos (by omega)]));done)|(refine⟨rfl,?_⟩;intro b hb;first|(intros;omega)|(repeat(first|rw[if_neg (by omega)]|rw[if_pos (by omega)])))
def fq (t o:Lb):Bool:=fI o (BA t)
theorem ajJ (ok:ax P tb) {a b:Lb} {ta eU:aG} {h:aa} (ha:a.ok) (hb:b.ok):an P 141 [.agg (a.c ta), .agg (b.c eU)] h (.bool (fq a b)) h:=by
 refine ok.keeps (rf:=Al) rfl (Nat.le_of_ble_eq_true rfl) rfl ?_
 simp+decide only[st,xv,Al,OA,Lb.c]
 refine yO ?_
 simp+decide only[st,xv,Al,OA,abh,Lb.c]
 refine gX (ajK ok ha) (cN (by simp[aa.at])) ?_
 simp+decide only[st,xv]
 refine gX (FW ok hb (aim ha)) (cN (by simp[aa.at])) ?_
 simp+decide only[st,xv]
 first|(intro b hb;first|(intros;omega)|(repeat(first|rw[if_neg (by omega)]|rw[if_pos (by omega)]));done)|(refine⟨rfl,?_⟩;intro b hb;first|(intros;omega)|(repeat(first|rw[if_neg (by omega)]|rw[if_pos (by omega)])))
theorem aiM (ok:ax P tb) {a b:Lb} {ta eU:aG} {h:aa} (ha:a.ok) (hb:b.ok):an P 142 [.agg (a.c ta), .agg (b.c eU)] h (.bool (fI a b)) h:=by
 refine ok.keeps (rf:=EC) rfl (Nat.le_of_ble_eq_true rfl) rfl ?_
 simp+decide only[st,xv,EC,abg,abf,Lb.c]
 refine au (FW ok ha hb) ?_
 simp+decide only[st,xv]
 first|(intro b hb;first|(intros;omega)|(repeat(first|rw[if_neg (by omega)]|rw[if_pos (by omega)]));done)|(refine⟨rfl,?_⟩;intro b hb;first|(intros;omega)|(repeat(first|rw[if_neg (by omega)]|rw[if_pos (by omega)])))
def pP (t l:Lb):Nat:=if names l=false then 4 else if 0<(dW l.ps).length then 5 else if fI t l=false then 6 else 0
theorem aiO (ok:ax P tb) {a b:Lb} {ta eU:aG} {h:aa} (ha:a.ok) (hb:b.ok):an P 93 [.agg (a.c ta), .agg (b.c eU)] h (.int .i64 (pP a b)) h:=by
 refine ok.keeps (rf:=qB) rfl (Nat.le_of_ble_eq_true rfl) rfl ?_
 have hl:=hb.len
 simp+decide only[st,xv,qB,uP,uO,uN,uM,uL,uK,uJ,uI,Lb.c]
 refine au (yA ok (by omega)) ?_
 unfold pP
 cases hn:names b with
 |false=>
  simp+decide only[st,xv,qB,uP,uO,uN,uM,uL,uK,uJ,uI]
  first|(intro b hb;first|(intros;omega)|(repeat(first|rw[if_neg (by omega)]|rw[if_pos (by omega)]));done)|(refine⟨rfl,?_⟩;intro b hb;first|(intros;omega)|(repeat(first|rw[if_neg (by omega)]|rw[if_pos (by omega)])))
 |true=>
  simp+decide only[st,xv,qB,uP,uO,uN,uM,uL,uK,uJ,uI,Lb.c]
  refine au (Lk ok (by omega)) ?_
  by_cases hs:0<(dW b.ps).length
  ·have iF:(0:Int)<((dW b.ps).length:Int):=by omega
   simp+decide only[st,xv,qB,uP,uO,uN,uM,uL,uK,uJ,uI,(aH .u16).aR,hs,iF]
   first|(intro b hb;first|(intros;omega)|(repeat(first|rw[if_neg (by omega)]|rw[if_pos (by omega)]));done)|(refine⟨rfl,?_⟩;intro b hb;first|(intros;omega)|(repeat(first|rw[if_neg (by omega)]|rw[if_pos (by omega)])))
  ·have iF: ¬(0:Int)<((dW b.ps).length:Int):=by omega
   simp+decide only[st,xv,qB,uP,uO,uN,uM,uL,uK,uJ,uI,Lb.c,(aH .u16).aR,hs,iF]
   refine au (FW ok ha hb) ?_
   cases hf:fI a b with
   |false=>
    simp+decide only[st,xv,qB,uP,uO,uN,uM,uL,uK,uJ,uI]
    first|(intro b hb;first|(intros;omega)|(repeat(first|rw[if_neg (by omega)]|rw[if_pos (by omega)]));done)|(refine⟨rfl,?_⟩;intro b hb;first|(intros;omega)|(repeat(first|rw[if_neg (by omega)]|rw[if_pos (by omega)])))
   |true=>
    simp+decide only[st,xv,qB,uP,uO,uN,uM,uL,uK,uJ,uI]
    first|(intro b hb;first|(intros;omega)|(repeat(first|rw[if_neg (by omega)]|rw[if_pos (by omega)]));done)|(refine⟨rfl,?_⟩;intro b hb;first|(intros;omega)|(repeat(first|rw[if_neg (by omega)]|rw[if_pos (by omega)])))
def v7 (t l:Lb):Nat:=if names l=false then 4 else if(dW l.ps).any (fun c=>!(nx t c==0)) then 5 else if fI t l=false then 6 else 0
theorem aiN (ok:ax P tb) {a b:Lb} {ta eU:aG} {h:aa} (ha:a.ok) (hb:b.ok):an P 90 [.agg (a.c ta), .agg (b.c eU)] h (.int .i64 (v7 a b)) h:=by
 refine ok.keeps (rf:=sq) rfl (Nat.le_of_ble_eq_true rfl) rfl ?_
 have hl:=hb.len
 have hla:=ha.len
 simp+decide only[st,xv,sq,C8,C7,C6,Lb.c]
 refine au (yA ok (by omega)) ?_
 unfold v7
 cases hn:names b with
 |false=>
  simp+decide only[st,xv,sq,C8,C7,C6,IH,IG,P2,P1,P0,PZ,PY,MH,MG]
  first|(intro b hb;first|(intros;omega)|(repeat(first|rw[if_neg (by omega)]|rw[if_pos (by omega)]));done)|(refine⟨rfl,?_⟩;intro b hb;first|(intros;omega)|(repeat(first|rw[if_neg (by omega)]|rw[if_pos (by omega)])))
 |true=>
  simp+decide only[st,xv,sq,C8,C7,C6,IH,Lb.c]
  refine au (Lk ok (by omega)) ?_
  simp+decide only[st,xv,sq,C8,C7,C6,IH,Lb.c]
  obtain⟨X,hX⟩: ∃X,X=((h.at h.next (.cells [.int .u8 a.d, .vs (aw.R a.ps) ta])).at (h.next+1) (.cells [.int .u8 b.d, .vs (aw.R b.ps) eU])):=⟨_,rfl⟩
  have g1:cellsOf X h.next=some [.int .u8 a.d, .vs (aw.R a.ps) ta]:=by subst hX;simp+decide only[st,xv]
  have g2:cellsOf X (h.next+1)=some [.int .u8 b.d, .vs (aw.R b.ps) eU]:=by subst hX;simp+decide only[st,xv]
  have g3: ∀x,x<h.next->X.get x=h.get x:=by subst hX;intro x hx;simp[aa.at,show¬x=h.next+1 by omega,show¬x=h.next by omega]
  rw[<-hX]
  have qq:=Xd (l:=b.ps)
  let I:Nat->Env->aa->Prop:=fun n ρ h'=>h'=X/\ ∃i:Nat,(dW b.ps).length=i+n/\(∀j,j<i-> ∀hj:j<(dW b.ps).length,nx a (dW b.ps)[j]=0)/\ρ 2= .ptr h.next 0/\ρ 3= .ptr (h.next+1) 0/\ρ 11= .vs ((aH .u16).R (dW b.ps)) .ao/\ρ 12= .int .i64 (dW b.ps).length/\ρ 13= .int .i64 i
  refine dO I ?_ (dW b.ps).length ⟨rfl,0,by omega,by omega,rfl,rfl,rfl,by simp+decide only[st,xv,(aH .u16).aR],rfl⟩
  rintro n ρ h' ⟨rfl,i,aB,hf,r2,r3,fc,gS,eG⟩
  by_cases hi:i<(dW b.ps).length
  ·have aA:(i:Int)<((dW b.ps).length:Int):=by omega
   have fg:(0:Int)<=i:=by omega
   have hw:=dF (show i<2^61 by omega)
   have cC:((aH .u16).R (dW b.ps))[i]? =some [.int .u16 (dW b.ps)[i]]:=(aH .u16).gL hi
   simp+decide only[st,xv,sq,IG,P2,P1,P0,PZ,r2,fc,gS,eG,aA,fg,cC,g1]
   refine au (YJ (l:=a) (t:=ta) ok (by omega)) ?_
   by_cases hz:nx a (dW b.ps)[i]=0
   ·simp+decide only[st,xv,hz,eG,hw]
    refine⟨n-1,by omega,rfl,i+1,by omega,fun j hj dU=>?_,r2,r3,fc,gS,rfl⟩
    by_cases eu:j=i
    ·subst eu;exact hz
    ·exact hf j (by omega) dU
   ·have UD: ¬((nx a (dW b.ps)[i]:Nat):Int)=0:=by omega
    have sh:(dW b.ps).any (fun c=>!(nx a c==0))=true:=List.any_eq_true.2 ⟨_,List.getElem_mem hi,by simp[hz]⟩
    simp+decide only[st,xv,UD,hz,sh]
    exact⟨rfl,g3⟩
  ·have aA: ¬(i:Int)<((dW b.ps).length:Int):=by omega
   have sh:(dW b.ps).any (fun c=>!(nx a c==0))=false:=by
    rw[List.any_eq_false]
    intro x hx
    obtain⟨j,hj,rfl⟩:=List.getElem_of_mem hx
    simp[hf j (by omega) hj]
   simp+decide only[st,xv,sq,IG,PY,MH,MG,r2,r3,gS,eG,aA,g1,g2]
   refine au (FW (ta:=ta) (eU:=eU) ok ha hb) ?_
   cases bP:fI a b with
   |false=>
    simp+decide only[st,xv,sh]
    exact⟨rfl,g3⟩
   |true=>
    simp+decide only[st,xv,sh]
    exact g3
end
section
open Go
variable {P:Program}
def bY (l:List (Nat×Nat)):Prop:=l.Pairwise fun p q=>p.1<q.1
def eO (l:List (Nat×Nat)) (c:Nat):Nat:=l.findIdx fun p=>decide (c<=p.1)
theorem Mv {l:List (Nat×Nat)} {c:Nat}:eO l c<=l.length:=List.findIdx_le_length
theorem ZA {l:List (Nat×Nat)} {c i:Nat} (hi:i<eO l c) (hl:i<l.length):l[i].1<c:=by
 have:=List.not_of_lt_findIdx hi
 simpa using this
theorem Mw {l:List (Nat×Nat)} (hs:bY l) {c i:Nat} (hi:eO l c<=i) (hl:i<l.length):c<=l[i].1:=by
 have h0:eO l c<l.length:=by omega
 have h1:c<=l[eO l c].1:=by
  have:=List.findIdx_getElem (xs:=l) (p:=fun p=>decide (c<=p.1)) (w:=by exact h0)
  exact of_decide_eq_true this
 by_cases he:eO l c=i
 ·simpa [he] using h1
 ·have:=List.pairwise_iff_getElem.1 hs (eO l c) i h0 hl (by omega)
  omega
theorem akB (ok:ax P tb) {l:List (Nat×Nat)} {v:AV} {c:Nat} {h:aa} (hs:bY l) (hc:c<65536) (hb: ∀p∈l,p.1<65536/\p.2<256) (hv: ∀h',Old h h'->ik h' v 2 (aw.R l)) (hl:l.length<2^30):
 ∃b,an P 169 [v, .int .u16 c, .fn 170 [] []] h (.ay [.int .i64 (eO l c), .bool b]) h:=by
 have cmp: ∀p∈l,∀h',an P 170 [.agg (aw.e p), .int .u16 c] h' (.int .i64 ((p.1:Int)-c)) h':=by
  intro p hp h'
  have:=hb p hp
  refine ok.keeps (rf:=Ew) rfl (Nat.le_of_ble_eq_true rfl) rfl ?_
  have w1:IntKind.wrap .i64 (p.1:Int)=p.1:=qZ (by omega)
  have w2:IntKind.wrap .i64 (c:Int)=c:=qZ (by omega)
  have w3:IntKind.wrap .i64 ((p.1:Int)-c)=(p.1:Int)-c:=bu (by omega) (by omega)
  simp+decide only[st,xv,Ew,aaw,aav,aw,w1,w2,w3]
  first|(intro b hb;first|(intros;omega)|(repeat(first|rw[if_neg (by omega)]|rw[if_pos (by omega)]));done)|(refine⟨rfl,?_⟩;intro b hb;first|(intros;omega)|(repeat(first|rw[if_neg (by omega)]|rw[if_pos (by omega)])))
 have hlen:gC v=some l.length:=by rw[(hv h (Old.refl h)).len,aw.aR]
 refine⟨(decide (eO l c<l.length)&&decide ((l.getD (eO l c) (0,0)).1=c)),?_⟩
 refine ok.calls (rf:=rH) rfl (Nat.le_of_ble_eq_true rfl) ?_
 simp+decide only[st,xv,rH,aaD,aaC,aaB,hlen]
 let I:Nat->Env->aa->Prop:=fun n ρ h'=>h'=h/\ ∃i j:Nat,j-i=n/\i<=eO l c/\eO l c<=j/\j<=l.length/\ρ 0=v/\ρ 1= .int .u16 c/\ρ 2= .fn 170 [] []/\ρ 8= .int .i64 l.length/\ρ 9= .int .i64 i/\ρ 10= .int .i64 j
 refine dO I ?_ l.length ⟨rfl,0,l.length,by omega,by omega,Mv,by omega,rfl,rfl,rfl,rfl,rfl,rfl⟩
 rintro n ρ h' ⟨rfl,i,j,hn,hi,hj,dU,r0,r1,r2,r8,r9,gj⟩
 by_cases nL:i<j
 ·have JO:(i:Int)<(j:Int):=by omega
  have w1:IntKind.wrap .i64 ((i:Int)+(j:Int))=((i+j:Nat):Int):=by rw[bu]<;>omega
  have w2:IntKind.wrap .u64 ((i+j:Nat):Int)=((i+j:Nat):Int):=eQ (by omega)
  have w3:((i+j:Nat):Int).fdiv (2^min (Int.toNat 1) IntKind.u64.bits)=(((i+j)/2:Nat):Int):=by
   rw[show(2:Int)^min (Int.toNat 1) IntKind.u64.bits=2 by rfl,Int.fdiv_eq_ediv_of_nonneg _ (by omega)];rfl
  have w4:IntKind.wrap .i64 (((i+j)/2:Nat):Int)=(((i+j)/2:Nat):Int):=qZ (by omega)
  have h1: ¬(1:Int)<0:=by omega
  have hm:(i+j)/2<l.length:=by omega
  obtain⟨p,g1,g2⟩:=(hv h' (Old.refl h')).get ((i+j)/2) (by rw[aw.aR];exact hm)
  have g3:(aw.R l)[(i+j)/2]'(by rw[aw.aR];exact hm)=aw.e l[(i+j)/2]:=by simp[ey.R]
  rw[g3] at g2
  simp+decide only[st,xv,rH,Hi,aaA,aaz,r0,r1,r2,r9,gj,JO,w1,w2,w3,w4,h1,g1,g2]
  refine pI (ok.cf _ rfl) (cmp _ (List.getElem_mem hm) _) ?_
  by_cases aC:l[(i+j)/2].1<c
  ·have mr:((l[(i+j)/2].1:Int)-(c:Int))<0:=by omega
   have w5:=dF (show(i+j)/2<2^61 by omega)
   have hle:(i+j)/2<eO l c:=by
    by_cases hx:eO l c<=(i+j)/2
    ·have:=Mw hs hx hm;omega
    ·omega
   simp+decide only[st,xv,rH,aay,mr,w5]
   exact⟨j-((i+j)/2+1),by omega,rfl,(i+j)/2+1,j,rfl,by omega,hj,dU,r0,r1,r2,r8,rfl,gj⟩
  ·have mr: ¬((l[(i+j)/2].1:Int)-(c:Int))<0:=by omega
   have hle:eO l c<=(i+j)/2:=by
    by_cases hx:(i+j)/2<eO l c
    ·have:=ZA hx hm;omega
    ·omega
   simp+decide only[st,xv,rH,aax,mr]
   exact⟨(i+j)/2-i,by omega,rfl,i,(i+j)/2,rfl,hi,hle,by omega,r0,r1,r2,r8,r9,rfl⟩
 ·have JO: ¬(i:Int)<(j:Int):=by omega
  have iI:i=eO l c:=by omega
  subst iI
  by_cases hm:eO l c<l.length
  ·have Ff:((eO l c:Nat):Int)<(l.length:Int):=by omega
   obtain⟨p,g1,g2⟩:=(hv h' (Old.refl h')).get (eO l c) (by rw[aw.aR];exact hm)
   have g3:(aw.R l)[eO l c]'(by rw[aw.aR];exact hm)=aw.e l[eO l c]:=by simp[ey.R]
   rw[g3] at g2
   simp+decide only[st,xv,rH,Hi,ND,r0,r1,r2,r8,r9,gj,JO,Ff,g1,g2]
   refine pI (ok.cf _ rfl) (cmp _ (List.getElem_mem hm) _) ?_
   have e:decide ((l[eO l c].1:Int)-(c:Int)=0)=decide (l[eO l c].1=c):=by rw[decide_eq_decide];omega
   simp+decide only[st,xv,e,hm]
   simp[hm]
  ·have Ff: ¬((eO l c:Nat):Int)<(l.length:Int):=by omega
   simp+decide only[st,xv,rH,Hi,ND,r0,r1,r2,r8,r9,gj,JO,Ff,hm]
   simp
end
section
open Go
variable {P:Program}
def dl (l:List (Nat×Nat)) (c:Nat):List (Nat×Nat):=if 0<=cidx l c then l.eraseIdx (cidx l c).toNat else l
def ins (l:List (Nat×Nat)) (p:Nat×Nat):List (Nat×Nat):=l.take (eO l p.1)++p::l.drop (eO l p.1)
def nw (d:Nat) (l:List (Nat×Nat)) (p:Nat×Nat):List (Nat×Nat):=if p.2=d then dl l p.1 else ins (dl l p.1) p
def jG (d:Nat) (l:List (Nat×Nat)):List (Nat×Nat):=l.foldl (nw d) []
theorem akz {l:List (Nat×Nat)} {c:Nat} (h: ¬0<=cidx l c): ∀p∈l,p.1≠c:=by
 rcases Gn (q:=fun p:Nat×Nat=>p.1==c) (l:=l) with⟨e1,e2⟩|⟨i,hi,e1,e2⟩
 ·intro p hp
  have:=List.find?_eq_none.1 e2 p hp
  simpa using this
 ·exact(h (by rw[cidx,e1];omega)).elim
theorem XE {l:List (Nat×Nat)} {c:Nat} (h:0<=cidx l c): ∃i,∃hi:i<l.length,cidx l c=i/\l[i].1=c:=by
 rcases Gn (q:=fun p:Nat×Nat=>p.1==c) (l:=l) with⟨e1,e2⟩|⟨i,hi,e1,e2⟩
 ·rw[cidx,e1] at h;omega
 ·refine⟨i,hi,e1,?_⟩
  have:=List.find?_some e2
  simpa using this
theorem uu {l:List (Nat×Nat)} {c:Nat}:(dl l c).Sublist l:=by
 unfold dl
 split
 ·exact List.eraseIdx_sublist ..
 ·exact List.Sublist.refl _
theorem G3 {l:List (Nat×Nat)} (hs:bY l) {c:Nat}:bY (dl l c):=List.Pairwise.sublist uu hs
theorem asN {l:List (Nat×Nat)} (hs:bY l) {c:Nat}: ∀p∈dl l c,p.1≠c:=by
 unfold dl
 split
 ·rename_i h
  obtain⟨i,hi,e1,e2⟩:=XE h
  rw[e1,Int.toNat_natCast]
  intro p hp
  obtain⟨j,hj,eu,rfl⟩:=List.mem_eraseIdx_iff_getElem.1 hp
  have:=List.pairwise_iff_getElem.1 hs
  rcases Nat.lt_or_gt_of_ne eu with aC|Fj
  ·have:=this j i hj hi aC;omega
  ·have:=this i j hi hj Fj;omega
 ·rename_i h
  exact akz h
theorem amy {l:List (Nat×Nat)} (hs:bY l) {p:Nat×Nat} (hn: ∀q∈l,q.1≠p.1):bY (ins l p):=by
 unfold ins bY
 rw[List.pairwise_append]
 refine⟨List.Pairwise.sublist (List.take_sublist ..) hs,?_,?_⟩
 ·rw[List.pairwise_cons]
  refine⟨fun q hq=>?_,List.Pairwise.sublist (List.drop_sublist ..) hs⟩
  obtain⟨j,hj,rfl⟩:=List.getElem_of_mem hq
  rw[List.getElem_drop]
  have qw:eO l p.1+j<l.length:=by rw[List.length_drop] at hj;omega
  have h1:=Mw hs (c:=p.1) (i:=eO l p.1+j) (by omega) qw
  have h2:=hn _ (List.getElem_mem qw)
  omega
 ·intro q hq r hr
  obtain⟨j,hj,rfl⟩:=List.getElem_of_mem hq
  rw[List.getElem_take]
  have se:j<eO l p.1:=by rw[List.length_take] at hj;omega
  have qw:j<l.length:=by rw[List.length_take] at hj;omega
  have h1:=ZA se qw
  rcases List.mem_cons.1 hr with rfl|hr
  ·exact h1
  ·obtain⟨k,hk,rfl⟩:=List.getElem_of_mem hr
   rw[List.getElem_drop]
   have nI:eO l p.1+k<l.length:=by rw[List.length_drop] at hk;omega
   have h3:=Mw hs (c:=p.1) (i:=eO l p.1+k) (by omega) nI
   omega
theorem amn {d:Nat} {l:List (Nat×Nat)} (hs:bY l) {p:Nat×Nat}:bY (nw d l p):=by
 unfold nw
 split
 ·exact G3 hs
 ·exact amy (G3 hs) (asN hs)
theorem amA {l:List (Nat×Nat)} {p q:Nat×Nat} (h:q∈ins l p):q=p\/q∈l:=by
 unfold ins at h
 rcases List.mem_append.1 h with h|h
 ·exact .inr (List.mem_of_mem_take h)
 ·rcases List.mem_cons.1 h with h|h
  ·exact .inl h
  ·exact .inr (List.mem_of_mem_drop h)
theorem YV {d:Nat} {l:List (Nat×Nat)} {p q:Nat×Nat} (h:q∈nw d l p):q=p\/q∈l:=by
 unfold nw at h
 split at h
 ·exact .inr (uu.subset h)
 ·rcases amA h with h|h
  ·exact .inl h
  ·exact .inr (uu.subset h)
theorem YZ {l:List (Nat×Nat)} {p:Nat×Nat}:(ins l p).length=l.length+1:=by
 have:=Mv (l:=l) (c:=p.1)
 simp[ins];omega
theorem YW {d:Nat} {l:List (Nat×Nat)} {p:Nat×Nat}:(nw d l p).length<=l.length+1:=by
 have:=(uu (l:=l) (c:=p.1)).length_le
 unfold nw
 split
 ·omega
 ·rw[YZ];omega
def PV (m:Nat) (H:aa) (pv:AV) (l:List (Nat×Nat)):Prop:=(l=[]/\pv= .vs [] .full)\/ ∃b,pv= .rs b 0 l.length 2/\H.get b=some (.cells (aw.R l).flatten)/\m<=b/\b<H.next
theorem PV.lO {m:Nat} {H H':aa} {pv:AV} {l:List (Nat×Nat)} (h:PV m H pv l) (ho: ∀x,x<H.next->H'.get x=H.get x):ik H' pv 2 (aw.R l):=by
 rcases h with⟨rfl,rfl⟩|⟨b,rfl,h1,h2,h3⟩
 ·exact ik.vs aw (l:=[])
 ·have:=ik.rs (h:=H') (b:=b) (sz:=2) (rows:=aw.R l) (cs:=(aw.R l).flatten) (av (by rw[ho b h3,h1])) (List.take_of_length_le (by rw[jg (sz:=2) (fun r hr=>by obtain⟨p,_,rfl⟩:=List.mem_map.1 hr;rfl)];exact Nat.le_refl _)) (fun r hr=>by obtain⟨p,_,rfl⟩:=List.mem_map.1 hr;rfl)
  rw[aw.aR] at this
  exact this
theorem PV.to {m:Nat} {H H':aa} {pv:AV} {l:List (Nat×Nat)} (h:PV m H pv l) (hn:H.next<=H'.next) (ho: ∀x,m<=x->x<H.next->H'.get x=H.get x):PV m H' pv l:=by
 rcases h with h|⟨b,h0,h1,h2,h3⟩
 ·exact .inl h
 ·exact .inr ⟨b,h0,by rw[ho b h2 h3,h1],h2,by omega⟩
end
section
open Go
variable {P:Program}
structure MS (h:aa) (d:Nat) (l:List (Nat×Nat)) (pv:AV) (H:aa):Prop where
 n:h.next+2<=H.next
 res:H.get h.next=some (.cells [.int .u8 0, .vs [] .full])
 out:H.get (h.next+1)=some (.cells [.int .u8 d,pv])
 pv:PV (h.next+2) H pv l
 old: ∀x,x<h.next->H.get x=h.get x
theorem MS.to {h H H':aa} {d:Nat} {l:List (Nat×Nat)} {pv:AV} (M:MS h d l pv H) (o:Old H H'):MS h d l pv H' where
 n:=by have:=M.n;have:=o.next;omega
 res:=by rw[o.get _ (by have:=M.n;omega),M.res]
 out:=by rw[o.get _ (by have:=M.n;omega),M.out]
 pv:=M.pv.to o.next (fun x _ h2=>o.get x h2)
 old x hx:=by rw[o.get _ (by have:=M.n;omega),M.old x hx]
theorem W0 {l:List (Nat×Nat)} {i:Nat}:(aw.R l).flatten.take (i*2)=(aw.R (l.take i)).flatten:=by
 induction l generalizing i with
 |nil=>simp[ey.R]
 |cons p l ih=>
  cases i with
  |zero=>simp[ey.R]
  |succ i=>
   rw[List.take_succ_cons,aw.wD,aw.wD,List.flatten_cons,List.flatten_cons,Nat.add_mul,<-ih]
   show List.take (i*2+2) (_::_::_)=_
   rw[List.take_succ_cons,List.take_succ_cons];rfl
theorem W1 {l:List (Nat×Nat)} {i:Nat}:(aw.R l).flatten.drop (i*2)=(aw.R (l.drop i)).flatten:=by
 induction l generalizing i with
 |nil=>simp[ey.R]
 |cons p l ih=>
  cases i with
  |zero=>simp[ey.R]
  |succ i=>
   rw[List.drop_succ_cons,aw.wD,List.flatten_cons,Nat.add_mul,<-ih]
   show List.drop (i*2+2) (_::_::_)=_
   rw[List.drop_succ_cons,List.drop_succ_cons];rfl
theorem FR {l:List (Nat×Nat)}:(aw.R l).flatten.length=l.length*2:=by
 rw[jg (sz:=2) (fun r hr=>by obtain⟨p,_,rfl⟩:=List.mem_map.1 hr;rfl),aw.aR]
theorem Bm {cs ds:List AV} {sz:Nat}: ∀{n off:Nat},off+n*sz<=ds.length->rowsOf (cs++ds) (cs.length+off) sz n=rowsOf ds off sz n
 |0,_,_=>rfl
 |n+1,off,h=>by
  have hh:off+sz+n*sz<=ds.length:=by rw[Nat.add_mul] at h;omega
  simp only[rowsOf]
  rw[Nat.add_assoc,Bm hh]
  congr 1
  rw[List.drop_append,List.drop_of_length_le (by omega),List.nil_append,Nat.add_sub_cancel_left]
theorem X6: ∀{l:List (Nat×Nat)},rowsOf (aw.R l).flatten 0 2 l.length=aw.R l
 |[]=>rfl
 |p::l=>by
  have ih:=X6 (l:=l)
  rw[aw.wD,List.flatten_cons,List.length_cons,rowsOf]
  rw[show 0+2=(aw.e p).length+0 by rfl,Bm (by rw[FR];omega),ih]
  rfl
theorem akw {l:List (Nat×Nat)} {i:Nat}:qe (aw.R l).flatten i=(aw.R (l.eraseIdx i)).flatten:=by
 rw[qe,W0,W1,<-List.flatten_append,aw.oK,List.eraseIdx_eq_take_drop_succ]
theorem akl {l:List (Nat×Nat)} {i:Nat} {p:Nat×Nat}:jB (aw.R l).flatten (aw.e p) i=(aw.R (l.take i++p::l.drop i)).flatten:=by
 rw[jB,W0,W1,<-aw.oK,List.flatten_append,aw.wD,List.flatten_cons,List.append_assoc]
theorem MS.buf {h H:aa} {d b:Nat} {l l2:List (Nat×Nat)} {pv:AV} (M:MS h d l pv H) (hb:h.next+2<=b):MS h d l2 (.rs (H.next+19) 0 l2.length 2) ((jo H b (aw.R l2).flatten).set (h.next+1) (some (.cells [.int .u8 d, .rs (H.next+19) 0 l2.length 2]))) where
 n:=by have:=M.n;simp only[jo,aa.set,aa.at,aa.clean];omega
 res:=by
  have hn:=M.n
  simp[jo,aa.set,aa.at,aa.clean,show¬h.next=H.next+19 by omega,show h.next<H.next by omega,show¬h.next=b by omega,M.res]
 out:=by simp[aa.set]
 pv:=by
  have hn:=M.n
  exact .inr ⟨_,rfl,by simp[jo,aa.set,aa.at,show¬H.next+19=h.next+1 by omega],by omega,by simp only[jo,aa.set,aa.at,aa.clean];omega⟩
 old x hx:=by
  have hn:=M.n
  simp[jo,aa.set,aa.at,aa.clean,show¬x=H.next+19 by omega,show x<H.next by omega,show¬x=b by omega,show¬x=h.next+1 by omega,M.old x hx]
structure MR (h:aa) (d:Nat) (t:aG) (l:List (Nat×Nat)) (i:Nat) (ρ:Env):Prop where
 r0:ρ 0= .int .u8 d
 r4:ρ 4= .ptr h.next 0
 r5:ρ 5= .ptr (h.next+1) 0
 eG:ρ 13= .vs (aw.R l) t
 iR:ρ 14= .int .i64 l.length
 fb:ρ 15= .int .i64 i
theorem PV.one {m:Nat} {H:aa} {pv:AV} {l:List (Nat×Nat)} (h:PV m H pv l):pv.one=true:=by
 rcases h with⟨_,rfl⟩|⟨b,rfl,_⟩<;>rfl
theorem Xj (ok:ax P tb) {h H H2:aa} {d i:Nat} {t:aG} {l m1:List (Nat×Nat)} {p:Nat×Nat} {Uq:AV} {ρ1:Env} {K:aQ->Env->aa->Prop} (R:MR h d t l i ρ1) (r7:ρ1 7= .ptr H.next 0) (M:MS h d m1 Uq H2) (hH:h.next+2<=H.next) (hH2:H.next<H2.next)
 (hp:H2.get H.next=some (.cells [.int .u16 p.1, .int .u8 p.2])) (xU:p.1<65536/\p.2<256) (hs:bY m1) (pn: ∀p∈m1,p.1<65536/\p.2<256) (Fg:m1.length<2^29)
 (hK: ∀ρ' H' tp,MR h d t l i ρ'->MS h d (if p.2=d then m1 else ins m1 p) tp H'->K .normal ρ' H'):
 WP P (.seq (.af Hl) (.cond (Am.t 36) (.seq (.af NU) (.af Mj)) .skip)) K ρ1 H2:=by
 obtain⟨r0,r4,r5,eG,iR,fb⟩:=R
 have g7:=av hp
 have g5:=av M.out
 by_cases hd:p.2=d
 ·have nN:(p.2:Int)=(d:Int):=by omega
  simp+decide only[st,xv,kP,Hl,r0,r7,g7,nN]
  rw[if_pos hd] at hK
  exact hK _ _ Uq ⟨r0,r4,r5,eG,iR,fb⟩ M
 ·have nN: ¬(p.2:Int)=(d:Int):=by omega
  rw[if_neg hd] at hK
  obtain⟨b,k1⟩:=akB ok (h:=H2) (v:=Uq) hs xU.1 pn (fun h' ho=>M.pv.lO ho.get) (by omega)
  simp+decide only[st,xv,kP,Hl,NU,r0,r5,r7,g5,g7,nN]
  refine au k1 ?_
  simp+decide only[st,xv,kP,Mj,r5,r7,g5,g7]
  have lV:=Mv (l:=m1) (c:=p.1)
  rcases M.pv with⟨rfl,rfl⟩|⟨bb,rfl,q1,q2,q3⟩
  ·have k2:=amz ok (h:=H2) (f:=171) rfl (row:=[.int .u16 p.1, .int .u8 p.2]) (tl:= .full) rfl
   refine au k2 ?_
   have hn:=M.n
   have hg:cellsOf (H2.at H2.next (.cells [.int .u16 p.1, .int .u8 p.2])) (h.next+1)=some [.int .u8 d, .vs [] .full]:=av (by simp[aa.at,show¬h.next+1=H2.next by omega,M.out])
   simp+decide only[st,xv,r5,hg]
   refine hK _ _ (.rs H2.next 0 1 2) ⟨r0,r4,r5,eG,iR,fb⟩ ⟨by simp[aa.at,aa.set];omega,?_,by simp[aa.set], .inr ⟨H2.next,rfl,?_,by omega,by simp[aa.at,aa.set]⟩,fun x hx=>?_⟩
   ·simp[aa.at,aa.set,show¬h.next=H2.next by omega,M.res]
   ·simp[aa.at,aa.set,show¬H2.next=h.next+1 by omega,ins,eO,aw,ey.R]
   ·simp[aa.at,aa.set,show¬x=H2.next by omega,show¬x=h.next+1 by omega,M.old x hx]
  ·have k2:=akk ok (h:=H2) (f:=171) rfl (row:=aw.e p) (tl:= .full) (i:=eO m1 p.1) q3 q1 FR rfl (by omega) lV
   have iI:m1.length+1=(ins m1 p).length:=YZ.symm
   rw[akl,iI] at k2
   refine au k2 ?_
   have hn:=M.n
   have hg:cellsOf (jo H2 bb (aw.R (ins m1 p)).flatten) (h.next+1)=some [.int .u8 d, .rs bb 0 m1.length 2]:=av (by simp[jo,aa.at,aa.set,aa.clean,show¬h.next=H2.next+18 by omega,show h.next+1<H2.next by omega,show¬h.next+1=bb by omega,M.out])
   show exec P _ _ (jo H2 bb (aw.R (ins m1 p)).flatten) _
   simp+decide only[st,xv,r5,hg]
   exact hK _ _ _ ⟨r0,r4,r5,eG,iR,fb⟩ (M.buf q2)
theorem ajM (ok:ax P tb) {d:Nat} {l:List (Nat×Nat)} {t:aG} {h:aa} (hd:d<256) (hb: ∀p∈l,p.1<65536/\p.2<256) (hl:l.length<2^28):an P 157 [.int .u8 d, .vs (aw.R l) t] h (.agg (Lb.c ⟨d,jG d l⟩ .ao)) h:=by
 refine ok.My (rf:=kP) rfl (Nat.le_of_ble_eq_true rfl) (by simp only[AV.bD,AV.b8,Lb.c,aw.iw];rfl) ?_
 simp+decide only[st,xv,kP,aaV,aaU,aaT]
 let I:Nat->Env->aa->Prop:=fun n ρ H=> ∃i pv,l.length=i+n/\MR h d t l i ρ/\MS h d (jG d (l.take i)) pv H/\bY (jG d (l.take i))/\(∀p∈jG d (l.take i),p.1<65536/\p.2<256)/\(jG d (l.take i)).length<=i
 refine dO I ?_ l.length ⟨0, .vs [] .full,by omega,⟨rfl,rfl,rfl,rfl,by simp+decide only[st,xv,aw.aR],rfl⟩,⟨by simp[aa.set,aa.at],by simp[aa.set,aa.at],by simp[aa.set,aa.at], .inl ⟨rfl,rfl⟩,fun x hx=>by simp[aa.set,aa.at,show¬x=h.next by omega,show¬x=h.next+1 by omega]⟩,List.Pairwise.nil,(fun p hp=>by simp[jG] at hp),by simp[jG]⟩
 rintro n ρ H ⟨i,pv,aB,⟨r0,r4,r5,eG,iR,fb⟩,M,hs,pn,Fg⟩
 by_cases hi:i<l.length
 ·have aA:(i:Int)<(l.length:Int):=by omega
  have fg:(0:Int)<=i:=by omega
  have hw:=dF (show i<2^61 by omega)
  have cC:(aw.R l)[i]? =some [.int .u16 l[i].1, .int .u8 l[i].2]:=aw.gL hi
  have fy:jG d (l.take (i+1))=nw d (jG d (l.take i)) l[i]:=by
   rw[<-List.take_append_getElem hi,jG,List.foldl_append];rfl
  generalize hm:jG d (l.take i)=m at M hs pn Fg fy
  generalize hp:l[i]=p at cC fy
  have xU:p.1<65536/\p.2<256:=by rw[<-hp];exact hb _ (List.getElem_mem hi)
  have hMn:=M.n
  simp+decide only[st,xv,kP,NW,aaS,eG,iR,fb,aA,fg,cC]
  obtain⟨H1,js⟩: ∃H1,H1=(H.at H.next (.cells [.int .u16 0, .int .u8 0])).set H.next (some (.cells [.int .u16 p.1, .int .u8 p.2])):=⟨_,rfl⟩
  have o1:Old H H1:=by subst js;exact((Old.refl H).at (Nat.le_refl _)).set (Nat.le_refl _)
  have tD:H1.get H.next=some (.cells [.int .u16 p.1, .int .u8 p.2]):=by subst js;simp[aa.set]
  have pf:H1.next=H.next+1:=by subst js;simp[aa.set,aa.at]
  rw[<-js]
  have M1:=M.to o1
  have g5:=av M1.out
  have g7:=av tD
  simp+decide only[st,xv,kP,aaR,Hm,r5,g5,g7]
  refine au (atR ok (l:=m) (fun h' ho=>M1.pv.lO ho) (by omega)) ?_
  have fin: ∀ρ' H' tp,MR h d t l i ρ'->MS h d (nw d m p) tp H'-> ∃k,k<n/\I k (put (put ρ' (some 52) (.int .i64 ((i+1:Nat):Int))) (some 15) (.int .i64 ((i+1:Nat):Int))) H':=by
   intro ρ' H' tp R' M'
   refine⟨n-1,by omega,i+1,tp,by omega,⟨R'.r0,R'.r4,R'.r5,R'.eG,R'.iR,rfl⟩,by rw[fy];exact M',by rw[fy];exact amn hs,fun q hq=>?_,by rw[fy];have:=YW (d:=d) (l:=m) (p:=p);omega⟩
   rw[fy] at hq
   rcases YV hq with rfl|hq
   ·exact xU
   ·exact pn q hq
  by_cases hc:0<=cidx m p.1
  ·obtain⟨k,hk,e1,e2⟩:=XE hc
   have w1:=dF (show k<2^61 by omega)
   rcases M.pv with⟨rfl,_⟩|⟨bb,rfl,q1,q2,q3⟩
   ·simp at hk
   have k2:=akv ok (h:=H1) (f:=168) rfl (i:=k) (by omega) ((o1.get _ q3).trans q1) FR (by omega) hk
   have x8:dl m p.1=m.eraseIdx k:=by rw[dl,if_pos hc,e1,Int.toNat_natCast]
   have Fm:m.length-1=(dl m p.1).length:=by rw[x8,List.length_eraseIdx];simp[hk]
   rw[akw,<-x8,Fm] at k2
   have U3:(0:Int)<=k:=by omega
   have hg:cellsOf (jo H1 bb (aw.R (dl m p.1)).flatten) (h.next+1)=some [.int .u8 d, .rs bb 0 m.length 2]:=av (by simp[jo,aa.at,aa.set,aa.clean,show¬h.next=H1.next+18 by omega,show h.next+1<H1.next by omega,show¬h.next+1=bb by omega,M1.out])
   simp+decide only[st,xv,kP,Hm,NV,e1,U3,w1,r5,g5]
   refine au k2 ?_
   simp+decide only[st,xv,kP,NV,r5,hg]
   have Mb:=M1.buf (l2:=dl m p.1) q2
   exact uy.1 (sL.1 (Xj ok (H:=H) (p:=p) (m1:=dl m p.1) ⟨r0,r4,r5,eG,iR,fb⟩ rfl Mb (by omega) (by simp only[jo,aa.set,aa.at,aa.clean];omega) (by simp[jo,aa.set,aa.at,aa.clean,show¬H.next=h.next+1 by omega,show¬H.next=H1.next+19 by omega,show H.next<H1.next by omega,show¬H.next=bb by omega,tD]) xU (G3 hs) (fun q hq=>pn q (uu.subset hq)) (by have:=(uu (l:=m) (c:=p.1)).length_le;omega) (fun ρ' H' tp R' M'=>by
    have S7:=R'.fb
    simp+decide only[st,xv,kP,Mi,S7,hw]
    exact fin _ _ tp R' M')))
  ·have x8:dl m p.1=m:=by rw[dl,if_neg hc]
   simp+decide only[st,xv,kP,Hm,hc]
   exact uy.1 (sL.1 (Xj ok (H:=H) (p:=p) (m1:=dl m p.1) ⟨r0,r4,r5,eG,iR,fb⟩ rfl (by rw[x8];exact M1) (by omega) (by omega) tD xU (G3 hs) (fun q hq=>pn q (uu.subset hq)) (by have:=(uu (l:=m) (c:=p.1)).length_le;omega) (fun ρ' H' tp R' M'=>by
    have S7:=R'.fb
    simp+decide only[st,xv,kP,Mi,S7,hw]
    exact fin _ _ tp R' M')))
 ·have aA: ¬(i:Int)<(l.length:Int):=by omega
  have iI:l.take i=l:=List.take_of_length_le (by omega)
  rw[iI] at M
  have g1:=av M.out
  have g2:=av M.res
  have cU:=M.pv.one
  simp+decide only[st,xv,kP,NW,Y4,iR,fb,r4,r5,aA,g1,g2,cU]
  have hMn:=M.n
  rw[iI] at Fg
  rcases M.pv with⟨e,rfl⟩|⟨b,rfl,q1,q2,q3⟩
  ·refine Gl.2 ⟨.agg [.int .u8 d, .vs [] .full],h.next,[.int .u8 d, .vs [] .full],by simp+decide only[st,xv,r4],by simp[aa.set],Nat.le_refl _,rfl,by rw[e];rfl,fun x hx=>?_⟩
   simp[aa.set,show¬x=h.next by omega,M.old x hx]
  ·have pj:AV.fv b (aw.R (jG d l)).flatten (.agg [.int .u8 d, .rs b 0 (jG d l).length 2])= .agg [.int .u8 d, .vs (aw.R (jG d l)) .ao]:=by
    simp only[AV.fv,AV.qd,if_true]
    rw[if_pos (by rw[FR];omega),X6]
   refine Gl.2 ⟨.agg [.int .u8 d, .rs b 0 (jG d l).length 2],b,(aw.R (jG d l)).flatten,by simp+decide only[st,xv,r4],by simp[aa.set,show¬b=h.next by omega,q1],by omega,?_,?_,fun x hx=>?_⟩
   ·rw[pj];simp only[AV.bD,AV.b8,aw.iw];rfl
   ·rw[pj];simp only[AV.strip,AV.bH,aw.fx];rfl
   ·simp[aa.set,show¬x=h.next by omega,M.old x hx]
end
section
open Go
variable {P:Program}
def w9 (l:Lb) (c km:Nat):Lb:=⟨l.d,jG l.d (l.ps++[(c,km)])⟩
theorem akL (ok:ax P tb) {l:Lb} {t:aG} {c km:Nat} {h:aa} (hl:l.ok) (hc:c<65536) (aus:km<256):an P 135 [.agg (l.c t), .int .u16 c, .int .u8 km] h (.agg ((w9 l c km).c .ao)) h:=by
 refine ok.eW (rf:=xz) rfl (Nat.le_of_ble_eq_true rfl) (by simp only[AV.bD,AV.b8,Lb.c,aw.iw];rfl) ?_
 have kU:=hl.len
 simp+decide only[st,xv,xz,abl,Lb.c]
 obtain⟨X,hX⟩: ∃X,X=((h.at h.next (.cells [.int .u8 l.d, .vs (aw.R l.ps) t])).at (h.next+1) (.cells [.int .u8 0, .vs [] .full])):=⟨_,rfl⟩
 have xn:X.next=h.next+2:=by subst hX;simp[aa.at]
 have xo: ∀x,x<h.next->X.get x=h.get x:=by subst hX;intro x hx;simp[aa.at,show¬x=h.next by omega,show¬x=h.next+1 by omega]
 have x1:cellsOf X h.next=some [.int .u8 l.d, .vs (aw.R l.ps) t]:=by subst hX;simp+decide only[st,xv]
 have x2:X.get (h.next+1)=some (.cells [.int .u8 0, .vs [] .full]):=by subst hX;simp[aa.at]
 rw[<-hX]
 refine qO 11 12 rfl (by omega) rfl ?_
 have xl:h.next<X.next:=by omega
 simp+decide only[st,xv,xz,OG,x1,xl,List.take_succ_cons,List.take_zero]
 obtain⟨v,h1,k1,⟨tt,rfl,k2⟩,k3,k4,k5⟩:=ZL aw ok (f:=41) (z:=[.int .u16 0, .int .u8 0]) (iW:=4) rfl (l:=l.ps) (t:=t) (h:=X.clean 12) (by omega) (by omega)
 have uE: ∀j,j<12->h1.get (X.next+j)=none:=by
  intro j hj
  rcases k5 with rfl|rfl
  ·simp only[aa.clean];rw[if_neg (by omega)]
  ·have jr: ¬X.next+j=X.next+12:=by omega
   simp only[aa.clean,aa.at,jr,if_false];rw[if_neg (by omega)]
 have pf:X.next+12<=h1.next:=k3.next
 have ho1:Old X h1:=⟨by omega,fun x hx=>by rw[k3.get x (by simp[aa.clean];omega)];simp[aa.clean,hx]⟩
 refine⟨_,h1,k1,fun j _ hj=>uE j hj,fun x hx=>k3.get x (by simp[aa.clean];omega),?_⟩
 have ha:App X h1 (.vs (aw.R l.ps) tt) (aw.R l.ps):=⟨tt,rfl,k2.imp id (fun⟨k,q1,q2,q3,q4⟩=>⟨k,q1,by have:X.next+12<=k:=q2;omega,q3,q4⟩)⟩
 obtain⟨v',h2,a1,⟨t2,rfl,_⟩,a3,a4,a5⟩:=ha.EI ho1 (bytes:=4) (sz:=2) (base:=X.next) (n:=12) (i:=9) (Nat.le_refl _) (fun j hj=> .inl (uE j hj)) [[.int .u16 c, .int .u8 km]] aw.me (by rw[aw.aR];simp only[List.length_singleton];omega) (by rw[aw.aR];simp only[List.length_singleton];omega)
 simp+decide only[st,xv]
 refine⟨_,h2,a1,a5,fun x hx=>by rw[a3.get x hx,ho1.get x hx],?_⟩
 simp+decide only[st,xv]
 have hap:aw.R l.ps++[[.int .u16 c, .int .u8 km]]=aw.R (l.ps++[(c,km)]):=by rw[<-aw.oK];rfl
 rw[hap]
 refine⟨_,h2,ajM ok hl.d (fun p hp=>?_) (by simp;omega),fun j hj hn=>a5 j (by omega) hn,fun _ _=>rfl,?_⟩
 ·rcases List.mem_append.1 hp with hp|hp
  ·exact hl.ps p hp
  ·simp at hp;subst hp;exact⟨hc,aus⟩
 have x3:cellsOf h2 (h.next+1)=some [.int .u8 0, .vs [] .full]:=av (by rw[a3.get _ (by omega),x2])
 simp+decide only[st,xv,xz,OG,Lb.c,x3,bG,List.drop_succ_cons,List.drop_zero]
 refine⟨fun j hj hn=>?_,by simp only[AV.strip,AV.bH,aw.fx];rfl,fun x hx=>?_⟩
 ·omega
 ·rw[if_neg (by omega),a3.get x (by omega),xo x hx]
def oL (d:Nat) (l:List (Nat×Nat)) (i:Nat):Bool:=decide ((l.getD i (0,0)).2<=4)&&!((l.getD i (0,0)).2==d)&&(i==0||decide ((l.getD (i-1) (0,0)).1<(l.getD i (0,0)).1))
def ei (l:Lb):Bool:=decide (1<=l.d)&&decide (l.d<=4)&&decide (l.ps.length<=16)&&(List.range l.ps.length).all (oL l.d l.ps)
theorem LK (ok:ax P tb) {l:Lb} {t:aG} {h:aa} (hl:l.ok):an P 28 [.agg (l.c t)] h (.bool (ei l)) h:=by
 refine ok.keeps (rf:=k9) rfl (Nat.le_of_ble_eq_true rfl) rfl ?_
 have kU:=hl.len
 by_cases h1:1<=l.d
 case neg=>
  have c7:(l.d:Int)<1:=by omega
  have e:ei l=false:=by simp[ei,h1]
  simp+decide only[st,xv,k9,D6,D5,Jk,Lb.c,c7,e]
  first|(intro b hb;first|(intros;omega)|(repeat(first|rw[if_neg (by omega)]|rw[if_pos (by omega)]));done)|(refine⟨rfl,?_⟩;intro b hb;first|(intros;omega)|(repeat(first|rw[if_neg (by omega)]|rw[if_pos (by omega)])))
 have c7: ¬(l.d:Int)<1:=by omega
 by_cases h2:l.d<=4
 case neg=>
  have fT:(4:Int)<(l.d:Int):=by omega
  have e:ei l=false:=by simp[ei,h2]
  simp+decide only[st,xv,k9,D6,D5,Jk,Lb.c,c7,fT,e]
  first|(intro b hb;first|(intros;omega)|(repeat(first|rw[if_neg (by omega)]|rw[if_pos (by omega)]));done)|(refine⟨rfl,?_⟩;intro b hb;first|(intros;omega)|(repeat(first|rw[if_neg (by omega)]|rw[if_pos (by omega)])))
 have fT: ¬(4:Int)<(l.d:Int):=by omega
 by_cases h3:l.ps.length<=16
 case neg=>
  have mK:(16:Int)<(l.ps.length:Int):=by omega
  have e:ei l=false:=by simp[ei,h3]
  simp+decide only[st,xv,k9,D6,D5,Jk,Lb.c,c7,fT,mK,aw.aR,e]
  first|(intro b hb;first|(intros;omega)|(repeat(first|rw[if_neg (by omega)]|rw[if_pos (by omega)]));done)|(refine⟨rfl,?_⟩;intro b hb;first|(intros;omega)|(repeat(first|rw[if_neg (by omega)]|rw[if_pos (by omega)])))
 have mK: ¬(16:Int)<(l.ps.length:Int):=by omega
 simp+decide only[st,xv,k9,D6,D5,af1,Lb.c,c7,fT,mK,aw.aR]
 obtain⟨X,hX⟩: ∃X,X=h.at h.next (.cells [.int .u8 l.d, .vs (aw.R l.ps) t]):=⟨_,rfl⟩
 have xo:Old h X:=by subst hX;exact(Old.refl h).at (Nat.le_refl _)
 have x1:X.get h.next=some (.cells [.int .u8 l.d, .vs (aw.R l.ps) t]):=by subst hX;simp[aa.at]
 have xn:X.next=h.next+1:=by subst hX;simp[aa.at]
 rw[<-hX]
 let I:Nat->Env->aa->Prop:=fun n ρ H=>Old X H/\ ∃i:Nat,l.ps.length=i+n/\(∀j,j<i->oL l.d l.ps j=true)/\ρ 1= .ptr h.next 0/\ρ 20= .vs (aw.R l.ps) t/\ρ 21= .int .i64 l.ps.length/\ρ 22= .int .i64 i
 refine dO I ?_ l.ps.length ⟨Old.refl X,0,by omega,by omega,rfl,rfl,rfl,rfl⟩
 rintro n ρ H ⟨ho,i,aB,hf,r1,qk,oT,EL⟩
 by_cases hi:i<l.ps.length
 ·have aA:(i:Int)<(l.ps.length:Int):=by omega
  have fg:(0:Int)<=i:=by omega
  have hw:=dF (show i<2^61 by omega)
  have cC:(aw.R l.ps)[i]? =some [.int .u16 l.ps[i].1, .int .u8 l.ps[i].2]:=aw.gL hi
  have kB:l.ps.getD i (0,0)=l.ps[i]:=by simp[hi]
  simp+decide only[st,xv,k9,Sq,af0,qk,oT,EL,aA,fg,cC]
  obtain⟨H1,js⟩: ∃H1,H1=(H.at H.next (.cells [.int .u16 0, .int .u8 0])).set H.next (some (.cells [.int .u16 l.ps[i].1, .int .u8 l.ps[i].2])):=⟨_,rfl⟩
  have o1:Old H H1:=by subst js;exact((Old.refl H).at (Nat.le_refl _)).set (Nat.le_refl _)
  have pf:H1.next=H.next+1:=by subst js;simp[aa.set,aa.at]
  have g4:cellsOf H1 H.next=some [.int .u16 l.ps[i].1, .int .u8 l.ps[i].2]:=by subst js;exact av (by simp[aa.set])
  have UT:=ho.next
  have g1:cellsOf H1 h.next=some [.int .u8 l.d, .vs (aw.R l.ps) t]:=av (by rw[o1.get _ (by omega),ho.get _ (by omega),x1])
  have l1:h.next<H1.next:=by omega
  have l2:H.next<H1.next:=by omega
  rw[<-js]
  refine bU 27 rfl rfl ?_
  simp+decide only[st,xv,k9,wY,g4,l2]
  refine eX (anv ok _) (cN (Nat.le_refl _)) ?_
  have hO: ∀k,Old X (H1.clean k):=fun k=>(ho.trans o1).clean
  have qc:oL l.d l.ps i=false->ei l=false:=fun hb=>by
   unfold ei
   have:(List.range l.ps.length).all (oL l.d l.ps)=false:=by
    rw[List.all_eq_false];exact⟨i,List.mem_range.2 hi,by simp[hb]⟩
   rw[this,Bool.and_false]
  have Fp: ∀b,b<h.next->(H1.clean 27).get b=h.get b:=fun b hb=>by rw[(hO 27).get b (by omega),xo.get b hb]
  have Tv: ∀b,b<h.next->(if b<H1.next then H1.get b else none)=h.get b:=Fp
  have ag4:oL l.d l.ps i=true-> ∀ρ',ρ' 1= .ptr h.next 0->ρ' 20= .vs (aw.R l.ps) t->ρ' 21= .int .i64 l.ps.length->ρ' 22= .int .i64 ((i+1:Nat):Int)-> ∃m,m<n/\I m ρ' (H1.clean 27):=fun hg ρ' q1 q2 q3 q4=>
   ⟨n-1,by omega,hO 27,i+1,by omega,fun j hj=>by
     by_cases eu:j=i
     ·subst eu;exact hg
     ·exact hf j (by omega),q1,q2,q3,q4⟩
  by_cases h4:l.ps[i].2<=4
  case neg=>
   have e:=qc (by simp only[oL,kB];simp[h4])
   simp+decide only[st,xv,k9,wY,zX,h4,e]
   exact Tv
  by_cases h5:l.ps[i].2=l.d
  ·have e:=qc (by simp only[oL,kB];simp[h5])
   simp+decide only[st,xv,k9,wY,zX,h4,h5,h2,g1,g4,l1,l2,r1,e]
   exact Tv
  ·have Vq: ¬(l.ps[i].2:Int)=(l.d:Int):=by omega
   by_cases h6:i=0
   ·have iy: ¬(0:Int)<(i:Int):=by omega
    have e:oL l.d l.ps i=true:=by
     simp only[oL,kB,h4,decide_true,Bool.true_and]
     rw[beq_eq_false_iff_ne.2 h5]
     simp[h6]
    simp+decide only[st,xv,k9,wY,zX,So,h4,h5,Vq,g1,g4,l1,l2,r1,EL,iy,hw]
    exact ag4 e _ r1 qk oT rfl
   ·have iy:(0:Int)<(i:Int):=by omega
    have w1:IntKind.wrap .i64 ((i:Int)-1)=((i-1:Nat):Int):=by rw[bu]<;>omega
    have Ko:i-1<l.ps.length:=by omega
    have Fk:(aw.R l.ps)[i-1]? =some [.int .u16 l.ps[i-1].1, .int .u8 l.ps[i-1].2]:=aw.gL Ko
    have ag0:l.ps.getD (i-1) (0,0)=l.ps[i-1]:=by simp[Ko]
    have agS:(0:Int)<=((i-1:Nat):Int):=by omega
    by_cases h7:l.ps[i].1<=l.ps[i-1].1
    ·have Vp:(l.ps[i].1:Int)<=(l.ps[i-1].1:Int):=by omega
     have e:=qc (by simp only[oL,kB,ag0];simp[h6];omega)
     simp+decide only[st,xv,k9,wY,zX,h4,h5,Vq,g1,g4,l1,l2,r1,EL,iy,w1,Fk,agS,h7,Vp,e]
     exact Tv
    ·have Vp: ¬(l.ps[i].1:Int)<=(l.ps[i-1].1:Int):=by omega
     have e:oL l.d l.ps i=true:=by simp only[oL,kB,ag0];simp[h4,h5];omega
     simp+decide only[st,xv,k9,wY,zX,So,h4,h5,Vq,g1,g4,l1,l2,r1,EL,iy,w1,Fk,agS,h7,Vp,hw]
     exact ag4 e _ r1 qk oT rfl
 ·have aA: ¬(i:Int)<(l.ps.length:Int):=by omega
  have e:ei l=true:=by
   unfold ei
   simp only[h1,h2,h3,decide_true,Bool.true_and,List.all_eq_true,List.mem_range]
   exact fun j hj=>hf j (by omega)
  simp+decide only[st,xv,k9,Sq,afZ,oT,EL,aA,e]
  exact fun b hb=>by rw[ho.get b (by omega),xo.get b hb]
end
section
open Go
variable {P:Program}
def tZ (v i:Nat):UInt8:=UInt8.ofNat (v/2^(8*i)%256)
def be (v:Nat):Nat->List UInt8
 |0=>[]
 |n+1=>tZ v n::be v n
theorem bR {v:Nat}: ∀{n:Nat},(be v n).length=n
 |0=>rfl
 |n+1=>by simp[be,bR (n:=n)]
def de (l:List UInt8):Nat:=l.foldl (fun v b=>v*256+b.toNat) 0
theorem ZK {l:List UInt8} {b:UInt8}:de (l++[b])=de l*256+b.toNat:=by simp[de]
theorem uG: ∀(l:List UInt8),de l<256^l.length:=by
 intro l
 rcases List.eq_nil_or_concat l with rfl|⟨m,b,rfl⟩
 ·simp[de]
 ·have ih:=uG m
  have hb:=b.toNat_lt
  rw[List.concat_eq_append,ZK,List.length_append,List.length_singleton,Nat.pow_succ]
  omega
termination_by l=>l.length
decreasing_by simp_all
theorem Zo {v i:Nat}:(tZ v i).toNat=v/2^(8*i)%256:=by
 rw[tZ,UInt8.toNat_ofNat']
 omega
theorem Yu {v:Nat}: ∀{n a:Nat},(be v n).foldl (fun v b=>v*256+b.toNat) a=a*256^n+v%256^n
 |0,a=>by simp[be];omega
 |n+1,a=>by
  rw[be,List.foldl_cons,Yu,Zo]
  have h1:v%256^(n+1)=256^n*(v/256^n%256)+v%256^n:=by rw[Nat.pow_succ,Nat.mod_mul];omega
  have h2:(2:Nat)^(8*n)=256^n:=by rw[Nat.pow_mul]
  rw[h1,h2,Nat.pow_succ,Nat.add_mul,Nat.mul_assoc,Nat.mul_comm 256 (256^n),Nat.mul_comm (v/256^n%256)]
  omega
theorem asO {v n:Nat}:de (be v n)=v%256^n:=by rw[de,Yu];omega
theorem mV (ok:ax P tb) {b:List UInt8} {t:aG} {v n:Nat} {h:aa} (hv:v<2^64) (hn:n<=8) (hb:b.length<2^30):an P 50 [.vs (BS b) t, .int .u64 v, .int .i64 n] h (.vs (BS (b++be v n)) .ao) h:=by
 refine ok.eW (rf:=tW) rfl (Nat.le_of_ble_eq_true rfl) iB.mc ?_
 obtain⟨c0,h0,k1,k2,k3,k4,_⟩:=ZL iB ok (f:=55) (z:=[.int .u8 0]) (iW:=1) rfl (l:=b) (t:=t) (h:=h) (by omega) (by omega)
 have n0: ¬(n:Int)<0:=by omega
 have n8: ¬(8:Int)<(n:Int):=by omega
 simp+decide only[st,xv,tW,zT,zS,zR,zQ,zP,n0,n8]
 let J:Nat->Env->aa->Prop:=fun m ρ H=>Old h H/\ ∃pre,be v n=pre++be v m/\m<=n/\pre.length+m=n/\ρ 1= .int .u64 v/\ρ 8= .int .i64 m/\App h H (ρ 7) (BS (b++pre))
 refine l8 0 rfl rfl J (fun l' ρ h hk=>hk) ?_ ?_
 ·simp+decide only[st,xv,tW,zT,zS,zR,zQ,zP,j9,List.foldr,n0,n8]
  refine au k1 ?_
  simp+decide only[st,xv,tW,zT,zS,zR,zQ,zP,n0,n8]
  exact⟨n,k3,[],rfl,Nat.le_refl _,by simp,rfl,rfl,by rw[List.append_nil];exact k2⟩
 rintro m ρ H ⟨ho,pre,agR,rW,ja,r1,r8,ha⟩
 cases m with
 |zero=>
  obtain⟨tt,hv7,_⟩:=ha
  simp+decide only[st,xv,tW,zT,zS,zR,zQ,zP,RM,RL,RK,aeW,r8,hv7,bG]
  exact⟨by rw[agR,be,List.append_nil];exact iB.lh,ho.get⟩
 |succ m=>
  have m0:(0:Int)<((m+1:Nat):Int):=by omega
  have w1:IntKind.wrap .i64 (((m+1:Nat):Int)-1)=(m:Int):=by rw[bu]<;>omega
  have w2:IntKind.wrap .i64 (8*(m:Int))=((8*m:Nat):Int):=by rw[bu]<;>omega
  have w3:IntKind.wrap .u64 ((8*m:Nat):Int)=((8*m:Nat):Int):=eQ (by omega)
  have w4: ¬((8*m:Nat):Int)<0:=by omega
  have w5:min (8*m) (IntKind.u64.bits)=8*m:=Nat.min_eq_left (by show 8*m<=64;omega)
  have w6:IntKind.wrap .u8 ((v:Int).fdiv (2^(8*m)))=((tZ v m).toNat:Int):=by
   have p2:(2:Int)^(8*m)=((2^(8*m):Nat):Int):=by rw[Int.natCast_pow];rfl
   have e1:(v:Int).fdiv (2^(8*m))=((v/2^(8*m):Nat):Int):=by rw[p2,Int.fdiv_eq_ediv_of_nonneg _ (Int.natCast_nonneg _)];rfl
   rw[e1,Zo]
   simp[IntKind.wrap,IntKind.signed,IntKind.bits]
  obtain⟨v',h2,a1,a2,a3,a4,a5,a6⟩:=ha.app ho (bytes:=1) (sz:=1) (id:=H.next) ho.next [[.int .u8 (tZ v m).toNat]] iB.me (by rw[cr];simp only[List.length_singleton,List.length_append];omega) (by rw[cr];simp only[List.length_singleton,List.length_append];omega)
  simp+decide only[st,xv,tW,zT,zS,zR,zQ,zP,RM,RL,RK,r1,r8,m0,w1,w2,w3,w4,w5,w6,a1,List.length_cons,List.length_nil]
  exact⟨m,by omega,a3,pre++[tZ v m],by rw[agR,be];simp,by omega,by simp only[List.length_append,List.length_singleton];omega,r1,rfl,by rw[<-List.append_assoc,<-aci];exact a2⟩
theorem yE (ok:ax P tb) {b:List UInt8} {t:aG} {n:Nat} {h:aa} (hn:n<=8) (hb:b.length<2^30):an P 155 [.vs (BS b) t, .int .i64 n] h (if b.length<n then .ay [.int .u64 0, .int .i64 3] else .ay [.int .u64 (de (b.take n)), .int .i64 0]) h:=by
 have n0: ¬(n:Int)<0:=by omega
 have n8: ¬(8:Int)<(n:Int):=by omega
 refine ok.keeps (rf:=rI) rfl (Nat.le_of_ble_eq_true rfl) (by split<;>rfl) ?_
 by_cases hs:b.length<n
 ·rw[if_pos hs]
  have iF:(b.length:Int)<(n:Int):=by omega
  simp+decide only[st,xv,rI,wy,wx,wv,wu,wt,n0,n8,cr,iF]
  refine l8 0 rfl rfl (fun m ρ H=>False) (fun l' ρ h hk=>hk) ?_ (fun _ _ _ h=>h.elim)
  simp+decide only[st,xv,rI,wy,wx,wv,wu,wt,j9,List.foldr,n0,n8,cr,iF]
 rw[if_neg hs]
 have iF: ¬(b.length:Int)<(n:Int):=by omega
 simp+decide only[st,xv,rI,wy,wx,wv,wu,wt,n0,n8,cr,iF]
 let J:Nat->Env->aa->Prop:=fun m ρ H=>H=h/\ ∃i,i+m=n/\ρ 0= .vs (BS b) t/\ρ 1= .int .i64 n/\ρ 4= .int .u64 (de (b.take i))/\ρ 6= .int .i64 i
 refine l8 0 rfl rfl J (fun l' ρ h hk=>hk) ?_ ?_
 ·simp+decide only[st,xv,rI,wy,wx,wv,wu,wt,Hp,j9,List.foldr,n0,n8,cr,iF]
  exact⟨n,rfl,0,by omega,rfl,rfl,rfl,rfl⟩
 rintro m ρ H ⟨rfl,i,xY,r0,r1,r4,r6⟩
 cases m with
 |zero=>
  have aB:i=n:=by omega
  subst aB
  have dL: ¬(i:Int)<(i:Int):=by omega
  simp+decide only[st,xv,rI,wy,wx,wv,wu,wt,Hp,Od,Oc,Oa,aaW,r0,r1,r4,r6,dL]
 |succ m=>
  have hi:(i:Int)<(n:Int):=by omega
  have qx:i<b.length:=by omega
  have fg:(0:Int)<=i:=by omega
  have hw:=dF (show i<2^61 by omega)
  have hg:(BS b)[i]? =some [.int .u8 b[i].toNat]:=iB.gL qx
  have aC:=uG (b.take i)
  have hle:(b.take i).length=i:=by rw[List.length_take];omega
  rw[hle] at aC
  have avJ:(256:Nat)^i*256<=2^64:=by
   have:(256:Nat)^i*256=256^(i+1):=(Nat.pow_succ ..).symm
   rw[this]
   have:(256:Nat)^(i+1)<=256^8:=Nat.pow_le_pow_right (by omega) (by omega)
   omega
  have e8:min 8 (IntKind.u64.bits)=8:=rfl
  have e9:Int.toNat 8=8:=rfl
  have w1:IntKind.wrap .u64 ((de (b.take i):Int)*2^8)=((de (b.take i)*256:Nat):Int):=by
   rw[show(de (b.take i):Int)*2^8=((de (b.take i)*256:Nat):Int) by omega]
   exact eQ (by omega)
  have hb8:=b[i].toNat_lt
  have w2:IntKind.wrap .u64 (b[i].toNat:Int)=(b[i].toNat:Int):=eQ (by omega)
  have w3:oJ .or .u64 ((de (b.take i)*256:Nat):Int) (b[i].toNat:Int)=some ((de (b.take (i+1)):Nat):Int):=by
   rw[Ms (by omega) (by omega),<-List.take_append_getElem qx,ZK]
   have:=Nat.shiftLeft_add_eq_or_of_lt (i:=8) hb8 (de (b.take i))
   rw[Nat.shiftLeft_eq] at this
   rw[show(256:Nat)=2^8 by rfl,this]
  have h8: ¬(8:Int)<0:=by omega
  simp+decide only[st,xv,rI,wy,wx,wv,wu,wt,Hp,Od,Oc,Oa,r0,r1,r4,r6,hi,fg,hw,Int.toNat_natCast,hg,e8,e9,w1,w2,w3,h8,List.length_cons,List.length_nil]
  exact⟨m,by omega,rfl,i+1,by omega,r0,r1,rfl,rfl⟩
end
section
open Go
variable {P:Program}
def pV (p:Nat×Nat):List UInt8:=be p.1 2++be p.2 1
def cT (l:Lb):List UInt8:=be l.d 1++be l.ps.length 1++l.ps.flatMap pV
theorem Xh {l:List (Nat×Nat)}:(l.flatMap pV).length=3*l.length:=by
 induction l with
 |nil=>rfl
 |cons p l ih=>simp only[List.flatMap_cons,List.length_append,ih,pV,bR,List.length_cons];omega
theorem By {l:Lb}:(cT l).length=2+3*l.ps.length:=by simp only[cT,List.length_append,bR,Xh]
theorem F5 (ok:ax P tb) {b:List UInt8} {l:Lb} {t t':aG} {h:aa} (hl:l.ok) (hb:b.length<2^20):an P 37 [.vs (BS b) t, .agg (l.c t')] h (.vs (BS (b++cT l)) .ao) h:=by
 refine ok.eW (rf:=qH) rfl (Nat.le_of_ble_eq_true rfl) iB.mc ?_
 have hd:=hl.d
 have kU:=hl.len
 have w1:IntKind.wrap .u64 (l.d:Int)=l.d:=eQ (by omega)
 have w2:IntKind.wrap .u64 (l.ps.length:Int)=l.ps.length:=eQ (by omega)
 simp+decide only[st,xv,qH,afw,Lb.c]
 obtain⟨X,hX⟩: ∃X,X=h.at h.next (.cells [.int .u8 l.d, .vs (aw.R l.ps) t']):=⟨_,rfl⟩
 have xo:Old h X:=by subst hX;exact(Old.refl h).at (Nat.le_refl _)
 have x1:cellsOf X h.next=some [.int .u8 l.d, .vs (aw.R l.ps) t']:=by subst hX;simp+decide only[st,xv]
 have xn:h.next<X.next:=by subst hX;simp[aa.at]
 rw[<-hX]
 refine yO ?_
 simp+decide only[st,xv,qH,afv,x1,xn,w1]
 refine gX (mV ok (v:=l.d) (n:=1) (by omega) (by omega) (by omega)) (cN (Nat.le_refl _)) ?_
 simp+decide only[st,xv,x1,xn,aw.aR,w2]
 refine gX (mV ok (v:=l.ps.length) (n:=1) (by omega) (by omega) (by simp only[List.length_append,bR];omega)) (cN (Nat.le_refl _)) ?_
 have x2: ∀k,cellsOf (X.clean k) h.next=some [.int .u8 l.d, .vs (aw.R l.ps) t']:=fun k=>by simp+decide only[st,xv,x1,xn]
 have xo2: ∀k,Old X (X.clean k):=fun k=>(Old.refl X).clean
 simp+decide only[st,xv,qH,afu,x1,xn]
 let I:Nat->Env->aa->Prop:=fun n ρ H=>Old X H/\ ∃i:Nat,l.ps.length=i+n/\ρ 19= .vs (aw.R l.ps) t'/\ρ 20= .int .i64 l.ps.length/\ρ 21= .int .i64 i/\ρ 5= .vs (BS (b++be l.d 1++be l.ps.length 1++(l.ps.take i).flatMap pV)) .ao
 refine dO I ?_ l.ps.length ⟨xo2 _,0,by omega,rfl,by simp+decide only[st,xv,aw.aR],rfl,by simp only[List.take_zero,List.flatMap_nil,List.append_nil];rfl⟩
 rintro n ρ H ⟨ho,i,aB,Au,qk,oT,r5⟩
 by_cases hi:i<l.ps.length
 ·have aA:(i:Int)<(l.ps.length:Int):=by omega
  have fg:(0:Int)<=i:=by omega
  have hw:=dF (show i<2^61 by omega)
  have cC:(aw.R l.ps)[i]? =some [.int .u16 l.ps[i].1, .int .u8 l.ps[i].2]:=aw.gL hi
  have xU:=hl.ps _ (List.getElem_mem hi)
  have w3:IntKind.wrap .u64 (l.ps[i].1:Int)=l.ps[i].1:=eQ (by omega)
  have w4:IntKind.wrap .u64 (l.ps[i].2:Int)=l.ps[i].2:=eQ (by omega)
  simp+decide only[st,xv,qH,R5,aft,Au,qk,oT,aA,fg,cC]
  obtain⟨H1,js⟩: ∃H1,H1=(H.at H.next (.cells [.int .u16 0, .int .u8 0])).set H.next (some (.cells [.int .u16 l.ps[i].1, .int .u8 l.ps[i].2])):=⟨_,rfl⟩
  have o1:Old H H1:=by subst js;exact((Old.refl H).at (Nat.le_refl _)).set (Nat.le_refl _)
  have pf:H.next<H1.next:=by subst js;simp[aa.set,aa.at]
  have g7:cellsOf H1 H.next=some [.int .u16 l.ps[i].1, .int .u8 l.ps[i].2]:=by subst js;exact av (by simp[aa.set])
  rw[<-js]
  have ja:=Xh (l:=l.ps.take i)
  have tB:=List.length_take_le i l.ps
  refine yO ?_
  simp+decide only[st,xv,qH,afs,r5,g7,pf,w3]
  refine gX (mV ok (v:=l.ps[i].1) (n:=2) (by omega) (by omega) (by simp only[List.length_append,bR];omega)) (cN (Nat.le_refl _)) ?_
  simp+decide only[st,xv,g7,pf,w4]
  refine gX (mV ok (v:=l.ps[i].2) (n:=1) (by omega) (by omega) (by simp only[List.length_append,bR];omega)) (cN (Nat.le_refl _)) ?_
  simp+decide only[st,xv,qH,afr,oT,hw]
  refine⟨n-1,by omega,(ho.trans o1).clean,i+1,by omega,Au,qk,rfl,?_⟩
  show AV.vs (BS _) .ao=_
  rw[<-List.take_append_getElem hi]
  simp only[List.flatMap_append,List.flatMap_cons,List.flatMap_nil,List.append_nil,pV,List.append_assoc]
 ·have aA: ¬(i:Int)<(l.ps.length:Int):=by omega
  simp+decide only[st,xv,qH,R5,afq,qk,oT,r5,aA,bG]
  refine⟨?_,fun x hx=>by rw[ho.get x (by omega),xo.get x hx]⟩
  rw[List.take_of_length_le (by omega)]
  simp only[cT,List.append_assoc]
  exact iB.lh
end
section
open Go
variable {P:Program}
def i7 (b:List UInt8) (k:Nat):List (Nat×Nat):=(List.range k).map fun i=>(de ((b.drop (2+3*i)).take 2),(b.getD (4+3*i) 0).toNat)
def p5 (b:List UInt8):Lb×Nat×Nat:=
 if b.length<2 then(⟨0,[]⟩,0,3)
 else if b.length<2+3*(b.getD 1 0).toNat then(⟨0,[]⟩,0,3)
 else if ei ⟨(b.getD 0 0).toNat,i7 b (b.getD 1 0).toNat⟩ then(⟨(b.getD 0 0).toNat,i7 b (b.getD 1 0).toNat⟩,2+3*(b.getD 1 0).toNat,0)
 else(⟨0,[]⟩,0,2)
theorem GG {b:List UInt8} {k:Nat}:(i7 b k).length=k:=by simp[i7]
theorem akY {b:List UInt8} {k:Nat}:i7 b (k+1)=i7 b k++[(de ((b.drop (2+3*k)).take 2),(b.getD (4+3*k) 0).toNat)]:=by simp[i7,List.range_succ]
def Pz (r:Lb×Nat×Nat):AV:= .ay [.agg (r.1.c .ao), .int .i64 r.2.1, .int .i64 r.2.2]
theorem ain (ok:ax P tb) {b:List UInt8} {t:aG} {h:aa} (hb:b.length<2^20):an P 123 [.vs (BS b) t] h (Pz (p5 b)) h:=by
 refine ok.eW (rf:=mw) rfl (Nat.le_of_ble_eq_true rfl) (by simp only[Pz,Lb.c,AV.bD,AV.b8,aw.iw];rfl) ?_
 simp+decide only[st,xv,mw,abY]
 by_cases h1:b.length<2
 ·have c7:(b.length:Int)<2:=by omega
  have e:p5 b=(⟨0,[]⟩,0,3):=by simp[p5,h1]
  refine l8 0 rfl rfl (fun _ _ _=>False) (fun l' ρ h hk=>hk) ?_ (fun _ _ _ h=>h.elim)
  simp+decide only[st,xv,mw,O2,abX,j9,List.foldr,c7,cr,bG]
  rw[e]
  refine⟨rfl,fun x hx=>?_⟩
  have: ¬x=h.next:=by omega
  simp[aa.at,aa.set,this]
 have c7: ¬(b.length:Int)<2:=by omega
 have Fk:(BS b)[Int.toNat 0]? =some [.int .u8 (b.getD 0 0).toNat]:=by
  rw[show Int.toNat 0=0 by rfl,Pw,List.getElem?_eq_getElem (show 0<b.length by omega),List.getD_eq_getElem?_getD,List.getElem?_eq_getElem (show 0<b.length by omega)];rfl
 have cC:(BS b)[Int.toNat 1]? =some [.int .u8 (b.getD 1 0).toNat]:=by
  rw[show Int.toNat 1=1 by rfl,Pw,List.getElem?_eq_getElem (show 1<b.length by omega),List.getD_eq_getElem?_getD,List.getElem?_eq_getElem (show 1<b.length by omega)];rfl
 have hd:=(b.getD 0 0).toNat_lt
 have hk:=(b.getD 1 0).toNat_lt
 generalize hD:(b.getD 0 0).toNat=D at*
 generalize hK:(b.getD 1 0).toNat=K at*
 have w1:IntKind.wrap .i64 (K:Int)=K:=qZ (by omega)
 have auy:(BS b)[0]? =some [.int .u8 D]:=Fk
 let J:Nat->Env->aa->Prop:=fun m ρ H=> ∃i v,K=i+m/\2+3*i<=b.length/\ρ 0= .vs (BS b) t/\ρ 2= .ptr h.next 0/\ρ 3= .int .i64 ((2+3*i:Nat):Int)/\ρ 5= .int .i64 m/\h.next<H.next/\H.get h.next=some (.cells [.int .u8 D,v])/\App ⟨h.get,h.next+1⟩ H v (aw.R (i7 b i))/\ ∀x,x<h.next->H.get x=h.get x
 refine l8 0 rfl rfl J (fun l' ρ h hk=>hk) ?_ ?_
 ·simp+decide only[st,xv,mw,O2,abW,abV,j9,List.foldr,c7,cr,auy,Fk,cC,w1]
  refine⟨K,0, .vs [] .full,by omega,by omega,rfl,rfl,rfl,rfl,by simp[aa.at,aa.set],by simp[aa.set],⟨_,rfl, .inl rfl⟩,fun x hx=>?_⟩
  simp[aa.at,aa.set,show¬x=h.next by omega]
 rintro m ρ H ⟨i,v,hKi,hle,r0,r2,r3,r5,hn,hc,ha,hold⟩
 have g2:=av hc
 cases m with
 |zero=>
  have auI:K=i:=by omega
  subst auI
  obtain⟨tt,rfl,_⟩:=ha
  have bc:(⟨D,i7 b K⟩:Lb).ok:=by
   refine⟨hd,fun p hp=>?_,by rw[GG];omega⟩
   simp only[i7,List.mem_map] at hp
   obtain⟨j,_,rfl⟩:=hp
   refine⟨?_,(b.getD (4+3*j) 0).toNat_lt⟩
   have h1:=uG ((b.drop (2+3*j)).take 2)
   have h2:((b.drop (2+3*j)).take 2).length<=2:=List.length_take_le ..
   have h3:(256:Nat)^((b.drop (2+3*j)).take 2).length<=256^2:=Nat.pow_le_pow_right (by omega) h2
   show de _<65536
   omega
  simp+decide only[st,xv,mw,HG,Zh,r2,r5,g2]
  refine au (LK (l:=⟨D,i7 b K⟩) (t:=tt) ok bc) ?_
  cases hm:ei ⟨D,i7 b K⟩ with
  |false=>
   simp+decide only[st,xv,mw,Zg,r2,g2,bG]
   have e:p5 b=(⟨0,[]⟩,0,2):=by simp only[p5,hD,hK];rw[if_neg h1,if_neg (by omega),hm];rfl
   rw[e]
   exact⟨rfl,fun x hx=>by rw[if_neg (by omega),hold x hx]⟩
  |true=>
   simp+decide only[st,xv,mw,Zf,r2,r3,g2,bG]
   have e:p5 b=(⟨D,i7 b K⟩,2+3*K,0):=by simp only[p5,hD,hK];rw[if_neg h1,if_neg (by omega),hm];rfl
   rw[e]
   exact⟨by simp only[AV.strip,AV.bH,aw.fx];rfl,fun x hx=>by rw[if_neg (by omega),hold x hx]⟩
 |succ m=>
  have hm0:(0:Int)<((m+1:Nat):Int):=by omega
  have w2:IntKind.wrap .i64 ((b.length:Int)-((2+3*i:Nat):Int))=((b.length-(2+3*i):Nat):Int):=by rw[bu]<;>omega
  by_cases hs:b.length-(2+3*i)<3
  ·have iF:((b.length-(2+3*i):Nat):Int)<3:=by omega
   simp+decide only[st,xv,mw,HG,O1,abU,r0,r2,r3,r5,hm0,cr,w2,iF,g2,bG]
   have e:p5 b=(⟨0,[]⟩,0,3):=by simp only[p5,hD,hK];rw[if_neg h1,if_pos (by omega)]
   rw[e]
   exact⟨rfl,fun x hx=>by rw[if_neg (by omega),hold x hx]⟩
  have iF: ¬((b.length-(2+3*i):Nat):Int)<3:=by omega
  have k1:2+3*i<=b.length:=hle
  have k2:dH 1 (BS b)=true:=oq
  have k3:(BS b).drop (2+3*i)=BS (b.drop (2+3*i)):=vW
  have k4:List.take (b.length-(2+3*i)) (BS (b.drop (2+3*i)))=BS (b.drop (2+3*i)):=List.take_of_length_le (by rw[cr,List.length_drop];omega)
  have ht:=yE ok (b:=b.drop (2+3*i)) (t:=nX t b.length (2+3*i) b.length) (n:=2) (h:=H) (by omega) (by rw[List.length_drop];omega)
  rw[if_neg (by rw[List.length_drop];omega)] at ht
  simp+decide only[st,xv,mw,HG,O1,abT,r0,r2,r3,r5,hm0,cr,w2,iF,k1,k2,k3,k4]
  refine au ht ?_
  generalize hV:de ((b.drop (2+3*i)).take 2)=V
  have hV2:V<65536:=by
   have h1:=uG ((b.drop (2+3*i)).take 2)
   have h2:((b.drop (2+3*i)).take 2).length<=2:=List.length_take_le ..
   have h3:(256:Nat)^((b.drop (2+3*i)).take 2).length<=256^2:=Nat.pow_le_pow_right (by omega) h2
   omega
  have w3:IntKind.wrap .u16 (V:Int)=V:=by simp[IntKind.wrap,IntKind.signed,IntKind.bits];omega
  have w4:IntKind.wrap .i64 (((2+3*i:Nat):Int)+3)=((2+3*(i+1):Nat):Int):=by rw[bu]<;>omega
  have w5:IntKind.wrap .i64 (((2+3*(i+1):Nat):Int)-1)=((4+3*i:Nat):Int):=by rw[bu]<;>omega
  have w6:IntKind.wrap .i64 (((m+1:Nat):Int)-1)=(m:Int):=by rw[bu]<;>omega
  have h4:4+3*i<b.length:=by omega
  have hg4:(BS b)[4+3*i]? =some [.int .u8 (b.getD (4+3*i) 0).toNat]:=by
   rw[Pw,List.getElem?_eq_getElem h4,List.getD_eq_getElem?_getD,List.getElem?_eq_getElem h4];rfl
  have UT:(0:Int)<=((4+3*i:Nat):Int):=by omega
  have hxn:h.next<H.next:=hn
  have sg:App ⟨h.get,h.next+1⟩ (H.clean 15) v (aw.R (i7 b i)):=ha.to (by simp[aa.clean]) (fun k _ q2 q3=>by simp[aa.clean,q2,q3])
  obtain⟨v',h2,a1,⟨tt,rfl,at2⟩,a3,a4,a5⟩:=App.EI (h0:=⟨(H.clean 15).get,h.next+1⟩) sg ⟨by simp[aa.clean];omega,fun _ _=>rfl⟩ (bytes:=4) (sz:=2) (base:=H.next) (n:=15) (i:=12) (by show h.next+1<=_;omega) (fun j hj=> .inl (by simp only[aa.clean];rw[if_neg (by omega)])) [[.int .u16 V, .int .u8 (b.getD (4+3*i) 0).toNat]] aw.me (by rw[aw.aR,GG];simp only[List.length_singleton];omega) (by rw[aw.aR,GG];simp only[List.length_singleton];omega)
  have a1':my 4 2 (H.next+(1+1+1+1+1+1+1+1+1+1+1+1)) (H.clean 15) v (some [[.int .u16 V, .int .u8 (b.getD (4+3*i) 0).toNat]])=some (.vs (aw.R (i7 b i)++[[.int .u16 V, .int .u8 (b.getD (4+3*i) 0).toNat]]) tt,h2):=a1
  have aU:cellsOf h2 h.next=some [.int .u8 D,v]:=av (by rw[a3.get _ (by simp)];simp[aa.clean,hxn,hc])
  simp+decide only[st,xv]
  refine bU 15 rfl rfl ?_
  simp+decide only[st,xv,mw,abS,r0,r2,r3,g2,hxn,w3,w4,w5,hg4,UT,a1',aU]
  refine⟨a5,fun j hj _=>by omega,?_⟩
  simp+decide only[st,xv,mw,Zj,Zi,r3,r5,w4,w6]
  have qo:aw.R (i7 b i)++[[.int .u16 V, .int .u8 (b.getD (4+3*i) 0).toNat]]=aw.R (i7 b (i+1)):=by rw[akY,hV,<-aw.oK];rfl
  rw[qo]
  refine⟨m,by omega,i+1, .vs (aw.R (i7 b (i+1))) tt,by omega,by omega,r0,r2,rfl,rfl,by simp only[aa.set,aa.clean] at a4 ⊢;omega,by simp[aa.set],?_,fun x hx=>?_⟩
  ·refine App.to (h:=h2) ⟨tt,rfl,at2⟩ (by simp[aa.set]) (fun k q1 q2 q3=>?_)
   have: ¬k=h.next:=by have:h.next+1<=k:=q1;omega
   simp[aa.set,this,q3]
  ·simp only[aa.set]
   rw[if_neg (by omega),a3.get x (show x<h.next+1 by omega)]
   simp only[aa.clean]
   rw[if_pos (by omega),hold x hx]
end
section
open Go
variable {P:Program}
def wL {α:Type} (q:α->Bool) (l:List α):Int:=if l.findIdx q<l.length then(l.findIdx q:Int) else -1
def gf:Nat->Nat->Option (List Nat)
 |0,id=>if id=1 then some [] else none
 |k+1,id=>if id=1 then some [] else if 1<id/\0<id%64 then(gf k (id/64)).map (id%64:: ·) else none
def gu (id:Nat):Option (List Nat):=gf 6 id
def dw (id:Nat):Bool:=(gu id).isSome
def sO (id:Nat):AV:=match gu id with
 |some l=> .ay [.vs ((aH .i64).R l) .ao, .bool true]
 |none=> .ay [.vs [] .ao, .bool false]
theorem LQ {k:Nat}:gf k 1=some []:=by cases k<;>simp[gf]
theorem vQ: ∀{k id:Nat} {l:List Nat},gf k id=some l->l.length<=k
 |0,id,l,h=>by
  simp only[gf] at h
  split at h
  ·cases h;simp
  ·cases h
 |k+1,id,l,h=>by
  simp only[gf] at h
  split at h
  ·cases h;simp
  ·split at h
   ·obtain⟨m,hm,rfl⟩:=Option.map_eq_some_iff.1 h
    have:=vQ hm
    simp;omega
   ·cases h
theorem FP (ok:ax P tb) {id:Nat} {h:aa} (aJ:id<2^64):an P 128 [.int .u64 id] h (sO id) h:=by
 refine ok.eW (rf:=qg) rfl (Nat.le_of_ble_eq_true rfl) (by unfold sO;split<;>simp only[AV.bD,AV.b8,(aH .i64).iw]<;>rfl) ?_
 simp+decide only[st,xv,qg,abG]
 let J:Nat->Env->aa->Prop:=fun m ρ H=>Old h H/\ ∃i pre:_,i<2^64/\List.length pre+m=6/\gu id=(gf m i).map (pre++ ·)/\ρ 0= .int .u64 i/\App h H (ρ 4) ((aH .i64).R pre)
 refine l8 0 rfl rfl J (fun l' ρ h hk=>hk) ?_ ?_
 ·simp+decide only[st,xv,qg,abF,j9,List.foldr]
  exact⟨6,Old.refl h,id,[],aJ,rfl,by simp[gu],rfl,App.nil h h⟩
 rintro m ρ H ⟨ho,i,pre,hi,hpm,mG,r0,ha⟩
 obtain⟨tt,E4,ht⟩:=ha
 by_cases h1:i=1
 ·subst h1
  have c7:((1:Nat):Int)=1:=rfl
  simp+decide only[st,xv,qg,zf,abE,r0,c7,E4,bG]
  rw[LQ] at mG
  refine⟨?_,ho.get⟩
  simp only[sO,mG,Option.map_some,List.append_nil,AV.strip,AV.bH,(aH .i64).fx]
 have c7: ¬(i:Int)=1:=by omega
 have w1:oJ .and .u64 (i:Int) 63=some ((i%64:Nat):Int):=by
  rw[show(63:Int)=((63:Nat):Int) by rfl,am7 hi (by omega)]
  rw[show(63:Nat)=2^6-1 by rfl,Nat.and_two_pow_sub_one_eq_mod]
 have w2:IntKind.wrap .i64 ((i%64:Nat):Int)=((i%64:Nat):Int):=qZ (by omega)
 have w3:(i:Int).fdiv (2^min (Int.toNat 6) IntKind.u64.bits)=((i/64:Nat):Int):=by
  rw[show(2:Int)^min (Int.toNat 6) IntKind.u64.bits=64 by rfl,Int.fdiv_eq_ediv_of_nonneg _ (by omega)];rfl
 have h6: ¬(6:Int)<0:=by omega
 by_cases hg:1<i/\0<i%64/\0<m
 ·obtain⟨g1,g2,g3⟩:=hg
  obtain⟨m,rfl⟩: ∃k,m=k+1:=⟨m-1,by omega⟩
  have AS:(1:Int)<(i:Int):=by omega
  have Fu:(0:Int)<((i%64:Nat):Int):=by omega
  have Vt:(pre.length:Int)<6:=by omega
  obtain⟨v',h2,a1,a2,a3,a4,a5,a6⟩:=App.app (h0:=h) (rows:=(aH .i64).R pre) ⟨tt,rfl,ht⟩ ho (bytes:=8) (sz:=1) (id:=H.next) ho.next [[.int .i64 (i%64:Nat)]] (aH .i64).me (by rw[(aH .i64).aR];simp only[List.length_singleton];omega) (by rw[(aH .i64).aR];simp only[List.length_singleton];omega)
  simp+decide only[st,xv,qg,zf,CB,CA,abD,r0,c7,w1,w2,w3,h6,E4,(aH .i64).aR,AS,Fu,Vt,a1]
  refine⟨m,by omega,a3,i/64,pre++[i%64],by omega,by simp;omega,?_,rfl,by rw[<-(aH .i64).oK];exact a2⟩
  rw[mG,gf,if_neg h1,if_pos ⟨g1,g2⟩,Option.map_map]
  congr 1
  funext l
  simp
 ·have e:gu id=none:=by
   rw[mG]
   cases m with
   |zero=>simp[gf,h1]
   |succ m=>rw[gf,if_neg h1,if_neg (by omega)];rfl
  have eA:sO id= .ay [.vs [] .ao, .bool false]:=by simp only[sO,e]
  rw[eA]
  by_cases g1:1<i
  ·have AS:(1:Int)<(i:Int):=by omega
   by_cases g2:0<i%64
   ·have Fu:(0:Int)<((i%64:Nat):Int):=by omega
    have Vt: ¬(pre.length:Int)<6:=by omega
    simp+decide only[st,xv,qg,zf,CB,CA,Hz,r0,c7,w1,w2,E4,(aH .i64).aR,AS,Fu,Vt,bG]
    exact⟨rfl,ho.get⟩
   ·have Fu: ¬(0:Int)<((i%64:Nat):Int):=by omega
    simp+decide only[st,xv,qg,zf,CB,CA,Hz,r0,c7,w1,w2,E4,(aH .i64).aR,AS,Fu,bG]
    exact⟨rfl,ho.get⟩
  ·have AS: ¬(1:Int)<(i:Int):=by omega
   simp+decide only[st,xv,qg,zf,CB,CA,Hz,r0,c7,w1,w2,E4,(aH .i64).aR,AS,bG]
   exact⟨rfl,ho.get⟩
theorem F4 (ok:ax P tb) {id:Nat} {h:aa} (aJ:id<2^64):an P 80 [.int .u64 id] h (.bool (dw id)) h:=by
 refine ok.keeps (rf:=vI) rfl (Nat.le_of_ble_eq_true rfl) rfl ?_
 have hc:=FP ok (h:=h) aJ
 unfold sO at hc
 unfold dw
 cases hn:gu id with
 |none=>
  rw[hn] at hc
  simp+decide only[st,xv,vI,Dd,Dc,Db]
  refine au hc ?_
  simp+decide only[st,xv,vI,Dd,Dc,Db]
  rfl
 |some l=>
  rw[hn] at hc
  simp+decide only[st,xv,vI,Dd,Dc,Db]
  refine au hc ?_
  simp+decide only[st,xv,vI,Dd,Dc,Db]
  rfl
def kM (id:Nat):Nat:=((gu id).getD []).length
def fM (id:Nat):Nat:=if kM id=0 then 0 else id/64
theorem ahF (ok:ax P tb) {id:Nat} {h:aa} (aJ:id<2^64):an P 102 [.int .u64 id] h (.int .u64 (fM id)) h:=by
 refine ok.keeps (rf:=s8) rfl (Nat.le_of_ble_eq_true rfl) rfl ?_
 have hc:=FP ok (h:=h) aJ
 unfold sO at hc
 unfold fM kM
 have w3:(id:Int).fdiv (2^min (Int.toNat 6) IntKind.u64.bits)=((id/64:Nat):Int):=by
  rw[show(2:Int)^min (Int.toNat 6) IntKind.u64.bits=64 by rfl,Int.fdiv_eq_ediv_of_nonneg _ (by omega)];rfl
 have h6: ¬(6:Int)<0:=by omega
 cases hn:gu id with
 |none=>
  rw[hn] at hc
  simp+decide only[st,xv,s8,zq,zp,zn,zm,zl]
  refine au hc ?_
  simp+decide only[st,xv,s8,zq,zp,zn,zm,zl]
 |some l=>
  rw[hn] at hc
  simp+decide only[st,xv,s8,zq,zp,zn,zm,zl]
  refine au hc ?_
  by_cases hl:l.length=0
  ·have bn:(l.length:Int)=0:=by omega
   simp+decide only[st,xv,s8,zq,zp,zn,zm,zl,(aH .i64).aR,bn,hl,Option.getD_some]
  ·have bn: ¬(l.length:Int)=0:=by omega
   simp+decide only[st,xv,s8,zq,zp,zn,zm,zl,(aH .i64).aR,bn,hl,Option.getD_some,w3,h6]
theorem ahO (ok:ax P tb) {id:Nat} {h:aa} (aJ:id<2^64):an P 139 [.int .u64 id] h (.int .i64 (kM id)) h:=by
 refine ok.keeps (rf:=vh) rfl (Nat.le_of_ble_eq_true rfl) rfl ?_
 have hc:=FP ok (h:=h) aJ
 unfold sO at hc
 unfold kM
 cases hn:gu id with
 |none=>
  rw[hn] at hc
  simp+decide only[st,xv,vh,Cv,Cu,Ct]
  refine au hc ?_
  simp+decide only[st,xv,vh,Cv,Cu,Ct]
  rfl
 |some l=>
  rw[hn] at hc
  simp+decide only[st,xv,vh,Cv,Cu,Ct]
  refine au hc ?_
  simp+decide only[st,xv,vh,Cv,Cu,Ct,(aH .i64).aR,Option.getD_some]
def dR (box:Nat) (n:Int):Nat×Nat:=if dw box=false\/n<1\/63<n then(0,1) else if kM box=6 then(0,13) else(box*64+n.toNat,0)
theorem L8: ∀{k id:Nat} {l:List Nat},gf k id=some l->id<2^(1+6*l.length)
 |0,id,l,h=>by
  simp only[gf] at h
  split at h
  ·cases h;simp;omega
  ·cases h
 |k+1,id,l,h=>by
  simp only[gf] at h
  split at h
  ·cases h;simp;omega
  ·split at h
   ·obtain⟨m,hm,rfl⟩:=Option.map_eq_some_iff.1 h
    have:=L8 hm
    rw[List.length_cons,show 1+6*(m.length+1)=(1+6*m.length)+6 by omega,Nat.pow_add]
    omega
   ·cases h
theorem aj8 (ok:ax P tb) {box:Nat} {n:Int} {h:aa} (hb:box<2^64):an P 95 [.int .u64 box, .int .i64 n] h (.ay [.int .u64 (dR box n).1, .int .i64 (dR box n).2]) h:=by
 refine ok.keeps (rf:=qA) rfl (Nat.le_of_ble_eq_true rfl) rfl ?_
 simp+decide only[st,xv,qA,ac0,acZ]
 refine au (F4 ok hb) ?_
 unfold dR
 cases hm:dw box with
 |false=>
  simp+decide only[st,xv,qA,ID]
  simp
 |true=>
  by_cases h1:n<1
  ·simp+decide only[st,xv,qA,ID,h1]
   simp
  by_cases h2:63<n
  ·simp+decide only[st,xv,qA,ID,h1,h2]
  simp+decide only[st,xv,qA,acY,h1,h2]
  refine au (ahO ok hb) ?_
  by_cases h3:kM box=6
  ·have mK:(kM box:Int)=6:=by omega
   simp+decide only[st,xv,qA,acX,mK,h3,h1,h2]
   simp
  ·have mK: ¬(kM box:Int)=6:=by omega
   obtain⟨l,hl⟩: ∃l,gu box=some l:=Option.isSome_iff_exists.1 hm
   have aC:=L8 hl
   have hlen:=vQ hl
   have hd:kM box=l.length:=by simp[kM,hl]
   have kC:box<2^31:=Nat.lt_of_lt_of_le aC (Nat.pow_le_pow_right (by omega) (by omega))
   obtain⟨k,rfl⟩: ∃k:Nat,n=k:=⟨n.toNat,by omega⟩
   have w1:IntKind.wrap .u64 ((box:Int)*2^min (Int.toNat 6) IntKind.u64.bits)=((box*64:Nat):Int):=by
    rw[show(2:Int)^min (Int.toNat 6) IntKind.u64.bits=64 by rfl,show(box:Int)*64=((box*64:Nat):Int) by omega]
    exact eQ (by omega)
   have w2:IntKind.wrap .u64 (k:Int)=k:=eQ (by omega)
   have w3:oJ .or .u64 ((box*64:Nat):Int) (k:Int)=some ((box*64+k:Nat):Int):=by
    rw[Ms (by omega) (by omega)]
    have:=Nat.shiftLeft_add_eq_or_of_lt (i:=6) (b:=k) (by omega) box
    rw[Nat.shiftLeft_eq] at this
    rw[show(64:Nat)=2^6 by rfl,this]
   have h6: ¬(6:Int)<0:=by omega
   simp+decide only[st,xv,qA,acW,mK,h3,h1,h2,w1,w2,w3,h6]
def fp (id:Nat):List Nat:=match gu id with
 |some l=>(List.range (l.length+1)).map fun j=>id/64^(l.length-j)
 |none=>[]
theorem GK: ∀{k id:Nat} {l:List Nat},gf k id=some l->id/64^l.length=1/\ ∀i (hi:i<l.length),l[i]=id/64^i%64
 |0,id,l,h=>by
  simp only[gf] at h
  split at h
  ·cases h;rename_i h;subst h;exact⟨rfl,fun i hi=>by simp at hi⟩
  ·cases h
 |k+1,id,l,h=>by
  simp only[gf] at h
  split at h
  ·cases h;rename_i h;subst h;exact⟨rfl,fun i hi=>by simp at hi⟩
  ·split at h
   ·obtain⟨m,hm,rfl⟩:=Option.map_eq_some_iff.1 h
    obtain⟨e1,e2⟩:=GK hm
    refine⟨by rw[List.length_cons,Nat.pow_succ,Nat.mul_comm,<-Nat.div_div_eq_div_mul,e1],fun i hi=>?_⟩
    cases i with
    |zero=>simp
    |succ i=>rw[List.getElem_cons_succ,e2 i (by simpa using hi),Nat.pow_succ,Nat.mul_comm,<-Nat.div_div_eq_div_mul]
   ·cases h
theorem Wg (ok:ax P tb) {id:Nat} {h:aa} (aJ:id<2^64):an P 143 [.int .u64 id] h (.vs ((aH .u64).R (fp id)) .ao) h:=by
 refine ok.eW (rf:=oO) rfl (Nat.le_of_ble_eq_true rfl) (aH .u64).mc ?_
 have hc:=FP ok (h:=h) aJ
 unfold sO at hc
 unfold fp
 cases hn:gu id with
 |none=>
  rw[hn] at hc
  simp+decide only[st,xv,oO,Oz,Oy]
  refine au hc ?_
  simp+decide only[st,xv,oO,Ox,abe,bG]
  rfl
 |some l=>
  rw[hn] at hc
  obtain⟨cU,lZ⟩:=GK hn
  have hlen:=vQ hn
  simp+decide only[st,xv,oO,Oz,Oy]
  refine au hc ?_
  have w1:IntKind.wrap .i64 ((l.length:Int)-1)=(l.length:Int)-1:=bu (by omega) (by omega)
  simp+decide only[st,xv,oO,Ox,abd,abc,(aH .i64).aR,w1]
  let I:Nat->Env->aa->Prop:=fun m ρ H=>Old h H/\m<=l.length/\ρ 3= .vs ((aH .i64).R l) .ao/\ρ 6= .int .i64 ((m:Int)-1)/\App h H (ρ 5) ((aH .u64).R ((List.range (l.length-m+1)).map fun j=>id/64^(l.length-j)))
  have h0:(aH .u64).R ((List.range (l.length-l.length+1)).map fun j=>id/64^(l.length-j))=[[.int .u64 1]]:=by rw[Nat.sub_self];simp[cU,aH,ey.R]
  refine dO I ?_ l.length ⟨Old.refl h,Nat.le_refl _,rfl,rfl,⟨.full,by rw[h0];rfl, .inl rfl⟩⟩
  clear h0
  rintro m ρ H ⟨ho,hm,r3,r6,ha⟩
  obtain⟨tt,hv5,ht⟩:=ha
  have gG:((List.range (l.length-m+1)).map fun j=>id/64^(l.length-j)).length=l.length-m+1:=by simp
  cases m with
  |zero=>
   have h0: ¬(0:Int)<=((0:Nat):Int)-1:=by omega
   simp+decide only[st,xv,oO,Ow,aa9,r6,h0,hv5,bG]
   exact⟨(aH .u64).lh,ho.get⟩
  |succ k=>
   have h0:(0:Int)<=((k+1:Nat):Int)-1:=by omega
   have hk:k<l.length:=by omega
   have rY:((k+1:Nat):Int)-1=(k:Int):=by omega
   have U3:(0:Int)<=(k:Int):=by omega
   have w2:IntKind.wrap .i64 (((l.length-(k+1)+1:Nat):Int)-1)=((l.length-(k+1):Nat):Int):=by rw[bu]<;>omega
   have hp0:(0:Int)<=((l.length-(k+1):Nat):Int):=by omega
   have cC:((aH .u64).R ((List.range (l.length-(k+1)+1)).map fun j=>id/64^(l.length-j)))[l.length-(k+1)]? =some [.int .u64 (id/64^(k+1):Nat)]:=by
    rw[(aH .u64).agI,List.getElem?_map,List.getElem?_range (by omega)]
    simp only[Option.map_some,aH]
    rw[show l.length-(l.length-(k+1))=k+1 by omega]
   have nM:((aH .i64).R l)[k]? =some [.int .i64 l[k]]:=(aH .i64).gL hk
   have tH:=lZ k hk
   generalize hq:id/64^k=q at tH
   have hq1:id/64^(k+1)=q/64:=by rw[Nat.pow_succ,<-Nat.div_div_eq_div_mul,hq]
   have vv:q<2^64:=by rw[<-hq];exact Nat.lt_of_le_of_lt (Nat.div_le_self ..) aJ
   rw[hq1] at cC
   rw[tH] at nM
   have w3:IntKind.wrap .u64 (((q/64:Nat):Int)*2^min (Int.toNat 6) IntKind.u64.bits)=((q/64*64:Nat):Int):=by
    rw[show(2:Int)^min (Int.toNat 6) IntKind.u64.bits=64 by rfl,show((q/64:Nat):Int)*64=((q/64*64:Nat):Int) by omega]
    exact eQ (by omega)
   have w4:IntKind.wrap .u64 ((q%64:Nat):Int)=((q%64:Nat):Int):=eQ (by omega)
   have w5:oJ .or .u64 ((q/64*64:Nat):Int) ((q%64:Nat):Int)=some (q:Int):=by
    rw[Ms (by omega) (by omega)]
    have:=Nat.shiftLeft_add_eq_or_of_lt (i:=6) (b:=q%64) (by omega) (q/64)
    rw[Nat.shiftLeft_eq] at this
    rw[<-show(2:Nat)^6=64 by rfl] at*
    rw[<-this]
    congr 2
    omega
   have h6: ¬(6:Int)<0:=by omega
   have sg:App h (H.clean 17) (.vs ((aH .u64).R ((List.range (l.length-(k+1)+1)).map fun j=>id/64^(l.length-j))) tt) ((aH .u64).R ((List.range (l.length-(k+1)+1)).map fun j=>id/64^(l.length-j))):=App.to (h:=H) ⟨tt,rfl,ht⟩ (by simp[aa.clean]) (fun k _ q2 q3=>by simp[aa.clean,q2,q3])
   obtain⟨v',h2,a1,a2,a3,a4,a5⟩:=sg.EI ho.clean (bytes:=8) (sz:=1) (base:=H.next) (n:=17) (i:=15) ho.next (fun j hj=> .inl (by simp only[aa.clean];rw[if_neg (by omega)])) [[.int .u64 q]] (aH .u64).me (by rw[(aH .u64).aR,gG];simp only[List.length_singleton];omega) (by rw[(aH .u64).aR,gG];simp only[List.length_singleton];omega)
   simp+decide only[st,xv,oO,Ow,r6,h0]
   refine bU 17 rfl rfl ?_
   simp+decide only[st,xv,oO,abb,r3,r6,hv5,rY,U3,(aH .u64).aR,gG,w2,hp0,cC,nM,w3,w4,w5,h6]
   refine⟨v',h2,a1,a5,?_⟩
   have w6:IntKind.wrap .i64 ((k:Int)-1)=(k:Int)-1:=bu (by omega) (by omega)
   simp+decide only[st,xv,oO,aba,r6,rY,w6]
   refine⟨k,by omega,a3,by omega,r3,rfl,?_⟩
   have hr:(aH .u64).R ((List.range (l.length-k+1)).map fun j=>id/64^(l.length-j))=(aH .u64).R ((List.range (l.length-(k+1)+1)).map fun j=>id/64^(l.length-j))++[[.int .u64 q]]:=by
    rw[show l.length-k+1=(l.length-(k+1)+1)+1 by omega,List.range_succ,List.map_append,<-(aH .u64).oK]
    congr 1
    simp only[List.map_cons,List.map_nil,(aH .u64).aty]
    rw[show l.length-(l.length-(k+1)+1)=k by omega,hq]
    rfl
   rw[hr]
   exact a2
theorem ahY (ok:ax P tb) {l:List Nat} {t:aG} {c:Nat} {h:aa} (hl:l.length<2^30):an P 165 [.vs ((aH .u64).R l) t, .int .u64 c] h (.int .i64 (wL (fun x=>x==c) l)) h:=by
 refine ok.calls (rf:=ve) rfl (Nat.le_of_ble_eq_true rfl) ?_
 simp+decide only[st,xv,ve,aaI,aaH,(aH .u64).aR]
 let I:Nat->Env->aa->Prop:=fun n ρ h'=>h'=h/\ ∃i:Nat,l.length=i+n/\(∀j,j<i-> ∀hj:j<l.length,¬l[j]=c)/\ρ 0= .vs ((aH .u64).R l) t/\ρ 1= .int .u64 c/\ρ 7= .int .i64 l.length/\ρ 8= .int .i64 i
 refine dO I ?_ l.length ⟨rfl,0,by omega,by omega,rfl,rfl,rfl,rfl⟩
 rintro n ρ h' ⟨rfl,i,aB,hf,r0,r1,r7,r8⟩
 by_cases hi:i<l.length
 ·have aA:(i:Int)<(l.length:Int):=by omega
  have fg:(0:Int)<=i:=by omega
  have hw:=dF (show i<2^61 by omega)
  have cC:((aH .u64).R l)[i]? =some [.int .u64 l[i]]:=(aH .u64).gL hi
  by_cases hq:l[i]=c
  ·have nD:(c:Int)=(l[i]:Int):=by omega
   have e:wL (fun x=>x==c) l=i:=by
    have:l.findIdx (fun x=>x==c)=i:=by
     rw[List.findIdx_eq hi]
     exact⟨by simpa using hq,fun j hj=>by simpa using hf j hj (by omega)⟩
    simp[wL,this,hi]
   simp+decide only[st,xv,ve,Hj,NL,NK,aaG,r0,r1,r7,r8,aA,fg,cC,nD,e]
  ·have nD: ¬c=l[i]:=fun e=>hq e.symm
   simp+decide only[st,xv,ve,Hj,NL,NK,aaF,r0,r1,r7,r8,aA,fg,cC,nD,hw]
   refine⟨n-1,by omega,rfl,i+1,by omega,fun j hj dU=>?_,r0,r1,r7,rfl⟩
   by_cases eu:j=i
   ·subst eu;exact hq
   ·exact hf j (by omega) dU
 ·have aA: ¬(i:Int)<(l.length:Int):=by omega
  have e:wL (fun x=>x==c) l= -1:=by
   have:l.findIdx (fun x=>x==c)=l.length:=by
    rw[List.findIdx_eq_length]
    intro x hx
    obtain⟨j,hj,rfl⟩:=List.getElem_of_mem hx
    simpa using hf j (by omega) hj
   simp[wL,this]
  simp+decide only[st,xv,ve,Hj,aaE,r7,r8,aA,e]
  rfl
def jR (id box:Nat):Bool:=(fp id).contains box
theorem aj6 {id:Nat}:(fp id).length<=7:=by
 unfold fp
 cases h:gu id with
 |none=>simp
 |some l=>have:=vQ h;simp;omega
theorem ahE (ok:ax P tb) {id box:Nat} {h:aa} (aJ:id<2^64):an P 103 [.int .u64 id, .int .u64 box] h (.bool (jR id box)) h:=by
 have hl:=aj6 (id:=id)
 refine ok.calls (rf:=xD) rfl (Nat.le_of_ble_eq_true rfl) ?_
 simp+decide only[st,xv,xD,HP,HO]
 refine au (Wg ok aJ) ?_
 simp+decide only[st,xv,xD,HP,HO]
 have hc:an P 144 [.vs ((aH .u64).R (fp id)) .ao, .int .u64 box] h (.bool (jR id box)) h:=by
  refine ok.calls (rf:=EB) rfl (Nat.le_of_ble_eq_true rfl) ?_
  simp+decide only[st,xv,EB,aa8,aa7]
  refine au (ahY ok (by omega)) ?_
  have e:decide ((0:Int)<=wL (fun x=>x==box) (fp id))=jR id box:=by
   unfold wL jR
   by_cases aC:(fp id).findIdx (fun x=>x==box)<(fp id).length
   ·have:=List.findIdx_lt_length.1 aC
    obtain⟨x,hx,hb⟩:=this
    have tw:x=box:=by simpa using hb
    subst tw
    rw[if_pos aC]
    simp[hx]
   ·rw[if_neg aC]
    have:box∉fp id:=fun hm=>aC (List.findIdx_lt_length_of_exists ⟨box,hm,by simp⟩)
    simp[this]
  simp+decide only[st,xv,e]
 refine au hc ?_
 simp+decide only[st,xv,xD,HP,HO]
end
section
open Go
variable {P:Program}
structure St where
 s:List Nat
 i:List Nat
 o:List Nat
 deriving DecidableEq
def qj:St:=⟨[],[],[]⟩
def St.c (s:St) (t:Nat->aG):List AV:=[.vs ((aH .u16).R s.s) (t 1), .vs ((aH .u16).R s.i) (t 2), .vs ((aH .u16).R s.o) (t 3)]
structure Ob where
 id:Nat
 kind:Int
 ak:Lb
 bh:Int
 used:Int
 next:Int
 data:List UInt8
 bV:List Nat
 ring:List (List UInt8)
 st:St
 deriving DecidableEq
def bf:Ob:=⟨0,0,⟨0,[]⟩,0,0,0,[],[],[],qj⟩
def Ob.c (o:Ob) (t:Nat->aG):List AV:=[.int .u64 o.id, .int .i64 o.kind, .int .u8 o.ak.d, .vs (aw.R o.ak.ps) (t 0), .vs ((aH .u16).R o.st.s) (t 1), .vs ((aH .u16).R o.st.i) (t 2), .vs ((aH .u16).R o.st.o) (t 3), .int .i64 o.bh, .int .i64 o.used, .int .i64 o.next, .vs (BS o.data) (t 4), .vs ((aH .u16).R o.bV) (t 5), .vs (aW.R o.ring) (t 6)]
def aK:Nat->aG:=fun _=> .ao
theorem yK {o:Ob} {t:Nat->aG}:AV.bH (o.c t)=o.c aK:=by
 simp only[Ob.c,AV.bH,AV.strip,aw.fx,jQ,(aH .u16).fx,aW.fx,aK]<;>rfl
theorem um {o:Ob} {p:Nat->Bool}:AV.b8 p (o.c aK)=true:=by
 simp only[Ob.c,AV.b8,AV.bD,aw.iw,uk,(aH .u16).iw,aW.iw,aK]<;>rfl
theorem Mt {o:Ob} {t:Nat->aG}:(AV.agg (o.c t)).strip= .agg (o.c aK):=by simp only[AV.strip,yK]
def cost (o:Ob):Int:=if o.kind=1 then 1+o.bh else if o.kind=2 then 1+o.data.length else if o.kind=3 then 2 else if o.kind=4 then 8 else 0
theorem W9 (ok:ax P tb) {o:Ob} {t:Nat->aG} {h:aa} (hq: -(2^61)<=o.bh/\o.bh<2^61) (hd:o.data.length<2^30):an P 98 [.agg (o.c t)] h (.int .i64 (cost o)) h:=by
 refine ok.keeps (rf:=tR) rfl (Nat.le_of_ble_eq_true rfl) rfl ?_
 unfold cost
 have w1:IntKind.wrap .i64 (1+o.bh)=1+o.bh:=bu (by omega) (by omega)
 have w2:IntKind.wrap .i64 (1+(o.data.length:Int))=1+(o.data.length:Int):=bu (by omega) (by omega)
 by_cases h1:o.kind=1
 ·simp+decide only[st,xv,tR,zM,zL,zK,zJ,zI,zH,zG,zF,zE,zD,y4,Ob.c,h1,w1]
  first|(intro b hb;first|(intros;omega)|(repeat(first|rw[if_neg (by omega)]|rw[if_pos (by omega)]));done)|(refine⟨rfl,?_⟩;intro b hb;first|(intros;omega)|(repeat(first|rw[if_neg (by omega)]|rw[if_pos (by omega)])))
 by_cases h2:o.kind=2
 ·simp+decide only[st,xv,tR,zM,zL,zK,zJ,zI,zH,zG,zF,zE,zD,y4,Ob.c,h2,cr,w2]
  first|(intro b hb;first|(intros;omega)|(repeat(first|rw[if_neg (by omega)]|rw[if_pos (by omega)]));done)|(refine⟨rfl,?_⟩;intro b hb;first|(intros;omega)|(repeat(first|rw[if_neg (by omega)]|rw[if_pos (by omega)])))
 by_cases h3:o.kind=3
 ·simp+decide only[st,xv,tR,zM,zL,zK,zJ,zI,zH,zG,zF,zE,zD,y4,Ob.c,h3]
  first|(intro b hb;first|(intros;omega)|(repeat(first|rw[if_neg (by omega)]|rw[if_pos (by omega)]));done)|(refine⟨rfl,?_⟩;intro b hb;first|(intros;omega)|(repeat(first|rw[if_neg (by omega)]|rw[if_pos (by omega)])))
 by_cases h4:o.kind=4
 ·simp+decide only[st,xv,tR,zM,zL,zK,zJ,zI,zH,zG,zF,zE,zD,y4,Ob.c,h4]
  first|(intro b hb;first|(intros;omega)|(repeat(first|rw[if_neg (by omega)]|rw[if_pos (by omega)]));done)|(refine⟨rfl,?_⟩;intro b hb;first|(intros;omega)|(repeat(first|rw[if_neg (by omega)]|rw[if_pos (by omega)])))
 simp+decide only[st,xv,tR,zM,zL,zK,zJ,zI,zH,zG,zF,zE,zD,y4,Ob.c,h1,h2,h3,h4]
 first|(intro b hb;first|(intros;omega)|(repeat(first|rw[if_neg (by omega)]|rw[if_pos (by omega)]));done)|(refine⟨rfl,?_⟩;intro b hb;first|(intros;omega)|(repeat(first|rw[if_neg (by omega)]|rw[if_pos (by omega)])))
def jm (o:Ob) (c:Int):Ob×Nat:=if c<0 then(bf,1) else if o.bh-o.used<c then(bf,10) else({o with used:=o.used+c},0)
theorem akO (ok:ax P tb) {o:Ob} {t:Nat->aG} {c:Int} {h:aa} (hq: -(2^60)<=o.bh/\o.bh<2^60) (hu: -(2^60)<=o.used/\o.used<2^60) (hc:c<2^60):an P 97 [.agg (o.c t), .int .i64 c] h (.ay [.agg ((jm o c).1.c aK), .int .i64 (jm o c).2]) h:=by
 refine ok.eW (rf:=yg) rfl (Nat.le_of_ble_eq_true rfl) (by simp only[AV.bD,AV.b8,um];rfl) ?_
 unfold jm
 have w1:IntKind.wrap .i64 (o.bh-o.used)=o.bh-o.used:=bu (by omega) (by omega)
 by_cases h1:c<0
 ·simp+decide only[st,xv,yg,IB,IA,Iz,Iy,Ix,Iw,Iv,Ob.c,h1,bG]
  refine⟨rfl,?_⟩
  first|(intro b hb;first|(intros;omega)|(repeat(first|rw[if_neg (by omega)]|rw[if_pos (by omega)]));done)|(refine⟨rfl,?_⟩;intro b hb;first|(intros;omega)|(repeat(first|rw[if_neg (by omega)]|rw[if_pos (by omega)])))
 by_cases h2:o.bh-o.used<c
 ·simp+decide only[st,xv,yg,IB,IA,Iz,Iy,Ix,Iw,Iv,Ob.c,h1,h2,w1,bG]
  refine⟨rfl,?_⟩
  first|(intro b hb;first|(intros;omega)|(repeat(first|rw[if_neg (by omega)]|rw[if_pos (by omega)]));done)|(refine⟨rfl,?_⟩;intro b hb;first|(intros;omega)|(repeat(first|rw[if_neg (by omega)]|rw[if_pos (by omega)])))
 have w2:IntKind.wrap .i64 (o.used+c)=o.used+c:=bu (by omega) (by omega)
 simp+decide only[st,xv,yg,IB,IA,Iz,Iy,Ix,Iw,Iv,Ob.c,h1,h2,w1,w2,bG]
 refine⟨by simp only[AV.strip,AV.bH,aw.fx,jQ,(aH .u16).fx,aW.fx,aK]<;>rfl,?_⟩
 first|(intro b hb;first|(intros;omega)|(repeat(first|rw[if_neg (by omega)]|rw[if_pos (by omega)]));done)|(refine⟨rfl,?_⟩;intro b hb;first|(intros;omega)|(repeat(first|rw[if_neg (by omega)]|rw[if_pos (by omega)])))
def p6 (o:Ob) (c:Int):Ob:=if 0<c then{o with used:=max (o.used-c) 0} else o
theorem akK (ok:ax P tb) {o:Ob} {t:Nat->aG} {c:Int} {h:aa} (hu: -(2^60)<=o.used/\o.used<2^60) (hc:c<2^60):an P 105 [.agg (o.c t), .int .i64 c] h (.agg ((p6 o c).c aK)) h:=by
 refine ok.eW (rf:=Ar) rfl (Nat.le_of_ble_eq_true rfl) (by simp only[AV.bD,um]) ?_
 unfold p6
 by_cases h1:0<c
 ·have w1:IntKind.wrap .i64 (o.used-c)=o.used-c:=bu (by omega) (by omega)
  simp+decide only[st,xv,Ar,Pq,Pp,Po,Pn,Ob.c,h1,w1,bG]
  refine⟨by simp only[AV.strip,AV.bH,aw.fx,jQ,(aH .u16).fx,aW.fx,aK]<;>rfl,?_⟩
  first|(intro b hb;first|(intros;omega)|(repeat(first|rw[if_neg (by omega)]|rw[if_pos (by omega)]));done)|(refine⟨rfl,?_⟩;intro b hb;first|(intros;omega)|(repeat(first|rw[if_neg (by omega)]|rw[if_pos (by omega)])))
 ·simp+decide only[st,xv,Ar,Pq,Pp,Po,Pn,Ob.c,h1,bG]
  refine⟨by simp only[AV.strip,AV.bH,aw.fx,jQ,(aH .u16).fx,aW.fx,aK]<;>rfl,?_⟩
  first|(intro b hb;first|(intros;omega)|(repeat(first|rw[if_neg (by omega)]|rw[if_pos (by omega)]));done)|(refine⟨rfl,?_⟩;intro b hb;first|(intros;omega)|(repeat(first|rw[if_neg (by omega)]|rw[if_pos (by omega)])))
end
section
open Go
variable {P:Program}
def yT (l:List Nat):Bool:=(List.range (l.length-1)).all fun i=>decide (l.getD i 0<l.getD (i+1) 0)
theorem aic (ok:ax P tb) {l:List Nat} {t:aG} {h:aa} (hl:l.length<2^30):an P 130 [.vs ((aH .u16).R l) t] h (.bool (yT l)) h:=by
 refine ok.keeps (rf:=rJ) rfl (Nat.le_of_ble_eq_true rfl) rfl ?_
 simp+decide only[st,xv,rJ,abC]
 let J:Nat->Env->aa->Prop:=fun m ρ H=>Old h H/\ ∃i:Nat,1<=i/\l.length+1-i=m/\(∀j,j+1<i->l.getD j 0<l.getD (j+1) 0)/\ρ 0= .vs ((aH .u16).R l) t/\ρ 3= .int .i64 i
 refine l8 0 rfl rfl J (fun l' ρ h hk=>hk) ?_ ?_
 ·simp+decide only[st,xv,rJ,abB,j9,List.foldr]
  exact⟨l.length,Old.refl h,1,by omega,by omega,fun j hj=>by omega,rfl,rfl⟩
 rintro m ρ H ⟨ho,i,Ko,xY,hf,r0,r3⟩
 by_cases hi:i<l.length
 ·have aA: ¬(l.length:Int)<=(i:Int):=by omega
  have w1:IntKind.wrap .i64 ((i:Int)-1)=((i-1:Nat):Int):=by rw[bu]<;>omega
  have hw:=dF (show i<2^61 by omega)
  have p0:(0:Int)<=((i-1:Nat):Int):=by omega
  have p1:(0:Int)<=(i:Int):=by omega
  have g0:((aH .u16).R l)[i-1]? =some [.int .u16 l[i-1]]:=(aH .u16).gL (by omega)
  have g1:((aH .u16).R l)[i]? =some [.int .u16 l[i]]:=(aH .u16).gL hi
  have d0:l.getD (i-1) 0=l[i-1]:=by rw[List.getD_eq_getElem?_getD,List.getElem?_eq_getElem (show i-1<l.length by omega)];rfl
  have d1:l.getD i 0=l[i]:=by rw[List.getD_eq_getElem?_getD,List.getElem?_eq_getElem hi];rfl
  simp+decide only[st,xv,rJ,OO,r0,r3,(aH .u16).aR,aA]
  refine bU 10 rfl rfl ?_
  by_cases aC:l[i]<=l[i-1]
  ·have e:yT l=false:=by
    unfold yT
    rw[List.all_eq_false]
    refine⟨i-1,List.mem_range.2 (by omega),?_⟩
    rw[show i-1+1=i by omega,d0,d1]
    simp;omega
   simp+decide only[st,xv,rJ,ON,abz,r0,r3,w1,p0,p1,g0,g1,aC,e]
   intro b hb
   have:=ho.next
   rw[if_pos (by omega),ho.get b hb]
  ·have mr: ¬(l[i]:Int)<=(l[i-1]:Int):=by omega
   simp+decide only[st,xv,rJ,ON,aby,r0,r3,w1,p0,p1,g0,g1,aC,hw]
   refine⟨m-1,by omega,ho.clean,i+1,by omega,by omega,fun j hj=>?_,r0,rfl⟩
   by_cases eu:j+1=i
   ·rw[show j=i-1 by omega,show i-1+1=i by omega,d0,d1];omega
   ·exact hf j (by omega)
 ·have aA:(l.length:Int)<=(i:Int):=by omega
  have e:yT l=true:=by
   unfold yT
   rw[List.all_eq_true]
   intro j hj
   have:=List.mem_range.1 hj
   simpa using hf j (by omega)
  simp+decide only[st,xv,rJ,OO,abA,r0,r3,(aH .u16).aR,aA,e]
  exact ho.get
def jZ (l:List Nat):Bool:=decide (l.length<=16)&&yT l
theorem W7 (ok:ax P tb) {l:List Nat} {t:aG} {h:aa} (hl:l.length<2^30):an P 82 [.vs ((aH .u16).R l) t] h (.bool (jZ l)) h:=by
 refine ok.calls (rf:=yj) rfl (Nat.le_of_ble_eq_true rfl) ?_
 unfold jZ
 by_cases h1:l.length<=16
 ·have c7:(l.length:Int)<=16:=by omega
  simp+decide only[st,xv,yj,IP,IN,(aH .u16).aR,c7]
  refine au (aic ok hl) ?_
  simp+decide only[st,xv,yj,IP,IN,h1]
  all_goals simp
 ·have c7: ¬(l.length:Int)<=16:=by omega
  simp+decide only[st,xv,yj,IP,IN,(aH .u16).aR,c7,h1]
  all_goals simp
def jw (l:List Nat):List UInt8:=be l.length 1++l.flatMap fun c=>be c 2
theorem ajx (ok:ax P tb) {b:List UInt8} {l:List Nat} {t t':aG} {h:aa} (hc: ∀c∈l,c<65536) (hl:l.length<2^20) (hb:b.length<2^20):an P 52 [.vs (BS b) t, .vs ((aH .u16).R l) t'] h (.vs (BS (b++jw l)) .ao) h:=by
 refine ok.eW (rf:=tV) rfl (Nat.le_of_ble_eq_true rfl) iB.mc ?_
 have w2:IntKind.wrap .u64 (l.length:Int)=l.length:=eQ (by omega)
 simp+decide only[st,xv,tV,aeV,RH,(aH .u16).aR,w2]
 refine au (mV ok (v:=l.length) (n:=1) (by omega) (by omega) (by omega)) ?_
 simp+decide only[st,xv,tV,RH,aeU]
 let I:Nat->Env->aa->Prop:=fun n ρ H=>H=h/\ ∃i:Nat,l.length=i+n/\ρ 13= .vs ((aH .u16).R l) t'/\ρ 14= .int .i64 l.length/\ρ 15= .int .i64 i/\ρ 5= .vs (BS (b++be l.length 1++(l.take i).flatMap fun c=>be c 2)) .ao
 refine dO I ?_ l.length ⟨rfl,0,by omega,rfl,by simp+decide only[st,xv,(aH .u16).aR],rfl,by simp only[List.take_zero,List.flatMap_nil,List.append_nil];rfl⟩
 rintro n ρ H ⟨rfl,i,aB,eG,iR,fb,r5⟩
 by_cases hi:i<l.length
 ·have aA:(i:Int)<(l.length:Int):=by omega
  have fg:(0:Int)<=i:=by omega
  have hw:=dF (show i<2^61 by omega)
  have cC:((aH .u16).R l)[i]? =some [.int .u16 l[i]]:=(aH .u16).gL hi
  have xU:=hc _ (List.getElem_mem hi)
  have w3:IntKind.wrap .u64 (l[i]:Int)=l[i]:=eQ (by omega)
  have bP:((l.take i).flatMap fun c=>be c 2).length=2*i:=by
   have: ∀(m:List Nat),(m.flatMap fun c=>be c 2).length=2*m.length:=by
    intro m
    induction m with
    |nil=>rfl
    |cons c m ih=>simp only[List.flatMap_cons,List.length_append,ih,bR,List.length_cons];omega
   rw[this,List.length_take];omega
  simp+decide only[st,xv,tV,RG,aeT,aeS,eG,iR,fb,r5,aA,fg,cC,w3]
  refine au (mV ok (v:=l[i]) (n:=2) (by omega) (by omega) (by simp only[List.length_append,bR,bP];omega)) ?_
  simp+decide only[st,xv,tV,aeR,fb,hw]
  refine⟨n-1,by omega,rfl,i+1,by omega,eG,iR,rfl,?_⟩
  show AV.vs (BS _) .ao=_
  rw[<-List.take_append_getElem hi]
  simp only[List.flatMap_append,List.flatMap_cons,List.flatMap_nil,List.append_nil,List.append_assoc]
 ·have aA: ¬(i:Int)<(l.length:Int):=by omega
  simp+decide only[st,xv,tV,RG,aeQ,iR,fb,r5,aA,bG]
  rw[List.take_of_length_le (by omega)]
  simp only[jw,List.append_assoc]
  first|exact iB.lh|exact⟨iB.lh,fun x hx=>rfl⟩
end
section
open Go
variable {P:Program}
theorem V3 (ok:ax P tb) {l:List (List UInt8)} {t:aG} {h:aa} (hl:l.length<2^20) (hb: ∀b∈l,b.length<2^20): ∃v h',an P 147 [.vs (aW.R l) t] h v h'/\App h h' v (aW.R l)/\Old h h':=by
 refine ok.uv (rf:=vg) rfl (Nat.le_of_ble_eq_true rfl) ?_
 simp+decide only[st,xv,vg,aa4,aa3,aa2]
 let I:Nat->Env->aa->Prop:=fun n ρ H=>Old h H/\ ∃i:Nat,l.length=i+n/\ρ 6= .vs (aW.R l) t/\ρ 7= .int .i64 l.length/\ρ 8= .int .i64 i/\App h H (ρ 3) (aW.R (l.take i))
 refine dO I ?_ l.length ⟨Old.refl h,0,by omega,rfl,by simp+decide only[st,xv,aW.aR],rfl,App.nil h h⟩
 rintro n ρ H ⟨ho,i,aB,r6,r7,r8,ha⟩
 by_cases hi:i<l.length
 ·have aA:(i:Int)<(l.length:Int):=by omega
  have fg:(0:Int)<=i:=by omega
  have hw:=dF (show i<2^61 by omega)
  have cC:(aW.R l)[i]? =some [.vs (BS l[i]) .ao]:=aW.gL hi
  have cp:=hb _ (List.getElem_mem hi)
  obtain⟨v',h2,a1,a2,a3,a4,a5,a6⟩:=ha.app ho (bytes:=24) (sz:=1) (id:=H.next) ho.next [[.vs (BS l[i]) .ao]] aW.me (by rw[aW.aR,List.length_take];simp only[List.length_singleton];omega) (by rw[aW.aR,List.length_take];simp only[List.length_singleton];omega)
  simp+decide only[st,xv,vg,Of,aa1,Oe,r6,r7,r8,aA,fg,cC]
  refine au (y3 ok (z:=[.int .u8 0]) (f:=55) rfl (by omega)) ?_
  simp+decide only[st,xv,vg,Oe,aa0,r8,a1,hw]
  refine⟨n-1,by omega,a3,i+1,by omega,r6,r7,rfl,?_⟩
  rw[<-List.take_append_getElem hi,<-aW.oK]
  exact a2
 ·have aA: ¬(i:Int)<(l.length:Int):=by omega
  simp+decide only[st,xv,vg,Of,aaZ,r7,r8,aA,pF]
  rw[List.take_of_length_le (by omega)] at ha
  exact⟨ha,ho⟩
theorem aiC (ok:ax P tb) {l:List (List UInt8)} {t:aG} {h:aa} (hl:l.length<2^20) (hb: ∀b∈l,b.length<2^20):an P 147 [.vs (aW.R l) t] h (.vs (aW.R l) .ao) h:=by
 obtain⟨v,h',h1,⟨tt,rfl,_⟩,ho⟩:=V3 ok (t:=t) (h:=h) hl hb
 have:=h1.strip
 rw[aW.lh] at this
 exact this.restore (fun x hx=>ho.get x hx) aW.mc
def m7 (l:List (List UInt8)) (b:List UInt8):List (List UInt8)×Nat:=if 16<b.length then([],12) else if 4<=l.length then([],9) else(l++[b],0)
theorem ajL (ok:ax P tb) {l:List (List UInt8)} {b:List UInt8} {t t':aG} {h:aa} (hl:l.length<2^20) (hb: ∀b∈l,b.length<2^20) (kC:b.length<2^30):an P 106 [.vs (aW.R l) t, .vs (BS b) t'] h (.ay [.vs (aW.R (m7 l b).1) .ao, .int .i64 (m7 l b).2]) h:=by
 refine ok.eW (rf:=sZ) rfl (Nat.le_of_ble_eq_true rfl) (by simp only[AV.bD,AV.b8,aW.iw];rfl) ?_
 unfold m7
 by_cases h1:16<b.length
 ·have c7:(16:Int)<(b.length:Int):=by omega
  simp+decide only[st,xv,sZ,HN,HM,Pm,HL,Pl,zk,cr,c7,h1,bG]
  first|rfl|exact⟨rfl,fun _ _=>rfl⟩
 have c7: ¬(16:Int)<(b.length:Int):=by omega
 by_cases h2:4<=l.length
 ·have fT:(4:Int)<=(l.length:Int):=by omega
  simp+decide only[st,xv,sZ,HN,HM,Pm,HL,Pl,zk,cr,aW.aR,c7,h1,fT,h2,bG]
  first|rfl|exact⟨rfl,fun _ _=>rfl⟩
 have fT: ¬(4:Int)<=(l.length:Int):=by omega
 obtain⟨v,h',k1,k2,k3⟩:=V3 ok (t:=t) (h:=h) hl hb
 obtain⟨v',h2b,a1,⟨tt,rfl,at2⟩,a3,a4,a5,a6⟩:=k2.app k3 (bytes:=24) (sz:=1) (id:=h'.next) k3.next [[.vs (BS b) .ao]] aW.me (by rw[aW.aR];simp only[List.length_singleton];omega) (by rw[aW.aR];simp only[List.length_singleton];omega)
 simp+decide only[st,xv,sZ,HN,HM,HL,zk,cr,aW.aR,c7,fT]
 refine au k1 ?_
 simp+decide only[st,xv,sZ,zk]
 refine au (y3 ok (z:=[.int .u8 0]) (f:=55) rfl (by omega)) ?_
 simp+decide only[st,xv,sZ,zk,a1,h1,h2,bG]
 refine⟨?_,a3.get⟩
 have e:aW.R l++[[.vs (BS b) .ao]]=aW.R (l++[b]):=by rw[<-aW.oK];rfl
 rw[e]
 simp only[AV.strip,AV.bH,aW.fx]
theorem akM (ok:ax P tb) {l:List (List UInt8)} {t:aG} {h:aa} (hl:l.length<2^20) (hb: ∀b∈l,b.length<2^20):an P 107 [.vs (aW.R l) t] h (match l with|[]=> .ay [.vs [] .ao, .vs [] .ao, .bool false]|b::m=> .ay [.vs (BS b) .ao, .vs (aW.R m) .ao, .bool true]) h:=by
 refine ok.eW (rf:=xB) rfl (Nat.le_of_ble_eq_true rfl) (by split<;>simp only[AV.bD,AV.b8,aW.iw,uk]<;>rfl) ?_
 cases l with
 |nil=>
  simp+decide only[st,xv,xB,Pk,Pj,ab7,Ph,aW.j8,bG]
  first|rfl|exact⟨rfl,fun _ _=>rfl⟩
 |cons b m=>
  have hz: ¬(((m.length+1:Nat):Int)=0):=by omega
  have hg:(aW.R (b::m))[0]? =some [.vs (BS b) .ao]:=rfl
  have k1:dH 1 (aW.R (b::m))=true:=aW.me
  have k3:Int.toNat 1<=(aW.R (b::m)).length:=by rw[aW.aR];simp
  have k4:List.take ((aW.R (b::m)).length-Int.toNat 1) (List.drop (Int.toNat 1) (aW.R (b::m)))=aW.R m:=by rw[List.take_of_length_le (by simp)];rfl
  have kW:=hb b (List.mem_cons_self ..)
  simp+decide only[st,xv,xB,Pk,Pj,aW.aR,hz]
  refine bU 10 rfl rfl ?_
  simp+decide only[st,xv,xB,Ph,hg]
  refine eX (y3 ok (z:=[.int .u8 0]) (f:=55) rfl (by omega)) (cN (Nat.le_refl _)) ?_
  simp+decide only[st,xv,k1,k3,k4]
  refine eX (aiC ok (by simp only[List.length_cons] at hl;omega) (fun x hx=>hb x (List.mem_cons_of_mem _ hx))) (cN (Nat.le_refl _)) ?_
  simp+decide only[st,xv,bG]
  refine⟨?_,fun x hx=>?_⟩
  ·simp only[AV.strip,AV.bH,aW.fx,jQ]
  ·rw[if_pos (by omega)]
end
section
open Go
variable {P:Program}
theorem ajN (ok:ax P tb) {n:Nat} {h:aa} (h0:0<n) (hn:n<2^30):an P 133 [.bA, .int .i64 n] h (.rs h.next 0 0 1) (h.at h.next (.cells (List.replicate n [AV.int .u8 0]).flatten)):=by
 refine ok.calls (rf:=EE) rfl (Nat.le_of_ble_eq_true rfl) ?_
 have h1: ¬(n:Int)<0:=by omega
 have h2:(0:Int)<(n:Int):=by omega
 have w0:IntKind.wrap .i64 ((0:Int)-0)=0:=rfl
 have w1:IntKind.wrap .i64 ((n:Int)-0)=n:=by rw[bu]<;>omega
 have a1: ∀id,uS 1 [.int .u8 0] id h .bA (.int .i64 n)=some (.rs id 0 n 1,h.at id (.cells (List.replicate n [AV.int .u8 0]).flatten)):=fun id=>by
  simp only[uS]
  rw[if_pos (by omega),if_pos (by rw[Int.toNat_natCast];omega),Int.toNat_natCast];rfl
 have s1: ∀ρ:Env,ρ 19= .int .i64 0->iM ρ 1 .bA none (some (Am.t 19)) none=some .bA:=fun ρ hr=>by simp[iM,cB,Am.t,aq.ev,hr]
 have s2: ∀(ρ:Env) (b:Nat),ρ 24= .int .i64 0->iM ρ 1 (.rs b 0 n 1) none (some (Am.t 24)) none=some (.rs b 0 0 1):=fun ρ b hr=>by simp[iM,cB,Am.t,aq.ev,hr]
 simp+decide only[st,xv,EE,abt,abr,abq,abp,abo,abn,abm,h1,h2,w0,w1,a1,s1,s2]
theorem CJ {l:List UInt8}:(BS l).flatten=l.map fun b=>AV.int .u8 b.toNat:=by
 induction l with
 |nil=>rfl
 |cons b l ih=>simp only[BS,List.map_cons,List.flatten_cons] at ih ⊢;rw[ih];rfl
theorem Xf: ∀{l:List UInt8},rowsOf (BS l).flatten 0 1 l.length=BS l
 |[]=>rfl
 |b::l=>by
  have ih:=Xf (l:=l)
  have hc:BS (b::l)=[.int .u8 b.toNat]::BS l:=rfl
  rw[hc,List.flatten_cons,List.length_cons,rowsOf]
  rw[show 0+1=([AV.int .u8 b.toNat]).length+0 by rfl,Bm (by rw[CJ,List.length_map];omega),ih]
  rfl
theorem VW: ∀{n off m:Nat} {cs:List AV},off+n<=m->rowsOf cs off 1 n=rowsOf (cs.take m) off 1 n
 |0,_,_,_,_=>rfl
 |n+1,off,m,cs,h=>by
  simp only[rowsOf]
  rw[VW (n:=n) (off:=off+1) (m:=m) (by omega),List.drop_take,List.take_take,Nat.min_eq_left (by omega)]
theorem aib {n:Nat} {cs:List AV}:rowsOf cs 0 1 n=rowsOf (cs.take n) 0 1 n:=VW (by omega)
theorem ah4 (ok:ax P tb) {l:List (List UInt8)} {t:aG} {h:aa} (h0:0<l.flatten.length) (hl:l.length<2^20) (hs:l.flatten.length<2^30):an P 84 [.vs (aW.R l) t] h (.vs (BS l.flatten) .ao) h:=by
 refine ok.My (rf:=qD) rfl (Nat.le_of_ble_eq_true rfl) iB.mc ?_
 have agQ: ∀i,(l.take i).flatten.length<=l.flatten.length:=fun i=>by
  have:=congrArg List.length (congrArg List.flatten (List.take_append_drop i l))
  rw[List.flatten_append,List.length_append] at this
  omega
 have Ik: ∀i (hi:i<l.length),(l.take (i+1)).flatten=(l.take i).flatten++l[i]:=fun i hi=>by
  rw[<-List.take_append_getElem hi,List.flatten_append];simp
 simp+decide only[st,xv,qD,adx,adw,adv]
 let I:Nat->Env->aa->Prop:=fun n ρ H=>H=h/\ ∃i:Nat,l.length=i+n/\ρ 0= .vs (aW.R l) t/\ρ 9= .vs (aW.R l) t/\ρ 10= .int .i64 l.length/\ρ 11= .int .i64 i/\ρ 3= .int .i64 (l.take i).flatten.length
 refine dO I ?_ l.length ⟨rfl,0,by omega,rfl,rfl,by simp+decide only[st,xv,aW.aR],rfl,rfl⟩
 rintro n ρ H ⟨rfl,i,aB,r0,r9,gj,fc,r3⟩
 by_cases hi:i<l.length
 ·have aA:(i:Int)<(l.length:Int):=by omega
  have fg:(0:Int)<=i:=by omega
  have hw:=dF (show i<2^61 by omega)
  have cC:(aW.R l)[i]? =some [.vs (BS l[i]) .ao]:=aW.gL hi
  have h1:=agQ (i+1)
  have h2:=congrArg List.length (Ik i hi)
  rw[List.length_append] at h2
  have w1:IntKind.wrap .i64 (((l.take i).flatten.length:Int)+(l[i].length:Int))=((l.take (i+1)).flatten.length:Int):=by rw[bu]<;>omega
  have w2: ¬((l.take (i+1)).flatten.length:Int)<0:=by omega
  simp+decide only[st,xv,qD,Qb,adu,adt,ads,adr,r3,r9,gj,fc,aA,fg,cC,cr,w1,w2,hw]
  exact⟨n-1,by omega,rfl,i+1,by omega,r0,r9,gj,rfl,rfl⟩
 have aA: ¬(i:Int)<(l.length:Int):=by omega
 rw[List.take_of_length_le (by omega)] at r3
 simp+decide only[st,xv,qD,Qb,adq,r3,gj,fc,aA]
 refine au (ajN ok h0 hs) ?_
 simp+decide only[st,xv,qD,ZQ,r0]
 let I2:Nat->Env->aa->Prop:=fun n ρ X=>(∀x,x<H.next->X.get x=H.get x)/\ ∃i b cs:_,l.length=i+n/\ρ 25= .vs (aW.R l) t/\ρ 26= .int .i64 l.length/\ρ 27= .int .i64 (i:Nat)/\ρ 6= .rs b 0 (l.take i).flatten.length 1/\X.get b=some (.cells cs)/\cs.take (l.take i).flatten.length=(BS (l.take i).flatten).flatten/\H.next<=b/\b<X.next
 refine dO I2 ?_ l.length ⟨fun x hx=>by simp[aa.at,show¬x=H.next by omega],0,H.next,_,by omega,rfl,by simp+decide only[st,xv,aW.aR],rfl,rfl,by simp[aa.at];rfl,by simp[BS],Nat.le_refl _,by simp[aa.at]⟩
 rintro n ρ X ⟨ho,i,b,cs,aB,J3,tj,xJ,r6,hb,eP,ew,b9⟩
 by_cases hi:i<l.length
 ·have aA:(i:Int)<(l.length:Int):=by omega
  have fg:(0:Int)<=(i:Int):=by omega
  have hw:=dF (show i<2^61 by omega)
  have cC:(aW.R l)[i]? =some [.vs (BS l[i]) .ao]:=aW.gL hi
  have cu:cP 1 X (.vs (BS l[i]) .ao)=some (BS l[i]):=Zt
  have h1:=agQ (i+1)
  have h2:=congrArg List.length (Ik i hi)
  rw[List.length_append] at h2
  have di:(l.take i).flatten.length<=cs.length:=by
   have:=congrArg List.length eP
   rw[List.length_take,CJ,List.length_map] at this
   omega
  have hc:=av hb
  by_cases hz:l[i]=[]
  ·have ha:fJ 1 1 X.next X (.rs b 0 (l.take i).flatten.length 1) (some (BS l[i]))=some (.rs b 0 (l.take i).flatten.length 1,X):=by simp[fJ,hz,BS]
   have he:(l.take (i+1)).flatten=(l.take i).flatten:=by rw[Ik i hi,hz,List.append_nil]
   simp+decide only[st,xv,qD,G5,ML,MK,MI,r6,J3,tj,xJ,aA,fg,cC,cu,ha,hw]
   exact⟨n-1,by omega,ho,i+1,b,cs,by omega,J3,tj,rfl,by rw[he];rfl,hb,by rw[he];exact eP,ew,b9⟩
  ·have aM:BS l[i]≠[]:=by simp[BS,hz]
   have ha:fJ 1 1 X.next X (.rs b 0 (l.take i).flatten.length 1) (some (BS l[i]))=some (.rs X.next 0 ((l.take i).flatten.length+l[i].length) 1,(X.set b none).at X.next (.cells (cs.take (l.take i).flatten.length++(BS l[i]).flatten))):=by
    simp only[fJ,hc,Option.bind_some,cr,Nat.mul_one]
    rw[if_neg aM,if_pos ⟨trivial,trivial,di,by omega,by omega⟩]
   simp+decide only[st,xv,qD,G5,ML,MK,MI,r6,J3,tj,xJ,aA,fg,cC,cu,ha,hw]
   refine⟨n-1,by omega,fun x hx=>?_,i+1,X.next,cs.take (l.take i).flatten.length++(BS l[i]).flatten,by omega,J3,tj,rfl,by rw[h2];rfl,by simp only[aa.at,if_true],?_,by omega,by simp[aa.at,aa.set]⟩
   ·simp[aa.at,aa.set,show¬x=X.next by omega,show¬x=b by omega,ho x hx]
   ·rw[eP,Ik i hi,<-aci,List.flatten_append]
    exact List.take_of_length_le (by rw[List.length_append,CJ,CJ,List.length_map,List.length_map,List.length_append];omega)
 ·have aA: ¬(i:Int)<(l.length:Int):=by omega
  have iI:l.take i=l:=List.take_of_length_le (by omega)
  rw[iI] at r6 eP
  simp+decide only[st,xv,qD,G5,ZP,r6,tj,xJ,aA]
  have di:l.flatten.length<=cs.length:=by
   have:=congrArg List.length eP
   rw[List.length_take,CJ,List.length_map] at this
   omega
  have Ay:rowsOf cs 0 1 l.flatten.length=BS l.flatten:=by
   have h1:rowsOf cs 0 1 l.flatten.length=rowsOf (BS l.flatten).flatten 0 1 l.flatten.length:=by
    rw[<-eP]
    exact aib
   rw[h1,Xf]
  have pj:AV.fv b cs (.rs b 0 l.flatten.length 1)= .vs (BS l.flatten) .ao:=by
   simp only[AV.fv,if_true]
   rw[if_pos (by omega),Ay]
  refine Gl.2 ⟨.rs b 0 l.flatten.length 1,b,cs,by simp+decide only[st,xv],hb,ew,?_,?_,ho⟩
  ·rw[pj];exact iB.mc
  ·rw[pj];exact iB.lh
end
section
open Go
variable {P:Program}
def cO (s:List UInt8):List UInt8:=be s.length 2++s
theorem KU (ok:ax P tb) {b s:List UInt8} {t t':aG} {h:aa} (hb:b.length<2^28) (hs:s.length<2^28):an P 51 [.vs (BS b) t, .vs (BS s) t'] h (.vs (BS (b++cO s)) .ao) h:=by
 refine ok.calls (rf:=A9) rfl (Nat.le_of_ble_eq_true rfl) ?_
 have w1:IntKind.wrap .u64 (s.length:Int)=s.length:=eQ (by omega)
 have hc:=ah4 ok (l:=[b++be s.length 2,s]) (t:= .ao) (h:=h) (by simp[bR];omega) (by simp) (by simp[bR];omega)
 have aU:=hc.D9 (D8:=[.vs [[.vs (BS (b++be s.length 2)) .ao],[.vs (BS s) t']] .full]) rfl (fun i x y hx hy=>by
  match i with
  |0=>
   cases hx;cases hy
   refine .inr (.inr (.inr ?_))
   simp only[AV.strip,AV.fZ,AV.bH,jQ];rfl
  |i+1=>simp at hx)
 simp+decide only[st,xv,A9,RJ,RI,cr,w1]
 refine au (mV ok (v:=s.length) (n:=2) (by omega) (by omega) (by omega)) ?_
 simp+decide only[st,xv,A9,RJ,RI]
 refine au aU ?_
 have e:[b++be s.length 2,s].flatten=b++cO s:=by simp[cO]
 simp+decide only[st,xv,e]
def ot (b:List UInt8):List UInt8×Nat×Nat:=if b.length<2 then([],0,3) else if b.length-2<de (b.take 2) then([],0,3) else((b.drop 2).take (de (b.take 2)),2+de (b.take 2),0)
def GI (r:List UInt8×Nat×Nat):AV:= .ay [.vs (BS r.1) .ao, .int .i64 r.2.1, .int .i64 r.2.2]
theorem Yz {l:List UInt8} {n m:Nat} {t:aG}:(AV.ay [.vs (BS l) t, .int .i64 n, .int .i64 m]).strip= .ay [.vs (BS l) .ao, .int .i64 n, .int .i64 m]:=by simp only[AV.strip,AV.bH,jQ]
theorem VI (ok:ax P tb) {b:List UInt8} {t:aG} {h:aa} (hb:b.length<2^28):an P 125 [.vs (BS b) t] h (GI (ot b)) h:=by
 refine ok.eW (rf:=qh) rfl (Nat.le_of_ble_eq_true rfl) (by simp only[GI,AV.bD,AV.b8,uk];rfl) ?_
 have ht:=yE ok (b:=b) (t:=t) (n:=2) (h:=h) (by omega) (by omega)
 unfold ot
 by_cases h1:b.length<2
 ·rw[if_pos h1] at ht
  simp+decide only[st,xv,qh,zj,wA,zi,CE,zh,CD,zg]
  refine au ht ?_
  simp+decide only[st,xv,qh,zj,wA,zi,CE,zh,CD,zg,bG,h1]
  first|rfl|exact⟨rfl,fun _ _=>rfl⟩
 rw[if_neg h1] at ht
 have hv:=uG (b.take 2)
 have hle:(b.take 2).length<=2:=List.length_take_le ..
 have h3:(256:Nat)^(b.take 2).length<=256^2:=Nat.pow_le_pow_right (by omega) hle
 generalize hV:de (b.take 2)=V at*
 have w1:IntKind.wrap .i64 ((b.length:Int)-2)=((b.length-2:Nat):Int):=by rw[bu]<;>omega
 have w2:IntKind.wrap .i64 (V:Int)=V:=qZ (by omega)
 by_cases h2:b.length-2<V
 ·have fT:((b.length-2:Nat):Int)<(V:Int):=by omega
  simp+decide only[st,xv,qh,zj,wA,zi,CE,zh,CD,zg]
  refine au ht ?_
  simp+decide only[st,xv,qh,zj,wA,zi,CE,zh,CD,zg,bG,cr,h1,h2,fT,w1,w2]
  first|rfl|exact⟨rfl,fun _ _=>rfl⟩
 have fT: ¬((b.length-2:Nat):Int)<(V:Int):=by omega
 have w3:IntKind.wrap .i64 (2+(V:Int))=((2+V:Nat):Int):=by rw[bu]<;>omega
 have k1:Int.toNat 2<=2+V/\2+V<=(BS b).length/\dH 1 (BS b)=true:=⟨by show 2<=_;omega,by rw[cr];omega,oq⟩
 have k2:List.take (2+V-Int.toNat 2) (List.drop (Int.toNat 2) (BS b))=BS ((b.drop 2).take V):=by
  rw[show 2+V-Int.toNat 2=V by show 2+V-2=_;omega,<-Zs,<-vW];rfl
 have di:=y3 ok (z:=[.int .u8 0]) (f:=55) rfl (l:=(b.drop 2).take V) (t:=nX t (BS b).length (Int.toNat 2) (2+V)) (h:=h) (by rw[List.length_take];omega)
 simp+decide only[st,xv,qh,zj,wA]
 refine au ht ?_
 simp+decide only[st,xv,qh,wA,zi,zh,cr,fT,w1,w2]
 simp+decide only[st,xv,qh,zg,w2,w3,k1.1,k1.2.1,k1.2.2,k2]
 refine au di ?_
 simp+decide only[st,xv,w2,w3,bG,h1,h2]
 first|rfl|exact⟨Yz,fun _ _=>rfl⟩|exact Yz
end
section
open Go
variable {P:Program}
def iY (l:List (List UInt8)):List UInt8:=be l.length 1++l.flatMap cO
theorem aiZ (ok:ax P tb) {b:List UInt8} {l:List (List UInt8)} {t t':aG} {h:aa} (hs: ∀x∈l,x.length<2^10) (hl:l.length<2^10) (hb:b.length<2^20):an P 53 [.vs (BS b) t, .vs (aW.R l) t'] h (.vs (BS (b++iY l)) .ao) h:=by
 refine ok.eW (rf:=tU) rfl (Nat.le_of_ble_eq_true rfl) iB.mc ?_
 have w2:IntKind.wrap .u64 (l.length:Int)=l.length:=eQ (by omega)
 have bP: ∀(m:List (List UInt8)),(∀x∈m,x.length<2^10)->(m.flatMap cO).length<=1026*m.length:=by
  intro m
  induction m with
  |nil=>intro _;simp
  |cons c m ih=>
   intro hm
   have h1:=ih (fun x hx=>hm x (List.mem_cons_of_mem _ hx))
   have h2:=hm c (List.mem_cons_self ..)
   simp only[List.flatMap_cons,List.length_append,cO,bR,List.length_cons] at h1 ⊢;omega
 simp+decide only[st,xv,tU,aeP,RF,aW.aR,w2]
 refine au (mV ok (v:=l.length) (n:=1) (by omega) (by omega) (by omega)) ?_
 simp+decide only[st,xv,tU,RF,aeO]
 let I:Nat->Env->aa->Prop:=fun n ρ H=>H=h/\ ∃i:Nat,l.length=i+n/\ρ 13= .vs (aW.R l) t'/\ρ 14= .int .i64 l.length/\ρ 15= .int .i64 i/\ρ 5= .vs (BS (b++be l.length 1++(l.take i).flatMap cO)) .ao
 refine dO I ?_ l.length ⟨rfl,0,by omega,rfl,by simp+decide only[st,xv,aW.aR],rfl,by simp only[List.take_zero,List.flatMap_nil,List.append_nil];rfl⟩
 rintro n ρ H ⟨rfl,i,aB,eG,iR,fb,r5⟩
 by_cases hi:i<l.length
 ·have aA:(i:Int)<(l.length:Int):=by omega
  have fg:(0:Int)<=i:=by omega
  have hw:=dF (show i<2^61 by omega)
  have cC:(aW.R l)[i]? =some [.vs (BS l[i]) .ao]:=aW.gL hi
  have rT:=hs _ (List.getElem_mem hi)
  have h1:=bP (l.take i) (fun x hx=>hs x (List.mem_of_mem_take hx))
  have h2:=List.length_take_le i l
  simp+decide only[st,xv,tU,RE,aeN,aeM,eG,iR,fb,r5,aA,fg,cC]
  refine au (KU ok (by simp only[List.length_append,bR];omega) (by omega)) ?_
  simp+decide only[st,xv,tU,aeL,fb,hw]
  refine⟨n-1,by omega,rfl,i+1,by omega,eG,iR,rfl,?_⟩
  show AV.vs (BS _) .ao=_
  rw[<-List.take_append_getElem hi]
  simp only[List.flatMap_append,List.flatMap_cons,List.flatMap_nil,List.append_nil,List.append_assoc]
 ·have aA: ¬(i:Int)<(l.length:Int):=by omega
  simp+decide only[st,xv,tU,RE,aeK,iR,fb,r5,aA,bG]
  rw[List.take_of_length_le (by omega)]
  simp only[iY,List.append_assoc]
  first|exact iB.lh|exact⟨iB.lh,fun x hx=>rfl⟩
end
section
open Go
variable {P:Program}
theorem aoP (ok:ax P tb) {g:Nat} {ed:List AV} {q:List UInt8->Bool} {l:List (List UInt8)} {t:aG} {h:aa} (hl:l.length<2^30) (hg:cf P g=true) (hq: ∀p∈l,an P g (.vs (BS p) .ao::ed) h (.bool (q p)) h):
 an P 156 [.vs (aW.R l) t, .fn g [] ed] h (.int .i64 (ki q l)) h:=by
 refine ok.calls (rf:=xw) rfl (Nat.le_of_ble_eq_true rfl) ?_
 simp+decide only[st,xv,xw,Ho,Hn,aW.aR]
 let I:Nat->Env->aa->Prop:=fun n ρ h'=>h'=h/\ ∃i:Nat,l.length=i+n/\(∀j,j<i-> ∀hj:j<l.length,q l[j]=false)/\ρ 0= .vs (aW.R l) t/\ρ 1= .fn g [] ed/\ρ 7= .int .i64 l.length/\ρ 8= .int .i64 i
 refine dO I ?_ l.length ⟨rfl,0,by omega,by omega,rfl,rfl,rfl,rfl⟩
 rintro n ρ h' ⟨rfl,i,aB,hf,r0,r1,r7,r8⟩
 by_cases hi:i<l.length
 ·have aA:(i:Int)<(l.length:Int):=by omega
  have fg:(0:Int)<=i:=by omega
  have hw:=dF (show i<2^61 by omega)
  have cC:(aW.R l)[i]? =some [.vs (BS l[i]) .ao]:=aW.gL hi
  simp+decide only[st,xv,xw,Ho,Hn,N9,N8,N7,NZ,NY,NX,r0,r1,r7,r8,aA,fg,cC]
  refine pI hg (hq l[i] (List.getElem_mem hi)) ?_
  by_cases lU:q l[i]=true
  ·simp+decide only[st,xv,lU,r8,GU hi hf lU]
  ·have qt:q l[i]=false:=by simpa using lU
   simp+decide only[st,xv,qt,r8,hw]
   refine⟨n-1,by omega,rfl,i+1,by omega,fun j hj dU=>?_,r0,r1,r7,rfl⟩
   by_cases eu:j=i
   ·subst eu;exact qt
   ·exact hf j (by omega) dU
 ·have aA: ¬(i:Int)<(l.length:Int):=by omega
  have dL:=GS (q:=q) (l:=l) (fun j _ hj=>hf j (by omega) hj)
  simp+decide only[st,xv,xw,Ho,Hn,N9,N8,N7,NZ,NY,NX,r7,r8,aA,dL]
  rfl
def jA (l:List (List UInt8)):Bool:=decide (l.length<=4)&&!l.any (fun b=>decide (16<b.length))
theorem WL (ok:ax P tb) {l:List (List UInt8)} {t:aG} {h:aa} (hl:l.length<2^30):an P 83 [.vs (aW.R l) t] h (.bool (jA l)) h:=by
 refine ok.calls (rf:=yi) rfl (Nat.le_of_ble_eq_true rfl) ?_
 unfold jA
 have hc:an P 131 [.vs (aW.R l) t, .fn 132 [] []] h (.bool (l.any (fun b=>decide (16<b.length)))) h:=by
  refine ok.calls (rf:=EG) rfl (Nat.le_of_ble_eq_true rfl) ?_
  simp+decide only[st,xv,EG,abx,abw]
  refine au (aoP ok hl (ok.cf _ rfl) (q:=fun b=>decide (16<b.length)) (fun p hp=>?_)) ?_
  ·refine ok.calls (rf:=EF) rfl (Nat.le_of_ble_eq_true rfl) ?_
   have e:decide ((16:Int)<(p.length:Int))=decide (16<p.length):=by rw[decide_eq_decide];omega
   simp+decide only[st,xv,EF,abv,abu,cr,e]
  ·simp+decide only[st,xv,L1]
 by_cases h1:l.length<=4
 ·have c7:(l.length:Int)<=4:=by omega
  simp+decide only[st,xv,yi,IM,IL,aW.aR,c7]
  refine au hc ?_
  simp+decide only[st,xv,yi,IM,IL,h1]
  all_goals simp
 ·have c7: ¬(l.length:Int)<=4:=by omega
  simp+decide only[st,xv,yi,IM,IL,aW.aR,c7,h1]
  all_goals simp
end
section
open Go
variable {P:Program}
def oR (b:List UInt8) (k:Nat):List Nat:=(List.range k).map fun i=>de ((b.drop (1+2*i)).take 2)
theorem GH {b:List UInt8} {k:Nat}:(oR b k).length=k:=by simp[oR]
theorem ak1 {b:List UInt8} {k:Nat}:oR b (k+1)=oR b k++[de ((b.drop (1+2*k)).take 2)]:=by simp[oR,List.range_succ]
def HY (b:List UInt8):List Nat×Nat×Nat:=
 if b.length<1 then([],0,3) else if b.length<1+2*de (b.take 1) then([],0,3) else if jZ (oR b (de (b.take 1))) then(oR b (de (b.take 1)),1+2*de (b.take 1),0) else([],0,2)
def Mr (r:List Nat×Nat×Nat):AV:= .ay [.vs ((aH .u16).R r.1) .ao, .int .i64 r.2.1, .int .i64 r.2.2]
theorem aiD (ok:ax P tb) {b:List UInt8} {t:aG} {h:aa} (hb:b.length<2^20):an P 126 [.vs (BS b) t] h (Mr (HY b)) h:=by
 refine ok.eW (rf:=lL) rfl (Nat.le_of_ble_eq_true rfl) (by simp only[Mr,AV.bD,AV.b8,(aH .u16).iw];rfl) ?_
 have ht:=yE ok (b:=b) (t:=t) (n:=1) (h:=h) (by omega) (by omega)
 unfold HY
 by_cases h1:b.length<1
 ·rw[if_pos h1] at ht
  simp+decide only[st,xv,lL,HD,wz]
  refine au ht ?_
  simp+decide only[st,xv,lL,wz,HC,abO,bG,h1]
  first|rfl|exact⟨rfl,fun _ _=>rfl⟩
 rw[if_neg h1] at ht
 have hv:=uG (b.take 1)
 have hle:(b.take 1).length<=1:=List.length_take_le ..
 have h3:(256:Nat)^(b.take 1).length<=256^1:=Nat.pow_le_pow_right (by omega) hle
 generalize hV:de (b.take 1)=V at*
 have w1:IntKind.wrap .i64 (V:Int)=V:=qZ (by omega)
 have w2:IntKind.wrap .i64 (2*(V:Int))=((2*V:Nat):Int):=by rw[bu]<;>omega
 have w3:IntKind.wrap .i64 (1+((2*V:Nat):Int))=((1+2*V:Nat):Int):=by rw[bu]<;>omega
 by_cases h2:b.length<1+2*V
 ·have fT:(b.length:Int)<((1+2*V:Nat):Int):=by omega
  simp+decide only[st,xv,lL,HD,wz]
  refine au ht ?_
  simp+decide only[st,xv,lL,wz,HC,OX,OW,abN,bG,cr,h1,h2,fT,w1,w2,w3]
  first|rfl|exact⟨rfl,fun _ _=>rfl⟩
 have fT: ¬(b.length:Int)<((1+2*V:Nat):Int):=by omega
 simp+decide only[st,xv,lL,HD,wz]
 refine au ht ?_
 simp+decide only[st,xv,lL,wz,HC,OX,OW,abM,cr,h1,h2,fT,w1,w2,w3]
 let I:Nat->Env->aa->Prop:=fun n ρ H=>Old h H/\ ∃i:Nat,V=i+n/\ρ 0= .vs (BS b) t/\ρ 3= .int .i64 ((1+2*V:Nat):Int)/\ρ 26= .int .i64 V/\ρ 27= .int .i64 i/\App h H (ρ 2) ((aH .u16).R (oR b i))
 refine dO I ?_ V ⟨Old.refl h,0,by omega,rfl,rfl,rfl,rfl,App.nil h h⟩
 rintro n ρ H ⟨ho,i,aB,r0,r3,tj,xJ,ha⟩
 by_cases hi:i<V
 ·have aA:(i:Int)<(V:Int):=by omega
  have hw:=dF (show i<2^61 by omega)
  have q1:IntKind.wrap .i64 (2*(i:Int))=((2*i:Nat):Int):=by rw[bu]<;>omega
  have q2:IntKind.wrap .i64 (1+((2*i:Nat):Int))=((1+2*i:Nat):Int):=by rw[bu]<;>omega
  have k1:1+2*i<=b.length:=by omega
  have k2:dH 1 (BS b)=true:=oq
  have k3:(BS b).drop (1+2*i)=BS (b.drop (1+2*i)):=vW
  have k4:List.take (b.length-(1+2*i)) (BS (b.drop (1+2*i)))=BS (b.drop (1+2*i)):=List.take_of_length_le (by rw[cr,List.length_drop];omega)
  have ht2:=yE ok (b:=b.drop (1+2*i)) (t:=nX t b.length (1+2*i) b.length) (n:=2) (h:=H) (by omega) (by rw[List.length_drop];omega)
  rw[if_neg (by rw[List.length_drop];omega)] at ht2
  have qo:=ak1 (b:=b) (k:=i)
  have hW2:de ((b.drop (1+2*i)).take 2)<65536:=by
   have h1:=uG ((b.drop (1+2*i)).take 2)
   have h2:((b.drop (1+2*i)).take 2).length<=2:=List.length_take_le ..
   have h3:(256:Nat)^((b.drop (1+2*i)).take 2).length<=256^2:=Nat.pow_le_pow_right (by omega) h2
   omega
  generalize hW:de ((b.drop (1+2*i)).take 2)=W at*
  have q3:IntKind.wrap .u16 (W:Int)=W:=by simp[IntKind.wrap,IntKind.signed,IntKind.bits];omega
  obtain⟨v',h2b,a1,a2,a3,a4,a5,a6⟩:=ha.app ho (bytes:=2) (sz:=1) (id:=H.next) ho.next [[.int .u16 W]] (aH .u16).me (by rw[(aH .u16).aR,GH];simp only[List.length_singleton];omega) (by rw[(aH .u16).aR,GH];simp only[List.length_singleton];omega)
  simp+decide only[st,xv,lL,OV,abL,Ml,r0,tj,xJ,aA,q1,q2,cr,k1,k2,k3,k4]
  refine au ht2 ?_
  simp+decide only[st,xv,lL,Ml,Ze,Zd,xJ,q3,a1,hw]
  exact⟨n-1,by omega,a3,i+1,by omega,r0,r3,tj,rfl,by rw[qo,<-(aH .u16).oK];exact a2⟩
 ·have aA: ¬(i:Int)<(V:Int):=by omega
  have hiV:i=V:=by omega
  subst hiV
  obtain⟨tt,jq,_⟩:=ha
  have hm:=W7 ok (l:=oR b i) (t:=tt) (h:=H) (by rw[GH];omega)
  simp+decide only[st,xv,lL,OV,Zc,tj,xJ,aA,jq]
  refine au hm ?_
  cases gV:jZ (oR b i) with
  |false=>
   simp+decide only[st,xv,lL,Zb,bG,h1,h2,gV]
   exact⟨rfl,ho.get⟩
  |true=>
   simp+decide only[st,xv,lL,Za,bG,h1,h2,gV,jq,r3]
   exact⟨by simp only[AV.strip,AV.bH,(aH .u16).fx];rfl,ho.get⟩
end
section
open Go
variable {P:Program}
def rO (b:List UInt8):Nat->Nat->List (List UInt8)->List (List UInt8)×Nat×Nat
 |0,n,acc=>if jA acc then(acc,n,0) else([],0,2)
 |k+1,n,acc=>if(ot (b.drop n)).2.2=0 then rO b k (n+(ot (b.drop n)).2.1) (acc++[(ot (b.drop n)).1]) else([],0,(ot (b.drop n)).2.2)
def HX (b:List UInt8):List (List UInt8)×Nat×Nat:=if b.length<1 then([],0,3) else rO b (de (b.take 1)) 1 []
def Mp (r:List (List UInt8)×Nat×Nat):AV:= .ay [.vs (aW.R r.1) .ao, .int .i64 r.2.1, .int .i64 r.2.2]
theorem ajV {b:List UInt8}:(ot b).2.1<=b.length:=by
 unfold ot
 split
 ·simp
 ·split
  ·simp
  ·show 2+_<=_;omega
theorem aif (ok:ax P tb) {b:List UInt8} {t:aG} {h:aa} (hb:b.length<2^20):an P 127 [.vs (BS b) t] h (Mp (HX b)) h:=by
 refine ok.eW (rf:=mv) rfl (Nat.le_of_ble_eq_true rfl) (by simp only[Mp,AV.bD,AV.b8,aW.iw];rfl) ?_
 have ht:=yE ok (b:=b) (t:=t) (n:=1) (h:=h) (by omega) (by omega)
 unfold HX
 by_cases h1:b.length<1
 ·rw[if_pos h1] at ht
  simp+decide only[st,xv,mv,OU,CC]
  refine au ht ?_
  simp+decide only[st,xv,mv,CC,OT,abK,bG,h1]
  first|rfl|exact⟨rfl,fun _ _=>rfl⟩
 rw[if_neg h1] at ht
 rw[if_neg h1]
 have hv:=uG (b.take 1)
 have hle:(b.take 1).length<=1:=List.length_take_le ..
 have h3:(256:Nat)^(b.take 1).length<=256^1:=Nat.pow_le_pow_right (by omega) hle
 generalize hV:de (b.take 1)=V at*
 simp+decide only[st,xv,mv,OU,CC]
 refine au ht ?_
 simp+decide only[st,xv,mv,CC,OT,abJ,abI]
 let I:Nat->Env->aa->Prop:=fun m ρ H=>Old h H/\ ∃i n acc,V=i+m/\n<=b.length/\List.length acc=i/\rO b V 1 []=rO b m n acc/\ρ 0= .vs (BS b) t/\ρ 3= .int .i64 (n:Nat)/\ρ 17= .int .u64 V/\ρ 18= .int .u64 (i:Nat)/\App h H (ρ 2) (aW.R acc)
 refine dO I ?_ V ⟨Old.refl h,0,1,[],by omega,by omega,rfl,rfl,rfl,rfl,rfl,rfl,App.nil h h⟩
 rintro m ρ H ⟨ho,i,n,acc,aB,hnb,JQ,heq,r0,r3,oU,Un,ha⟩
 cases m with
 |zero=>
  have aA: ¬(i:Int)<(V:Int):=by omega
  obtain⟨tt,jq,_⟩:=ha
  have hm:=WL ok (l:=acc) (t:=tt) (h:=H) (by omega)
  rw[heq,rO]
  simp+decide only[st,xv,mv,OS,Y7,oU,Un,aA,jq]
  refine au hm ?_
  cases gV:jA acc with
  |false=>
   simp+decide only[st,xv,mv,Y6,bG]
   exact⟨rfl,ho.get⟩
  |true=>
   simp+decide only[st,xv,mv,Y5,bG,jq,r3]
   exact⟨by simp only[AV.strip,AV.bH,aW.fx];rfl,ho.get⟩
 |succ m=>
  have aA:(i:Int)<(V:Int):=by omega
  have k2:dH 1 (BS b)=true:=oq
  have k3:(BS b).drop n=BS (b.drop n):=vW
  have k4:List.take (b.length-n) (BS (b.drop n))=BS (b.drop n):=List.take_of_length_le (by rw[cr,List.length_drop];omega)
  have E7:=VI ok (b:=b.drop n) (t:=nX t b.length n b.length) (h:=H) (by rw[List.length_drop];omega)
  have kC:=ajV (b:=b.drop n)
  rw[List.length_drop] at kC
  unfold GI at E7
  rw[heq,rO]
  generalize hR:ot (b.drop n)=R at*
  obtain⟨s,k,e⟩:=R
  simp only at kC E7 ⊢
  have hw:IntKind.wrap .u64 ((i:Int)+1)=((i+1:Nat):Int):=by
   rw[show(i:Int)+1=((i+1:Nat):Int) by omega];exact eQ (by omega)
  have hwn:IntKind.wrap .i64 ((n:Int)+(k:Int))=((n+k:Nat):Int):=by rw[bu]<;>omega
  simp+decide only[st,xv,mv,OS,HA,r0,r3,oU,Un,aA,cr,hnb,k2,k3,k4]
  refine au E7 ?_
  by_cases he:e=0
  ·subst he
   obtain⟨v',h2b,a1,a2,a3,a4,a5,a6⟩:=ha.app ho (bytes:=24) (sz:=1) (id:=H.next) ho.next [[.vs (BS s) .ao]] aW.me (by rw[aW.aR];simp only[List.length_singleton];omega) (by rw[aW.aR];simp only[List.length_singleton];omega)
   simp+decide only[st,xv,mv,HA,OQ,Y9,Y8,r3,Un,a1,hw,hwn]
   exact⟨m,by omega,a3,i+1,n+k,acc++[s],by omega,by omega,by simp[JQ],by rw[heq,rO,hR];rfl,r0,rfl,oU,rfl,by rw[<-aW.oK];exact a2⟩
  ·have dN: ¬(e:Int)=0:=by omega
   simp+decide only[st,xv,mv,HA,OQ,abH,bG,dN,he]
   exact⟨rfl,ho.get⟩
end
section
open Go
variable {P:Program}
def p7 (o:Ob):Bool:=ei o.ak&&(dW o.ak.ps).length==0
theorem ai2 (ok:ax P tb) {o:Ob} {t:Nat->aG} {h:aa} (hl:o.ak.ok):an P 81 [.agg (o.c t)] h (.bool (p7 o)) h:=by
 refine ok.keeps (rf:=vH) rfl (Nat.le_of_ble_eq_true rfl) rfl ?_
 have kU:=hl.len
 simp+decide only[st,xv,vH,Da,C9,Ob.c]
 refine au (LK (l:=o.ak) (t:=t 0) ok hl) ?_
 unfold p7
 cases hm:ei o.ak with
 |false=>
  simp+decide only[st,xv,vH,Da,C9]
  first|(intro b hb;first|(intros;omega)|(repeat(first|rw[if_neg (by omega)]|rw[if_pos (by omega)]));done)|(refine⟨rfl,?_⟩;intro b hb;first|(intros;omega)|(repeat(first|rw[if_neg (by omega)]|rw[if_pos (by omega)])))
 |true=>
  simp+decide only[st,xv,vH,Da,C9]
  refine au (Lk (l:=o.ak) (t:=t 0) ok (by omega)) ?_
  have e:decide (((dW o.ak.ps).length:Int)=0)=((dW o.ak.ps).length==0):=by rw[Bool.eq_iff_iff];simp
  simp+decide only[st,xv,vH,Da,C9,(aH .u16).aR,e]
  first|(intro b hb;first|(intros;omega)|(repeat(first|rw[if_neg (by omega)]|rw[if_pos (by omega)]));done)|(refine⟨rfl,?_⟩;intro b hb;first|(intros;omega)|(repeat(first|rw[if_neg (by omega)]|rw[if_pos (by omega)])))
def m5 (o:Ob):Bool:=if o.kind=1 then decide (0<=o.used)&&decide (o.used<=o.bh)&&decide (o.bh<=400)&&decide (1<=o.next)&&decide (o.next<=64) else if o.kind=2 then decide (o.data.length<=64) else if o.kind=3 then jZ o.bV else if o.kind=4 then jA o.ring else false
def fC (o:Ob):Bool:=dw o.id&&p7 o&&m5 o
theorem WR (ok:ax P tb) {o:Ob} {t:Nat->aG} {h:aa} (hl:o.ak.ok) (aJ:o.id<2^64) (hc:o.bV.length<2^30) (hr:o.ring.length<2^30):an P 49 [.agg (o.c t)] h (.bool (fC o)) h:=by
 refine ok.keeps (rf:=jc) rfl (Nat.le_of_ble_eq_true rfl) rfl ?_
 simp+decide only[st,xv,jc,uQ,j0,Ob.c]
 refine au (F4 ok aJ) ?_
 unfold fC
 cases hm:dw o.id with
 |false=>
  simp+decide only[st,xv,jc,j0,sR]
  first|(intro b hb;first|(intros;omega)|(repeat(first|rw[if_neg (by omega)]|rw[if_pos (by omega)]));done)|(refine⟨rfl,?_⟩;intro b hb;first|(intros;omega)|(repeat(first|rw[if_neg (by omega)]|rw[if_pos (by omega)])))
 |true=>
  simp+decide only[st,xv,jc,j0]
  refine au (ai2 (t:=t) ok hl) ?_
  cases lV:p7 o with
  |false=>
   simp+decide only[st,xv,jc,j0,sR]
   first|(intro b hb;first|(intros;omega)|(repeat(first|rw[if_neg (by omega)]|rw[if_pos (by omega)]));done)|(refine⟨rfl,?_⟩;intro b hb;first|(intros;omega)|(repeat(first|rw[if_neg (by omega)]|rw[if_pos (by omega)])))
  |true=>
   unfold m5
   by_cases h1:o.kind=1
   ·by_cases a1:0<=o.used
    case neg=>
     simp+decide only[st,xv,jc,j0,ng,nf,nd,h1,a1]
     first|(intro b hb;first|(intros;omega)|(repeat(first|rw[if_neg (by omega)]|rw[if_pos (by omega)]));done)|(refine⟨rfl,?_⟩;intro b hb;first|(intros;omega)|(repeat(first|rw[if_neg (by omega)]|rw[if_pos (by omega)])))
    by_cases a2:o.used<=o.bh
    case neg=>
     simp+decide only[st,xv,jc,j0,ng,nf,nd,h1,a1,a2]
     first|(intro b hb;first|(intros;omega)|(repeat(first|rw[if_neg (by omega)]|rw[if_pos (by omega)]));done)|(refine⟨rfl,?_⟩;intro b hb;first|(intros;omega)|(repeat(first|rw[if_neg (by omega)]|rw[if_pos (by omega)])))
    by_cases a3:o.bh<=400
    case neg=>
     simp+decide only[st,xv,jc,j0,ng,nf,nd,h1,a1,a2,a3]
     first|(intro b hb;first|(intros;omega)|(repeat(first|rw[if_neg (by omega)]|rw[if_pos (by omega)]));done)|(refine⟨rfl,?_⟩;intro b hb;first|(intros;omega)|(repeat(first|rw[if_neg (by omega)]|rw[if_pos (by omega)])))
    by_cases a4:1<=o.next
    case neg=>
     simp+decide only[st,xv,jc,j0,ng,nf,nd,h1,a1,a2,a3,a4]
     first|(intro b hb;first|(intros;omega)|(repeat(first|rw[if_neg (by omega)]|rw[if_pos (by omega)]));done)|(refine⟨rfl,?_⟩;intro b hb;first|(intros;omega)|(repeat(first|rw[if_neg (by omega)]|rw[if_pos (by omega)])))
    by_cases a5:o.next<=64
    case neg=>
     simp+decide only[st,xv,jc,j0,ng,nf,nd,h1,a1,a2,a3,a4,a5]
     first|(intro b hb;first|(intros;omega)|(repeat(first|rw[if_neg (by omega)]|rw[if_pos (by omega)]));done)|(refine⟨rfl,?_⟩;intro b hb;first|(intros;omega)|(repeat(first|rw[if_neg (by omega)]|rw[if_pos (by omega)])))
    simp+decide only[st,xv,jc,j0,ng,nf,nd,h1,a1,a2,a3,a4,a5]
    first|(intro b hb;first|(intros;omega)|(repeat(first|rw[if_neg (by omega)]|rw[if_pos (by omega)]));done)|(refine⟨rfl,?_⟩;intro b hb;first|(intros;omega)|(repeat(first|rw[if_neg (by omega)]|rw[if_pos (by omega)])))
   by_cases h2:o.kind=2
   ·have e:decide ((o.data.length:Int)<=64)=decide (o.data.length<=64):=by rw[decide_eq_decide];omega
    simp+decide only[st,xv,jc,uQ,j0,sR,ng,nf,nd,wS,wR,wQ,wP,wi,wh,wg,h2,cr,e]
    first|(intro b hb;first|(intros;omega)|(repeat(first|rw[if_neg (by omega)]|rw[if_pos (by omega)]));done)|(refine⟨rfl,?_⟩;intro b hb;first|(intros;omega)|(repeat(first|rw[if_neg (by omega)]|rw[if_pos (by omega)])))
   by_cases h3:o.kind=3
   ·simp+decide only[st,xv,jc,uQ,j0,sR,ng,nf,nd,wS,wR,wQ,wP,wi,wh,wg,h3]
    refine au (W7 ok hc) ?_
    simp+decide only[st,xv,jc,uQ,j0,sR,ng,nf,nd,wS,wR,wQ,wP,wi,wh,wg]
    first|(intro b hb;first|(intros;omega)|(repeat(first|rw[if_neg (by omega)]|rw[if_pos (by omega)]));done)|(refine⟨rfl,?_⟩;intro b hb;first|(intros;omega)|(repeat(first|rw[if_neg (by omega)]|rw[if_pos (by omega)])))
   by_cases h4:o.kind=4
   ·simp+decide only[st,xv,jc,uQ,j0,sR,ng,nf,nd,wS,wR,wQ,wP,wi,wh,wg,h4]
    refine au (WL ok hr) ?_
    simp+decide only[st,xv,jc,uQ,j0,sR,ng,nf,nd,wS,wR,wQ,wP,wi,wh,wg]
    first|(intro b hb;first|(intros;omega)|(repeat(first|rw[if_neg (by omega)]|rw[if_pos (by omega)]));done)|(refine⟨rfl,?_⟩;intro b hb;first|(intros;omega)|(repeat(first|rw[if_neg (by omega)]|rw[if_pos (by omega)])))
   simp+decide only[st,xv,jc,uQ,j0,sR,ng,nf,nd,wS,wR,wQ,wP,wi,wh,wg,h1,h2,h3,h4]
   first|(intro b hb;first|(intros;omega)|(repeat(first|rw[if_neg (by omega)]|rw[if_pos (by omega)]));done)|(refine⟨rfl,?_⟩;intro b hb;first|(intros;omega)|(repeat(first|rw[if_neg (by omega)]|rw[if_pos (by omega)])))
end
section
open Go
variable {P:Program}
theorem Bp {c:aZ} {K:aQ->Env->aa->Prop} {ρ:Env} {h:aa} (hw:WP P c (jj (fun ρ' h'=>WP P (.loop c) K ρ' h') K) ρ h):WP P (.loop c) K ρ h:=by
 obtain⟨e,ρ',h',hb,hk⟩:=hw
 cases e with
 |normal=>
  obtain⟨e2,ρ2,h2,b9,nI⟩:=hk
  exact⟨_,_,_, .loop hb b9,nI⟩
 |exit id=>exact⟨_,_,_, .rh hb (by simp),hk⟩
 |goto l=>exact⟨_,_,_, .rh hb (by simp),hk⟩
 |ret=>exact⟨_,_,_, .rh hb (by simp),hk⟩
theorem amC {k:Nat->Option (Env->aa->Prop)} {K:aQ->Env->aa->Prop} {ρ:Env} {h:aa}:qm k K .ret ρ h=K .ret ρ h:=rfl
theorem ajj {k:Nat->Option (Env->aa->Prop)} {K:aQ->Env->aa->Prop} {ρ:Env} {h:aa}:qm k K .normal ρ h=K .normal ρ h:=rfl
theorem alA {k:Nat->Option (Env->aa->Prop)} {K:aQ->Env->aa->Prop} {ρ:Env} {h:aa} {i:Nat}:qm k K (.exit i) ρ h=K (.exit i) ρ h:=rfl
set_option linter.defProp false in
def xi:=And.intro @amC<|And.intro @ajj @alA
theorem alz {body rest:aZ} {K:aQ->Env->aa->Prop} {ρ:Env} {h:aa} {l:Nat} (hf:fY body l=some rest) (hw:WP P (.inScope body rest) K ρ h):qm (fun l=>(fY body l).map fun rest=>WP P (.inScope body rest) K) K (.goto l) ρ h:=by
 show(match(fY body l).map fun rest=>WP P (.inScope body rest) K with|some k=>k ρ h|none=>K (.goto l) ρ h)
 rw[hf];exact hw
theorem an.ao {f:Nat} {args:List AV} {h h':aa} {r:AV} (hc:an P f (AV.bH args) h r h'):an P f args h r h':=by
 refine hc.D9 Bl fun i a b ha hb=>?_
 obtain⟨u,hu,rfl⟩:=yB ha
 rw[hb] at hu;cases hu
 exact .inr (.inr (.inr rfl))
theorem aqM {α:Type} {a v:α} {l:List α}:(a::l).set 0 v=v::l:=rfl
theorem aqL {α:Type} {a v:α} {l:List α} {n:Nat}:(a::l).set (n+1) v=a::l.set n v:=rfl
theorem atH {α:Type} {z:α}:List.replicate 3 z=[z,z,z]:=rfl
theorem atG {α:Type} {z:α}:List.replicate 4 z=[z,z,z,z]:=rfl
theorem wr1:IntKind.wrap .i64 (0+1)=1:=rfl
theorem wr2:IntKind.wrap .i64 (1+1)=2:=rfl
theorem wr3:IntKind.wrap .i64 (2+1)=3:=rfl
theorem tn1:Int.toNat 1=1:=rfl
theorem tn2:Int.toNat 2=2:=rfl
theorem atQ {n:Nat}:(1<=n+1)=True:=eq_true (by omega)
theorem asq {h:aa} {b:Nat} {x y:Option cF}:(h.set b x).set b y=h.set b y:=by
 unfold aa.set;congr 1;funext i;by_cases e:i=b<;>simp[e]
theorem nz1 {n:Nat}:(((n+1:Nat):Int)=0)=False:=eq_false (by omega)
set_option linter.defProp false in
def xr:=And.intro @aqM<|And.intro @aqL<|And.intro @atH<|And.intro @atG<|And.intro wr1<|And.intro wr2<|And.intro wr3<|And.intro tn1<|And.intro tn2<|And.intro @atQ<|And.intro @asq @nz1
theorem akN {l:List UInt8} {t:aG}:(AV.vs (BS l) t).strip= .vs (BS l) .ao:=iB.lh
theorem Ue {α:Type} {f:α->List UInt8} {k:Nat} (hf: ∀a,(f a).length=k) {r:List UInt8}: ∀{l:List α} {i:Nat} (hi:i<l.length),(l.flatMap f++r).drop (k*i)=f l[i]++((l.drop (i+1)).flatMap f++r)
 |[],i,hi=>by simp at hi
 |a::l,0,hi=>by simp
 |a::l,i+1,hi=>by
  have ih:=Ue hf (r:=r) (l:=l) (i:=i) (by simpa using hi)
  rw[List.flatMap_cons,List.append_assoc,List.drop_append,List.drop_of_length_le (by rw[hf,Nat.mul_add];omega),List.nil_append,hf,show k*(i+1)-k=k*i by rw[Nat.mul_add];omega,ih];rfl
theorem wb {v n:Nat} (h:v<256^n):de (be v n)=v:=by rw[asO,Nat.mod_eq_of_lt h]
theorem pH {α:Type} {l m:List α} {n:Nat} (h:l.length=n):(l++m).take n=l:=by rw[List.take_append_of_le_length (by omega),List.take_of_length_le (by omega)]
theorem sF {α:Type} {l m:List α} {n:Nat} (h:l.length=n):(l++m).drop n=m:=by rw[List.drop_append,List.drop_of_length_le (by omega),h,Nat.sub_self];simp
theorem Py {v:Nat} (h:v<256):(UInt8.ofNat v).toNat=v:=by simp;omega
theorem de1 {b:UInt8}:de [b]=b.toNat:=by simp[de]
theorem akZ {l:Lb} {r:List UInt8} (hp: ∀p∈l.ps,p.1<65536/\p.2<256):i7 (cT l++r) l.ps.length=l.ps:=by
 refine List.ext_getElem (by simp[GG]) fun i h1 h2=>?_
 have hb:=hp _ (List.getElem_mem h2)
 have e:(cT l++r).drop (2+3*i)=pV l.ps[i]++((l.ps.drop (i+1)).flatMap pV++r):=by
  rw[<-List.drop_drop]
  have:(cT l++r).drop 2=l.ps.flatMap pV++r:=by unfold cT;rw[List.append_assoc];exact sF (by simp[bR])
  rw[this]
  exact Ue (fun a=>by simp[pV,bR]) h2
 have e2:(cT l++r).getD (4+3*i) 0=UInt8.ofNat l.ps[i].2:=by
  have h3:(cT l++r).getD (4+3*i) 0=((cT l++r).drop (2+3*i)).getD 2 0:=by
   rw[List.getD_eq_getElem?_getD,List.getD_eq_getElem?_getD,List.getElem?_drop,show 2+3*i+2=4+3*i by omega]
  rw[h3,e]
  simp[pV,be,tZ,Nat.mod_eq_of_lt hb.2]
 simp only[i7,List.getElem_map,List.getElem_range,e,e2]
 refine Prod.ext ?_ (Py hb.2)
 show de _=_
 unfold pV
 rw[List.append_assoc,pH bR,wb (by omega)]
theorem ajT {l:Lb} {r:List UInt8} (hm:ei l=true) (hp: ∀p∈l.ps,p.1<65536/\p.2<256):p5 (cT l++r)=(l,(cT l).length,0):=by
 have hl:l.d<=4/\l.ps.length<=16:=by
  unfold ei at hm;simp only[Bool.and_eq_true,decide_eq_true_eq] at hm;omega
 have h0:(cT l++r).getD 0 0=UInt8.ofNat l.d:=by
  simp[cT,be,tZ,Nat.mod_eq_of_lt (show l.d<256 by omega)]
 have h1:(cT l++r).getD 1 0=UInt8.ofNat l.ps.length:=by
  simp[cT,be,tZ,Nat.mod_eq_of_lt (show l.ps.length<256 by omega)]
 have hlen:=By (l:=l)
 unfold p5
 rw[h0,h1,Py (show l.d<256 by omega),Py (show l.ps.length<256 by omega),if_neg (by rw[List.length_append];omega),if_neg (by rw[List.length_append];omega),akZ hp]
 rw[if_pos hm,hlen]
theorem VK {s r:List UInt8} (hs:s.length<65536):ot (cO s++r)=(s,(cO s).length,0):=by
 have h0:(cO s++r).take 2=be s.length 2:=by unfold cO;rw[List.append_assoc];exact pH bR
 have h1:(cO s++r).drop 2=s++r:=by unfold cO;rw[List.append_assoc];exact sF bR
 have hl:(cO s++r).length=2+s.length+r.length:=by simp[cO,bR,Nat.add_assoc]
 unfold ot
 rw[h0,h1,hl,wb (by omega),if_neg (by omega),if_neg (by omega),pH rfl]
 simp[cO,bR]
theorem ajU {l:List Nat} {r:List UInt8} (hc: ∀c∈l,c<65536):oR (jw l++r) l.length=l:=by
 refine List.ext_getElem (by simp[GH]) fun i h1 h2=>?_
 have hb:=hc _ (List.getElem_mem h2)
 have e:(jw l++r).drop (1+2*i)=be l[i] 2++((l.drop (i+1)).flatMap (fun c=>be c 2)++r):=by
  rw[<-List.drop_drop]
  have:(jw l++r).drop 1=l.flatMap (fun c=>be c 2)++r:=by unfold jw;rw[List.append_assoc];exact sF bR
  rw[this]
  exact Ue (fun a=>bR) h2
 simp only[oR,List.getElem_map,List.getElem_range,e]
 rw[pH bR,wb (by omega)]
theorem ZH {α:Type} {f:α->List UInt8} {k:Nat} (hf: ∀a,(f a).length=k): ∀{l:List α},(l.flatMap f).length=k*l.length
 |[]=>by simp
 |a::l=>by rw[List.flatMap_cons,List.length_append,hf,ZH hf,List.length_cons,Nat.mul_add];omega
theorem Br {l:List Nat}:(jw l).length=1+2*l.length:=by
 unfold jw
 rw[List.length_append,bR,ZH (k:=2) (fun a=>bR)]
theorem ah9 {l:List Nat} {r:List UInt8} (hm:jZ l=true) (hc: ∀c∈l,c<65536):HY (jw l++r)=(l,(jw l).length,0):=by
 have hl:l.length<=16:=by unfold jZ at hm;simp only[Bool.and_eq_true,decide_eq_true_eq] at hm;omega
 have h0:(jw l++r).take 1=be l.length 1:=by unfold jw;rw[List.append_assoc];exact pH bR
 have h1:(jw l++r).length=1+2*l.length+r.length:=by rw[List.length_append,Br]
 unfold HY
 rw[h0,h1,wb (by omega),if_neg (by omega),if_neg (by omega),ajU hc,if_pos hm,Br]
theorem Xb {r:List UInt8}: ∀{m done:List (List UInt8)} {b:List UInt8} {n:Nat},b.drop n=m.flatMap cO++r->(∀x∈m,x.length<65536)->jA (done++m)=true->rO b m.length n done=(done++m,n+(m.flatMap cO).length,0)
 |[],done,b,n,hb,_,hm=>by simp only[List.append_nil] at hm;simp[rO,hm]
 |x::m,done,b,n,hb,hx,hm=>by
  have UG:=hx x (List.mem_cons_self ..)
  have ht:ot (b.drop n)=(x,(cO x).length,0):=by rw[hb,List.flatMap_cons,List.append_assoc];exact VK UG
  have:=Xb (r:=r) (m:=m) (done:=done++[x]) (b:=b) (n:=n+(cO x).length) (by rw[<-List.drop_drop,hb,List.flatMap_cons,List.append_assoc,sF rfl]) (fun y hy=>hx y (List.mem_cons_of_mem _ hy)) (by simpa using hm)
  rw[List.length_cons,rO,ht]
  simp only[if_true]
  rw[this];simp[Nat.add_assoc]
theorem ah8 {l:List (List UInt8)} {r:List UInt8} (hm:jA l=true) (hs: ∀x∈l,x.length<65536):HX (iY l++r)=(l,(iY l).length,0):=by
 have hl:l.length<=4:=by unfold jA at hm;simp only[Bool.and_eq_true,decide_eq_true_eq] at hm;exact hm.1
 have h0:(iY l++r).take 1=be l.length 1:=by unfold iY;rw[List.append_assoc];exact pH bR
 have h1:(iY l++r).drop 1=l.flatMap cO++r:=by unfold iY;rw[List.append_assoc];exact sF bR
 have h2: ¬(iY l++r).length<1:=by simp[iY,bR]
 unfold HX
 rw[if_neg h2,h0,wb (by omega),Xb (r:=r) h1 hs (by simpa using hm)]
 simp[iY,bR]
end
section
open Go
variable {P:Program}
def jV (o:Ob):List UInt8:=if o.kind=1 then be o.bh.toNat 2++be o.used.toNat 2++be o.next.toNat 2 else if o.kind=2 then cO o.data else if o.kind=3 then jw o.bV else iY o.ring
def gB (o:Ob):List UInt8:=[1,UInt8.ofNat o.kind.toNat]++be o.id 8++cT o.ak++jV o
theorem ub {o:Ob} (h:fC o=true):o.kind=1\/o.kind=2\/o.kind=3\/o.kind=4:=by
 unfold fC m5 at h
 by_cases h1:o.kind=1
 ·exact .inl h1
 by_cases h2:o.kind=2
 ·exact .inr (.inl h2)
 by_cases h3:o.kind=3
 ·exact .inr (.inr (.inl h3))
 by_cases h4:o.kind=4
 ·exact .inr (.inr (.inr h4))
 simp[h1,h2,h3,h4] at h
theorem LO {o:Ob} (h:fC o=true):ei o.ak=true/\dW o.ak.ps=[]/\dw o.id=true:=by
 unfold fC p7 at h
 simp only[Bool.and_eq_true,beq_iff_eq,List.length_eq_zero_iff] at h
 exact⟨h.1.2.1,h.1.2.2,h.1.1⟩
theorem Gx {l:Lb} (h:ei l=true):l.ps.length<=16:=by
 unfold ei at h;simp only[Bool.and_eq_true,decide_eq_true_eq] at h;omega
theorem uf {o:Ob} (h:fC o=true) (h1:o.kind=1):0<=o.used/\o.used<=o.bh/\o.bh<=400/\1<=o.next/\o.next<=64:=by
 unfold fC m5 at h
 rw[if_pos h1] at h
 simp only[Bool.and_eq_true,decide_eq_true_eq] at h
 obtain⟨_,⟨⟨⟨a,b⟩,c⟩,d⟩,e⟩:=h
 exact⟨a,b,c,d,e⟩
theorem sE {o:Ob} (h:fC o=true) (h1:o.kind=2):o.data.length<=64:=by
 unfold fC m5 at h
 rw[if_neg (by omega),if_pos h1] at h
 simp only[Bool.and_eq_true,decide_eq_true_eq] at h
 exact h.2
theorem Ge {o:Ob} (h:fC o=true) (h1:o.kind=3):jZ o.bV=true:=by
 unfold fC m5 at h
 rw[if_neg (by omega),if_neg (by omega),if_pos h1] at h
 simp only[Bool.and_eq_true,decide_eq_true_eq] at h
 exact h.2
theorem yH {o:Ob} (h:fC o=true) (h1:o.kind=4):jA o.ring=true:=by
 unfold fC m5 at h
 rw[if_neg (by omega),if_neg (by omega),if_neg (by omega),if_pos h1] at h
 simp only[Bool.and_eq_true,decide_eq_true_eq] at h
 exact h.2
theorem GA {l:List Nat} (h:jZ l=true):l.length<=16:=by
 unfold jZ at h;simp only[Bool.and_eq_true,decide_eq_true_eq] at h;exact h.1
theorem vP {l:List (List UInt8)} (h:jA l=true):l.length<=4/\ ∀x∈l,x.length<=16:=by
 unfold jA at h;simp only[Bool.and_eq_true,decide_eq_true_eq,Bool.not_eq_true',List.any_eq_false] at h
 exact⟨h.1,fun x hx=>by have:=h.2 x hx;omega⟩
structure JW (o:Ob):Prop where
 ak:o.ak.ok
 id:o.id<2^64
 bV:o.bV.length<2^20
 ring:o.ring.length<2^20
 cat: ∀c∈o.bV,c<65536
def wF (o:Ob):AV:= .ay (if fC o then [.vs (BS (gB o)) .ao, .int .i64 0] else [.vs [] .ao, .int .i64 1])
theorem WS (ok:ax P tb) {o:Ob} {t:Nat->aG} {h:aa} (k:JW o):an P 34 [.agg (o.c t)] h (wF o) h:=by
 refine an.ao ?_
 rw[show AV.bH [.agg (o.c t)]=[.agg (o.c aK)] by simp only[AV.bH,Mt]]
 refine ok.eW (rf:=gI) rfl (Nat.le_of_ble_eq_true rfl) (by unfold wF;split<;>simp only[AV.bD,AV.b8,uk]<;>rfl) ?_
 simp+decide only[st,xv,gI,afK,Ob.c]
 obtain⟨X,hX⟩: ∃X,X=h.at h.next (.cells (o.c aK)):=⟨_,rfl⟩
 have xo:Old h X:=by subst hX;exact(Old.refl h).at (Nat.le_refl _)
 have x1:cellsOf X h.next=some (o.c aK):=by subst hX;exact av (by simp[aa.at])
 have xn:h.next<X.next:=by subst hX;simp[aa.at]
 have hX':=hX
 simp only[Ob.c] at hX' x1
 rw[<-hX']
 simp+decide only[st,xv,gI,Jh,x1]
 refine au (WR (o:=o) (t:=aK) ok k.ak k.id (by have:=k.bV;omega) (by have:=k.ring;omega)) ?_
 unfold wF
 cases hm:fC o with
 |false=>
  simp+decide only[st,xv,gI,Jh,afJ,bG]
  exact⟨rfl,xo.get⟩
 |true=>
  obtain⟨kk,hk,vw,AG⟩: ∃kk:UInt8,o.kind=kk.toNat/\1<=kk.toNat/\kk.toNat<=4:=by
   rcases ub hm with h|h|h|h<;>rw[h]
   ·exact⟨1,rfl,by decide⟩
   ·exact⟨2,rfl,by decide⟩
   ·exact⟨3,rfl,by decide⟩
   ·exact⟨4,rfl,by decide⟩
  obtain⟨m1,m2,m3⟩:=LO hm
  have kU:=Gx m1
  have ja:=By (l:=o.ak)
  have w1:IntKind.wrap .u8 o.kind=kk.toNat:=by rw[hk,wrap_u8];unfold JX;simp;omega
  have x2: ∀k,cellsOf (X.clean k) h.next=some (o.c aK):=fun k=>by simp only[Ob.c];simp+decide only[st,xv,x1,xn]
  simp only[Ob.c] at x2
  simp+decide only[st,xv,gI,Jh]
  refine yO ?_
  simp+decide only[st,xv,gI,afI,x1,xn,w1]
  refine gX (mV ok (b:=[1,kk]) (v:=o.id) (n:=8) k.id (by omega) (by simp)) (cN (Nat.le_refl _)) ?_
  simp+decide only[st,xv,x1,xn]
  refine gX (F5 ok (b:=[1,kk]++be o.id 8) (l:=o.ak) (t':= .ao) k.ak (by simp[bR])) (cN (Nat.le_refl _)) ?_
  simp+decide only[st,xv,x1,xn]
  generalize hρ:put _ _ _=ρ1
  have r1:ρ1 1= .ptr h.next 0:=by rw[<-hρ];rfl
  obtain⟨B0,Vn⟩: ∃B0,B0=[1,kk]++be o.id 8++cT o.ak:=⟨_,rfl⟩
  have r4:ρ1 4= .vs (BS B0) .ao:=by rw[<-hρ,Vn];rfl
  have rY:UInt8.ofNat o.kind.toNat=kk:=by rw[hk];simp
  have hhl:B0.length<=70:=by rw[Vn];simp only[List.length_append,bR,List.length_cons,List.length_nil];omega
  have fin: ∀{ρ:Env} {H:aa} {tl:List UInt8},Old h H->ρ 4= .vs (BS (B0++tl)) .ao->jV o=tl->exec P Nh ρ H (jj (WP P .ret (uB [.tmp 2, .tmp 3] (.ay [.vs (BS (gB o)) .ao, .int .i64 0]) h)) (uB [.tmp 2, .tmp 3] (.ay [.vs (BS (gB o)) .ao, .int .i64 0]) h) .normal):=by
   intro ρ H tl ho h4 ht
   simp+decide only[st,xv,gI,Nh,h4,bG]
   rw[show gB o=B0++tl by rw[Vn,<-ht,<-rY];rfl]
   exact⟨by simp only[AV.strip,AV.bH,jQ],ho.get⟩
  simp+decide only[st,xv,gI,zW,x2,r1]
  by_cases h1:o.kind=1
  ·obtain⟨b1,b2,b3,b4,b5⟩:=uf hm h1
   obtain⟨q,hq⟩:=Int.eq_ofNat_of_zero_le (show 0<=o.bh by omega)
   obtain⟨u,hu⟩:=Int.eq_ofNat_of_zero_le (show 0<=o.used by omega)
   obtain⟨n,hn⟩:=Int.eq_ofNat_of_zero_le (show 0<=o.next by omega)
   have w2:IntKind.wrap .u64 o.bh=q:=by rw[hq];exact eQ (by omega)
   have w3:IntKind.wrap .u64 o.used=u:=by rw[hu];exact eQ (by omega)
   have w4:IntKind.wrap .u64 o.next=n:=by rw[hn];exact eQ (by omega)
   simp+decide only[st,xv,gI,zW,D4,afH,x2,r1,h1,xr]
   refine Bp ?_
   simp+decide only[st,xv,gI,D3,Jg,wX,wk,r4,w2,xr]
   refine au (mV ok (v:=q) (n:=2) (by omega) (by omega) (by omega)) ?_
   simp+decide only[st,xv,gI,wX,wk,xr]
   refine Bp ?_
   simp+decide only[st,xv,gI,D3,Jg,wX,wk,r4,w3,xr]
   refine au (mV ok (b:=B0++be q 2) (v:=u) (n:=2) (by omega) (by omega) (by simp[bR];omega)) ?_
   simp+decide only[st,xv,gI,wX,wk,xr]
   refine Bp ?_
   simp+decide only[st,xv,gI,D3,Jg,wX,wk,r4,w4,xr]
   refine au (mV ok (b:=B0++be q 2++be u 2) (v:=n) (n:=2) (by omega) (by omega) (by simp[bR];omega)) ?_
   simp+decide only[st,xv,gI,wX,wk,xr]
   refine Bp ?_
   simp+decide only[st,xv,gI,D3,xr]
   refine fin (tl:=jV o) ?_ ?_ rfl
   ·exact xo.clean
   ·unfold jV
    rw[if_pos h1,hq,hu,hn]
    show AV.vs (BS (B0++be q 2++be u 2++be n 2)) .ao=_
    simp
  by_cases h2:o.kind=2
  ·have hd:=sE hm h2
   simp+decide only[st,xv,gI,zW,D4,Hf,Nl,x2,r1,r4,h2]
   refine au (KU ok (by omega) (by omega)) ?_
   simp+decide only[st,xv,gI,Nl]
   refine fin (tl:=jV o) xo.clean ?_ rfl
   unfold jV
   rw[if_neg h1,if_pos h2];rfl
  by_cases h3:o.kind=3
  ·simp+decide only[st,xv,gI,zW,D4,Hf,Nk,Nj,x2,r1,r4,h3]
   refine au (ajx ok k.cat (by have:=k.bV;omega) (by omega)) ?_
   simp+decide only[st,xv,gI,Nj]
   refine fin (tl:=jV o) xo.clean ?_ rfl
   unfold jV
   rw[if_neg h1,if_neg h2,if_pos h3];rfl
  have h4:o.kind=4:=by rcases ub hm with h|h|h|h<;>first|exact absurd h ‹_› |exact h
  have hr:=vP (yH hm h4)
  simp+decide only[st,xv,gI,zW,D4,Hf,Nk,Ni,x2,r1,r4,h4]
  refine au (aiZ ok (fun x hx=>by have:=hr.2 x hx;omega) (by omega) (by omega)) ?_
  simp+decide only[st,xv,gI,Ni]
  refine fin (tl:=jV o) xo.clean ?_ rfl
  unfold jV
  rw[if_neg h1,if_neg h2,if_neg h3];rfl
end
section
open Go
variable {P:Program}
theorem atz {b:List UInt8} {n:Nat}:List.take (b.length-n) (BS (b.drop n))=BS (b.drop n):=List.take_of_length_le (by rw[cr,List.length_drop];omega)
theorem JC (ok:ax P tb) {rb n:Nat} {b:List UInt8} {os:List AV} {h:aa} (hg:cellsOf h rb=some (.vs (BS b) .ao::os)) (hn:n<=8) (hl:n<=b.length) (hb:b.length<2^20):
 an P 122 [.ptr rb 0, .int .i64 n] h (.ay [.int .u64 (de (b.take n)), .int .i64 0]) (h.set rb (some (.cells (.vs (BS (b.drop n)) .ao::os)))):=by
 refine ok.calls (rf:=Ao) rfl (Nat.le_of_ble_eq_true rfl) ?_
 have ht:=yE ok (b:=b) (t:= .ao) (n:=n) (h:=h) hn (by omega)
 rw[if_neg (by omega)] at ht
 have k2:dH 1 (BS b)=true:=oq
 simp+decide only[st,xv,Ao,O4,O3,hg]
 refine au ht ?_
 simp+decide only[st,xv,Ao,O4,O3,ab2,ab1,ab0,abZ,hg,cr,hl,k2,vW,atz,xr]
structure fH (rb:Nat) (h h':aa) (cs:List AV):Prop where
 cell:cellsOf h' rb=some cs
 next:h.next<=h'.next
 old: ∀x,x<h.next->x≠rb->h'.get x=h.get x
theorem fH.set {rb:Nat} {h:aa} {cs:List AV}:fH rb h (h.set rb (some (.cells cs))) cs:=⟨av (by simp[aa.set]),Nat.le_refl _,fun x _ hx=>by simp[aa.set,hx]⟩
theorem fH.trans {rb:Nat} {h h1 h2:aa} {cs ds:List AV} (a:fH rb h h1 cs) (b:fH rb h1 h2 ds):fH rb h h2 ds:=⟨b.cell,Nat.le_trans a.next b.next,fun x h1 h2=>by rw[b.old x (Nat.lt_of_lt_of_le h1 a.next) h2,a.old x h1 h2]⟩
theorem fH.clean {rb:Nat} {h h1:aa} {cs:List AV} {n:Nat} (a:fH rb h h1 cs) (hr:rb<h.next):fH rb h (h1.clean n) cs:=⟨by have:=a.cell;have:=a.next;simp+decide only[st,xv,a.cell,show rb<h1.next by omega],Nat.le_trans a.next (by simp[aa.clean]),fun x h1 h2=>by have:=a.next;simp only[aa.clean];rw[if_pos (by omega)];exact a.old x h1 h2⟩
def gg (a b c d:aG):Nat->aG:=fun i=>if i=0 then a else if i=4 then b else if i=5 then c else if i=6 then d else .full
theorem aqO (ok:ax P tb) {rb id:Nat} {k:UInt8} {l:Lb} {r:List UInt8} {h:aa} (hg:cellsOf h rb=some (.vs (BS ([1,k]++be id 8++cT l++r)) .ao::bf.c (gg .full .full .full .full)))
 (aJ:id<2^64) (hk:1<=k.toNat/\k.toNat<=4) (hm:ei l=true) (hl:l.ok) (hr:r.length<2^18):
 ∃h',an P 76 [.ptr rb 0] h (.int .i64 0) h'/\fH rb h h' (.vs (BS r) .ao::Ob.c {bf with id:=id,kind:=k.toNat,ak:=l} (gg .ao .full .full .full)):=by
 refine ok.dI (rf:=tT) rfl (Nat.le_of_ble_eq_true rfl) ?_
 have kU:=Gx hm
 have ja:=By (l:=l)
 have hlen:([1,k]++be id 8++cT l++r).length=12+3*l.ps.length+r.length:=by simp[bR,ja];omega
 generalize vA:[1,k]++be id 8++cT l++r=b0 at hg hlen
 have e0:b0=1::(k::(be id 8++(cT l++r))):=by rw[<-vA];simp
 simp+decide only[st,xv,tT,adD,adC,adB,Qu]
 refine au (JC ok hg (n:=1) (by omega) (by omega) (by omega)) ?_
 have d1:de (b0.take 1)=1:=by rw[e0];rfl
 have d2:b0.drop 1=k::(be id 8++(cT l++r)):=by rw[e0];rfl
 simp+decide only[st,xv,tT,Qu,adA,adz,Qt,d1,d2]
 refine au (JC ok (rb:=rb) (b:=k::(be id 8++(cT l++r))) (os:=bf.c (gg .full .full .full .full)) (av (by simp[aa.set])) (n:=1) (by omega) (by simp) (by rw[e0,List.length_cons] at hlen;omega)) ?_
 have d3:de [k]=k.toNat:=de1
 have w1:IntKind.wrap .i64 (k.toNat:Int)=k.toNat:=bu (by omega) (by omega)
 have k1: ¬((k.toNat:Int)<1):=by omega
 have k4: ¬((4:Int)<k.toNat):=by omega
 simp+decide only[st,xv,tT,Qt,ady,ZW,ZV,MN,d3,w1,k1,k4,bf,Ob.c,gg,qj,xr]
 refine au (JC ok (rb:=rb) (b:=be id 8++(cT l++r)) (os:=Ob.c {bf with kind:=k.toNat} (gg .full .full .full .full)) (av (by simp[aa.set];rfl)) (n:=8) (by omega) (by simp[bR]) (by simp[bR,ja];omega)) ?_
 rw[pH bR,sF bR,wb (by omega)]
 simp+decide only[st,xv,tT,MN,ZU,MM,bf,Ob.c,gg,qj,xr]
 refine au (ain ok (b:=cT l++r) (t:= .ao) (by simp[ja];omega)) ?_
 rw[ajT hm hl.ps]
 have k2:dH 1 (BS (cT l++r))=true:=oq
 have k3:(BS (cT l++r)).drop (cT l).length=BS r:=by rw[vW,sF rfl]
 have k5:(cT l).length<=(cT l++r).length:=by simp
 have k6:List.take ((cT l++r).length-(cT l).length) (BS r)=BS r:=List.take_of_length_le (by simp[cr])
 simp+decide only[st,xv,tT,MM,ZT,ZS,ZR,Pz,Lb.c,bf,Ob.c,gg,qj,xr,cr,k2,k3,k5,k6]
 exact⟨rfl,fH.set⟩
def tY (q u n:Nat) (o:Ob):Nat->List UInt8×Ob
 |0=>([],{o with bh:=q,used:=u,next:=n})
 |1=>(be n 2,{o with bh:=q,used:=u})
 |2=>(be u 2++be n 2,{o with bh:=q})
 |_=>(be q 2++(be u 2++be n 2),o)
def bxP (rb:Nat):Nat->List (List AV)
 |0=>[]
 |1=>[[.ptr rb 10]]
 |2=>[[.ptr rb 9],[.ptr rb 10]]
 |_=>[[.ptr rb 8],[.ptr rb 9],[.ptr rb 10]]
theorem atI (ok:ax P tb) {rb q u n:Nat} {o:Ob} {t:Nat->aG} {h:aa} (hg:cellsOf h rb=some (.vs (BS (be q 2++(be u 2++be n 2))) .ao::o.c t)) (Kf:rb<h.next) (hq:q<2^16) (hu:u<2^16) (hn:n<2^16):
 ∃h',an P 124 [.ptr rb 0] h (.int .i64 0) h'/\fH rb h h' (.vs (BS []) .ao::Ob.c {o with bh:=q,used:=u,next:=n} t):=by
 refine ok.dI (rf:=rK) rfl (Nat.le_of_ble_eq_true rfl) ?_
 have w1:IntKind.wrap .i64 (q:Int)=q:=bu (by omega) (by omega)
 have w2:IntKind.wrap .i64 (u:Int)=u:=bu (by omega) (by omega)
 have w3:IntKind.wrap .i64 (n:Int)=n:=bu (by omega) (by omega)
 simp+decide only[st,xv,rK,abR]
 let J:Nat->Env->aa->Prop:=fun m ρ H=>m<=3/\ρ 0= .ptr rb 0/\(∃t',ρ 3= .vs (bxP rb m) t')/\fH rb h H (.vs (BS (tY q u n o m).1) .ao::(tY q u n o m).2.c t)
 refine l8 0 rfl rfl J (fun l' ρ h hk=>hk) ?_ ?_
 ·simp+decide only[st,xv,j9,List.foldr]
  refine bU 14 rfl rfl ?_
  simp+decide only[st,xv,rK,abQ,xr]
  exact⟨3,Nat.le_refl _,rfl,⟨_,rfl⟩,fH.clean ⟨hg,Nat.le_refl _,fun _ _ _=>rfl⟩ Kf⟩
 have step: ∀{x:Nat} {bs:List UInt8} {rest:List (List AV)} {off:Nat} {t':aG} {ρ:Env} {H:aa} {cs ds:List AV} {K:aQ->Env->aa->Prop},x<2^16->ρ 0= .ptr rb 0->ρ 3= .vs ([.ptr rb (off+1)]::rest) t'->dH 1 rest=true->fH rb h H (.vs (BS (be x 2++bs)) .ao::cs)->bs.length<2^10->off+1<=cs.length->List.take off cs++[.int .i64 x]++List.drop (off+1) cs=ds->
  (∀ρ' H',ρ' 0= .ptr rb 0->(∃t',ρ' 3= .vs rest t')->fH rb h H' (.vs (BS bs) .ao::ds)->K (.goto 0) ρ' H')->WP P (.seq (.seq (.af HF) (.cond (Am.t 21) (.seq (.af O0) .ret) .skip)) (.seq (.af HE) (.seq (.seq (.af OZ) (.cond (Am.t 28) (.seq (.af abP) .ret) .skip)) (.seq (.ba OY [[],[],[],[],[],[],[],[],[],[]]) (.goto 0))))) K ρ H:=by
  intro x bs rest off t' ρ H cs ds K hx r0 r3 hh ha AN eP lJ hK
  have hw:IntKind.wrap .i64 (x:Int)=x:=bu (by omega) (by omega)
  simp+decide only[st,xv,rK,HF,HE,r0,r3,xr]
  refine au (JC ok ha.cell (n:=2) (by omega) (by simp[bR]) (by simp[bR];omega)) ?_
  rw[pH bR,sF bR,wb (by omega)]
  simp+decide only[st,xv,rK,HE,OZ,r0]
  refine bU 10 rfl rfl ?_
  have b9:=fH.clean (n:=10) (ha.trans (fH.set (cs:= .vs (BS bs) .ao::cs))) Kf
  have hc:=b9.cell
  have hh1:dH 1 ([.ptr rb (off+1)]::rest)=true:=rfl
  have k1:List.take (rest.length+1-1) rest=rest:=List.take_of_length_le (by omega)
  have hle:off+1+1<=cs.length+1:=by omega
  have hrH:rb<H.next:=by have:=ha.next;omega
  simp+decide only[st,xv,rK,OY,r0,r3,hc,hw,k1,hle,lJ,xr]
  refine⟨fun j hj hn=>?_,?_⟩
  ·simp only[aa.set,aa.clean]
   rw[if_neg (by omega)]
   exact if_neg (by omega)
  refine hK _ _ r0 ⟨_,rfl⟩ (b9.trans fH.set)
 rintro m ρ H ⟨hm3,r0,⟨t',r3⟩,ha⟩
 match m,hm3 with
 |0,_=>
  simp+decide only[st,xv,rK,HF,O0,r0,r3,bxP]
  exact⟨rfl,ha⟩
 |1,_=>exact step (rest:=[]) (off:=9) (bs:=[]) (cs:=(tY q u n o 1).2.c t) (ds:=(tY q u n o 0).2.c t) hn r0 r3 rfl (by simpa only[tY,List.append_nil] using ha) (by simp) (by simp[Ob.c]) rfl (fun ρ' H' h0 h3 h4=>⟨0,by omega,by omega,h0,h3,h4⟩)
 |2,_=>exact step (rest:=[[.ptr rb 10]]) (off:=8) (bs:=be n 2) (cs:=(tY q u n o 2).2.c t) (ds:=(tY q u n o 1).2.c t) hu r0 r3 rfl ha (by simp[bR]) (by simp[Ob.c]) rfl (fun ρ' H' h0 h3 h4=>⟨1,by omega,by omega,h0,h3,h4⟩)
 |3,_=>exact step (rest:=[[.ptr rb 9],[.ptr rb 10]]) (off:=7) (bs:=be u 2++be n 2) (cs:=(tY q u n o 3).2.c t) (ds:=(tY q u n o 2).2.c t) hq r0 r3 rfl ha (by simp[bR]) (by simp[Ob.c]) rfl (fun ρ' H' h0 h3 h4=>⟨2,by omega,by omega,h0,h3,h4⟩)
def iZ (o:Ob):Ob:=if o.kind=1 then{o with data:=[],bV:=[],ring:=[],st:=qj} else if o.kind=2 then{bf with id:=o.id,kind:=o.kind,ak:=o.ak,data:=o.data} else if o.kind=3 then{bf with id:=o.id,kind:=o.kind,ak:=o.ak,bV:=o.bV} else{bf with id:=o.id,kind:=o.kind,ak:=o.ak,ring:=o.ring}
theorem aqN (ok:ax P tb) {rb:Nat} {o:Ob} {h:aa} (k:JW o) (hm:fC o=true) (hg:cellsOf h rb=some (.vs (BS (jV o)) .ao::Ob.c {bf with id:=o.id,kind:=o.kind,ak:=o.ak} (gg .ao .full .full .full))) (Kf:rb<h.next):
 ∃h',an P 77 [.ptr rb 0] h (.int .i64 0) h'/\ ∃t,fH rb h h' (.vs (BS []) .ao::(iZ o).c t):=by
 refine ok.dI (rf:=pw) rfl (Nat.le_of_ble_eq_true rfl) ?_
 simp only[Ob.c] at hg
 unfold jV at hg
 by_cases h1:o.kind=1
 ·obtain⟨b1,b2,b3,b4,b5⟩:=uf hm h1
  rw[if_pos h1] at hg
  obtain⟨h',hc,ha⟩:=atI ok (o:={bf with id:=o.id,kind:=o.kind,ak:=o.ak}) (t:=gg .ao .full .full .full) (by rw[hg,List.append_assoc];rfl) Kf (show o.bh.toNat<2^16 by omega) (show o.used.toNat<2^16 by omega) (show o.next.toNat<2^16 by omega)
  simp+decide only[st,xv,pw,Dh,Dg,Df,De,Qs,hg,h1]
  refine au hc ?_
  simp+decide only[st,xv,pw,Qs]
  refine⟨rfl,gg .ao .full .full .full,?_⟩
  have:iZ o={bf with id:=o.id,kind:=o.kind,ak:=o.ak,bh:=o.bh.toNat,used:=o.used.toNat,next:=o.next.toNat}:=by
   unfold iZ
   rw[if_pos h1,Int.toNat_of_nonneg (by omega),Int.toNat_of_nonneg (by omega),Int.toNat_of_nonneg (by omega)];rfl
  rw[this];exact ha
 rw[if_neg h1] at hg
 by_cases h2:o.kind=2
 ·have hd:=sE hm h2
  rw[if_pos h2] at hg
  have e:iZ o={bf with id:=o.id,kind:=o.kind,ak:=o.ak,data:=o.data}:=by unfold iZ;rw[if_neg h1,if_pos h2]
  have ht:=VI ok (b:=cO o.data) (t:= .ao) (h:=h) (by simp[cO,bR];omega)
  have hp:=VK (s:=o.data) (r:=[]) (by omega)
  rw[List.append_nil] at hp
  rw[hp] at ht
  have k2:dH 1 (BS (cO o.data))=true:=oq
  have k3:(BS (cO o.data)).drop (cO o.data).length=[]:=List.drop_of_length_le (by rw[cr];omega)
  simp+decide only[st,xv,pw,Dh,Dg,Df,De,IQ,Qr,hg,h2]
  refine au ht ?_
  simp+decide only[st,xv,pw,Qr,G7,G6,hg,GI,xr,k2,k3,cr,List.take_nil]
  refine⟨rfl,gg .ao .ao .full .full,?_⟩
  rw[e];exact fH.set
 rw[if_neg h2] at hg
 by_cases h3:o.kind=3
 ·have hc:=Ge hm h3
  have di:=GA hc
  rw[if_pos h3] at hg
  have e:iZ o={bf with id:=o.id,kind:=o.kind,ak:=o.ak,bV:=o.bV}:=by unfold iZ;rw[if_neg h1,if_neg h2,if_pos h3]
  have ht:=aiD ok (b:=jw o.bV) (t:= .ao) (h:=h) (by rw[Br];omega)
  have hp:=ah9 (l:=o.bV) (r:=[]) hc k.cat
  rw[List.append_nil] at hp
  rw[hp] at ht
  have k2:dH 1 (BS (jw o.bV))=true:=oq
  have k3:(BS (jw o.bV)).drop (jw o.bV).length=[]:=List.drop_of_length_le (by rw[cr];omega)
  simp+decide only[st,xv,pw,Dh,Dg,Df,De,IQ,Qq,Qp,hg,h3]
  refine au ht ?_
  simp+decide only[st,xv,pw,Qp,G7,G6,hg,Mr,xr,k2,k3,cr,List.take_nil]
  refine⟨rfl,gg .ao .full .ao .full,?_⟩
  rw[e];exact fH.set
 rw[if_neg h3] at hg
 have h4:o.kind=4:=by rcases ub hm with h|h|h|h<;>first|exact absurd h ‹_› |exact h
 have hr:=yH hm h4
 have gG:=vP hr
 have e:iZ o={bf with id:=o.id,kind:=o.kind,ak:=o.ak,ring:=o.ring}:=by unfold iZ;rw[if_neg h1,if_neg h2,if_neg h3]
 have hp:=ah8 (l:=o.ring) (r:=[]) hr (fun x hx=>by have:=gG.2 x hx;omega)
 rw[List.append_nil] at hp
 have tG:(iY o.ring).length<2^20:=by
  have bP: ∀(m:List (List UInt8)),(∀x∈m,x.length<=16)->(m.flatMap cO).length<=18*m.length:=by
   intro m
   induction m with
   |nil=>intro _;simp
   |cons c m ih=>
    intro hm
    have h1:=ih (fun x hx=>hm x (List.mem_cons_of_mem _ hx))
    have h2:=hm c (List.mem_cons_self ..)
    simp only[List.flatMap_cons,List.length_append,cO,bR,List.length_cons] at h1 ⊢;omega
  have:=bP o.ring gG.2
  unfold iY
  rw[List.length_append,bR];omega
 have ht:=aif ok (b:=iY o.ring) (t:= .ao) (h:=h) tG
 rw[hp] at ht
 have k2:dH 1 (BS (iY o.ring))=true:=oq
 have k3:(BS (iY o.ring)).drop (iY o.ring).length=[]:=List.drop_of_length_le (by rw[cr];omega)
 simp+decide only[st,xv,pw,Dh,Dg,Df,De,IQ,Qq,Qo,hg,h4]
 refine au ht ?_
 simp+decide only[st,xv,pw,Qo,G7,G6,hg,Mp,xr,k2,k3,cr,List.take_nil]
 refine⟨rfl,gg .ao .full .full .ao,?_⟩
 rw[e];exact fH.set
theorem aii (ok:ax P tb) {o:Ob} {t:aG} {h:aa} (k:JW o) (hm:fC o=true) (hn:iZ o=o):an P 46 [.vs (BS (gB o)) t] h (.ay [.agg (o.c aK), .int .i64 0]) h:=by
 refine an.ao ?_
 rw[show AV.bH [.vs (BS (gB o)) t]=[.vs (BS (gB o)) .ao] by simp only[AV.bH,akN]]
 refine ok.eW (rf:=tX) rfl (Nat.le_of_ble_eq_true rfl) (by simp only[AV.bD,AV.b8,um];rfl) ?_
 simp+decide only[st,xv,tX,afe]
 refine Lx (HW ?_)
 simp+decide only[st,xv,tX,afd,RV]
 generalize hX:aa.at _ _ _=X
 have xo:Old h X:=by rw[<-hX];exact((Old.refl h).at (Nat.le_refl _)).at (by omega)
 have x0:cellsOf X h.next=some (bf.c (gg .full .full .full .full)):=by rw[<-hX];exact av (by simp[aa.at];rfl)
 have x1:cellsOf X (h.next+1)=some (.vs (BS (gB o)) .ao::bf.c (gg .full .full .full .full)):=by rw[<-hX];exact av (by simp[aa.at];rfl)
 have xn:X.next=h.next+2:=by rw[<-hX];simp[aa.at]
 obtain⟨kk,hk,vw,AG⟩: ∃kk:UInt8,o.kind=kk.toNat/\1<=kk.toNat/\kk.toNat<=4:=by
  rcases ub hm with h|h|h|h<;>rw[h]
  ·exact⟨1,rfl,by decide⟩
  ·exact⟨2,rfl,by decide⟩
  ·exact⟨3,rfl,by decide⟩
  ·exact⟨4,rfl,by decide⟩
 have rY:UInt8.ofNat o.kind.toNat=kk:=by rw[hk];simp
 have hpt:(jV o).length<2^18:=by
  unfold jV
  split
  ·simp[bR]
  split
  ·rename_i h2;have:=sE hm h2;simp[cO,bR];omega
  split
  ·rename_i h3;have:=GA (Ge hm h3);rw[Br];omega
  ·rename_i h1 h2 h3
   have h4:o.kind=4:=by rcases ub hm with h|h|h|h<;>first|exact absurd h ‹_› |exact h
   have gG:=vP (yH hm h4)
   have bP: ∀(m:List (List UInt8)),(∀x∈m,x.length<=16)->(m.flatMap cO).length<=18*m.length:=by
    intro m
    induction m with
    |nil=>intro _;simp
    |cons c m ih=>
     intro hm
     have h1:=ih (fun x hx=>hm x (List.mem_cons_of_mem _ hx))
     have h2:=hm c (List.mem_cons_self ..)
     simp only[List.flatMap_cons,List.length_append,cO,bR,List.length_cons] at h1 ⊢;omega
   have:=bP o.ring gG.2
   unfold iY
   rw[List.length_append,bR];omega
 obtain⟨H1,bq,a1⟩:=aqO ok (rb:=h.next+1) (h:=X) (r:=jV o) (id:=o.id) (k:=kk) (l:=o.ak) (by rw[x1];unfold gB;rw[rY]) k.id ⟨vw,AG⟩ (LO hm).1 k.ak hpt
 rw[<-hk] at a1
 refine au bq ?_
 simp+decide only[st,xv,tX,RV,afc,RU]
 obtain⟨H2,aU,t2,a2⟩:=aqN ok k hm a1.cell (by have:=a1.next;omega)
 rw[hn] at a2
 refine au aU ?_
 have a3:=a1.trans a2
 have c3:=a3.cell
 have z3:cellsOf H2 h.next=some (bf.c (gg .full .full .full .full)):=by rw[<-x0];unfold cellsOf;rw[a3.old _ (by omega) (by omega)]
 simp only[Ob.c] at c3 z3
 simp+decide only[st,xv,tX,RU,afb,RT,c3]
 refine au (WR (o:=o) (t:=t2) ok k.ak k.id (by have:=k.bV;omega) (by have:=k.ring;omega)) ?_
 rw[hm]
 simp+decide only[st,xv,tX,RT,afa,c3,z3,xr,xi,bG,bf,qj]
 refine⟨?_,fun b hb=>?_⟩
 ·show(AV.ay [.agg (o.c t2), .int .i64 0]).strip=_
  simp only[AV.strip,AV.bH,yK]
 ·rw[if_neg (by omega),a3.old _ (by omega) (by omega)]
  exact xo.get b hb
end
section
open Go
variable {P:Program} {h:aa} {bm bl:Nat} {fs:List Fr}
def iA (fs:List Fr) (f:Int):Option Nat:=if 0<=f then(match fs[f.toNat]? with|some x=>if x.taken then some f.toNat else none|none=>none) else none
def oI:Option Nat->Nat->AV
 |some i,bl=> .ay [.ptr bl (i*17), .int .i64 0]
 |none,_=> .ay [.nil, .int .i64 7]
theorem WY (ok:ax P tb) (M:ft h bm bl fs) (hb:bl<h.next) (f:Int):an P 148 [.ptr bm 0, .int .i64 f] h (oI (iA fs f) bl) h:=by
 have h1:=M.top
 have h2:=M.row
 refine ok.keeps (rf:=vf) rfl (Nat.le_of_ble_eq_true rfl) ?_ ?_
 ·unfold oI;split<;>simp[AV.bD,AV.b8,hb]
 have hc:=av h1
 have aU:=av h2
 by_cases h0:f<0
 ·have:iA fs f=none:=by simp[iA];omega
  rw[this]
  simp+decide only[st,vf,Cq,Cp,Co,Cn,Cm,Ck,oI,h0]
 ·obtain⟨n,rfl⟩:=Int.eq_ofNat_of_zero_le (show 0<=f by omega)
  by_cases hn:n<fs.length
  ·have hf:fs[n]? =some fs[n]:=List.getElem?_eq_getElem hn
   have ht:=M.taken hf
   have hle: ¬fs.length<=n:=by omega
   cases hk:fs[n].taken
   ·have:iA fs n=none:=by simp[iA,hf,hk]
    rw[this]
    rw[hk] at ht
    simp+decide only[st,vf,Cq,Cp,Co,Cn,Cm,Ck,oI,hc,aU,hn,hle,ht]
   ·have:iA fs n=some n:=by simp[iA,hf,hk]
    rw[this]
    rw[hk] at ht
    simp+decide only[st,vf,Cq,Cp,Co,Cn,Cm,Ck,oI,hc,aU,hn,hle,ht]
  ·have:iA fs n=none:=by simp[iA,List.getElem?_eq_none (show fs.length<=n by omega)]
   rw[this]
   have hle:fs.length<=n:=by omega
   simp+decide only[st,vf,Cq,Cp,Co,Cn,Cm,Ck,oI,hc,aU,hn,hle]
def kI (fs:List Fr) (f off:Int):Option (Nat×Nat)×Int:=match iA fs f with
 |none=>(none,7)
 |some i=>if off<0\/16<=off then(none,11) else(some (i,off.toNat),0)
def qQ (bl:Nat):Option (Nat×Nat)->AV
 |none=> .nil
 |some (i,j)=> .ptr bl (i*17+j)
theorem LF {f:Int} {i:Nat} (e:iA fs f=some i): ∃x,fs[i]? =some x/\x.taken=true/\f=i:=by
 unfold iA at e
 split at e
 ·split at e
  ·rename_i x hx
   split at e
   ·rename_i h1 h2;cases e;exact⟨x,hx,h2,by omega⟩
   ·cases e
  ·cases e
 ·cases e
theorem W8 (ok:ax P tb) (M:ft h bm bl fs) (hb:bl<h.next) (f off:Int):
 an P 110 [.ptr bm 0, .int .i64 f, .int .i64 off] h (.ay [qQ bl (kI fs f off).1, .int .i64 (kI fs f off).2]) h:=by
 have lZ:=WY ok M hb f
 have hc:=av M.top
 refine ok.keeps (rf:=Aq) rfl (Nat.le_of_ble_eq_true rfl) ?_ ?_
 ·unfold qQ;split<;>simp[AV.bD,AV.b8,hb]
 unfold kI
 cases e:iA fs f with
 |none=>
  rw[e] at lZ
  simp+decide only[st,Aq,Pg,Pf,Pe,Pd,Pc,Pb,Pa]
  refine au lZ ?_
  simp+decide only[st,oI,qQ]
 |some i=>
  rw[e] at lZ
  simp+decide only[st,Aq,Pg,Pf,Pe,Pd,Pc,Pb,Pa]
  refine au lZ ?_
  by_cases h0:off<0
  ·simp+decide only[st,oI,qQ,h0,true_or]
  ·by_cases h1:16<=off
   ·simp+decide only[st,oI,qQ,h0,h1,or_true]
   ·obtain⟨j,rfl⟩:=Int.eq_ofNat_of_zero_le (show 0<=off by omega)
    have h2:(j:Int)<(16:Nat):=by omega
    simp+decide only[st,oI,qQ,h0,h1,or_self,h2,Nat.mul_one]
theorem ft.byte (M:ft h bm bl fs) {i j:Nat} {x:Fr} (hi:fs[i]? =some x) (hj:j<16):(fs.map Fr.enc).flatten[i*17+j]? =(x.b[j]?).map (.int .u8):=by
 have hx:=M.len x (List.mem_of_getElem? hi)
 rw[uj M.rows (row:=x.enc) (by simp[hi]) (by omega)]
 simp[Fr.enc,List.getElem?_append_left (show j<(x.b.map (AV.int .u8)).length by simp[hx];omega)]
theorem Wr {f off:Int} {i j:Nat} {e:Int} (hb:kI fs f off=(some (i,j),e)):e=0/\j<16/\f=i/\off=j/\ ∃x,fs[i]? =some x/\x.taken=true:=by
 unfold kI at hb
 split at hb
 ·cases hb
 ·rename_i k hk
  obtain⟨x,h1,h2,h3⟩:=LF hk
  split at hb
  ·cases hb
  ·cases hb
   exact⟨rfl,by omega,h3,by omega,x,h1,h2⟩
theorem Ws {f off:Int} {e:Int} (hb:kI fs f off=(none,e)):e≠0:=by
 unfold kI at hb
 split at hb
 ·cases hb;decide
 ·split at hb
  ·cases hb;decide
  ·cases hb
def yY (fs:List Fr) (f off:Int):Int×Int:=match kI fs f off with
 |(none,e)=>(0,e)
 |(some (i,j),e)=>(((fs[i]?).bind fun x=>x.b[j]?).getD 0,e)
theorem aja (ok:ax P tb) (M:ft h bm bl fs) (hb:bl<h.next) (f off:Int):
 an P 79 [.ptr bm 0, .int .i64 f, .int .i64 off] h (.ay [.int .u8 (yY fs f off).1, .int .i64 (yY fs f off).2]) h:=by
 have tL:=W8 ok M hb f off
 have aU:=av M.row
 refine ok.keeps (rf:=A4) rfl (Nat.le_of_ble_eq_true rfl) rfl ?_
 unfold yY
 rcases hq:kI fs f off with⟨_|⟨i,j⟩,e⟩
 ·have he:=Ws hq
  rw[hq] at tL
  simp+decide only[st,A4,Qg,Qf,Qe,Qd,Qc]
  refine au tL ?_
  simp+decide only[st,qQ,he]
 ·obtain⟨rfl,hj,rfl,rfl,x,hx,_⟩:=Wr hq
  have mD:=M.len x (List.mem_of_getElem? hx)
  have br:=M.byte hx hj
  rw[List.getElem?_eq_getElem (show j<x.b.length by omega)] at br
  rw[hq] at tL
  simp+decide only[st,A4,Qg,Qf,Qe,Qd,Qc]
  refine au tL ?_
  simp+decide only[st,qQ,aU,br,hx,List.getElem?_eq_getElem (show j<x.b.length by omega),Option.getD_some]
def gv (h:aa) (bl:Nat) (fs:List Fr):aa:=h.set bl (some (.cells (fs.map Fr.enc).flatten))
theorem ft.kR (M:ft h bm bl fs) {gs:List Fr} (h1:gs.length=fs.length) (h2: ∀f∈gs,f.b.length=16):ft (gv h bl gs) bm bl gs where
 top:=by simp[gv,aa.set,M.ne,M.top,h1]
 row:=by simp[gv,aa.set]
 ne:=M.ne
 len:=h2
 small:=by rw[h1];exact M.small
theorem ft.same (M:ft h bm bl fs):gv h bl fs=h:=aa.gq M.row
def pM (fs:List Fr) (f off b:Int):List Fr:=match kI fs f off with
 |(none,_)=>fs
 |(some (i,j),_)=>match fs[i]? with
  |none=>fs
  |some x=>fs.set i {x with b:=x.b.set j b}
theorem VL {α:Type} {l:List α} {j:Nat} {v:α} (hj:j<l.length):l.take j++[v]++l.drop (j+1)=l.set j v:=by
 rw[List.set_eq_take_append_cons_drop];simp[hj]
theorem aia (ok:ax P tb) (M:ft h bm bl fs) (hb:bl<h.next) (f off b:Int):
 an P 72 [.ptr bm 0, .int .i64 f, .int .i64 off, .int .u8 b] h (.int .i64 (kI fs f off).2) (gv h bl (pM fs f off b)):=by
 have tL:=W8 ok M hb f off
 have aU:=av M.row
 refine ok.calls (rf:=A6) rfl (Nat.le_of_ble_eq_true rfl) ?_
 unfold pM
 rcases hq:kI fs f off with⟨_|⟨i,j⟩,e⟩
 ·have he:=Ws hq
  rw[hq] at tL
  simp+decide only[st,A6,QB,QA,Qz,Qy,Qx]
  refine au tL ?_
  simp+decide only[st,qQ,he,M.same]
 ·obtain⟨rfl,hj,rfl,rfl,x,hx,_⟩:=Wr hq
  have mD:=M.len x (List.mem_of_getElem? hx)
  rw[hq] at tL
  have qb:=BE (v:=[AV.int .u8 b]) M.rows (i:=i) (j:=j) (row:=x.enc) (by simp[hx]) (by simp;omega)
  have hlen:=yL M.rows
  have hi:=(List.getElem?_eq_some_iff.1 hx).1
  have hle:i*17+j+1<=(fs.map Fr.enc).flatten.length:=by rw[hlen];simp;omega
  have cu:x.enc.take j++[AV.int .u8 b]++x.enc.drop (j+1)=Fr.enc {x with b:=x.b.set j b}:=by
   rw[VL (by rw[Fr.BK mD];omega)]
   simp[Fr.enc,List.set_append,mD,hj]
  simp only[List.length_singleton] at qb
  rw[cu] at qb
  simp+decide only[st,A6,QB,QA,Qz,Qy,Qx]
  refine au tL ?_
  simp only[List.map_set,hx,gv]
  rw[<-qb]
  simp+decide only[st,qQ,aU,hle,List.append_assoc]
def ji (fs:List Fr) (f:Int):List Fr:=match iA fs f with
 |none=>fs
 |some i=>match fs[i]? with
  |none=>fs
  |some x=>fs.set i {x with taken:=false}
theorem ajn (ok:ax P tb) (M:ft h bm bl fs) (hb:bl<h.next) (f:Int):
 an P 166 [.ptr bm 0, .int .i64 f] h (.int .i64 (if(iA fs f).isSome then 0 else 7)) (gv h bl (ji fs f)):=by
 have lZ:=WY ok M hb f
 have aU:=av M.row
 refine ok.calls (rf:=Ah) rfl (Nat.le_of_ble_eq_true rfl) ?_
 unfold ji
 cases e:iA fs f with
 |none=>
  rw[e] at lZ
  simp+decide only[st,Ah,NJ,NI,NH,NG,NF]
  refine au lZ ?_
  simp+decide only[st,oI,M.same,Option.isSome]
 |some i=>
  obtain⟨x,hx,_,rfl⟩:=LF e
  have mD:=M.len x (List.mem_of_getElem? hx)
  rw[e] at lZ
  have qb:=BE (v:=[AV.bool false]) M.rows (i:=i) (j:=16) (row:=x.enc) (by simp[hx]) (by simp)
  have hlen:=yL M.rows
  have hi:=(List.getElem?_eq_some_iff.1 hx).1
  have hle:i*17+16+1<=(fs.map Fr.enc).flatten.length:=by rw[hlen];simp;omega
  have cu:x.enc.take 16++[AV.bool false]++x.enc.drop (16+1)=Fr.enc {x with taken:=false}:=by
   rw[VL (by rw[Fr.BK mD];omega)]
   simp[Fr.enc,List.set_append,mD]
  simp only[List.length_singleton] at qb
  rw[cu] at qb
  simp+decide only[st,Ah,NJ,NI,NH,NG,NF]
  refine au lZ ?_
  simp only[List.map_set,hx,gv]
  rw[<-qb]
  simp+decide only[st,oI,aU,hle,List.append_assoc,Option.isSome]
def og (fs:List Fr):Option Nat:=fs.findIdx? fun f=>!f.taken
def iq (fs:List Fr):List Fr:=match og fs with
 |none=>fs
 |some i=>fs.set i ⟨List.replicate 16 0,true⟩
theorem akb (ok:ax P tb) (M:ft h bm bl fs):an P 108 [.ptr bm 0] h (.int .i64 fs.length) h:=by
 have hc:=av M.top
 refine ok.keeps (rf:=EH) rfl (Nat.le_of_ble_eq_true rfl) rfl ?_
 simp+decide only[st,EH,ab6,ab5,ab4,ab3,hc]
theorem aiV (ok:ax P tb) (M:ft h bm bl fs):
 an P 70 [.ptr bm 0] h (match og fs with|some i=> .ay [.int .i64 i, .int .i64 0]|none=> .ay [.int .i64 0, .int .i64 9]) (gv h bl (iq fs)):=by
 have hc:=av M.top
 have aU:=av M.row
 have xS:=M.small
 refine ok.calls (rf:=vJ) rfl (Nat.le_of_ble_eq_true rfl) ?_
 simp+decide only[st,vJ,Du,Dt,Ds,Dq,Dp,Dm,Dl,Dk,Dj,Di,B4,hc]
 let I:Nat->Env->aa->Prop:=fun n ρ h'=>h'=h/\ ∃i:Nat,fs.length=i+n/\ρ 0= .ptr bm 0/\ρ 11= .int .i64 fs.length/\ρ 12= .int .i64 i/\ ∀j,j<i-> ∀x,fs[j]? =some x->x.taken=true
 refine dO I ?_ fs.length ⟨rfl,0,by omega,rfl,rfl,rfl,fun j hj=>by omega⟩
 rintro n ρ h' ⟨rfl,i,aB,r0,fc,gS,gD⟩
 by_cases hi:i<fs.length
 ·have hx:fs[i]? =some fs[i]:=List.getElem?_eq_getElem hi
  have br:=M.taken hx
  have mD:=M.len _ (List.mem_of_getElem? hx)
  cases nz:fs[i].taken
  ·have hl:og fs=some i:=by
    unfold og
    rw[List.findIdx?_eq_some_iff_getElem]
    exact⟨hi,by simp[nz],fun j hj=>by simpa using gD j hj _ (List.getElem?_eq_getElem (by omega))⟩
   rw[nz] at br
   have qb:=BE (v:=Fr.enc ⟨List.replicate 16 0,true⟩) M.rows (i:=i) (j:=0) (row:=fs[i].enc) (by simp[hx]) (by simp[Fr.enc])
   have hlen:=yL M.rows
   have hle:i*17+17<=(fs.map Fr.enc).flatten.length:=by rw[hlen];simp;omega
   have cu:fs[i].enc.take 0++Fr.enc ⟨List.replicate 16 0,true⟩++fs[i].enc.drop (0+(Fr.enc ⟨List.replicate 16 0,true⟩).length)=Fr.enc ⟨List.replicate 16 0,true⟩:=by
    rw[List.drop_of_length_le (by rw[Fr.BK mD];simp[Fr.enc])];simp
   rw[cu] at qb
   simp only[Fr.enc,List.replicate,List.map,List.cons_append,List.nil_append,List.length,Nat.add_zero,Nat.reduceAdd] at qb
   simp+decide only[st,vJ,Du,Dt,Ds,Dq,Dp,Dm,Dl,Dk,Dj,Di,B4,r0,fc,gS,hi,hc,aU,br,hl,hle,Nat.reduceAdd]
   simp only[iq,hl,gv,List.map_set,Fr.enc,List.replicate,List.map,List.cons_append,List.nil_append]
   rw[<-qb]
  ·rw[nz] at br
   have hw:IntKind.wrap .i64 ((i:Int)+1)=((i+1:Nat):Int):=by rw[bu]<;>omega
   simp+decide only[st,vJ,Du,Dt,Ds,Dq,Dp,Dm,Dl,Dk,Dj,Di,B4,r0,fc,gS,hi,hc,aU,br,hw]
   refine⟨n-1,by omega,rfl,i+1,by omega,?_,?_,?_,fun j hj x sd=>?_⟩
   ·simp+decide only[st,r0]
   ·simp+decide only[st,fc]
   ·simp+decide only[st]
   ·by_cases eu:j=i
    ·subst eu;rw[hx] at sd;cases sd;exact nz
    ·exact gD j (by omega) x sd
 ·have cL:i=fs.length:=by omega
  have hl:og fs=none:=by
   unfold og
   rw[List.findIdx?_eq_none_iff]
   intro x hx
   obtain⟨j,hj⟩:=List.mem_iff_getElem?.1 hx
   have:=gD j (by rw[cL];exact(List.getElem?_eq_some_iff.1 hj).1) x hj
   simp[this]
  simp+decide only[st,vJ,Du,Dt,Ds,Dq,Dp,Dm,Dl,Dk,Dj,Di,B4,r0,fc,gS,hi,hl]
  simp only[iq,hl,M.same]
theorem al9 (ok:ax P tb) (M:ft h bm bl fs) (aC:bm<h.next/\bl<h.next):an P 109 [.ptr bm 0] h (.int .i64 (dV fs)) h:=aiS ok rfl M aC
def uF (n:Int):Nat:=(max 0 (min n 512)).toNat
theorem aj7 (ok:ax P tb) (n:Int):an P 68 [.int .i64 n] h (.ptr (h.next+1) 0)
 ((h.at h.next (.cells (List.replicate (uF n) (Fr.enc ⟨List.replicate 16 0,false⟩)).flatten)).at (h.next+1) (.cells [.rs h.next 0 (uF n) 17])):=by
 refine ok.calls (rf:=FG) rfl (Nat.le_of_ble_eq_true rfl) ?_
 have hm:ll 17 (.int .i64 (max 0 (min n 512))) (.int .i64 (max 0 (min n 512)))=some (uF n):=by
  unfold ll uF
  simp only[]
  rw[if_pos ⟨by omega,trivial,by omega,by omega⟩]
 simp+decide only[st,FG,adX,adW,hm,Nat.reduceAdd]
 simp[Fr.enc,List.replicate]
def F0:Fr:=⟨List.replicate 16 0,false⟩
theorem amm (ok:ax P tb) (h:aa) (n:Int): ∃bm bl h',an P 68 [.int .i64 n] h (.ptr bm 0) h'/\ft h' bm bl (List.replicate (uF n) F0)/\h.next<=bm/\h.next<=bl/\bm<h'.next/\bl<h'.next/\h.next<=h'.next/\ ∀b,b<h.next->h'.get b=h.get b:=by
 refine⟨h.next+1,h.next,_,aj7 ok n,⟨?_,?_,?_,?_,?_⟩,by omega,by omega,?_,?_,?_,?_⟩
 ·simp[aa.at]
 ·simp[aa.at,F0]
 ·omega
 ·intro f hf;simp[List.mem_replicate] at hf;simp[hf.2,F0]
 ·simp[uF];omega
 ·simp[aa.at]
 ·simp[aa.at];omega
 ·simp[aa.at];omega
 ·intro b hb;simp[aa.at,show b≠h.next by omega,show b≠h.next+1 by omega]
theorem Lt:(iq fs).length=fs.length:=by unfold iq;split<;>simp
theorem LY (hl: ∀f∈fs,f.b.length=16): ∀f∈iq fs,f.b.length=16:=by
 unfold iq
 split
 ·exact hl
 ·intro f hf
  rcases List.mem_or_eq_of_mem_set hf with hf|rfl
  ·exact hl f hf
  ·simp
theorem Wq {f off b:Int}:(pM fs f off b).length=fs.length:=by unfold pM;split<;>first|rfl|(split<;>simp)
theorem Xv {f off b:Int} (hl: ∀f∈fs,f.b.length=16): ∀x∈pM fs f off b,x.b.length=16:=by
 unfold pM
 split
 ·exact hl
 ·split
  ·exact hl
  ·rename_i x hx
   intro y hy
   rcases List.mem_or_eq_of_mem_set hy with hy|rfl
   ·exact hl y hy
   ·simp[hl x (List.mem_of_getElem? hx)]
theorem Lu {f:Int}:(ji fs f).length=fs.length:=by unfold ji;split<;>first|rfl|(split<;>simp)
theorem LZ {f:Int} (hl: ∀f∈fs,f.b.length=16): ∀x∈ji fs f,x.b.length=16:=by
 unfold ji
 split
 ·exact hl
 ·split
  ·exact hl
  ·rename_i x hx
   intro y hy
   rcases List.mem_or_eq_of_mem_set hy with hy|rfl
   ·exact hl y hy
   ·simp[hl x (List.mem_of_getElem? hx)]
theorem ft.take (M:ft h bm bl fs):ft (gv h bl (iq fs)) bm bl (iq fs):=M.kR Lt (LY M.len)
theorem ft.store (M:ft h bm bl fs) (f off b:Int):ft (gv h bl (pM fs f off b)) bm bl (pM fs f off b):=M.kR Wq (Xv M.len)
theorem ft.free (M:ft h bm bl fs) (f:Int):ft (gv h bl (ji fs f)) bm bl (ji fs f):=M.kR Lu (LZ M.len)
end
section
open Go
structure Tb where
 l:List Nat
 n:Nat
def dY (l:List Nat):List (List AV):=l.map fun(f:Nat)=>[AV.int .i64 f]
def Tb.enc (t:Tb):AV:= .agg [.vs (dY t.l) .ao, .int .i64 t.n]
def t4:AV:= .agg [.vs [] .ao, .int .i64 0]
abbrev iD:=List (Int×Tb)
def mX (ts:iD):List (AV×AV):=ts.map fun e=>(.int .u64 e.1,e.2.enc)
def eR (ts:iD) (id:Int):Option Tb:=(ts.find? fun e=>id==e.1).map (·.2)
def rz (ts:iD) (id:Int):Option Nat:=ts.findIdx? fun e=>id==e.1
theorem F9 {id:Int}: ∀(ts:iD) (i:Nat),mf (.int .u64 id) (mX ts) i=some ((rz ts id).map (· +i))
 |[],i=>rfl
 |e::ts,i=>by
  have ih:=F9 (id:=id) ts (i+1)
  simp only[mX,List.map_cons,mf,if_true,rz,List.findIdx?_cons] at ih ⊢
  by_cases h:(id==e.1)=true
  ·simp[h]
  ·have h':(id==e.1)=false:=by simpa using h
   simp only[h',if_false,Bool.false_eq_true]
   rw[ih]
   simp only[Option.map_map]
   congr 2
   funext x
   simp[Nat.add_comm,Nat.add_left_comm]
theorem Le {id:Int} {ts:iD}:ui (.int .u64 id) (mX ts)=some ((eR ts id).map Tb.enc):=by
 unfold ui
 rw[F9]
 simp only[Option.map_some,Option.some.injEq]
 unfold rz eR
 induction ts with
 |nil=>rfl
 |cons e ts ih=>
  simp only[List.findIdx?_cons,List.find?_cons]
  by_cases h:(id==e.1)=true
  ·simp[h,mX]
  ·have h':(id==e.1)=false:=by simpa using h
   simp only[h',if_false,Bool.false_eq_true]
   rw[<-ih]
   cases ts.findIdx? (fun e=>id==e.1)<;>simp[mX]
structure ee (h:aa) (bs bm bl bp:Nat) (fs:List Fr) (ts:iD):Prop where
 top:h.get bs=some (.cells [.ptr bm 0, .map (some bp)])
 mem:ft h bm bl fs
 map:h.get bp=some (.map (mX ts))
 n1:bs≠bm
 n2:bs≠bl
 n3:bs≠bp
 n4:bp≠bm
 n5:bp≠bl
 l1:bs<h.next
 l2:bm<h.next
 l3:bl<h.next
 l4:bp<h.next
 tn: ∀e∈ts,e.2.n<=64/\e.2.l.length=(e.2.n+15)/16
variable {P:Program} {h:aa} {bs bm bl bp:Nat} {fs:List Fr} {ts:iD}
theorem ee.look (S:ee h bs bm bl bp fs ts) (id:Int) (h':aa) (hh:h'.get bp=h.get bp):mY (.agg [.vs [] .full, .int .i64 0]) true h' (.map (some bp)) (.int .u64 id)=
 some (match eR ts id with|some t=> .ay [t.enc, .bool true]|none=> .ay [.agg [.vs [] .full, .int .i64 0], .bool false]):=by
 unfold mY
 simp only[hh,S.map,Le,Option.map_some]
 cases eR ts id<;>rfl
def pW:Option Tb->AV
 |some t=> .ay [t.enc, .int .i64 0]
 |none=> .ay [t4, .int .i64 7]
theorem F8: ∀(l:List Nat),AV.fZ (dY l)=dY l
 |[]=>rfl
 |x::xs=>by
  have:=F8 xs
  simp only[dY,List.map_cons,AV.fZ,AV.bH,AV.strip] at this ⊢
  rw[this]
theorem Xt {p:Nat->Bool}: ∀(l:List Nat),AV.gZ p (dY l)=true
 |[]=>rfl
 |x::xs=>by
  have:=Xt (p:=p) xs
  simp only[dY,List.map_cons,AV.gZ,AV.b8,AV.bD,Bool.and_true,Bool.true_and] at this ⊢
  exact this
theorem Tb.Yy {p:Nat->Bool} {t:Tb}:t.enc.bD p=true:=by simp only[Tb.enc,AV.bD,AV.b8,Xt,Bool.and_self]
theorem ai3 {p:Nat->Bool} {o:Option Tb}:(pW o).bD p=true:=by
 cases o
 ·rfl
 ·simp only[pW,AV.bD,AV.b8,Tb.Yy,Bool.and_self]
theorem LP (ok:ax P tb) (S:ee h bs bm bl bp fs ts) (id:Int):an P 78 [.ptr bs 0, .int .u64 id] h (pW (eR ts id)) h:=by
 have hc:=av S.top
 have hk:=fun h' hh=>S.look id h' hh
 have l1:=S.l1
 have l4:=S.l4
 have n1: ¬bs=h.next:=by omega
 have n4: ¬bp=h.next:=by omega
 have aM: ∀b,b<h.next-> ¬b=h.next:=fun b hb=>by omega
 have nn: ∀b,b<h.next-> ¬b=h.next+1:=fun b hb=>by omega
 have e1: ¬h.next=h.next+1:=by omega
 have e2: ¬h.next+1=h.next:=by omega
 refine ok.eW (rf:=A5) rfl (Nat.le_of_ble_eq_true rfl) ai3 ?_
 cases dC:eR ts id with
 |none=>
  simp only[dC] at hk
  simp+decide only[st,A5,Qn,Qm,Ql,Qk,Qj,Qi,Qh,hc,n1,n4,hk,e1,e2,bG,AV.strip,AV.bH,AV.fZ,pW,t4]
  intro b hb
  simp+decide only[st,aM b hb,nn b hb]
 |some t=>
  simp only[dC] at hk
  have lu:t.enc.cells=[.vs (dY t.l) .ao, .int .i64 t.n]:=rfl
  have Fp:AV.agg [.vs (dY t.l) .ao, .int .i64 t.n]=t.enc:=rfl
  simp+decide only[st,A5,Qn,Qm,Ql,Qk,Qj,Qi,Qh,hc,n1,n4,hk,e1,e2,bG,lu,AV.strip,AV.bH,AV.fZ,F8,pW,Tb.enc]
  intro b hb
  simp+decide only[st,aM b hb,nn b hb]
theorem Gb {id:Int} {t:Tb} (e:eR ts id=some t): ∃x∈ts,x.1=id/\x.2=t:=by
 unfold eR at e
 obtain⟨x,h1,h2⟩:=Option.map_eq_some_iff.1 e
 exact⟨x,List.mem_of_find?_eq_some h1,by have:=List.find?_some h1;simp at this;exact this.symm,h2⟩
theorem ee.small (S:ee h bs bm bl bp fs ts) {id:Int} {t:Tb} (e:eR ts id=some t):t.n<=64:=by
 obtain⟨x,h1,_,rfl⟩:=Gb e
 exact(S.tn x h1).1
theorem ee.Tc (S:ee h bs bm bl bp fs ts) {id:Int} {t:Tb} (e:eR ts id=some t):t.l.length=(t.n+15)/16:=by
 obtain⟨x,h1,_,rfl⟩:=Gb e
 exact(S.tn x h1).2
def ic (ts:iD) (id off n:Int):Option Tb×Int:=match eR ts id with
 |none=>(none,7)
 |some t=>if off<0\/n<0\/(t.n:Int)<off\/(t.n:Int)-off<n then(none,11) else(some t,0)
def ti:Option Tb->AV
 |none=>t4
 |some t=>t.enc
theorem ak3 {p:Nat->Bool} {o:Option Tb}:(ti o).bD p=true:=by
 cases o
 ·rfl
 ·exact Tb.Yy
theorem FQ (ok:ax P tb) (S:ee h bs bm bl bp fs ts) (id off n:Int):an P 71 [.ptr bs 0, .int .u64 id, .int .i64 off, .int .i64 n] h (.ay [ti (ic ts id off n).1, .int .i64 (ic ts id off n).2]) h:=by
 have mF:=fun h' (S':ee h' bs bm bl bp fs ts)=>LP ok S' id
 have aM: ∀b,b<h.next-> ¬b=h.next:=fun b hb=>by omega
 have nn: ∀b,b<h.next-> ¬b=h.next+1:=fun b hb=>by omega
 have e1: ¬h.next=h.next+1:=by omega
 have e2: ¬h.next+1=h.next:=by omega
 have S1:ee (h.at h.next (.cells [.vs [] .full, .int .i64 0])) bs bm bl bp fs ts:=
  {S with top:=by rw[aa.HT,if_neg (aM _ S.l1)];exact S.top
          mem:={S.mem with top:=by rw[aa.HT,if_neg (aM _ S.l2)];exact S.mem.top,row:=by rw[aa.HT,if_neg (aM _ S.l3)];exact S.mem.row}
          map:=by rw[aa.HT,if_neg (aM _ S.l4)];exact S.map
          l1:=by rw[aa.GX];have:=S.l1;omega
          l2:=by rw[aa.GX];have:=S.l2;omega
          l3:=by rw[aa.GX];have:=S.l3;omega
          l4:=by rw[aa.GX];have:=S.l4;omega}
 refine ok.eW (rf:=A7) rfl (Nat.le_of_ble_eq_true rfl) (by simp only[AV.bD,AV.b8,ak3,Bool.and_self]) ?_
 unfold ic
 cases dC:eR ts id with
 |none=>
  simp only[dC,pW] at mF
  simp+decide only[st,A7,QH,QG,QF,QE,zO,QD,QC]
  refine au (mF _ S1) ?_
  simp+decide only[st,e1,e2,t4,bG,AV.strip,AV.bH,AV.fZ,ti]
  intro b hb
  simp+decide only[st,aM b hb,nn b hb]
 |some t=>
  have xS:=S.small dC
  simp only[dC,pW] at mF
  have lu:t.enc.cells=[.vs (dY t.l) .ao, .int .i64 t.n]:=rfl
  simp+decide only[st,A7,QH,QG,QF,QE,QD,QC]
  refine au (mF _ S1) ?_
  simp+decide only[st,e1,e2,lu]
  refine BF (Q:=fun ρ'=>ρ' 8= .ptr h.next 0/\ρ' 10= .ptr (h.next+1) 0/\ρ' 23= .bool (decide (off<0\/n<0\/(t.n:Int)<off\/(t.n:Int)-off<n))) ?_ ?_
  ·by_cases h1:off<0
   ·simp+decide only[st,zO,e1,e2,h1,true_or]
   ·by_cases h2:n<0
    ·simp+decide only[st,zO,e1,e2,h1,h2,true_or,or_true]
    ·by_cases h3:(t.n:Int)<off
     ·simp+decide only[st,zO,e1,e2,h1,h2,h3,true_or,or_true]
     ·have tz:IntKind.wrap .i64 ((t.n:Int)-off)=(t.n:Int)-off:=bu (by omega) (by omega)
      simp+decide only[st,zO,e1,e2,h1,h2,h3,false_or,tz]
  ·rintro ρ' ⟨q8,J4,q23⟩
   by_cases hc:off<0\/n<0\/(t.n:Int)<off\/(t.n:Int)-off<n
   ·simp+decide only[st,q8,J4,q23,hc,e1,e2,t4,bG,AV.strip,AV.bH,AV.fZ,ti]
    intro b hb
    simp+decide only[st,aM b hb,nn b hb]
   ·simp+decide only[st,q8,J4,q23,hc,e1,e2,bG,AV.strip,AV.bH,AV.fZ,F8,ti,Tb.enc]
    intro b hb
    simp+decide only[st,aM b hb,nn b hb]
theorem ajc (ok:ax P tb) (S:ee h bs bm bl bp fs ts) (id:Int):an P 47 [.ptr bs 0, .int .u64 id] h (match eR ts id with|some t=> .ay [.int .i64 t.n, .int .i64 0]|none=> .ay [.int .i64 0, .int .i64 7]) h:=by
 have mF:=LP ok S id
 have aM: ∀b,b<h.next-> ¬b=h.next:=fun b hb=>by omega
 refine ok.keeps (rf:=Ba) rfl (Nat.le_of_ble_eq_true rfl) (by split<;>rfl) ?_
 cases dC:eR ts id with
 |none=>
  simp only[dC,pW] at mF
  simp+decide only[st,Ba,RS,RR,RQ]
  refine au mF ?_
  simp+decide only[st,t4]
  intro b hb
  simp+decide only[st,aM b hb]
 |some t=>
  simp only[dC,pW] at mF
  have lu:t.enc.cells=[.vs (dY t.l) .ao, .int .i64 t.n]:=rfl
  simp+decide only[st,Ba,RS,RR,RQ]
  refine au mF ?_
  simp+decide only[st,lu]
  intro b hb
  simp+decide only[st,aM b hb]
theorem ee.clean (S:ee h bs bm bl bp fs ts) (n:Nat):ee (h.clean n) bs bm bl bp fs ts:=
 {S with top:=by simp only[aa.clean];rw[if_pos S.l1];exact S.top
         mem:={S.mem with top:=by simp only[aa.clean];rw[if_pos S.l2];exact S.mem.top,row:=by simp only[aa.clean];rw[if_pos S.l3];exact S.mem.row}
         map:=by simp only[aa.clean];rw[if_pos S.l4];exact S.map
         l1:=Nat.lt_of_lt_of_le S.l1 (Nat.le_add_right _ _)
         l2:=Nat.lt_of_lt_of_le S.l2 (Nat.le_add_right _ _)
         l3:=Nat.lt_of_lt_of_le S.l3 (Nat.le_add_right _ _)
         l4:=Nat.lt_of_lt_of_le S.l4 (Nat.le_add_right _ _)}
theorem ama {fs:List Fr}:dV fs<=fs.length:=List.countP_le_length
theorem ahK (ok:ax P tb) (S:ee h bs bm bl bp fs ts):an P 69 [.ptr bs 0] h (.int .i64 ((fs.length-dV fs:Nat):Int)) h:=by
 have S1:=S.clean 12
 have hc:=av S1.top
 have xS:=S.mem.small
 have hul:=ama (fs:=fs)
 have hlen:=akb ok S1.mem
 have Aw:=al9 ok S1.mem ⟨S1.l2,S1.l3⟩
 have hw:IntKind.wrap .i64 ((fs.length:Int)-(dV fs:Int))=((fs.length-dV fs:Nat):Int):=by rw[bu]<;>omega
 refine ok.keeps (rf:=FF) rfl (Nat.le_of_ble_eq_true rfl) rfl ?_
 simp+decide only[st,FF,adV,adU,adT,adS]
 refine yO ?_
 simp only[List.length_cons,List.length_nil,Nat.zero_add,Nat.reduceAdd]
 simp+decide only[st,hc]
 refine gX hlen (by simp+decide only[st]) ?_
 simp+decide only[st,hc,S.l1]
 refine gX Aw (by simp+decide only[st]) ?_
 simp+decide only[st,hw]
 intro b hb
 simp+decide only[st,hb]
theorem ee.bN (S:ee h bs bm bl bp fs ts) {h':aa} (hn:h.next<=h'.next) (hk: ∀b,b<h.next->h'.get b=h.get b):ee h' bs bm bl bp fs ts:=
 {S with top:=by rw[hk _ S.l1];exact S.top
         mem:={S.mem with top:=by rw[hk _ S.l2];exact S.mem.top,row:=by rw[hk _ S.l3];exact S.mem.row}
         map:=by rw[hk _ S.l4];exact S.map
         l1:=Nat.lt_of_lt_of_le S.l1 hn
         l2:=Nat.lt_of_lt_of_le S.l2 hn
         l3:=Nat.lt_of_lt_of_le S.l3 hn
         l4:=Nat.lt_of_lt_of_le S.l4 hn}
theorem ee.bL (S:ee h bs bm bl bp fs ts) {gs:List Fr} (h1:gs.length=fs.length) (h2: ∀f∈gs,f.b.length=16):ee (gv h bl gs) bs bm bl bp gs ts:=
 {S with top:=by simp only[gv,aa.set];rw[if_neg S.n2];exact S.top
         mem:=S.mem.kR h1 h2
         map:=by simp only[gv,aa.set];rw[if_neg S.n5];exact S.map}
theorem anj (ok:ax P tb) (h:aa) (n:Int): ∃bs bm bl bp h',an P 39 [.int .i64 n] h (.ptr bs 0) h'/\ee h' bs bm bl bp (List.replicate (uF n) F0) []/\
 h.next<=bs/\h.next<=bm/\h.next<=bl/\h.next<=bp/\h.next<=h'.next/\ ∀b,b<h.next->h'.get b=h.get b:=by
 obtain⟨bm,bl,h1,gh,M,g1,g2,g3,g4,g5,g6⟩:=amm ok h n
 refine⟨h1.next+1,bm,bl,h1.next,(h1.at h1.next (.map [])).at (h1.next+1) (.cells [.ptr bm 0, .map (some h1.next)]),?_,⟨?_,⟨?_,?_,M.ne,M.len,M.small⟩,?_,?_,?_,?_,?_,?_,?_,?_,?_,?_,?_⟩,?_,g1,g2,?_,?_,?_⟩
 ·refine ok.calls (rf:=FI) rfl (Nat.le_of_ble_eq_true rfl) ?_
  simp+decide only[st,FI,afn,afm]
  refine au gh ?_
  simp+decide only[st]
 ·simp[aa.at]
 ·simp only[aa.at];rw[if_neg (by omega),if_neg (by omega)];exact M.top
 ·simp only[aa.at];rw[if_neg (by omega),if_neg (by omega)];exact M.row
 ·simp[aa.at,mX]
 ·omega
 ·omega
 ·omega
 ·omega
 ·omega
 ·simp[aa.at]
 ·simp[aa.at];omega
 ·simp[aa.at];omega
 ·simp[aa.at];omega
 ·simp
 ·omega
 ·omega
 ·simp[aa.at];omega
 ·intro b hb
  simp only[aa.at]
  rw[if_neg (by omega),if_neg (by omega)]
  exact g6 b hb
def takeN (fs:List Fr):Nat->List Fr×List Nat
 |0=>(fs,[])
 |k+1=>(iq (takeN fs k).1,(takeN fs k).2++[(og (takeN fs k).1).getD 0])
theorem Bq {k:Nat}:(takeN fs k).1.length=fs.length/\(takeN fs k).2.length=k:=by
 induction k with
 |zero=>exact⟨rfl,rfl⟩
 |succ k ih=>
  simp only[takeN,Lt,List.length_append,List.length_singleton]
  omega
theorem amd (hl: ∀f∈fs,f.b.length=16) {k:Nat}: ∀f∈(takeN fs k).1,f.b.length=16:=by
 induction k with
 |zero=>exact hl
 |succ k ih=>exact LY ih
theorem KV (h:dV fs<fs.length): ∃i,og fs=some i/\dV (iq fs)=dV fs+1:=by
 cases hl:og fs with
 |none=>
  unfold og at hl
  rw[List.findIdx?_eq_none_iff] at hl
  have:dV fs=fs.length:=by
   unfold dV
   rw[List.countP_eq_length]
   intro x hx
   have:=hl x hx
   simpa using this
  omega
 |some i=>
  refine⟨i,rfl,?_⟩
  simp only[iq,hl]
  unfold og at hl
  rw[List.findIdx?_eq_some_iff_getElem] at hl
  obtain⟨hi,h1,_⟩:=hl
  have AJ:fs[i].taken=false:=by simpa using h1
  unfold dV
  rw[List.countP_set hi,AJ]
  simp
theorem Ll {k:Nat} (hk:k<=fs.length-dV fs):dV (takeN fs k).1=dV fs+k:=by
 induction k with
 |zero=>rfl
 |succ k ih=>
  have ih:=ih (by omega)
  have hl:=(Bq (fs:=fs) (k:=k)).1
  obtain⟨i,h1,h2⟩:=KV (fs:=(takeN fs k).1) (by omega)
  simp only[takeN]
  rw[h2,ih]
  omega
def gM (n:Int):Nat:=((n+15)/16).toNat
def lH (fs:List Fr) (ts:iD) (id n:Int):Int×List Fr×iD:=
 if n<0\/64<n then(1,fs,ts)
 else if(eR ts id).isSome then(1,fs,ts)
 else if fs.length-dV fs<gM n then(9,fs,ts)
 else(0,(takeN fs (gM n)).1,ts++[(id,⟨(takeN fs (gM n)).2,n.toNat⟩)])
theorem ai8 {id:Int} {v:AV} (hn:eR ts id=none):qT (.int .u64 id) v (mX ts)=some (mX ts++[(.int .u64 id,v)]):=by
 unfold qT
 rw[F9]
 have:rz ts id=none:=by
  unfold eR at hn
  unfold rz
  rw[List.findIdx?_eq_none_iff]
  intro x hx
  have:=List.find?_eq_none.1 (Option.map_eq_none_iff.1 hn) x hx
  simpa using this
 rw[this]
 rfl
theorem Gi {ρ:Env} {h:aa} {n id:Int} (q0:ρ 0= .ptr bs 0) (q1:ρ 1= .int .u64 id) (q2:ρ 2= .int .i64 n):
 exec P Jd ρ h (fun ρ' h'=>(ρ' 0= .ptr bs 0/\ρ' 1= .int .u64 id/\ρ' 2= .int .i64 n/\ρ' 22= .bool (decide (n<0\/64<n)))/\h'=h):=by
 by_cases h1:n<0
 ·simp+decide only[st,Jd,q0,q1,q2,h1,true_or]
 ·simp+decide only[st,Jd,q0,q1,q2,h1,false_or]
theorem aka (ok:ax P tb) (S:ee h bs bm bl bp fs ts) (id n:Int): ∃h',an P 42 [.ptr bs 0, .int .u64 id, .int .i64 n] h (.int .i64 (lH fs ts id n).1) h'/\
 (ee h' bs bm bl bp (lH fs ts id n).2.1 (lH fs ts id n).2.2/\h.next<=h'.next/\ ∀b,b<h.next->b≠bl->b≠bp->h'.get b=h.get b):=by
 have hc:=av S.top
 have Tm:=LV S.map
 have aM: ∀b,b<h.next-> ¬b=h.next:=fun b hb=>by omega
 have nn: ∀b,b<h.next-> ¬b=h.next+1:=fun b hb=>by omega
 have e1: ¬h.next=h.next+1:=by omega
 have n1: ¬bs=h.next:=by have:=S.l1;omega
 have n4: ¬bp=h.next:=by have:=S.l4;omega
 by_cases hn:n<0\/64<n
 ·have hR:lH fs ts id n=(1,fs,ts):=by simp[lH,hn]
  rw[hR]
  refine ok.dI (rf:=qG) rfl (Nat.le_of_ble_eq_true rfl) ?_
  simp+decide only[st,qG,DZ,DY,DX,DW,DV,DU,DT,DS,Ce,Cd,Cc,Cb,Ca,B9,B8,B7,B6]
  refine BF _ (Gi (bs:=bs) (id:=id) (n:=n) (by simp+decide only[st]) (by simp+decide only[st]) (by simp+decide only[st])) ?_
  rintro ρ1 ⟨q0,q1,q2,ql⟩
  rw[decide_eq_true hn] at ql
  simp+decide only[st,ql,jP]
  exact S
 obtain⟨n,rfl⟩: ∃k:Nat,n=k:=⟨n.toNat,by omega⟩
 have aur:n<=64:=by omega
 cases dC:eR ts id with
 |some t=>
  have hR:lH fs ts id n=(1,fs,ts):=by simp only[lH,if_neg hn,dC,Option.isSome,if_true]
  have tH:=Le (ts:=ts) (id:=id)
  rw[dC] at tH
  have lu:t.enc.cells=[.vs (dY t.l) .ao, .int .i64 t.n]:=rfl
  rw[hR]
  refine ok.dI (rf:=qG) rfl (Nat.le_of_ble_eq_true rfl) ?_
  simp+decide only[st,qG,DZ,DY,Jc,DX,DW,DV,DU,DT,DS,Ce,Cd,Cc,Cb,Ca,B9,B8,B7,B6]
  refine BF _ (Gi (bs:=bs) (id:=id) (n:=n) (by simp+decide only[st]) (by simp+decide only[st]) (by simp+decide only[st])) ?_
  rintro ρ1 ⟨q0,q1,q2,ql⟩
  rw[decide_eq_false hn] at ql
  simp+decide only[st,q0,q1,q2,ql,hc,Tm,tH,KZ,HV,lu,jP]
  refine⟨S.bN (by simp+decide only[st];omega) (fun b hb=>by simp+decide only[st,aM b hb]),by omega,fun b hb _ _=>?_⟩
  simp+decide only[st,aM b hb]
 |none=>
  have tH:=Le (ts:=ts) (id:=id)
  rw[dC] at tH
  have avi:gM n<=4:=by unfold gM;omega
  have avs:gM n<2^40:=by omega
  have qn:IntKind.wrap .i64 ((n:Int)+16)=(n:Int)+16:=bu (by omega) (by omega)
  have rS:IntKind.wrap .i64 ((n:Int)+16-1)=(n:Int)+15:=by rw[bu (by omega) (by omega)];omega
  have hq:((n:Int)+15).tdiv 16=(gM n:Int):=by rw[Int.tdiv_eq_ediv_of_nonneg (by omega)];unfold gM;omega
  have tz:=qZ (n:=gM n) (by omega)
  let h1:aa:=(h.at h.next (.cells [.vs [] .full, .int .i64 0])).set h.next (some (.cells [.vs [] .full, .int .i64 0]))
  have S1:ee h1 bs bm bl bp fs ts:=S.bN (by simp[h1,aa.at,aa.set]) (fun b hb=>by simp[h1,aa.at,aa.set,aM b hb])
  have fh:=ahK ok S1
  by_cases eY:fs.length-dV fs<gM n
  ·have hR:lH fs ts id n=(9,fs,ts):=by simp only[lH,if_neg hn,dC,Option.isSome,eY,if_true,Bool.false_eq_true,if_false]
   rw[hR]
   refine ok.dI (rf:=qG) rfl (Nat.le_of_ble_eq_true rfl) ?_
   simp+decide only[st,qG,DZ,DY,Jc,DX,DW,DV,DU,DT,DS,Ce,Cd,Cc,Cb,Ca,B9,B8,B7,B6]
   refine BF _ (Gi (bs:=bs) (id:=id) (n:=n) (by simp+decide only[st]) (by simp+decide only[st]) (by simp+decide only[st])) ?_
   rintro ρ1 ⟨q0,q1,q2,ql⟩
   rw[decide_eq_false hn] at ql
   simp+decide only[st,q0,q1,q2,ql,hc,Tm,tH,KZ,HV,qn,rS,hq,tz,n1,n4,Option.map_none]
   refine au fh ?_
   simp+decide only[st,eY,jP]
   refine⟨S1,by simp[h1,aa.at,aa.set],fun b hb _ _=>by simp[h1,aa.at,aa.set,aM b hb]⟩
  ·have hR:lH fs ts id n=(0,(takeN fs (gM n)).1,ts++[(id,⟨(takeN fs (gM n)).2,n⟩)]):=by simp only[lH,if_neg hn,dC,Option.isSome,eY,Bool.false_eq_true,if_false,Int.toNat_natCast]
   rw[hR]
   refine ok.dI (rf:=qG) rfl (Nat.le_of_ble_eq_true rfl) ?_
   simp+decide only[st,qG,DZ,DY,Jc,DX,DW,DV,DU,DT,DS,Ce,Cd,Cc,Cb,Ca,B9,B8,B7,B6]
   refine BF _ (Gi (bs:=bs) (id:=id) (n:=n) (by simp+decide only[st]) (by simp+decide only[st]) (by simp+decide only[st])) ?_
   rintro ρ1 ⟨q0,q1,q2,ql⟩
   rw[decide_eq_false hn] at ql
   simp+decide only[st,q0,q1,q2,ql,hc,Tm,tH,KZ,HV,qn,rS,hq,tz,n1,n4,Option.map_none]
   refine au fh ?_
   simp+decide only[st,q0,q1,q2,eY]
   have Tx:h1.next=h.next+1:=by simp only[h1,aa.at,aa.set];omega
   have cC: ∀b,b<h.next->h1.get b=h.get b:=fun b hb=>by simp[h1,aa.at,aa.set,aM b hb]
   rw[Tx]
   let I:Nat->Env->aa->Prop:=fun m ρ h'=> ∃i,i+m=gM n/\ρ 0= .ptr bs 0/\ρ 1= .int .u64 id/\ρ 10= .ptr (h.next+1) 0/\ρ 43= .int .i64 (gM n)/\ρ 44= .int .i64 i/\
    ee h' bs bm bl bp (takeN fs i).1 ts/\h.next+1<h'.next/\(∃a,h'.get (h.next+1)=some (.cells [a, .int .i64 n])/\pZ h.next h' a (dY (takeN fs i).2))/\ ∀b,b<h.next->b≠bl->h'.get b=h.get b
   refine dO I ?_ (gM n) ⟨0,by omega,by simp+decide only[st,q0],by simp+decide only[st,q1],by simp+decide only[st],by simp+decide only[st],by simp+decide only[st],S1.bN (by simp+decide only[st,Tx];omega) (fun b hb=>(by
    have: ¬b=h.next+1:=by omega
    simp+decide only[st,this])),by simp+decide only[st,Tx];omega,⟨.vs [] .full,by simp+decide only[st], .nil⟩,fun b hb _=>(by
    simp+decide only[st,nn b hb,cC b hb])⟩
   rintro m ρ h2 ⟨i,xY,r0,r1,gj,J2,Uk,Sp,aC,⟨a,hga,JQ⟩,gY⟩
   obtain⟨tl,rfl⟩:=JQ.vs
   have cQ:=av Sp.top
   by_cases hi:i<gM n
   ·have Aw:=Ll (fs:=fs) (k:=i) (by omega)
    have tG:=Bq (fs:=fs) (k:=i)
    obtain⟨f,hf1,hf2⟩:=KV (fs:=(takeN fs i).1) (by omega)
    have gU:takeN fs (i+1)=(iq (takeN fs i).1,(takeN fs i).2++[f]):=by simp only[takeN,hf1,Option.getD_some]
    have ht:=aiV ok Sp.mem
    rw[hf1] at ht
    have nU:=Sp.bL (gs:=iq (takeN fs i).1) Lt (LY Sp.mem.len)
    have Kh:(gv h2 bl (iq (takeN fs i).1)).next=h2.next:=rfl
    have nM: ∀b,b≠bl->(gv h2 bl (iq (takeN fs i).1)).get b=h2.get b:=fun b hb=>by simp only[gv,aa.set];rw[if_neg hb]
    have hgl:(gv h2 bl (iq (takeN fs i).1)).get bl≠some .tail:=by simp[gv,aa.set]
    generalize gv h2 bl (iq (takeN fs i).1)=h3 at*
    have kC: ∀x,h.next<=x->x≠bl:=fun x hx=>by have:=S.l3;omega
    have Tp:h3.get (h.next+1)=some (.cells [.vs (dY (takeN fs i).2) tl, .int .i64 n]):=by rw[nM _ (kC _ (by omega))];exact hga
    have asF:pZ h.next h3 (.vs (dY (takeN fs i).2) tl) (dY (takeN fs i).2):=by
     rcases JQ with⟨h5,h6⟩|⟨t0,h5,h6,h7,h8⟩
     ·exact .inl ⟨h5,h6⟩
     ·exact .inr ⟨t0,h5,by rw[nM _ (kC _ h7)];exact h6,h7,by omega⟩
    have gG:(dY (takeN fs i).2).length=i:=by simp[dY,tG.2]
    have hhd:dH 1 (dY (takeN fs i).2)=true:=by
     cases(takeN fs i).2<;>simp[dY,dH]
    obtain⟨a4,h4,ha4,PL,UU,AG,agX⟩:=ajI (bytes:=8) (sz:=1) (id:=h3.next) (ys:=[[.int .i64 f]]) asF (Nat.le_refl _) (by omega) (by simp) hhd (by simp only[gG,List.length_singleton];omega) (by simp only[gG,List.length_singleton];omega)
    have cu:dY (takeN fs i).2++[[.int .i64 (f:Int)]]=dY (takeN fs (i+1)).2:=by rw[gU];simp[dY]
    rw[cu] at PL
    obtain⟨tl4,rfl⟩:=PL.vs
    have ag1:h4.get (h.next+1)=some (.cells [.vs (dY (takeN fs i).2) tl, .int .i64 n]):=by rw[AG _ (by omega) (by rw[Tp];simp)];exact Tp
    have yb:=av ag1
    simp+decide only[st,r0,gj,J2,Uk,hi,cQ]
    refine au ht ?_
    simp+decide only[st,r0,gj,J2,Uk,cQ,av Tp,List.replicate,List.set,ha4,yb,dF (show i<2^61 by omega)]
    have sA:ee h4 bs bm bl bp (takeN fs (i+1)).1 ts:=by
     rw[gU]
     have Km: ∀b,b<h2.next->b<h.next\/h3.get b≠some .tail->h4.get b=h3.get b:=fun b hb hor=>by
      rcases hor with h|h
      ·exact agX b h
      ·exact AG b (by omega) h
     exact{nU with
      top:=by rw[Km _ Sp.l1 (.inl S.l1)];exact nU.top
      mem:={nU.mem with top:=by rw[Km _ Sp.l2 (.inl S.l2)];exact nU.mem.top,row:=by rw[Km _ Sp.l3 (.inl S.l3)];exact nU.mem.row}
      map:=by rw[Km _ Sp.l4 (.inl S.l4)];exact nU.map
      l1:=by have:=nU.l1;omega
      l2:=by have:=nU.l2;omega
      l3:=by have:=nU.l3;omega
      l4:=by have:=nU.l4;omega}
    have hold: ∀b,b<h.next-> ¬b=h.next+1:=fun b hb=>by omega
    refine⟨m-1,by omega,i+1,by omega,by simp+decide only[st,r0],by simp+decide only[st,r1],by simp+decide only[st,gj],by simp+decide only[st,J2],by simp+decide only[st],?_,by simp+decide only[st];omega,⟨.vs (dY (takeN fs (i+1)).2) tl4,by simp+decide only[st],PL.of (by simp+decide only[st]) (fun t0 UJ=>?_)⟩,fun b hb b9=>?_⟩
    ·exact{sA with
      top:=by simp+decide only[st,hold _ S.l1];exact sA.top
      mem:={sA.mem with top:=by simp+decide only[st,hold _ S.l2];exact sA.mem.top,row:=by simp+decide only[st,hold _ S.l3];exact sA.mem.row}
      map:=by simp+decide only[st,hold _ S.l4];exact sA.map
      l1:=sA.l1,l2:=sA.l2,l3:=sA.l3,l4:=sA.l4}
    ·have: ¬t0=h.next+1:=fun e=>by rw[e,ag1] at UJ;cases UJ
     simp+decide only[st,this]
     exact UJ
    ·simp+decide only[st,hold b hb]
     rw[agX b hb,nM b b9]
     exact gY b hb b9
   ·have cL:i=gM n:=by omega
    subst cL
    have aub:AV.strip (.agg [.vs (dY (takeN fs (gM n)).2) tl, .int .i64 n])=(⟨(takeN fs (gM n)).2,n⟩:Tb).enc:=by simp only[AV.strip,AV.bH,F8,Tb.enc]
    have lJ:=ai8 (ts:=ts) (v:=(⟨(takeN fs (gM n)).2,n⟩:Tb).enc) dC
    simp+decide only[st,r0,gj,J2,Uk,hi,cQ]
    refine GC rfl ?_
    have l1':=Sp.l1
    have l4':=Sp.l4
    simp+decide only[st,r0,r1,gj,cQ,l1',aC,av hga,LV Sp.map,l4',aub,lJ]
    refine⟨(jv l4').2 (by simp+decide only[st]),?_⟩
    simp+decide only[st,jP]
    refine⟨?_,?_,fun b hb ew b9=>?_⟩
    ·have Sc:=Sp.clean 7
     exact{Sc with
      top:=by simp+decide only[st,S.n3,l1'];exact Sp.top
      mem:={Sc.mem with top:=by simp+decide only[st,S.n4.symm,Sp.l2];exact Sp.mem.top,row:=by simp+decide only[st,S.n5.symm,Sp.l3];exact Sp.mem.row}
      map:=by simp+decide only[st,mX,List.map_append,List.map_cons,List.map_nil]
      l1:=Sc.l1,l2:=Sc.l2,l3:=Sc.l3,l4:=Sc.l4
      tn:=fun e he=>by
       rcases List.mem_append.1 he with he|he
       ·exact S.tn e he
       ·simp at he;subst he;exact⟨aur,by show(takeN fs (gM n)).2.length=(n+15)/16;rw[Bq.2];unfold gM;omega⟩}
    ·omega
    ·have:b<h2.next:=by omega
     simp+decide only[st,b9,this]
     exact gY b hb ew
end
section
open Go
variable {P:Program} {h:aa} {bs bm bl bp:Nat} {fs:List Fr} {ts:iD}
def lp (fs:List Fr) (l:List Nat):List Fr:=l.foldl (fun fs (f:Nat)=>ji fs f) fs
def uW (ts:iD) (id:Int):iD:=match rz ts id with
 |some i=>ts.eraseIdx i
 |none=>ts
theorem Wo: ∀{l:List Nat} {fs:List Fr},(lp fs l).length=fs.length
 |[],_=>rfl
 |f::l,fs=>by
  have:=Wo (l:=l) (fs:=ji fs f)
  simp only[lp,List.foldl_cons,Lu] at this ⊢
  exact this
theorem Xu: ∀{l:List Nat} {fs:List Fr},(∀f∈fs,f.b.length=16)-> ∀f∈lp fs l,f.b.length=16
 |[],_,h=>h
 |f::l,fs,h=>Xu (l:=l) (fs:=ji fs f) (LZ h)
theorem LC {α β:Type} {f:α->β}: ∀{l:List α} {i:Nat},(l.map f).eraseIdx i=(l.eraseIdx i).map f
 |[],i=>by simp
 |a::l,0=>by simp
 |a::l,i+1=>by simp[LC (l:=l) (i:=i)]
def pN (fs:List Fr) (ts:iD) (id:Int):Int×List Fr×iD:=match eR ts id with
 |none=>(7,fs,ts)
 |some t=>(0,lp fs t.l,uW ts id)
theorem ail {id:Int} {t:Tb} (hf:eR ts id=some t):qU (.int .u64 id) (mX ts)=some (mX (uW ts id)):=by
 unfold qU
 rw[F9]
 have: ∃i,rz ts id=some i:=by
  cases ht:rz ts id with
  |some i=>exact⟨i,rfl⟩
  |none=>
   unfold rz at ht
   unfold eR at hf
   rw[List.findIdx?_eq_none_iff] at ht
   obtain⟨x,h1,_⟩:=Option.map_eq_some_iff.1 hf
   have h2:=List.find?_some h1
   have h3:=ht x (List.mem_of_find?_eq_some h1)
   rw[h2] at h3;cases h3
 obtain⟨i,hi⟩:=this
 simp only[uW,hi,Option.map_some,Nat.add_zero,mX,Option.some.injEq]
 rw[LC]
theorem ak0 {id:Int} {e:Int×Tb} (he:e∈uW ts id):e∈ts:=by
 unfold uW at he
 split at he
 ·exact List.mem_of_mem_eraseIdx he
 ·exact he
theorem ah7 (ok:ax P tb) (S:ee h bs bm bl bp fs ts) (id:Int): ∃h',an P 146 [.ptr bs 0, .int .u64 id] h (.int .i64 (pN fs ts id).1) h'/\
 (ee h' bs bm bl bp (pN fs ts id).2.1 (pN fs ts id).2.2/\h.next<=h'.next/\ ∀b,b<h.next->b≠bl->b≠bp->h'.get b=h.get b):=by
 have mF:=LP ok S id
 have aM: ∀b,b<h.next-> ¬b=h.next:=fun b hb=>by omega
 cases dC:eR ts id with
 |none=>
  have hR:pN fs ts id=(7,fs,ts):=by simp only[pN,dC]
  rw[dC] at mF
  rw[hR]
  refine ok.dI (rf:=xy) rfl (Nat.le_of_ble_eq_true rfl) ?_
  simp+decide only[st,xy,Oq,Oo,On,Om,Ol,Ok,Oj,Oi,Oh,Og,Mk]
  refine au mF ?_
  simp+decide only[st,pW,t4,jP]
  refine⟨S.bN (by simp+decide only[st];omega) (fun b hb=>by simp+decide only[st,aM b hb]),by omega,fun b hb _ _=>?_⟩
  simp+decide only[st,aM b hb]
 |some t=>
  have hR:pN fs ts id=(0,lp fs t.l,uW ts id):=by simp only[pN,dC]
  rw[dC] at mF
  rw[hR]
  have lu:t.enc.cells=[.vs (dY t.l) .ao, .int .i64 t.n]:=rfl
  have gG:(dY t.l).length=t.l.length:=by simp[dY]
  have kU:=S.Tc dC
  have xS:=S.small dC
  refine ok.dI (rf:=xy) rfl (Nat.le_of_ble_eq_true rfl) ?_
  simp+decide only[st,xy,Oq,Oo,On,Om,Ol,Ok,Oj,Oi,Oh,Og,Mk]
  refine au mF ?_
  simp+decide only[st,pW,lu,gG]
  let I:Nat->Env->aa->Prop:=fun m ρ h'=> ∃i,i+m=t.l.length/\ρ 0= .ptr bs 0/\ρ 1= .int .u64 id/\ρ 19= .vs (dY t.l) .ao/\ρ 20= .int .i64 t.l.length/\ρ 21= .int .i64 i/\
   ee h' bs bm bl bp (lp fs (t.l.take i)) ts/\h.next<=h'.next/\ ∀b,b<h.next->b≠bl->b≠bp->h'.get b=h.get b
  refine dO I ?_ t.l.length ⟨0,by omega,by simp+decide only[st],by simp+decide only[st],by simp+decide only[st],by simp+decide only[st],by simp+decide only[st],S.bN (by simp+decide only[st];omega) (fun b hb=>(by simp+decide only[st,aM b hb])),by simp+decide only[st];omega,fun b hb _ _=>(by simp+decide only[st,aM b hb])⟩
  rintro m ρ h2 ⟨i,xY,r0,r1,Au,qk,oT,Sp,gU,gY⟩
  have hc:=av Sp.top
  by_cases hi:i<t.l.length
  ·have hg:(dY t.l)[i]? =some [.int .i64 (t.l[i]:Int)]:=by simp[dY,List.getElem?_eq_getElem hi]
   have fh:=ajn ok Sp.mem Sp.l3 (t.l[i]:Int)
   have hfa:lp fs (t.l.take (i+1))=ji (lp fs (t.l.take i)) (t.l[i]:Int):=by
    rw[<-List.take_append_getElem hi];simp only[lp,List.foldl_append,List.foldl_cons,List.foldl_nil]
   have nU:=Sp.bL (gs:=ji (lp fs (t.l.take i)) (t.l[i]:Int)) Lu (LZ Sp.mem.len)
   rw[<-hfa] at nU fh
   simp+decide only[st,r0,r1,Au,qk,oT,hi,hg,hc]
   refine au fh ?_
   simp+decide only[st,oT,dF (show i<2^61 by omega)]
   ·refine⟨m-1,by omega,i+1,by omega,by simp+decide only[st,r0],by simp+decide only[st,r1],by simp+decide only[st,Au],by simp+decide only[st,qk],by simp+decide only[st],nU,gU,fun b hb h1 h2=>?_⟩
    simp only[gv,aa.set]
    rw[if_neg h1]
    exact gY b hb h1 h2
  ·have cL:i=t.l.length:=by omega
   subst cL
   rw[List.take_length] at Sp
   simp+decide only[st,r0,r1,Au,qk,oT,hi,hc,LV Sp.map,ail dC,jP]
   refine⟨{Sp with
    top:=by simp+decide only[st,Sp.n3];exact Sp.top
    mem:={Sp.mem with top:=by simp+decide only[st,Sp.n4.symm];exact Sp.mem.top,row:=by simp+decide only[st,Sp.n5.symm];exact Sp.mem.row}
    map:=by simp+decide only[st]
    l1:=Sp.l1,l2:=Sp.l2,l3:=Sp.l3,l4:=Sp.l4
    tn:=fun e he=>S.tn e (ak0 he)},gU,fun b hb h1 h2=>?_⟩
   simp+decide only[st,h2]
   exact gY b hb h1 h2
def lP (fs:List Fr) (t:Tb) (j:Nat):Int:=(yY fs ((t.l[j/16]?.getD 0:Nat):Int) ((j%16:Nat):Int)).1
def gR (fs:List Fr) (t:Tb) (off n:Nat):List Int:=(List.range n).map fun j=>lP fs t (off+j)
def kQ (l:List Int):List (List AV):=l.map fun b=>[AV.int .u8 b]
theorem yQ {t:Tb} {off n:Nat}:(gR fs t off n).length=n:=by simp[gR]
theorem aiY (ok:ax P tb) (S:ee h bs bm bl bp fs ts) {id:Int} {off n:Nat} {t:Tb} (aB:ic ts id off n=(some t,0)): ∃bo h',an P 48 [.ptr bs 0, .int .u64 id, .int .i64 off, .int .i64 n] h (.ay [.rs bo 0 n 1, .int .i64 0]) h'/\
 (h'.get bo=some (.cells ((gR fs t off n).map (.int .u8)))/\h.next<=bo/\bo<h'.next/\ ∀b,b<h.next->h'.get b=h.get b):=by
 have lT:=FQ ok S id off n
 rw[aB] at lT
 have dC:eR ts id=some t:=by
  unfold ic at aB
  split at aB
  ·cases aB
  ·rename_i t' ht
   split at aB
   ·cases aB
   ·cases aB;exact ht
 have aue:off+n<=t.n:=by
  unfold ic at aB
  rw[dC] at aB
  simp only at aB
  split at aB
  ·cases aB
  ·omega
 have xS:=S.small dC
 have kU:=S.Tc dC
 have lu:t.enc.cells=[.vs (dY t.l) .ao, .int .i64 t.n]:=rfl
 have tF:ll 1 (.int .i64 n) (.int .i64 n)=some n:=by
  unfold ll
  simp only[]
  rw[if_pos ⟨by omega,trivial,by omega,by omega⟩]
  simp
 have aM: ∀b,b<h.next-> ¬b=h.next:=fun b hb=>by omega
 have nn: ∀b,b<h.next-> ¬b=h.next+1:=fun b hb=>by omega
 have e1: ¬h.next=h.next+1:=by omega
 have e2: ¬h.next+1=h.next:=by omega
 refine⟨h.next+1,ok.dI (rf:=qE) rfl (Nat.le_of_ble_eq_true rfl) ?_⟩
 simp+decide only[st,qE,wT]
 let J:Nat->Env->aa->Prop:=fun m ρ h'=> ∃i,i+m=n/\ρ 0= .ptr bs 0/\ρ 2= .int .i64 off/\ρ 3= .int .i64 n/\ρ 10= .ptr h.next 0/\ρ 12= .rs (h.next+1) 0 n 1/\ρ 13= .int .i64 i/\
  h.next+1<h'.next/\h'.get h.next=some (.cells [.vs (dY t.l) .ao, .int .i64 t.n])/\h'.get (h.next+1)=some (.cells ((gR fs t off i).map (.int .u8)++List.replicate (n-i) (.int .u8 0)))/\ ∀b,b<h.next->h'.get b=h.get b
 refine l8 0 rfl rfl J (fun l' ρ h hk=>hk) ?_ ?_
 ·simp+decide only[st,qE,wT,DI,DH,DG,DF,DE,DD,DC,DB,DA,B5,j9]
  refine au lT ?_
  simp+decide only[st,ti,lu,tF,List.length_cons,List.length_nil]
  refine⟨n,0,by omega,by simp+decide only[st],by simp+decide only[st],by simp+decide only[st],by simp+decide only[st],by simp+decide only[st],by simp+decide only[st],by simp+decide only[st];omega,?_,?_,fun b hb=>?_⟩
  ·simp+decide only[st,e1]
  ·have:(List.replicate n [AV.int .u8 0]).flatten=List.replicate n (.int .u8 0):=by simp
   simp+decide only[st,this,gR,List.range_zero,List.map_nil,Nat.sub_zero]
  ·simp+decide only[st,aM b hb,nn b hb]
 ·rintro m ρ h2 ⟨i,xY,r0,r2,r3,gj,gS,eG,aC,cC,nM,gY⟩
  have S2:=S.bN (h':=h2) (by omega) gY
  have hc:=av S2.top
  by_cases hi:i<n
  ·have hq:((off:Int)+(i:Int)).tdiv 16=(((off+i)/16:Nat):Int):=by rw[Int.tdiv_eq_ediv_of_nonneg (by omega)];omega
   have hm:((off:Int)+(i:Int)).tmod 16=(((off+i)%16:Nat):Int):=by rw[Int.tmod_eq_emod_of_nonneg (by omega)];omega
   have hw:IntKind.wrap .i64 ((off:Int)+(i:Int))=(off:Int)+(i:Int):=bu (by omega) (by omega)
   have rS:=qZ (n:=(off+i)/16) (by omega)
   have iT:(off+i)/16<t.l.length:=by omega
   have cu:(dY t.l)[(off+i)/16]? =some [.int .i64 (t.l[(off+i)/16]:Int)]:=by simp[dY,List.getElem?_eq_getElem iT]
   have S3:=S2.clean 20
   have hld:=aja ok S3.mem S3.l3 (t.l[(off+i)/16]:Int) (((off+i)%16:Nat):Int)
   have jJ:lP fs t (off+i)=(yY fs (t.l[(off+i)/16]:Int) (((off+i)%16:Nat):Int)).1:=by simp only[lP,List.getElem?_eq_getElem iT,Option.getD_some]
   rw[<-jJ] at hld
   have l1:=S2.l1
   have vA:h.next<h2.next:=by omega
   simp+decide only[st,qE,wT,DI,DH,DG,DF,DE,DD,DC,DB,DA,B5,r0,r2,r3,gj,gS,eG,hi,hw]
   refine GC rfl ?_
   simp+decide only[st,r0,r2,r3,gj,gS,eG,hc,l1,vA,av cC,hq,rS,cu,List.length_cons,List.length_nil]
   refine eX hld (by simp+decide only[st]) ?_
   have avE:(i:Int)<(n:Nat):=by omega
   have asv:((gR fs t off i).map (AV.int .u8)++List.replicate (n-i) (AV.int .u8 0)).length=n:=by simp[yQ];omega
   have i5:i+1<=n:=by omega
   have mr:h.next+1<h2.next:=aC
   simp+decide only[st,r0,r2,r3,gj,gS,eG,hi,Nat.mul_one,mr,av nM,asv,i5,dF (show i<2^61 by omega)]
   have hA:((gR fs t off i).map (AV.int .u8)).length=i:=by simp[yQ]
   have eP:List.take i ((gR fs t off i).map (AV.int .u8)++List.replicate (n-i) (AV.int .u8 0))++[AV.int .u8 (lP fs t (off+i))]++List.drop (i+1) ((gR fs t off i).map (AV.int .u8)++List.replicate (n-i) (AV.int .u8 0))=
    (gR fs t off (i+1)).map (AV.int .u8)++List.replicate (n-(i+1)) (AV.int .u8 0):=by
    rw[List.take_append_of_le_length (by omega),List.take_of_length_le (by omega),List.drop_append,List.drop_eq_nil_of_le (by omega),List.nil_append,hA,List.drop_replicate]
    simp only[gR,List.range_succ,List.map_append,List.map_cons,List.map_nil]
    congr 2;omega
   refine⟨(jv aC).2 (by simp+decide only[st]),m-1,by omega,i+1,by omega,by simp+decide only[st,r0],by simp+decide only[st,r2],by simp+decide only[st,r3],by simp+decide only[st,gj],by simp+decide only[st,gS],by simp+decide only[st],by simp+decide only[st];omega,?_,?_,fun b hb=>?_⟩
   ·simp+decide only[st,e1,vA]
    exact cC
   ·simp+decide only[st,eP]
   ·have:b<h2.next:=by omega
    simp+decide only[st,nn b hb,this]
    exact gY b hb
  ·have cL:i=n:=by omega
   subst cL
   rw[Nat.sub_self,List.replicate_zero,List.append_nil] at nM
   simp+decide only[st,qE,wT,DI,DH,DG,DF,DE,DD,DC,DB,DA,B5,r0,r2,r3,gj,gS,eG,hi,jX,jP]
   exact⟨nM,by omega,aC,gY⟩
theorem alb (ok:ax P tb) (S:ee h bs bm bl bp fs ts) {id:Int} {off n:Nat} {t:Tb} (aB:ic ts id off n=(some t,0)):an P 48 [.ptr bs 0, .int .u64 id, .int .i64 off, .int .i64 n] h (.ay [.vs (kQ (gR fs t off n)) .ao, .int .i64 0]) h:=by
 obtain⟨bo,h',hc,hg,h1,h2,h3⟩:=aiY ok S aB
 have asr: ∀(l:List Int),rowsOf (l.map (AV.int .u8)) 0 1 l.length=kQ l:=by
  have gen: ∀(l:List Int) (pre:List AV),rowsOf (pre++l.map (AV.int .u8)) pre.length 1 l.length=kQ l:=by
   intro l
   induction l with
   |nil=>intro pre;rfl
   |cons x xs ih=>
    intro pre
    simp only[List.length_cons,rowsOf,List.map_cons,List.drop_left]
    have:=ih (pre++[AV.int .u8 x])
    simp only[List.append_assoc,List.singleton_append,List.length_append,List.length_singleton] at this
    rw[this]
    rfl
  intro l
  simpa using gen l []
 have pj:AV.fv bo ((gR fs t off n).map (AV.int .u8)) (.ay [.rs bo 0 n 1, .int .i64 0])= .ay [.vs (kQ (gR fs t off n)) .ao, .int .i64 0]:=by
  have:=asr (gR fs t off n)
  rw[yQ] at this
  simp only[AV.fv,AV.qd,if_true]
  rw[if_pos (by simp[yQ]),this]
 have gD: ∀p:Nat->Bool,AV.gZ p (kQ (gR fs t off n))=true:=by
  intro p
  induction gR fs t off n with
  |nil=>rfl
  |cons x xs ih=>simp only[kQ,List.map_cons,AV.gZ,AV.b8,AV.bD,Bool.and_true,Bool.true_and] at ih ⊢;exact ih
 have fh:=hc.freeze hg h1 (by rw[pj];simp only[AV.bD,AV.b8,gD,Bool.and_self])
 rw[pj] at fh
 refine fh.restore (fun b hb=>?_) (by simp only[AV.bD,AV.b8,gD,Bool.and_self])
 simp only[aa.set]
 rw[if_neg (by omega)]
 exact h3 b hb
theorem aj2 (ok:ax P tb) (S:ee h bs bm bl bp fs ts) {id off n e:Int} (aB:ic ts id off n=(none,e)) (he:e≠0):an P 48 [.ptr bs 0, .int .u64 id, .int .i64 off, .int .i64 n] h (.ay [.vs [] .full, .int .i64 e]) h:=by
 have lT:=FQ ok S id off n
 rw[aB] at lT
 have aM: ∀b,b<h.next-> ¬b=h.next:=fun b hb=>by omega
 refine ok.keeps (rf:=qE) rfl (Nat.le_of_ble_eq_true rfl) rfl ?_
 simp+decide only[st,qE,wT]
 refine l8 0 rfl rfl (fun _ _ _=>False) (fun l' ρ h hk=>hk) ?_ (fun _ _ _ hf=>hf.elim)
 simp+decide only[st,qE,wT,DI,DH,DG,DF,DE,DD,DC,DB,DA,B5,j9]
 refine au lT ?_
 simp+decide only[st,ti,t4,he]
 intro b hb
 simp+decide only[st,aM b hb]
def tg (fs:List Fr) (t:Tb) (a:Nat) (v:Int):List Fr:=pM fs ((t.l[a/16]?.getD 0:Nat):Int) ((a%16:Nat):Int) v
def i6 (fs:List Fr) (t:Tb) (off:Nat) (bs:List Int):Nat->List Fr
 |0=>fs
 |i+1=>tg (i6 fs t off bs i) t (off+i) (bs[i]?.getD 0)
theorem L6 {t:Tb} {off:Nat} {bs:List Int} {i:Nat}:(i6 fs t off bs i).length=fs.length:=by
 induction i with
 |zero=>rfl
 |succ i ih=>simp only[i6,tg,Wq,ih]
theorem acj {t:Tb} {off:Nat} {bs:List Int} {i:Nat} (hl: ∀f∈fs,f.b.length=16): ∀f∈i6 fs t off bs i,f.b.length=16:=by
 induction i with
 |zero=>exact hl
 |succ i ih=>exact Xv ih
theorem aiQ (ok:ax P tb) (S:ee h bs bm bl bp fs ts) {id off e:Int} {xs:List (List AV)} {tl:aG} (aB:ic ts id off xs.length=(none,e)) (he:e≠0):an P 43 [.ptr bs 0, .int .u64 id, .int .i64 off, .vs xs tl] h (.int .i64 e) h:=by
 have lT:=FQ ok S id off xs.length
 rw[aB] at lT
 have aM: ∀b,b<h.next-> ¬b=h.next:=fun b hb=>by omega
 refine ok.keeps (rf:=qF) rfl (Nat.le_of_ble_eq_true rfl) rfl ?_
 simp+decide only[st,qF,wU]
 refine l8 0 rfl rfl (fun _ _ _=>False) (fun l' ρ h hk=>hk) ?_ (fun _ _ _ hf=>hf.elim)
 simp+decide only[st,qF,wU,DR,DQ,DP,DO,DN,DM,DL,DK,DJ,j9]
 refine au lT ?_
 simp+decide only[st,ti,t4,he]
 intro b hb
 simp+decide only[st,aM b hb]
theorem ah6 (ok:ax P tb) (S:ee h bs bm bl bp fs ts) {id:Int} {off:Nat} {t:Tb} {vs:List Int} {tl:aG} (aB:ic ts id off vs.length=(some t,0)): ∃h',an P 43 [.ptr bs 0, .int .u64 id, .int .i64 off, .vs (kQ vs) tl] h (.int .i64 0) h'/\
 (ee h' bs bm bl bp (i6 fs t off vs vs.length) ts/\h.next<=h'.next/\ ∀b,b<h.next->b≠bl->h'.get b=h.get b):=by
 have lT:=FQ ok S id off vs.length
 rw[aB] at lT
 have kC:(kQ vs).length=vs.length:=by simp[kQ]
 have dC:eR ts id=some t:=by
  unfold ic at aB
  split at aB
  ·cases aB
  ·rename_i t' ht
   split at aB
   ·cases aB
   ·cases aB;exact ht
 have aue:off+vs.length<=t.n:=by
  unfold ic at aB
  rw[dC] at aB
  simp only at aB
  split at aB
  ·cases aB
  ·omega
 have xS:=S.small dC
 have kU:=S.Tc dC
 have lu:t.enc.cells=[.vs (dY t.l) .ao, .int .i64 t.n]:=rfl
 have aM: ∀b,b<h.next-> ¬b=h.next:=fun b hb=>by omega
 refine ok.dI (rf:=qF) rfl (Nat.le_of_ble_eq_true rfl) ?_
 simp+decide only[st,qF,wU]
 let J:Nat->Env->aa->Prop:=fun m ρ h'=> ∃i,i+m=vs.length/\ρ 0= .ptr bs 0/\ρ 2= .int .i64 off/\ρ 3= .vs (kQ vs) tl/\ρ 9= .ptr h.next 0/\ρ 11= .int .i64 i/\
  h.next<h'.next/\h'.get h.next=some (.cells [.vs (dY t.l) .ao, .int .i64 t.n])/\ee h' bs bm bl bp (i6 fs t off vs i) ts/\ ∀b,b<h.next->b≠bl->h'.get b=h.get b
 refine l8 0 rfl rfl J (fun l' ρ h hk=>hk) ?_ ?_
 ·simp+decide only[st,qF,wU,DR,DQ,DP,DO,DN,DM,DL,DK,DJ,j9,kC]
  refine au lT ?_
  simp+decide only[st,ti,lu]
  exact⟨vs.length,0,by omega,by simp+decide only[st],by simp+decide only[st],by simp+decide only[st],by simp+decide only[st],by simp+decide only[st],by simp+decide only[st];omega,by simp+decide only[st],S.bN (by simp+decide only[st];omega) (fun b hb=>(by simp+decide only[st,aM b hb])),fun b hb _=>(by simp+decide only[st,aM b hb])⟩
 ·rintro m ρ h2 ⟨i,xY,r0,r2,r3,r9,fc,aC,cC,Sp,gY⟩
  have hc:=av Sp.top
  by_cases hi:i<vs.length
  ·have hq:((off:Int)+(i:Int)).tdiv 16=(((off+i)/16:Nat):Int):=by rw[Int.tdiv_eq_ediv_of_nonneg (by omega)];omega
   have hm:((off:Int)+(i:Int)).tmod 16=(((off+i)%16:Nat):Int):=by rw[Int.tmod_eq_emod_of_nonneg (by omega)];omega
   have hw:IntKind.wrap .i64 ((off:Int)+(i:Int))=(off:Int)+(i:Int):=bu (by omega) (by omega)
   have rS:=qZ (n:=(off+i)/16) (by omega)
   have iT:(off+i)/16<t.l.length:=by omega
   have cu:(dY t.l)[(off+i)/16]? =some [.int .i64 (t.l[(off+i)/16]:Int)]:=by simp[dY,List.getElem?_eq_getElem iT]
   have hv:(kQ vs)[i]? =some [.int .u8 vs[i]]:=by simp[kQ,List.getElem?_eq_getElem hi]
   have S3:=Sp.clean 17
   have dD:=aia ok S3.mem S3.l3 (t.l[(off+i)/16]:Int) (((off+i)%16:Nat):Int) vs[i]
   have hwr:i6 fs t off vs (i+1)=pM (i6 fs t off vs i) (t.l[(off+i)/16]:Int) (((off+i)%16:Nat):Int) vs[i]:=by
    simp only[i6,tg,List.getElem?_eq_getElem iT,List.getElem?_eq_getElem hi,Option.getD_some]
   have S4:=S3.bL (gs:=i6 fs t off vs (i+1)) (by rw[L6,L6]) (acj S.mem.len)
   rw[<-hwr] at dD
   have l1:=Sp.l1
   have l3:=Sp.l3
   have mI:((off:Int)+(i:Int)).tmod 16=(((off+i)%16:Nat):Int):=hm
   simp+decide only[st,qF,wU,DR,DQ,DP,DO,DN,DM,DL,DK,DJ,r0,r2,r3,r9,fc,hi,hw,kC]
   refine GC rfl ?_
   simp+decide only[st,r0,r2,r3,r9,fc,hc,l1,aC,av cC,hq,rS,cu,hv,mI,List.length_cons,List.length_nil]
   refine eX dD ((jv l3).2 (by simp+decide only[st])) ?_
   simp+decide only[st,fc,dF (show i<2^61 by omega)]
   refine⟨m-1,by omega,i+1,by omega,by simp+decide only[st,r0],by simp+decide only[st,r2],by simp+decide only[st,r3],by simp+decide only[st,r9],by simp+decide only[st],?_,?_,S4,fun b hb h1=>?_⟩
   ·simp only[gv,aa.set,aa.clean];omega
   ·have:h.next≠bl:=by have:=S.l3;omega
    simp only[gv,aa.set,aa.clean]
    rw[if_neg this,if_pos aC]
    exact cC
   ·simp only[gv,aa.set,aa.clean]
    rw[if_neg h1,if_pos (by omega)]
    exact gY b hb h1
  ·have cL:i=vs.length:=by omega
   subst cL
   simp+decide only[st,qF,wU,DR,DQ,DP,DO,DN,DM,DL,DK,DJ,r0,r2,r3,r9,fc,hi,kC,jX,jP]
   exact⟨Sp,by omega,gY⟩
end
section
open Go
variable {fs:List Fr} {ts:iD}
def Valid (fs:List Fr) (l:List Nat):Prop:= ∀f∈l,∃x,fs[f]? =some x/\x.taken=true/\x.b.length=16
def wM (fs:List Fr) (f j:Nat):Int:=((fs[f]?).bind fun x=>x.b[j]?).getD 0
theorem v5 {t:Tb} {j:Nat} (hv:Valid fs t.l) (hj:j<16*t.l.length): ∃f,t.l[j/16]? =some f/\lP fs t j=wM fs f (j%16):=by
 have aC:j/16<t.l.length:=by omega
 have hg:=List.getElem?_eq_getElem aC
 obtain⟨x,h1,h2,h3⟩:=hv _ (List.getElem_mem aC)
 refine⟨_,hg,?_⟩
 have ha:iA fs (t.l[j/16]:Int)=some t.l[j/16]:=by
  simp only[iA,Int.toNat_natCast,h1,h2]
  rw[if_pos (by omega)]
  simp
 have hb:kI fs (t.l[j/16]:Int) ((j%16:Nat):Int)=(some (t.l[j/16],j%16),0):=by
  simp only[kI,ha]
  rw[if_neg (by omega),Int.toNat_natCast]
 simp only[lP,hg,Option.getD_some,yY,hb,wM]
theorem GZ {t:Tb} {a:Nat} {v:Int} (hv:Valid fs t.l) (ha:a<16*t.l.length): ∃f x,t.l[a/16]? =some f/\fs[f]? =some x/\x.taken=true/\x.b.length=16/\tg fs t a v=fs.set f {x with b:=x.b.set (a%16) v}:=by
 have aC:a/16<t.l.length:=by omega
 have hg:=List.getElem?_eq_getElem aC
 obtain⟨x,h1,h2,h3⟩:=hv _ (List.getElem_mem aC)
 refine⟨_,x,hg,h1,h2,h3,?_⟩
 have hA:iA fs (t.l[a/16]:Int)=some t.l[a/16]:=by
  simp only[iA,Int.toNat_natCast,h1,h2]
  rw[if_pos (by omega)]
  simp
 have hb:kI fs (t.l[a/16]:Int) ((a%16:Nat):Int)=(some (t.l[a/16],a%16),0):=by
  simp only[kI,hA]
  rw[if_neg (by omega),Int.toNat_natCast]
 simp only[tg,hg,Option.getD_some,pM,hb,h1]
theorem ajQ {l:List Nat} {f:Nat} {x:Fr} {b:List Int} (hv:Valid fs l) (hx:fs[f]? =some x) (ht:x.taken=true) (hb:b.length=16):Valid (fs.set f {x with b:=b}) l:=by
 intro g hg
 obtain⟨y,h1,h2,h3⟩:=hv g hg
 by_cases h:f=g
 ·subst h
  have aC:=(List.getElem?_eq_some_iff.1 hx).1
  exact⟨_,List.getElem?_set_self aC,ht,hb⟩
 ·exact⟨y,by rw[List.getElem?_set_ne h];exact h1,h2,h3⟩
theorem Ga {t:Tb} {a:Nat} {v:Int} (hv:Valid fs t.l) (ha:a<16*t.l.length) {l:List Nat} (hl:Valid fs l):Valid (tg fs t a v) l:=by
 obtain⟨f,x,_,h1,h2,h3,he⟩:=GZ (v:=v) hv ha
 rw[he]
 exact ajQ hl h1 h2 (by simp[h3])
theorem akQ {t:Tb} {a:Nat} {v:Int} (hv:Valid fs t.l) (ha:a<16*t.l.length):dV (tg fs t a v)=dV fs:=by
 obtain⟨f,x,_,h1,h2,h3,he⟩:=GZ (v:=v) hv ha
 obtain⟨aC,UF⟩:=List.getElem?_eq_some_iff.1 h1
 rw[he]
 unfold dV
 rw[List.countP_set aC,UF]
 have:0<List.countP (fun x=>x.taken) fs:=List.countP_pos_iff.2 ⟨x,List.mem_of_getElem? h1,h2⟩
 simp[h2]
 omega
theorem Bs {α:Type} {l:List α} (hn:l.Nodup) {i j:Nat} (hi:i<l.length) (hj:j<l.length) (h:l[i]=l[j]):i=j:=by
 rw[List.nodup_iff_pairwise_ne,List.pairwise_iff_getElem] at hn
 rcases Nat.lt_trichotomy i j with h1|h1|h1
 ·exact absurd h (hn i j hi hj h1)
 ·exact h1
 ·exact absurd h.symm (hn j i hj hi h1)
theorem aqP {t:Tb} {a j:Nat} {v:Int} (hv:Valid fs t.l) (hn:t.l.Nodup) (ha:a<16*t.l.length) (hj:j<16*t.l.length):lP (tg fs t a v) t j=if j=a then v else lP fs t j:=by
 obtain⟨f,x,hf,h1,h2,h3,he⟩:=GZ (v:=v) hv ha
 obtain⟨g,hg,e1⟩:=v5 hv hj
 obtain⟨g',cD,e2⟩:=v5 (Ga (v:=v) hv ha hv) hj
 rw[hg] at cD;cases cD
 rw[e1,e2,he]
 have aC:=(List.getElem?_eq_some_iff.1 h1).1
 unfold wM
 by_cases Fl:f=g
 ·subst Fl
  have hdiv:a/16=j/16:=by
   have h5:=(List.getElem?_eq_some_iff.1 hf)
   have h6:=(List.getElem?_eq_some_iff.1 hg)
   exact Bs hn h5.1 h6.1 (h5.2.trans h6.2.symm)
  rw[List.getElem?_set_self aC,h1]
  simp only[Option.bind_some,List.getElem?_set]
  by_cases hja:j=a
  ·subst hja
   rw[if_pos rfl,if_pos rfl,if_pos (by omega)]
   rfl
  ·rw[if_neg hja,if_neg (by omega)]
 ·rw[List.getElem?_set_ne Fl]
  have:j≠a:=by
   intro h
   subst h
   rw[hf] at hg;cases hg;exact Fl rfl
  rw[if_neg this]
theorem aie {t t':Tb} {a j:Nat} {v:Int} (hv:Valid fs t.l) (cV:Valid fs t'.l) (hd: ∀f∈t.l,f∉t'.l) (ha:a<16*t.l.length) (hj:j<16*t'.l.length):lP (tg fs t a v) t' j=lP fs t' j:=by
 obtain⟨f,x,hf,h1,h2,h3,he⟩:=GZ (v:=v) hv ha
 obtain⟨g,hg,e1⟩:=v5 cV hj
 obtain⟨g',cD,e2⟩:=v5 (Ga (v:=v) hv ha cV) hj
 rw[hg] at cD;cases cD
 rw[e1,e2,he]
 have Fl:f≠g:=fun h=>hd f (List.mem_of_getElem? hf) (by rw[h];exact List.mem_of_getElem? hg)
 unfold wM
 rw[List.getElem?_set_ne Fl]
section
variable {t:Tb} {off:Nat} {bs:List Int}
theorem Bo (hv:Valid fs t.l) {l:List Nat} (hl:Valid fs l): ∀{i:Nat},off+i<=16*t.l.length->Valid (i6 fs t off bs i) t.l/\Valid (i6 fs t off bs i) l
 |0,_=>⟨hv,hl⟩
 |i+1,hi=>by
  obtain⟨h1,h2⟩:=Bo hv hl (i:=i) (by omega)
  exact⟨Ga h1 (by omega) h1,Ga h1 (by omega) h2⟩
theorem XO (hv:Valid fs t.l): ∀{i:Nat},off+i<=16*t.l.length->dV (i6 fs t off bs i)=dV fs
 |0,_=>rfl
 |i+1,hi=>by
  have h1:=(Bo (bs:=bs) hv hv (i:=i) (off:=off) (by omega)).1
  simp only[i6]
  rw[akQ h1 (by omega),XO hv (by omega)]
theorem Zv (hv:Valid fs t.l) (hn:t.l.Nodup) {j:Nat} (hj:j<16*t.l.length): ∀{i:Nat},off+i<=16*t.l.length->lP (i6 fs t off bs i) t j=if off<=j/\j<off+i then bs[j-off]?.getD 0 else lP fs t j
 |0,_=>by rw[if_neg (by omega)];rfl
 |i+1,hi=>by
  have h1:=(Bo (bs:=bs) hv hv (i:=i) (off:=off) (by omega)).1
  simp only[i6]
  rw[aqP h1 hn (by omega) hj,Zv hv hn hj (by omega)]
  by_cases h:j=off+i
  ·subst h
   rw[if_pos rfl,if_pos (by omega)]
   congr 2;omega
  ·rw[if_neg h]
   by_cases h2:off<=j/\j<off+i
   ·rw[if_pos h2,if_pos (by omega)]
   ·rw[if_neg h2,if_neg (by omega)]
theorem VX (hv:Valid fs t.l) {t':Tb} (cV:Valid fs t'.l) (hd: ∀f∈t.l,f∉t'.l) {j:Nat} (hj:j<16*t'.l.length): ∀{i:Nat},off+i<=16*t.l.length->lP (i6 fs t off bs i) t' j=lP fs t' j
 |0,_=>rfl
 |i+1,hi=>by
  obtain⟨h1,h2⟩:=Bo (bs:=bs) hv cV (i:=i) (off:=off) (by omega)
  simp only[i6]
  rw[aie h1 h2 hd (by omega) hj,VX hv cV hd hj (by omega)]
end
theorem WE (hl: ∀f∈fs,f.b.length=16): ∀{k:Nat},k<=fs.length-dV fs->Valid (takeN fs k).1 (takeN fs k).2/\(takeN fs k).2.Nodup/\
 (∀f∈(takeN fs k).2,∃x,fs[f]? =some x/\x.taken=false)/\(∀f∈(takeN fs k).2,∀j,wM (takeN fs k).1 f j=0)/\ ∀f,f∉(takeN fs k).2->(takeN fs k).1[f]? =fs[f]?
 |0,_=>⟨fun f hf=>(by cases hf),List.nodup_nil,fun f hf=>(by cases hf),fun f hf=>(by cases hf),fun _ _=>rfl⟩
 |k+1,hk=>by
  obtain⟨h1,h2,h3,h4,h5⟩:=WE hl (k:=k) (by omega)
  have Aw:=Ll (fs:=fs) (k:=k) (by omega)
  have tG:=Bq (fs:=fs) (k:=k)
  obtain⟨i,hi,_⟩:=KV (fs:=(takeN fs k).1) (by omega)
  have aA:=hi
  unfold og at aA
  rw[List.findIdx?_eq_some_iff_getElem] at aA
  obtain⟨aC,AJ,_⟩:=aA
  have AJ:(takeN fs k).1[i].taken=false:=by simpa using AJ
  have hni:i∉(takeN fs k).2:=fun h=>by
   obtain⟨x,e1,e2,_⟩:=h1 i h
   rw[List.getElem?_eq_getElem aC] at e1;cases e1
   rw[AJ] at e2;cases e2
  have hT:iq (takeN fs k).1=(takeN fs k).1.set i ⟨List.replicate 16 0,true⟩:=by simp only[iq,hi]
  have a9: ∀f,f≠i->(iq (takeN fs k).1)[f]? =(takeN fs k).1[f]?:=fun f hf=>by rw[hT,List.getElem?_set_ne (Ne.symm hf)]
  have Il:(iq (takeN fs k).1)[i]? =some ⟨List.replicate 16 0,true⟩:=by rw[hT,List.getElem?_set_self aC]
  simp only[takeN,hi,Option.getD_some]
  refine⟨?_,?_,?_,?_,?_⟩
  ·intro f hf
   by_cases sf:f=i
   ·subst sf;exact⟨_,Il,rfl,by simp⟩
   ·have xZ:f∈(takeN fs k).2:=by simpa [sf] using hf
    rw[a9 f sf];exact h1 f xZ
  ·rw[List.nodup_append]
   refine⟨h2,by simp,fun a ha b hb=>?_⟩
   simp at hb;subst hb
   exact fun h=>hni (h▸ha)
  ·intro f hf
   by_cases sf:f=i
   ·subst sf
    refine⟨_,?_,AJ⟩
    rw[<-h5 f hni];exact List.getElem?_eq_getElem aC
   ·exact h3 f (by simpa [sf] using hf)
  ·intro f hf j
   unfold wM
   by_cases sf:f=i
   ·subst sf
    rw[Il]
    simp only[Option.bind_some,List.getElem?_replicate]
    split<;>rfl
   ·rw[a9 f sf];exact h4 f (by simpa [sf] using hf) j
  ·intro f hf
   have:f≠i/\f∉(takeN fs k).2:=by simpa [not_or,and_comm] using hf
   rw[a9 f this.1];exact h5 f this.2
end
section
open Go
variable {fs:List Fr} {ts:iD}
abbrev Mem:=List (Int×List Int)
def jy (n:Nat):Nat:=(n+15)/16
def jl (A:Mem):Nat:=(A.map fun e=>jy e.2.length).sum
def gE (A:Mem) (id:Int):Option (List Int):=(A.find? fun e=>id==e.1).map (·.2)
def jE (ts:iD):List Nat:=(ts.map (·.2.l)).flatten
def kO (fs:List Fr) (t:Tb):List Int:=gR fs t 0 t.n
structure gQ (N:Nat) (A:Mem) (fs:List Fr) (ts:iD):Prop where
 len:fs.length=N
 sk:A=ts.map fun e=>(e.1,kO fs e.2)
 tn: ∀e∈ts,e.2.n<=64/\e.2.l.length=(e.2.n+15)/16
 keys:(ts.map (·.1)).Nodup
 valid:Valid fs (jE ts)
 nodup:(jE ts).Nodup
 used:dV fs=(jE ts).length
 b: ∀f∈fs,f.b.length=16
variable {N:Nat} {A:Mem}
theorem Yg {e:Int×Tb} (he:e∈ts) {f:Nat} (hf:f∈e.2.l):f∈jE ts:=List.mem_flatten.2 ⟨_,List.mem_map.2 ⟨e,he,rfl⟩,hf⟩
theorem gQ.val (R:gQ N A fs ts) {e:Int×Tb} (he:e∈ts):Valid fs e.2.l:=fun f hf=>R.valid f (Yg he hf)
theorem YF {g:Int×Tb->List Int} {id:Int}: ∀{ts:iD},gE (ts.map fun e=>(e.1,g e)) id=(ts.find? fun e=>id==e.1).map g
 |[]=>rfl
 |e::ts=>by
  have ih:=YF (g:=g) (id:=id) (ts:=ts)
  simp only[gE,List.map_cons,List.find?_cons] at ih ⊢
  cases id==e.1
  ·exact ih
  ·rfl
theorem gQ.get (R:gQ N A fs ts) (id:Int):gE A id=(eR ts id).map (kO fs):=by
 rw[R.sk,YF]
 simp only[eR,Option.map_map]
 rfl
theorem sG {t:Tb}:(kO fs t).length=t.n:=yQ
theorem gQ.jl (R:gQ N A fs ts):jl A=dV fs:=by
 rw[R.used,R.sk]
 have h:=R.tn
 clear R
 unfold Am.jl jE
 induction ts with
 |nil=>rfl
 |cons e ts ih=>
  have h1:=(h e (by simp)).2
  simp only[List.map_cons,List.sum_cons,List.flatten_cons,List.length_append,sG,jy,h1]
  have:=ih (fun x hx=>h x (List.mem_cons_of_mem _ hx))
  simp only[jy,sG] at this
  omega
theorem W4 {eI:List Fr} {t:Tb} (hv:Valid fs t.l) (hl:t.n<=16*t.l.length) (h: ∀f∈t.l,eI[f]? =fs[f]?):kO eI t=kO fs t:=by
 unfold kO gR
 refine List.map_congr_left (fun j hj=>?_)
 have jr:j<t.n:=by simpa using hj
 rw[Nat.zero_add]
 have cV:Valid eI t.l:=fun f hf=>by rw[h f hf];exact hv f hf
 obtain⟨f,h1,h2⟩:=v5 hv (j:=j) (by omega)
 obtain⟨g,h3,h4⟩:=v5 cV (j:=j) (by omega)
 rw[h1] at h3;cases h3
 rw[h2,h4]
 unfold wM
 rw[h f (List.mem_of_getElem? h1)]
def wC (N:Nat) (A:Mem) (id n:Int):Int×Mem:=
 if n<0\/64<n then(1,A) else if(gE A id).isSome then(1,A) else if N-jl A<jy n.toNat then(9,A) else(0,A++[(id,List.replicate n.toNat 0)])
theorem aiU {id:Int} (h:eR ts id=none):id∉ts.map (·.1):=by
 unfold eR at h
 intro hm
 obtain⟨e,he,h2⟩:=List.mem_map.1 hm
 have:=List.find?_eq_none.1 (Option.map_eq_none_iff.1 h) e he
 simp[h2] at this
theorem gQ.map (R:gQ N A fs ts) (id n:Int):(lH fs ts id n).1=(wC N A id n).1/\gQ N (wC N A id n).2 (lH fs ts id n).2.1 (lH fs ts id n).2.2:=by
 unfold lH wC
 by_cases h1:n<0\/64<n
 ·simp only[if_pos h1];exact⟨trivial,R⟩
 rw[if_neg h1,if_neg h1]
 obtain⟨n,rfl⟩: ∃k:Nat,n=k:=⟨n.toNat,by omega⟩
 rw[R.get id,Option.isSome_map]
 cases dC:eR ts id with
 |some t=>simp only[Option.isSome,if_true];exact⟨trivial,R⟩
 |none=>
  simp only[Option.isSome,Bool.false_eq_true,if_false]
  have hn:gM n=jy n:=by unfold gM jy;omega
  rw[R.jl,hn,Int.toNat_natCast,<-R.len]
  by_cases h2:fs.length-dV fs<jy n
  ·simp only[if_pos h2];exact⟨trivial,R.len▸R⟩
  ·simp only[if_neg h2]
   refine⟨trivial,?_⟩
   obtain⟨g1,g2,g3,g4,g5⟩:=WE R.b (k:=jy n) (by omega)
   have tG:=Bq (fs:=fs) (k:=jy n)
   have xj: ∀f∈jE ts,f∉(takeN fs (jy n)).2:=fun f hf hf2=>by
    obtain⟨x,e1,e2,_⟩:=R.valid f hf
    obtain⟨y,e3,e4⟩:=g3 f hf2
    rw[e1] at e3;cases e3
    rw[e2] at e4;cases e4
   have gD:jE (ts++[(id,⟨(takeN fs (jy n)).2,n⟩)])=jE ts++(takeN fs (jy n)).2:=by simp[jE]
   have oN: ∀e∈ts,kO (takeN fs (jy n)).1 e.2=kO fs e.2:=fun e he=>
    W4 (R.val he) (by have:=(R.tn e he).2;omega) (fun f hf=>g5 f (xj f (Yg he hf)))
   exact
   {len:=tG.1
    sk:=by
     rw[List.map_append,List.map_cons,List.map_nil,R.sk]
     congr 1
     ·exact List.map_congr_left (fun e he=>by rw[oN e he])
     ·congr 2
      refine List.ext_getElem (by rw[sG];simp) (fun j se qw=>?_)
      have hjn:j<n:=by simpa using se
      simp only[List.getElem_replicate,kO,gR,List.getElem_map,List.getElem_range,Nat.zero_add]
      obtain⟨f,e1,e2⟩:=v5 (t:=⟨(takeN fs (jy n)).2,n⟩) g1 (j:=j) (by show j<16*(takeN fs (jy n)).2.length;rw[tG.2];unfold jy;omega)
      rw[e2,g4 f (List.mem_of_getElem? e1)]
    tn:=fun e he=>by
     rcases List.mem_append.1 he with he|he
     ·exact R.tn e he
     ·simp at he;subst he;exact⟨by show n<=64;omega,tG.2⟩
    keys:=by
     rw[List.map_append,List.nodup_append]
     refine⟨R.keys,by simp,fun a ha b hb=>?_⟩
     simp at hb;subst hb
     exact fun h=>aiU dC (h▸ha)
    valid:=by
     rw[gD]
     intro f hf
     rcases List.mem_append.1 hf with hf|hf
     ·rw[g5 f (xj f hf)];exact R.valid f hf
     ·exact g1 f hf
    nodup:=by
     rw[gD,List.nodup_append]
     exact⟨R.nodup,g2,fun a ha b hb h=>xj a ha (h▸hb)⟩
    used:=by
     rw[gD,List.length_append,Ll (by omega),R.used,tG.2]
    b:=amd R.b}
def uT (A:Mem) (id:Int) (off:Nat) (vs:List Int):Mem:=A.map fun e=>if id==e.1 then(e.1,e.2.take off++vs++e.2.drop (off+vs.length)) else e
theorem Yp {id off n:Int} {t:Tb} {e:Int} (h:ic ts id off n=(some t,e)):eR ts id=some t/\0<=off/\0<=n/\off+n<=t.n/\e=0:=by
 unfold ic at h
 split at h
 ·cases h
 ·rename_i t' ht
  split at h
  ·cases h
  ·cases h;exact⟨ht,by omega,by omega,by omega,rfl⟩
theorem keys_eq {e e':Int×Tb} (hk:(ts.map (·.1)).Nodup) (he:e∈ts) (dN:e'∈ts) (h:e.1=e'.1):e=e':=by
 obtain⟨i,hi⟩:=List.mem_iff_getElem.1 he
 obtain⟨j,hj⟩:=List.mem_iff_getElem.1 dN
 obtain⟨hi,rfl⟩:=hi
 obtain⟨hj,rfl⟩:=hj
 have:=Bs hk (i:=i) (j:=j) (by simpa using hi) (by simpa using hj) (by simpa using h)
 subst this
 rfl
theorem akn {α:Type} {ls:List (List α)} (hn:ls.flatten.Nodup) {i j:Nat} {a b:List α} (nL:i≠j) (ha:ls[i]? =some a) (hb:ls[j]? =some b): ∀x∈a,x∉b:=by
 have hp:ls.Pairwise (fun a b=> ∀x∈a,x∉b):=by
  rw[List.nodup_iff_pairwise_ne,List.pairwise_flatten] at hn
  exact hn.2.imp (fun h x hx kS=>h x hx x kS rfl)
 rw[List.pairwise_iff_getElem] at hp
 obtain⟨hi,rfl⟩:=List.getElem?_eq_some_iff.1 ha
 obtain⟨hj,rfl⟩:=List.getElem?_eq_some_iff.1 hb
 intro x hx kS
 rcases Nat.lt_or_gt_of_ne nL with h|h
 ·exact hp i j hi hj h x hx kS
 ·exact hp j i hj hi h x kS hx
theorem gQ.dz (R:gQ N A fs ts) {e e':Int×Tb} (he:e∈ts) (dN:e'∈ts) (h:e≠e'): ∀f∈e.2.l,f∉e'.2.l:=by
 obtain⟨i,hi⟩:=List.mem_iff_getElem?.1 he
 obtain⟨j,hj⟩:=List.mem_iff_getElem?.1 dN
 refine akn R.nodup (i:=i) (j:=j) (fun nL=>?_) (by simp[hi]) (by simp[hj])
 subst nL;rw[hi] at hj;cases hj;exact h rfl
theorem gQ.Zz (R:gQ N A fs ts) {e:Int×Tb} (he:e∈ts):e.2.l.Nodup:=by
 have:=R.nodup
 unfold jE at this
 rw[List.nodup_iff_pairwise_ne,List.pairwise_flatten] at this
 exact List.nodup_iff_pairwise_ne.2 (this.1 _ (List.mem_map.2 ⟨e,he,rfl⟩))
theorem gQ.write (R:gQ N A fs ts) {id:Int} {off:Nat} {vs:List Int} {t:Tb} {e:Int} (aB:ic ts id off vs.length=(some t,e)):gQ N (uT A id off vs) (i6 fs t off vs vs.length) ts:=by
 obtain⟨dC,_,_,hle,_⟩:=Yp aB
 obtain⟨x,hx,pe,rfl⟩:=Gb dC
 have E6:=R.tn x hx
 have hv:=R.val hx
 have JK:off+vs.length<=16*x.2.l.length:=by omega
 have hvalid: ∀l,Valid fs l->Valid (i6 fs x.2 off vs vs.length) l:=fun l hl=>(Bo hv hl JK).2
 exact
 {len:=by rw[L6,R.len]
  sk:=by
   unfold uT
   conv=>lhs;rw[R.sk]
   rw[List.map_map]
   refine List.map_congr_left (fun y hy=>?_)
   simp only[Function.comp]
   by_cases aJ:id=y.1
   ·have vm:y=x:=keys_eq R.keys hy hx (by rw[<-aJ,pe])
    subst vm
    simp only[aJ,beq_self_eq_true,if_true]
    congr 1
    refine List.ext_getElem (by simp[sG];omega) (fun j se qw=>?_)
    have hjn:j<y.2.n:=by rw[sG] at qw;exact qw
    simp only[kO,gR,List.getElem_map,List.getElem_range,Nat.zero_add]
    rw[Zv hv (R.Zz hx) (by omega) JK]
    have x8:(kO fs y.2).length=y.2.n:=sG
    have avq:(List.take off (List.map (fun j=>lP fs y.2 (0+j)) (List.range y.2.n))).length=off:=by simp;omega
    by_cases h1:j<off
    ·rw[if_neg (by omega),List.getElem_append_left (by simp;omega),List.getElem_append_left (by simp;omega)]
     simp
    ·by_cases h2:j<off+vs.length
     ·rw[if_pos (by omega),List.getElem_append_left (by simp;omega),List.getElem_append_right (by simp;omega)]
      simp only[List.length_take,List.length_map,List.length_range]
      rw[List.getElem?_eq_getElem (by omega)]
      simp only[Option.getD_some]
      congr 1;omega
     ·rw[if_neg (by omega),List.getElem_append_right (by simp;omega)]
      simp only[List.length_append,List.length_take,List.length_map,List.length_range,List.getElem_drop,List.getElem_map,List.getElem_range,Nat.zero_add]
      congr 1;omega
   ·have hb:(id==y.1)=false:=by simpa using aJ
    simp only[hb,Bool.false_eq_true,if_false]
    have aM:x≠y:=fun h=>aJ (by rw[<-h,pe])
    congr 1
    unfold kO gR
    refine List.map_congr_left (fun j hj=>?_)
    have hjn:j<y.2.n:=by simpa using hj
    rw[VX hv (R.val hy) (R.dz hx hy aM) (by have:=(R.tn y hy).2;omega) JK]
  tn:=R.tn
  keys:=R.keys
  valid:=hvalid _ R.valid
  nodup:=R.nodup
  used:=by rw[XO hv JK,R.used]
  b:=acj R.b}
theorem gQ.read (R:gQ N A fs ts) {id:Int} {off n:Nat} {t:Tb} {e:Int} (aB:ic ts id off n=(some t,e)):gR fs t off n=((kO fs t).drop off).take n:=by
 obtain⟨dC,_,_,hle,_⟩:=Yp aB
 refine List.ext_getElem (by simp[yQ,sG];omega) (fun j h1 h2=>?_)
 simp[gR,kO]
end
section
open Go
variable {fs:List Fr} {ts:iD} {N:Nat} {A:Mem}
def rL (A:Mem) (id:Int):Mem:=A.eraseP fun e=>id==e.1
theorem YO {id:Int}: ∀{ts:iD},uW ts id=ts.eraseP fun e=>id==e.1
 |[]=>rfl
 |e::ts=>by
  have ih:=YO (id:=id) (ts:=ts)
  simp only[uW,rz,List.findIdx?_cons,List.eraseP_cons] at ih ⊢
  cases h:id==e.1
  ·simp only[Bool.false_eq_true,if_false]
   rw[<-ih]
   cases h2:List.findIdx? (fun e=>id==e.1) ts with
   |none=>rfl
   |some i=>simp[h2]
  ·rfl
theorem WZ {f g:Nat} (h:g≠f):(ji fs (f:Int))[g]? =fs[g]?:=by
 unfold ji
 split
 ·rfl
 ·rename_i i hi
  obtain⟨x,_,_,e⟩:=LF hi
  have:i=f:=by omega
  subst this
  split
  ·rfl
  ·rw[List.getElem?_set_ne (Ne.symm h)]
theorem Wp: ∀{l:List Nat} {fs:List Fr} {g:Nat},g∉l->(lp fs l)[g]? =fs[g]?
 |[],_,_,_=>rfl
 |f::l,fs,g,h=>by
  have h1:=Wp (l:=l) (fs:=ji fs f) (g:=g) (fun hm=>h (List.mem_cons_of_mem _ hm))
  simp only[lp,List.foldl_cons] at h1 ⊢
  rw[h1,WZ (fun e=>h (by rw[e];simp))]
theorem aiy {f:Nat} {x:Fr} (hx:fs[f]? =some x) (ht:x.taken=true):dV (ji fs (f:Int))+1=dV fs:=by
 have ha:iA fs (f:Int)=some f:=by
  simp only[iA,Int.toNat_natCast,hx,ht]
  rw[if_pos (by omega)]
  simp
 obtain⟨aC,UF⟩:=List.getElem?_eq_some_iff.1 hx
 simp only[ji,ha,hx]
 unfold dV
 rw[List.countP_set aC,UF]
 have:0<List.countP (fun x=>x.taken) fs:=List.countP_pos_iff.2 ⟨x,List.mem_of_getElem? hx,ht⟩
 simp[ht]
 omega
theorem V0: ∀{l:List Nat} {fs:List Fr},l.Nodup->Valid fs l->dV (lp fs l)+l.length=dV fs
 |[],_,_,_=>rfl
 |f::l,fs,hn,hv=>by
  obtain⟨x,h1,h2,_⟩:=hv f (by simp)
  have jb:=List.nodup_cons.1 hn
  have:=V0 (l:=l) (fs:=ji fs f) jb.2 (fun g hg=>by
   have hgf:g≠f:=fun e=>jb.1 (by rw[<-e];exact hg)
   rw[WZ hgf]
   exact hv g (List.mem_cons_of_mem _ hg))
  have h3:=aiy h1 h2
  simp only[lp,List.foldl_cons,List.length_cons] at this ⊢
  omega
def vT (A:Mem) (id:Int):Int×Mem:=match gE A id with
 |none=>(7,A)
 |some _=>(0,rL A id)
theorem eraseP_map {α β:Type} {p:β->Bool} {f:α->β}: ∀{l:List α},(l.map f).eraseP p=(l.eraseP (p∘f)).map f
 |[]=>rfl
 |a::l=>by
  simp only[List.map_cons,List.eraseP_cons,Function.comp]
  cases p (f a)
  ·simp[eraseP_map (l:=l)]
  ·rfl
theorem gQ.Px (R:gQ N A fs ts) (id:Int):(pN fs ts id).1=(vT A id).1/\gQ N (vT A id).2 (pN fs ts id).2.1 (pN fs ts id).2.2:=by
 unfold pN vT
 rw[R.get id]
 cases dC:eR ts id with
 |none=>exact⟨rfl,R⟩
 |some t=>
  simp only[Option.map_some]
  refine⟨trivial,?_⟩
  obtain⟨x,hx,pe,rfl⟩:=Gb dC
  obtain⟨a,l1,l2,h1,h2,h3,h4⟩:=List.exists_of_eraseP hx (p:=fun e=>id==e.1) (by simp[pe])
  have Va:a=x:=keys_eq R.keys (by rw[h3];simp) hx (by simp at h2;rw[pe,<-h2])
  subst Va
  rw[YO,h4]
  have da: ∀e∈l1++l2,e∈ts:=fun e he=>by
   rw[h3]
   rcases List.mem_append.1 he with h|h
   ·exact List.mem_append_left _ h
   ·exact List.mem_append_right _ (List.mem_cons_of_mem _ h)
  have iO:=R.keys
  rw[h3,List.map_append,List.map_cons] at iO
  have vw: ∀e∈l1++l2,e≠a:=fun e he h=>by
   subst h
   rw[List.nodup_append,List.nodup_cons] at iO
   rcases List.mem_append.1 he with h|h
   ·exact iO.2.2 _ (List.mem_map.2 ⟨e,h,rfl⟩) _ (by simp) rfl
   ·exact iO.2.1.1 (List.mem_map.2 ⟨e,h,rfl⟩)
  have xj: ∀e∈l1++l2,∀f∈e.2.l,f∉a.2.l:=fun e he=>R.dz (da e he) hx (vw e he)
  have a9: ∀e∈l1++l2,∀f∈e.2.l,(lp fs a.2.l)[f]? =fs[f]?:=fun e he f hf=>Wp (xj e he f hf)
  have El:=R.nodup
  have Aw:=R.used
  have hfu:=V0 (R.Zz hx) (R.val hx)
  have asE:jE ts=jE l1++(a.2.l++jE l2):=by rw[h3];simp[jE]
  have acF:jE (l1++l2)=jE l1++jE l2:=by simp[jE]
  rw[asE] at El Aw
  exact
  {len:=by rw[Wo,R.len]
   sk:=by
    unfold rL
    conv=>lhs;rw[R.sk]
    rw[eraseP_map]
    have:(fun e=>id==e.1)∘(fun e:Int×Tb=>(e.1,kO fs e.2))=fun e=>id==e.1:=rfl
    rw[this,h4]
    refine List.map_congr_left (fun e he=>?_)
    congr 1
    exact(W4 (R.val (da e he)) (by have:=(R.tn e (da e he)).2;omega) (a9 e he)).symm
   tn:=fun e he=>R.tn e (da e he)
   keys:=by
    rw[List.map_append]
    rw[List.nodup_append,List.nodup_cons] at iO
    rw[List.nodup_append]
    exact⟨iO.1,iO.2.1.2,fun u hu v hv=>iO.2.2 u hu v (List.mem_cons_of_mem _ hv)⟩
   valid:=fun f hf=>by
    obtain⟨l,hl,bP⟩:=List.mem_flatten.1 hf
    obtain⟨e,he,rfl⟩:=List.mem_map.1 hl
    rw[a9 e he f bP]
    exact R.val (da e he) f bP
   nodup:=by
    rw[acF]
    rw[List.nodup_append,List.nodup_append] at El
    rw[List.nodup_append]
    exact⟨El.1,El.2.1.2.1,fun u hu v hv=>El.2.2 u hu v (List.mem_append_right _ hv)⟩
   used:=by
    rw[acF,List.length_append]
    simp only[List.length_append] at Aw
    omega
   b:=Xu R.b}
variable {P:Program} {h:aa} {bs bm bl bp:Nat}
def gJ (h:aa) (bs bm bl bp N:Nat) (A:Mem):Prop:= ∃fs ts,ee h bs bm bl bp fs ts/\gQ N A fs ts
theorem gJ.bN (S:gJ h bs bm bl bp N A) {h':aa} (hn:h.next<=h'.next) (hk: ∀b,b<h.next->h'.get b=h.get b):gJ h' bs bm bl bp N A:=by
 obtain⟨fs,ts,S,R⟩:=S
 exact⟨fs,ts,S.bN hn hk,R⟩
theorem gJ.clean (S:gJ h bs bm bl bp N A) (n:Nat):gJ (h.clean n) bs bm bl bp N A:=by
 obtain⟨fs,ts,S,R⟩:=S
 exact⟨fs,ts,S.clean n,R⟩
theorem gJ.lt (S:gJ h bs bm bl bp N A):bs<h.next/\bm<h.next/\bl<h.next/\bp<h.next:=by
 obtain⟨fs,ts,S,R⟩:=S
 exact⟨S.l1,S.l2,S.l3,S.l4⟩
theorem atA (ok:ax P tb) (h:aa) (n:Int): ∃bs bm bl bp h',an P 39 [.int .i64 n] h (.ptr bs 0) h'/\gJ h' bs bm bl bp (uF n) []/\
 h.next<=bs/\h.next<=bm/\h.next<=bl/\h.next<=bp/\h.next<=h'.next/\ ∀b,b<h.next->h'.get b=h.get b:=by
 obtain⟨bs,bm,bl,bp,h',h1,h2,h3⟩:=anj ok h n
 refine⟨bs,bm,bl,bp,h',h1,⟨_,_,h2,?_⟩,h3⟩
 exact{len:=by simp,sk:=rfl,tn:=fun e he=>(by cases he),keys:=List.nodup_nil,valid:=fun f hf=>(by cases hf),nodup:=List.nodup_nil
       used:=by unfold dV;rw[List.countP_replicate];rfl
       b:=fun f hf=>by simp[List.mem_replicate] at hf;simp[hf.2,F0]}
theorem atB (ok:ax P tb) (S:gJ h bs bm bl bp N A) (id n:Int): ∃h',an P 42 [.ptr bs 0, .int .u64 id, .int .i64 n] h (.int .i64 (wC N A id n).1) h'/\
 (gJ h' bs bm bl bp N (wC N A id n).2/\h.next<=h'.next/\ ∀b,b<h.next->b≠bl->b≠bp->h'.get b=h.get b):=by
 obtain⟨fs,ts,S,R⟩:=S
 obtain⟨h',h1,h2,h3⟩:=aka ok S id n
 obtain⟨e1,e2⟩:=R.map id n
 rw[e1] at h1
 exact⟨h',h1,⟨_,_,h2,e2⟩,h3⟩
theorem ane (ok:ax P tb) (S:gJ h bs bm bl bp N A) (id:Int): ∃h',an P 146 [.ptr bs 0, .int .u64 id] h (.int .i64 (vT A id).1) h'/\
 (gJ h' bs bm bl bp N (vT A id).2/\h.next<=h'.next/\ ∀b,b<h.next->b≠bl->b≠bp->h'.get b=h.get b):=by
 obtain⟨fs,ts,S,R⟩:=S
 obtain⟨h',h1,h2,h3⟩:=ah7 ok S id
 obtain⟨e1,e2⟩:=R.Px id
 rw[e1] at h1
 exact⟨h',h1,⟨_,_,h2,e2⟩,h3⟩
theorem atC (ok:ax P tb) (S:gJ h bs bm bl bp N A) (id:Int):an P 47 [.ptr bs 0, .int .u64 id] h (match gE A id with|some d=> .ay [.int .i64 d.length, .int .i64 0]|none=> .ay [.int .i64 0, .int .i64 7]) h:=by
 obtain⟨fs,ts,S,R⟩:=S
 have:=ajc ok S id
 rw[R.get id]
 cases dC:eR ts id with
 |none=>rw[dC] at this;exact this
 |some t=>rw[dC] at this;simp only[Option.map_some,sG];exact this
def rr (A:Mem) (id off n:Int):Option (List Int)×Int:=match gE A id with
 |none=>(none,7)
 |some d=>if off<0\/n<0\/(d.length:Int)<off\/(d.length:Int)-off<n then(none,11) else(some d,0)
theorem gQ.Kb (R:gQ N A fs ts) (id off n:Int):rr A id off n=((ic ts id off n).1.map (kO fs),(ic ts id off n).2):=by
 unfold rr ic
 rw[R.get id]
 cases eR ts id with
 |none=>rfl
 |some t=>
  simp only[Option.map_some,sG]
  split<;>rfl
theorem aqJ (ok:ax P tb) (S:gJ h bs bm bl bp N A) {id:Int} {off n:Nat} {d:List Int} (aB:rr A id off n=(some d,0)):an P 48 [.ptr bs 0, .int .u64 id, .int .i64 off, .int .i64 n] h (.ay [.vs (kQ ((d.drop off).take n)) .ao, .int .i64 0]) h:=by
 obtain⟨fs,ts,S,R⟩:=S
 rw[R.Kb] at aB
 cases hr:ic ts id off n with
 |mk o e=>
  rw[hr] at aB
  cases o with
  |none=>cases aB
  |some t=>
   cases aB
   have:=alb ok S hr
   rw[R.read hr] at this
   exact this
theorem aiP (ok:ax P tb) (S:gJ h bs bm bl bp N A) {id off n e:Int} (aB:rr A id off n=(none,e)) (he:e≠0):an P 48 [.ptr bs 0, .int .u64 id, .int .i64 off, .int .i64 n] h (.ay [.vs [] .full, .int .i64 e]) h:=by
 obtain⟨fs,ts,S,R⟩:=S
 rw[R.Kb] at aB
 cases hr:ic ts id off n with
 |mk o e'=>
  rw[hr] at aB
  cases o with
  |none=>cases aB;exact aj2 ok S hr he
  |some t=>cases aB
theorem anc (ok:ax P tb) (S:gJ h bs bm bl bp N A) {id:Int} {off:Nat} {vs d:List Int} {tl:aG} (aB:rr A id off vs.length=(some d,0)): ∃h',an P 43 [.ptr bs 0, .int .u64 id, .int .i64 off, .vs (kQ vs) tl] h (.int .i64 0) h'/\
 (gJ h' bs bm bl bp N (uT A id off vs)/\h.next<=h'.next/\ ∀b,b<h.next->b≠bl->h'.get b=h.get b):=by
 obtain⟨fs,ts,S,R⟩:=S
 rw[R.Kb] at aB
 cases hr:ic ts id off vs.length with
 |mk o e=>
  rw[hr] at aB
  cases o with
  |none=>cases aB
  |some t=>
   cases aB
   obtain⟨h',h1,h2,h3⟩:=ah6 ok S (tl:=tl) hr
   exact⟨h',h1,⟨_,_,h2,R.write hr⟩,h3⟩
theorem ah5 (ok:ax P tb) (S:gJ h bs bm bl bp N A) {id off e:Int} {xs:List (List AV)} {tl:aG} (aB:rr A id off xs.length=(none,e)) (he:e≠0):an P 43 [.ptr bs 0, .int .u64 id, .int .i64 off, .vs xs tl] h (.int .i64 e) h:=by
 obtain⟨fs,ts,S,R⟩:=S
 rw[R.Kb] at aB
 cases hr:ic ts id off xs.length with
 |mk o e'=>
  rw[hr] at aB
  cases o with
  |none=>cases aB;exact aiQ ok S hr he
  |some t=>cases aB
end
section
open Go
variable {P:Program}
structure Sl where
 r:Option (Nat×List UInt8)
 bL:Int
def Sl.enc (s:Sl):List AV:=match s.r with
 |some (id,b)=>[.int .u64 id, .vs (BS b) .ao, .bool true, .int .i64 s.bL]
 |none=>[.int .u64 0, .vs [] .full, .bool false, .int .i64 s.bL]
theorem Sl.len {s:Sl}:s.enc.length=4:=by unfold Sl.enc;split<;>rfl
theorem pJ {S:List Sl}: ∀r∈S.map Sl.enc,r.length=4:=fun r hr=>by
 obtain⟨s,_,rfl⟩:=List.mem_map.1 hr
 exact s.len
theorem Sl.taken {s:Sl}:s.enc[2]? =some (.bool s.r.isSome):=by unfold Sl.enc;split<;>simp[*]
theorem Sl.trn {s:Sl}:s.enc[3]? =some (.int .i64 s.bL):=by unfold Sl.enc;split<;>rfl
theorem Sl.acg {s:Sl}:s.enc.all AV.one=true:=by unfold Sl.enc;split<;>rfl
def kJ (es:List (Nat×Nat)):List (AV×AV):=es.map fun e=>(.int .u64 e.1, .int .i64 e.2)
def cg (es:List (Nat×Nat)) (id:Nat):Option Nat:=(es.find? fun e=>id==e.1).map (·.2)
def nk (es:List (Nat×Nat)) (id:Nat):Option Nat:=es.findIdx? fun e=>id==e.1
theorem al0 {a b:Nat}:((a:Int)==(b:Int))=(a==b):=by
 rw[Bool.eq_iff_iff];simp only[beq_iff_eq];omega
theorem GR {id:Nat}: ∀(es:List (Nat×Nat)) (i:Nat),mf (.int .u64 id) (kJ es) i=some ((nk es id).map (· +i))
 |[],i=>rfl
 |e::es,i=>by
  have ih:=GR (id:=id) es (i+1)
  simp only[kJ,List.map_cons,mf,if_true,nk,List.findIdx?_cons,al0] at ih ⊢
  by_cases h:(id==e.1)=true
  ·simp[h]
  ·have h':(id==e.1)=false:=by simpa using h
   simp only[h',Bool.false_eq_true,if_false,ih,Option.map_map]
   cases List.findIdx? (fun e=>id==e.1) es with
   |none=>rfl
   |some k=>simp only[Option.map_some,Function.comp];congr 2;omega
theorem Gg {id:Nat}: ∀{es:List (Nat×Nat)},cg es id=(nk es id).bind fun i=>(es[i]?).map (·.2)
 |[]=>rfl
 |e::es=>by
  have ih:=Gg (id:=id) (es:=es)
  simp only[cg,nk,List.find?_cons,List.findIdx?_cons] at ih ⊢
  cases h:id==e.1
  ·simp only[Bool.false_eq_true,if_false,ih]
   cases List.findIdx? (fun e=>id==e.1) es<;>rfl
  ·rfl
theorem amp {id:Nat} {es:List (Nat×Nat)}:ui (.int .u64 id) (kJ es)=some ((cg es id).map fun i=> .int .i64 i):=by
 unfold ui
 rw[GR,Gg]
 cases hq:nk es id with
 |none=>rfl
 |some i=>
  have:=(List.findIdx?_eq_some_iff_getElem.1 hq).1
  simp[kJ,List.getElem?_eq_getElem this]
theorem GN {h:aa} {mb id:Nat} {es:List (Nat×Nat)} (hm:h.get mb=some (.map (kJ es))) {b:Bool}:mY (.int .i64 0) b h (.map (some mb)) (.int .u64 id)=some (match cg es id with|some i=>if b then .ay [.int .i64 i, .bool true] else .int .i64 i|none=>if b then .ay [.int .i64 0, .bool false] else .int .i64 0):=by
 simp only[mY,hm,amp,Option.map_some]
 cases cg es id<;>cases b<;>rfl
theorem aln {id i:Nat} {es:List (Nat×Nat)} (hn:cg es id=none):qT (.int .u64 id) (.int .i64 i) (kJ es)=some (kJ (es++[(id,i)])):=by
 have:nk es id=none:=by
  unfold cg at hn;unfold nk
  rw[Option.map_eq_none_iff,List.find?_eq_none] at hn
  rw[List.findIdx?_eq_none_iff]
  exact fun x hx=>by simpa using hn x hx
 unfold qT
 rw[GR,this]
 simp[kJ]
theorem alo {id i:Nat} {es:List (Nat×Nat)} (hn:nk es id=some i):qU (.int .u64 id) (kJ es)=some (kJ (es.eraseIdx i)):=by
 unfold qU
 rw[GR,hn]
 simp only[Option.map_some,Nat.add_zero,Option.some.injEq,kJ]
 exact LC
structure ez (h:aa) (ab mb lb ch:Nat) (S:List Sl) (es:List (Nat×Nat)):Prop where
 top: ∃lv,h.get ab=some (.cells [.int .u8 ch,lv, .map (some mb)])/\((S=[]/\lv= .vs [] .full)\/(S≠[]/\lv= .rs lb 0 S.length 4/\h.get lb=some (.cells (S.map Sl.enc).flatten)/\lb<h.next/\lb≠ab/\lb≠mb))
 map:h.get mb=some (.map (kJ es))
 l1:ab<h.next
 l2:mb<h.next
 n1:ab≠mb
 small:S.length<2^20
variable {h:aa} {ab mb lb ch:Nat} {S:List Sl} {es:List (Nat×Nat)}
theorem ez.bN (A:ez h ab mb lb ch S es) {h':aa} (hn:h.next<=h'.next) (h1:h'.get ab=h.get ab) (h2:h'.get mb=h.get mb) (h3:S≠[]->h'.get lb=h.get lb):ez h' ab mb lb ch S es:=by
 obtain⟨lv,t1,t2⟩:=A.top
 refine⟨⟨lv,by rw[h1,t1],?_⟩,by rw[h2,A.map],Nat.lt_of_lt_of_le A.l1 hn,Nat.lt_of_lt_of_le A.l2 hn,A.n1,A.small⟩
 rcases t2 with t2|⟨e0,e1,e2,e3,e4,e5⟩
 ·exact .inl t2
 ·exact .inr ⟨e0,e1,by rw[h3 e0,e2],by omega,e4,e5⟩
theorem ez.lO (A:ez h ab mb lb ch S es): ∃lv,h.get ab=some (.cells [.int .u8 ch,lv, .map (some mb)])/\lv.one=true/\lv.cells=[lv]/\ ∀h',h'.get lb=h.get lb->ik h' lv 4 (S.map Sl.enc):=by
 obtain⟨lv,t1,t2⟩:=A.top
 rcases t2 with⟨rfl,rfl⟩|⟨e0,rfl,e2,e3,e4,e5⟩
 ·exact⟨_,t1,rfl,rfl,fun h' _=>⟨rfl,fun i hi=>by simp at hi⟩⟩
 ·refine⟨_,t1,rfl,rfl,fun h' hl=>?_⟩
  have:=ik.rs (h:=h') (b:=lb) (sz:=4) (rows:=S.map Sl.enc) (cs:=(S.map Sl.enc).flatten) (av (by rw[hl,e2])) (by rw[<-jg pJ,List.take_length]) pJ
  rwa [List.length_map] at this
theorem aoN (ok:ax P tb) {g:Nat} {ed:List AV} {q:Sl->Bool} {v:AV} (hv:ik h v 4 (S.map Sl.enc)) (hl:S.length<2^30) (hg:cf P g=true) (hq: ∀p∈S,an P g (.agg p.enc::ed) h (.bool (q p)) h):
 an P 85 [v, .fn g [] ed] h (.int .i64 (ki q S)) h:=by
 refine ok.calls (rf:=yh) rfl (Nat.le_of_ble_eq_true rfl) ?_
 have hlen:gC v=some S.length:=by rw[hv.len,List.length_map]
 simp+decide only[st,xv,yh,IK,IJ,hlen]
 let I:Nat->Env->aa->Prop:=fun n ρ h'=>h'=h/\ ∃i:Nat,S.length=i+n/\(∀j,j<i-> ∀hj:j<S.length,q S[j]=false)/\ρ 0=v/\ρ 1= .fn g [] ed/\ρ 7= .int .i64 S.length/\ρ 8= .int .i64 i
 refine dO I ?_ S.length ⟨rfl,0,by omega,by omega,rfl,rfl,rfl,rfl⟩
 rintro n ρ h' ⟨rfl,i,aB,hf,r0,r1,r7,r8⟩
 by_cases hi:i<S.length
 ·have aA:(i:Int)<(S.length:Int):=by omega
  have hw:=dF (show i<2^61 by omega)
  obtain⟨p,g1,g2⟩:=hv.get i (by rw[List.length_map];exact hi)
  rw[List.getElem_map] at g2
  simp+decide only[st,xv,yh,IK,IJ,Qa,P9,P8,P7,P6,P5,r0,r1,r7,r8,aA,g1,g2]
  refine pI hg (hq S[i] (List.getElem_mem hi)) ?_
  by_cases lU:q S[i]=true
  ·simp+decide only[st,xv,lU,r8,GU hi hf lU]
  ·have qt:q S[i]=false:=by simpa using lU
   simp+decide only[st,xv,qt,r8,hw]
   refine⟨n-1,by omega,rfl,i+1,by omega,fun j hj dU=>?_,r0,r1,r7,rfl⟩
   by_cases eu:j=i
   ·subst eu;exact qt
   ·exact hf j (by omega) dU
 ·have aA: ¬(i:Int)<(S.length:Int):=by omega
  have dL:=GS (q:=q) (l:=S) (fun j _ hj=>hf j (by omega) hj)
  simp+decide only[st,xv,yh,IK,IJ,Qa,P9,P8,P7,P6,P5,r7,r8,aA,dL]
  rfl
def wE (S:List Sl):Option Nat:=S.findIdx? fun s=>s.r.isNone
theorem ako {S:List Sl}:ki (fun s=>!s.r.isSome) S=match wE S with|some i=>(i:Int)|none=> -1:=by
 unfold ki wE
 cases hq:S.findIdx? (fun s=>s.r.isNone) with
 |none=>
  have:S.findIdx (fun s=>!s.r.isSome)=S.length:=by
   rw[List.findIdx_eq_length]
   rw[List.findIdx?_eq_none_iff] at hq
   intro x hx
   have:=hq x hx
   cases hr:x.r<;>simp_all
  rw[this,if_neg (by omega)]
 |some i=>
  obtain⟨hi,h1,h2⟩:=List.findIdx?_eq_some_iff_getElem.1 hq
  have:S.findIdx (fun s=>!s.r.isSome)=i:=by
   rw[List.findIdx_eq hi]
   refine⟨by cases hr:S[i].r<;>simp_all,fun j hj=>?_⟩
   have:=h2 j hj
   cases hr:S[j].r<;>simp_all
  rw[this,if_pos hi]
theorem asG (ok:ax P tb) {s:Sl}:an P 86 [.agg s.enc] h (.bool (!s.r.isSome)) h:=by
 refine ok.keeps (rf:=FE) rfl (Nat.le_of_ble_eq_true rfl) rfl ?_
 simp+decide only[st,xv,FE,adp,ado,Sl.acg,Sl.taken]
 first|(intro b hb;first|(intros;omega)|(repeat(first|rw[if_neg (by omega)]|rw[if_pos (by omega)]));done)|(refine⟨rfl,?_⟩;intro b hb;first|(intros;omega)|(repeat(first|rw[if_neg (by omega)]|rw[if_pos (by omega)])))
theorem SY (ok:ax P tb) (A:ez h ab mb lb ch S es) {id:Nat}:an P 75 [.ptr ab 0, .int .u64 id] h (match cg es id with|some i=> .ay [.int .i64 i, .int .i64 0]|none=> .ay [.int .i64 0, .int .i64 7]) h:=by
 refine ok.keeps (rf:=yk) rfl (Nat.le_of_ble_eq_true rfl) (by cases cg es id<;>rfl) ?_
 obtain⟨lv,t1,t2⟩:=A.top
 have hc:=av t1
 have hl:=GN A.map (id:=id) (b:=true)
 simp+decide only[st,xv,yk,adH,adG,IS,hc,hl]
 cases hn:cg es id with
 |none=>
  simp+decide only[st,xv,yk,IS,Qv,adF]
 |some i=>
  simp+decide only[st,xv,yk,IS,Qv,adE]
theorem avb (ok:ax P tb) (A:ez h ab mb lb ch S es) {id:Nat} (hk: ∀i,cg es id=some i-> ∃rec bL,S[i]? =some ⟨some (id,rec),bL⟩/\rec.length<2^20):
 an P 45 [.ptr ab 0, .int .u64 id] h (match(cg es id).bind fun i=>(S[i]?).bind (·.r) with|some r=> .ay [.vs (BS r.2) .ao, .int .i64 0]|none=> .ay [.vs [] .ao, .int .i64 7]) h:=by
 refine ok.eW (rf:=vL) rfl (Nat.le_of_ble_eq_true rfl) (by split<;>simp only[AV.bD,AV.b8,uk]<;>rfl) ?_
 obtain⟨lv,t1,q1,q2,lO⟩:=A.lO
 have hc:=av t1
 simp+decide only[st,xv,vL,afg,Ja]
 refine au (SY ok A) ?_
 cases hn:cg es id with
 |none=>
  simp+decide only[st,xv,vL,Ja,RX,aff,bG]
  rfl
 |some i=>
  obtain⟨rec,bL,hs,gG⟩:=hk i hn
  have hi:i<S.length:=by
   rcases Nat.lt_or_ge i S.length with h|h
   ·exact h
   ·rw[List.getElem?_eq_none h] at hs;cases hs
  have rT:S[i]=⟨some (id,rec),bL⟩:=by rw[List.getElem?_eq_getElem hi] at hs;exact Option.some.inj hs
  have rows:(S.map Sl.enc)[i]? =some [.int .u64 id, .vs (BS rec) .ao, .bool true, .int .i64 bL]:=by rw[List.getElem?_map,hs];rfl
  obtain⟨lv',iQ,t2⟩:=A.top
  rw[t1] at iQ
  injection iQ with iQ;injection iQ with iQ;injection iQ with _ iQ;injection iQ with iQ _
  subst iQ
  rcases t2 with⟨rfl,_⟩|⟨e0,rfl,e2,e3,e4,e5⟩
  ·simp at hi
  have aU:=av e2
  have aA:(i:Int)<(S.length:Int):=by omega
  have g1:=uj (sz:=4) (j:=1) pJ rows (by omega)
  simp+decide only[st,xv,vL,Ja,RX,RW,hc,aU,aA,hs,g1]
  refine au (y3 ok rfl (l:=rec) (t:= .ao) (by omega)) ?_
  simp+decide only[st,xv,vL,RW,bG]
  simp only[AV.strip,AV.bH,jQ]
end
end Go.Proofs.YtljapedlkdfafaaGreat.Am
