/- What the functions do. Conditions: none. -/
import Derived.Test.YtmffhohcjifllaaGreatCa
set_option maxRecDepth 100000
set_option maxHeartbeats 8000000
set_option linter.unusedSimpArgs false
set_option linter.unusedVariables false
set_option linter.unnecessarySimpa false
namespace Go.Proofs.YtmffhohcjifllaaGreat.Am
section
open Go
structure Lb where
 d:Nat
 ps:List (Nat×Nat)
 deriving DecidableEq
def Lb.c (l:Lb) (t:aH):List AV:=[.int .u8 l.d, .vs (aw.R l.ps) t]
structure Lb.ok (l:Lb):Prop where
 d:l.d<256
 ps: ∀p∈l.ps,p.1<65536/\p.2<256
 len:l.ps.length<2^20
def kQ {α:Type} (q:α->Bool) (l:List α):Int:=if l.findIdx q<l.length then(l.findIdx q:Int) else -1
variable {P:Program}
theorem ZR (ok:ax P tb) {x y:Nat} (hx:x<256) (hy:y<256) (h:aa):an P 161 [.int .u8 x, .int .u8 y] h (.bool (decide (x<=y))) h:=by
 by_cases h5:x<6/\y<6
 ·have:=aoP ok (fuel:=300) (f:=161) (k:= .u8) (n:=6) (m:=6) (g:=fun x y=> .bool (Nat.ble x y)) (by decide+kernel) h5.1 h5.2 rfl h
  have e:decide (x<=y)=Nat.ble x y:=by rw[Bool.eq_iff_iff];simp
  rw[e];exact this
 ·refine ok.calls (rf:=Ba) rfl (Nat.le_of_ble_eq_true rfl) ?_
  have e:(x:Int)<=(y:Int)↔x<=y:=by omega
  by_cases hx5:x<6
  ·have h1: ¬(5:Int)<(x:Int):=by omega
   have h2:(5:Int)<(y:Int):=by omega
   simp+decide only[st,Ba,Pt,Pr,Pq,Pp,h1,h2,e]
  ·have h1:(5:Int)<(x:Int):=by omega
   simp+decide only[st,Ba,Pt,Pr,Pq,Pp,h1,e]
def qw (x:Nat):Nat:=if x=0 then 5 else x
theorem aox (ok:ax P tb) {x:Nat} (h:aa):an P 180 [.int .u8 x] h (.int .u8 (qw x)) h:=by
 refine ok.calls (rf:=A6) rfl (Nat.le_of_ble_eq_true rfl) ?_
 by_cases hx:x=0
 ·subst hx
  simp+decide only[st,A6,O4,O3,O2,O1,qw]
  rfl
 ·have h1: ¬(x:Int)=0:=by omega
  simp+decide only[st,A6,O4,O3,O2,O1,h1,qw,hx]
theorem apx (ok:ax P tb) {x:Nat} (h:aa):an P 36 [.int .u8 x] h (.bool (decide (x<=4))) h:=by
 refine ok.calls (rf:=GH) rfl (Nat.le_of_ble_eq_true rfl) ?_
 have e:(x:Int)<=4↔x<=4:=by omega
 simp+decide only[st,GH,ahc,ahb,e]
theorem HM {α:Type} {q:α->Bool} {l:List α} {i:Nat} (hi:i<l.length) (hf: ∀j,j<i-> ∀hj:j<l.length,q l[j]=false) (hq:q l[i]=true):kQ q l=i:=by
 have:l.findIdx q=i:=by
  rw[List.findIdx_eq hi]
  exact⟨hq,fun j hj=>hf j hj (by omega)⟩
 simp[kQ,this,hi]
theorem HL {α:Type} {q:α->Bool} {l:List α} (hf: ∀j,j<l.length-> ∀hj:j<l.length,q l[j]=false):kQ q l= -1:=by
 have:l.findIdx q=l.length:=by
  rw[List.findIdx_eq_length]
  intro x hx
  obtain⟨j,hj,rfl⟩:=List.getElem_of_mem hx
  exact hf j hj hj
 simp[kQ,this]
theorem aa8 (ok:ax P tb) {g:Nat} {dX:List AV} {q:Nat×Nat->Bool} {l:List (Nat×Nat)} {v:AV} {h:aa} (hv:i0 h v 2 (aw.R l)) (hl:l.length<2^30) (hg:bZ P g=true) (hq: ∀p∈l,an P g (.agg (aw.e p)::dX) h (.bool (q p)) h):
 an P 137 [v, .fn g [] dX] h (.int .i64 (kQ q l)) h:=by
 refine ok.calls (rf:=yt) rfl (Nat.le_of_ble_eq_true rfl) ?_
 have hlen:gI v=some l.length:=by rw[hv.len,aw.aN]
 simp+decide only[st,xv,yt,Ix,Iw,hlen]
 let I:Nat->Env->aa->Prop:=fun n ρ h'=>h'=h/\ ∃i:Nat,l.length=i+n/\(∀j,j<i-> ∀hj:j<l.length,q l[j]=false)/\ρ 0=v/\ρ 1= .fn g [] dX/\ρ 7= .int .i64 l.length/\ρ 8= .int .i64 i
 refine dn I ?_ l.length ⟨rfl,0,by omega,by omega,rfl,rfl,rfl,rfl⟩
 rintro n ρ h' ⟨rfl,i,aE,hf,r0,r1,r7,r8⟩
 by_cases hi:i<l.length
 ·have aB:(i:Int)<(l.length:Int):=by omega
  have hw:=cT (show i<2^61 by omega)
  obtain⟨p,g1,g2⟩:=hv.get i (by rw[aw.aN];exact hi)
  have g3:(aw.R l)[i]'(by rw[aw.aN];exact hi)=aw.e l[i]:=by simp[ba.R]
  rw[g3] at g2
  simp+decide only[st,xv,yt,Ix,Iw,Qj,Qi,Qh,Qg,Qf,Qe,r0,r1,r7,r8,aB,g1,g2]
  refine qf hg (hq l[i] (List.getElem_mem hi)) ?_
  by_cases mz:q l[i]=true
  ·simp+decide only[st,xv,mz,r8,HM hi hf mz]
  ·have qW:q l[i]=false:=by simpa using mz
   simp+decide only[st,xv,qW,r8,hw]
   refine⟨n-1,by omega,rfl,i+1,by omega,fun j hj dO=>?_,r0,r1,r7,rfl⟩
   by_cases d7:j=i
   ·subst d7;exact qW
   ·exact hf j (by omega) dO
 ·have aB: ¬(i:Int)<(l.length:Int):=by omega
  have dH:=HL (q:=q) (l:=l) (fun j _ hj=>hf j (by omega) hj)
  simp+decide only[st,xv,yt,Ix,Iw,Qj,Qi,Qh,Qg,Qf,Qe,r7,r8,aB,dH]
  rfl
theorem aqS (ok:ax P tb) {g:Nat} {dX:List AV} {q:Nat×Nat->Bool} {l:List (Nat×Nat)} {t:aH} {h:aa} (hl:l.length<2^30) (hg:bZ P g=true) (hq: ∀p∈l,an P g (.agg (aw.e p)::dX) h (.bool (q p)) h):
 an P 137 [.vs (aw.R l) t, .fn g [] dX] h (.int .i64 (kQ q l)) h:=aa8 ok (i0.vs aw) hl hg hq
end
section
open Go
variable {P:Program}
def cidx (l:List (Nat×Nat)) (c:Nat):Int:=kQ (fun p=>p.1==c) l
theorem atR (ok:ax P tb) {l:List (Nat×Nat)} {v:AV} {c:Nat} {h:aa} (hv: ∀h',(∀x,x<h.next->h'.get x=h.get x)->i0 h' v 2 (aw.R l)) (hl:l.length<2^30):an P 160 [v, .int .u16 c] h (.int .i64 (cidx l c)) h:=by
 refine ok.keeps (rf:=FB) rfl (Nat.le_of_ble_eq_true rfl) rfl ?_
 simp+decide only[st,xv,FB,acm,ack]
 refine aq (aa8 ok (hv _ (fun x hx=>by simp[aa.at,show¬x=h.next by omega])) hl (ok.bZ _ rfl) (q:=fun p=>p.1==c) (fun p hp=>?_)) ?_
 ·refine ok.keeps (rf:=Fw) rfl (Nat.le_of_ble_eq_true rfl) rfl ?_
  simp+decide only[st,xv,Fw,abY,abX,aw,ad3]
  first|(intro b hb;first|(intros;omega)|(repeat(first|rw[if_neg (by omega)]|rw[if_pos (by omega)]));done)|(refine⟨rfl,?_⟩;intro b hb;first|(intros;omega)|(repeat(first|rw[if_neg (by omega)]|rw[if_pos (by omega)])))
 ·simp+decide only[st,xv,cidx]
  first|(intro b hb;first|(intros;omega)|(repeat(first|rw[if_neg (by omega)]|rw[if_pos (by omega)]));done)|(refine⟨rfl,?_⟩;intro b hb;first|(intros;omega)|(repeat(first|rw[if_neg (by omega)]|rw[if_pos (by omega)])))
theorem an8 (ok:ax P tb) {l:List (Nat×Nat)} {t:aH} {c:Nat} {h:aa} (hl:l.length<2^30):an P 160 [.vs (aw.R l) t, .int .u16 c] h (.int .i64 (cidx l c)) h:=atR ok (fun _ _=>i0.vs aw) hl
def oD (l:Lb) (c:Nat):Nat:=match l.ps.find? (fun p=>p.1==c) with
 |some p=>p.2
 |none=>l.d
theorem He {α:Type} {q:α->Bool}: ∀{l:List α},(kQ q l= -1/\l.find? q=none)\/ ∃i,∃hi:i<l.length,kQ q l=(i:Int)/\l.find? q=some l[i]:=by
 intro l
 by_cases aC:l.findIdx q<l.length
 ·refine .inr ⟨_,aC,by simp[kQ,aC],?_⟩
  have:=List.find?_eq_some_iff_getElem (xs:=l) (p:=q) (b:=l[l.findIdx q])
  rw[this]
  exact⟨List.findIdx_getElem,_,aC,rfl,fun j hj=>by simpa using List.not_of_lt_findIdx hj⟩
 ·refine .inl ⟨by simp[kQ,aC],?_⟩
  rw[List.find?_eq_none]
  intro x hx hq
  exact aC (List.findIdx_lt_length_of_exists ⟨x,hx,by simpa using hq⟩)
theorem aah (ok:ax P tb) {l:Lb} {t:aH} {c:Nat} {h:aa} (hl:l.ps.length<2^30):an P 139 [.agg (l.c t), .int .u16 c] h (.int .u8 (oD l c)) h:=by
 refine ok.keeps (rf:=FF) rfl (Nat.le_of_ble_eq_true rfl) rfl ?_
 simp+decide only[st,xv,FF,acV,acU,Lb.c]
 refine aq (an8 ok hl) ?_
 unfold oD cidx
 rcases He (q:=fun p:Nat×Nat=>p.1==c) (l:=l.ps) with⟨e1,e2⟩|⟨i,hi,e1,e2⟩
 ·simp+decide only[st,xv,Qc,Qb,Qa,e1,e2]
  first|(intro b hb;first|(intros;omega)|(repeat(first|rw[if_neg (by omega)]|rw[if_pos (by omega)]));done)|(refine⟨rfl,?_⟩;intro b hb;first|(intros;omega)|(repeat(first|rw[if_neg (by omega)]|rw[if_pos (by omega)])))
 ·have bR:(0:Int)<=i:=by omega
  have cE:(aw.R l.ps)[i]? =some [.int .u16 l.ps[i].1, .int .u8 l.ps[i].2]:=aw.eW hi
  simp+decide only[st,xv,Qc,Qb,Qa,e1,e2,bR,cE]
  first|(intro b hb;first|(intros;omega)|(repeat(first|rw[if_neg (by omega)]|rw[if_pos (by omega)]));done)|(refine⟨rfl,?_⟩;intro b hb;first|(intros;omega)|(repeat(first|rw[if_neg (by omega)]|rw[if_pos (by omega)])))
def names (l:Lb):Bool:=l.d==2&&!l.ps.any (fun p=>p.2==3)
theorem Nu {α:Type} {q:α->Bool} {l:List α}:decide ((0:Int)<=kQ q l)=l.any q:=by
 rcases He (q:=q) (l:=l) with⟨e1,e2⟩|⟨i,hi,e1,e2⟩
 ·rw[e1]
  have:l.any q=false:=by rw[List.any_eq_false];exact fun x hx=>by simpa using List.find?_eq_none.1 e2 x hx
  rw[this];rfl
 ·rw[e1]
  have:l.any q=true:=List.any_eq_true.2 ⟨_,List.getElem_mem hi,List.find?_some e2⟩
  rw[this];simp
theorem auR (ok:ax P tb) {g:Nat} {dX:List AV} {q:Nat×Nat->Bool} {l:List (Nat×Nat)} {t:aH} {h:aa} (hl:l.length<2^30) (hg:bZ P g=true) (hq: ∀p∈l,an P g (.agg (aw.e p)::dX) h (.bool (q p)) h):
 an P 92 [.vs (aw.R l) t, .fn g [] dX] h (.bool (l.any q)) h:=by
 refine ok.calls (rf:=GA) rfl (Nat.le_of_ble_eq_true rfl) ?_
 simp+decide only[st,xv,GA,aeQ,aeP]
 refine aq (aqS ok hl hg hq) ?_
 simp+decide only[st,xv,Nu]
theorem zj (ok:ax P tb) {l:Lb} {t:aH} {h:aa} (hl:l.ps.length<2^30):an P 63 [.agg (l.c t)] h (.bool (names l)) h:=by
 refine ok.keeps (rf:=BW) rfl (Nat.le_of_ble_eq_true rfl) rfl ?_
 by_cases hd:l.d=2
 ·have kY:(l.d:Int)=2:=by omega
  simp+decide only[st,xv,BW,SU,SS,Lb.c,kY]
  refine aq (auR ok hl (ok.bZ _ rfl) (q:=fun p=>p.2==3) (fun p hp=>?_)) ?_
  ·refine ok.keeps (rf:=Gz) rfl (Nat.le_of_ble_eq_true rfl) rfl ?_
   have e:decide ((p.2:Int)=3)=(p.2==3):=by rw[Bool.eq_iff_iff];simp;omega
   simp+decide only[st,xv,Gz,aeO,aeN,aw,e]
   first|(intro b hb;first|(intros;omega)|(repeat(first|rw[if_neg (by omega)]|rw[if_pos (by omega)]));done)|(refine⟨rfl,?_⟩;intro b hb;first|(intros;omega)|(repeat(first|rw[if_neg (by omega)]|rw[if_pos (by omega)])))
  ·simp+decide only[st,xv,names,hd]
   refine⟨by simp,?_⟩
   first|(intro b hb;first|(intros;omega)|(repeat(first|rw[if_neg (by omega)]|rw[if_pos (by omega)]));done)|(refine⟨rfl,?_⟩;intro b hb;first|(intros;omega)|(repeat(first|rw[if_neg (by omega)]|rw[if_pos (by omega)])))
 ·have kY: ¬(l.d:Int)=2:=by omega
  have e:(l.d==2)=false:=by simpa using hd
  simp+decide only[st,xv,BW,SU,SS,Lb.c,kY,names,e]
  refine⟨by simp,?_⟩
  first|(intro b hb;first|(intros;omega)|(repeat(first|rw[if_neg (by omega)]|rw[if_pos (by omega)]));done)|(refine⟨rfl,?_⟩;intro b hb;first|(intros;omega)|(repeat(first|rw[if_neg (by omega)]|rw[if_pos (by omega)])))
def dR (l:List (Nat×Nat)):List Nat:=(l.filter (fun p=>p.2==0)).map (·.1)
theorem YV {l:List (Nat×Nat)}:(dR l).length<=l.length:=by simp[dR];exact List.length_filter_le _ _
theorem MI (ok:ax P tb) {l:Lb} {t:aH} {h:aa} (hl:l.ps.length<2^30):an P 131 [.agg (l.c t)] h (.vs ((ay .u16).R (dR l.ps)) .ao) h:=by
 refine ok.eM (rf:=v5) rfl (Nat.le_of_ble_eq_true rfl) (ay .u16).lV ?_
 simp+decide only[st,xv,v5,Dt,Ds,Qm,Lb.c]
 let I:Nat->Env->aa->Prop:=fun n ρ h'=>Old h h'/\ ∃i:Nat,l.ps.length=i+n/\ρ 7= .vs (aw.R l.ps) t/\ρ 8= .int .i64 l.ps.length/\ρ 9= .int .i64 i/\App h h' (ρ 3) ((ay .u16).R (dR (l.ps.take i)))
 refine dn I ?_ l.ps.length ⟨(Old.refl h).at (Nat.le_refl _),0,by omega,rfl,by simp+decide only[st,xv,aw.aN],rfl,(App.nil h h).old ((Old.refl h).at (Nat.le_refl _))⟩
 rintro n ρ h' ⟨ho,i,aE,r7,r8,r9,ha⟩
 by_cases hi:i<l.ps.length
 ·have aB:(i:Int)<(l.ps.length:Int):=by omega
  have bR:(0:Int)<=i:=by omega
  have hw:=cT (show i<2^61 by omega)
  have cE:(aw.R l.ps)[i]? =some [.int .u16 l.ps[i].1, .int .u8 l.ps[i].2]:=aw.eW hi
  have hO:Old h ((h'.at h'.next (.cells [.int .u16 0, .int .u8 0])).set h'.next (some (.cells [.int .u16 l.ps[i].1, .int .u8 l.ps[i].2]))):=(ho.at ho.next).set ho.next
  have hA:App h ((h'.at h'.next (.cells [.int .u16 0, .int .u8 0])).set h'.next (some (.cells [.int .u16 l.ps[i].1, .int .u8 l.ps[i].2]))) (ρ 3) ((ay .u16).R (dR (l.ps.take i))):=ha.to (by simp[aa.set,aa.at]) (fun k _ h2 h3=>by
   have: ¬k=h'.next:=by omega
   simp[aa.set,aa.at,this,h3])
  have dE:dR (l.ps.take (i+1))=dR (l.ps.take i)++dR [l.ps[i]]:=by
   rw[<-List.take_append_getElem hi];simp only[dR,List.filter_append,List.map_append]
  by_cases hs:l.ps[i].2=0
  ·have iW:(l.ps[i].2:Int)=0:=by omega
   rw[iW] at hO hA
   have pP:=YV (l:=l.ps.take i)
   have mZ:=List.length_take_le i l.ps
   obtain⟨v',h2,a1,a2,a3,a4,a5,a6⟩:=hA.app hO (bytes:=2) (sz:=1) (id:=h'.next+1) (by have:=ho.next;omega) [[.int .u16 l.ps[i].1]] (ay .u16).jn (by rw[(ay .u16).aN];simp only[List.length_singleton];omega) (by rw[(ay .u16).aN];simp only[List.length_singleton];omega)
   simp+decide only[st,xv,v5,Dt,Ds,ID,IC,IB,IA,Iz,Iy,r7,r8,r9,aB,bR,hw,Int.toNat_natCast,cE,iW,a1,List.length_cons,List.length_nil]
   exact⟨n-1,by omega,a3,i+1,by omega,r7,r8,rfl,by rw[dE,show dR [l.ps[i]]=[l.ps[i].1] by simp[dR,hs],<-(ay .u16).jK];exact a2⟩
  ·have iW: ¬(l.ps[i].2:Int)=0:=by omega
   have F8:dR [l.ps[i]]=[]:=by simp[dR,hs]
   simp+decide only[st,xv,v5,Dt,Ds,ID,IC,IB,IA,Iz,Iy,r7,r8,r9,aB,bR,hw,Int.toNat_natCast,cE,iW,List.length_cons,List.length_nil]
   exact⟨n-1,by omega,hO,i+1,by omega,r7,r8,rfl,by rw[dE,F8,List.append_nil];exact hA⟩
 ·have aB: ¬(i:Int)<(l.ps.length:Int):=by omega
  have ix:i=l.ps.length:=by omega
  obtain⟨tt,hv,_⟩:=ha
  simp+decide only[st,xv,v5,Dt,Ds,Qm,ID,IC,IB,IA,Iz,Iy,r8,r9,aB,hv,bE]
  exact⟨by rw[ix,List.take_length,(ay .u16).lR],ho.get⟩
end
section
open Go
variable {P:Program}
def mg (dx dy:Nat):List (Nat×Nat)->List (Nat×Nat)->List (Nat×Nat×Nat)
 |[],[]=>[]
 |(c,x)::l,[]=>(c,x,dy)::mg dx dy l []
 |[],(c,y)::m=>(c,dx,y)::mg dx dy [] m
 |(c,x)::l,(e,y)::m=>if c<e then(c,x,dy)::mg dx dy l ((e,y)::m) else if e<c then(e,dx,y)::mg dx dy ((c,x)::l) m else(c,x,y)::mg dx dy l m
termination_by l m=>l.length+m.length
theorem Jn {dx dy:Nat}:mg dx dy [] []=[]:=by rw[mg]
theorem Q5 {dx dy c x:Nat} {l:List (Nat×Nat)}:mg dx dy ((c,x)::l) []=(c,x,dy)::mg dx dy l []:=by rw[mg]
theorem Q4 {dx dy c x:Nat} {l:List (Nat×Nat)}:mg dx dy [] ((c,x)::l)=(c,dx,x)::mg dx dy [] l:=by rw[mg]
theorem Jo {dx dy c x e y:Nat} {l m:List (Nat×Nat)}:mg dx dy ((c,x)::l) ((e,y)::m)=if c<e then(c,x,dy)::mg dx dy l ((e,y)::m) else if e<c then(e,dx,y)::mg dx dy ((c,x)::l) m else(c,x,y)::mg dx dy l m:=by rw[mg]
def Ao (p:Nat×Nat×Nat):List AV:=[.int .u16 p.1, .int .u8 p.2.1, .int .u8 p.2.2]
structure MJ (h:aa) (a b:Lb) (ta eI:aH) (g:Nat) (dX:List AV) (J:List (Nat×Nat×Nat)->aa->Prop) (l m:List (Nat×Nat)) (done:List (Nat×Nat×Nat)) (ρ:Env) (H:aa):Prop where
 l1:l.length<=a.ps.length
 l2:m.length<=b.ps.length
 r2:ρ 2= .fn g [] dX
 r3:ρ 3= .ptr h.next 0
 r4:ρ 4= .ptr (h.next+1) 0
 r6: ∃t,ρ 6= .vs (aw.R l) t
 r7: ∃t,ρ 7= .vs (aw.R m) t
 mg:mg a.d b.d a.ps b.ps=done++mg a.d b.d l m
 j:J done H
 n:h.next+2<=H.next
 ca:H.get h.next=some (.cells (a.c ta))
 cb:H.get (h.next+1)=some (.cells (b.c eI))
theorem Cn {h:aa} {a b:Lb} {ta eI:aH} {g:Nat} {dX:List AV} {J:List (Nat×Nat×Nat)->aa->Prop} {n:Nat} {done:List (Nat×Nat×Nat)} {H H1:aa} {ρ':Env} {K:aQ->Env->aa->Prop} {Q:Env->aa->Prop} {l2 m2:List (Nat×Nat)} {p:Nat×Nat×Nat}
 (hQ: ∀ρ2 H2 l2 m2 DU,l2.length+m2.length<n->MJ h a b ta eI g dX J l2 m2 DU ρ2 H2->Q ρ2 H2)
 (hg:bZ P g=true) (wB: ∀done H H',J done H->Old H H'->J done H')
 (sj: ∀done p rest H,mg a.d b.d a.ps b.ps=done++p::rest->J done H->h.next+2<=H.next-> ∃H',an P g (Ao p++dX) H (.az []) H'/\J (done++[p]) H'/\H.next<=H'.next/\ ∀x,h.next<=x->x<h.next+2->H'.get x=H.get x)
 (hj:J done H) (fg:h.next+2<=H.next) (ca:H.get h.next=some (.cells (a.c ta))) (cb:H.get (h.next+1)=some (.cells (b.c eI)))
 (q1:H.next<=H1.next) (q2: ∀x,x<H.next->H1.get x=H.get x) (q3:l2.length+m2.length<n) (q4:l2.length<=a.ps.length) (q5:m2.length<=b.ps.length)
 (q6:mg a.d b.d a.ps b.ps=done++p::mg a.d b.d l2 m2) (q7:ρ' 2= .fn g [] dX) (q8:ρ' 3= .ptr h.next 0) (q9:ρ' 4= .ptr (h.next+1) 0) (Lv: ∃t,ρ' 6= .vs (aw.R l2) t) (q11: ∃t,ρ' 7= .vs (aw.R m2) t) (q12:ρ' 12= .int .u16 p.1) (q13:ρ' 8= .int .u8 p.2.1) (q14:ρ' 9= .int .u8 p.2.2):
 WP P (.seq (.af NM) (.goto 0)) (kI 0 Q K) ρ' H1:=by
 obtain⟨H2,k1,k2,k3,k4⟩:=sj done p _ H1 q6 (wB _ _ _ hj ⟨q1,q2⟩) (by omega)
 simp+decide only[st,xv,NM,q7,q12,q13,q14]
 refine qf hg k1 ?_
 simp+decide only[st,xv]
 exact hQ _ _ l2 m2 _ q3 ⟨q4,q5,q7,q8,q9,Lv,q11,by rw[q6];simp,k2,by omega,by rw[k4 _ (by omega) (by omega),q2 _ (by omega),ca],by rw[k4 _ (by omega) (by omega),q2 _ (by omega),cb]⟩
theorem Az {α:Type} {E:ba α} {p:α} {m:List α}:List.take ((E.R (p::m)).length-Int.toNat 1) (List.drop (Int.toNat 1) (E.R (p::m)))=E.R m:=by
 rw[List.take_of_length_le (by simp)];rfl
theorem XV (ok:ax P tb) {a b:Lb} {ta eI:aH} {g:Nat} {dX:List AV} {J:List (Nat×Nat×Nat)->aa->Prop} {h:aa} (hla:a.ps.length<2^30) (m7:b.ps.length<2^30) (hg:bZ P g=true)
 (Mc:J [] h) (wB: ∀done H H',J done H->Old H H'->J done H')
 (sj: ∀done p rest H,mg a.d b.d a.ps b.ps=done++p::rest->J done H->h.next+2<=H.next-> ∃H',an P g (Ao p++dX) H (.az []) H'/\J (done++[p]) H'/\H.next<=H'.next/\ ∀x,h.next<=x->x<h.next+2->H'.get x=H.get x):
 ∃H',an P 162 [.agg (a.c ta), .agg (b.c eI), .fn g [] dX] h (.az []) H'/\J (mg a.d b.d a.ps b.ps) H':=by
 refine ok.dz (rf:=eg) rfl (Nat.le_of_ble_eq_true rfl) ?_
 simp+decide only[st,xv,eg,acj,Lb.c]
 refine lQ 0 rfl rfl (fun n ρ H=> ∃l m done,l.length+m.length=n/\MJ h a b ta eI g dX J l m done ρ H) (fun l' ρ h hk=>hk) ?_ ?_
 ·simp+decide only[st,xv,j7,List.foldr]
  refine bJ 6 rfl rfl ?_
  simp+decide only[st,xv,aci,Lb.c]
  refine⟨_,a.ps,b.ps,[],rfl,Nat.le_refl _,Nat.le_refl _,rfl,rfl,rfl,⟨_,rfl⟩,⟨_,rfl⟩,rfl,wB _ _ _ Mc ⟨by simp[aa.clean,aa.at];omega,fun x hx=>?_⟩,by simp[aa.clean,aa.at],?_,?_⟩
  ·simp[aa.clean,aa.at,show¬x=h.next+1 by omega,show¬x=h.next by omega,show x<h.next+1+1 by omega]
  ·simp[aa.clean,aa.at,Lb.c];omega
  ·simp[aa.clean,aa.at,Lb.c]
 rintro n ρ H ⟨l,m,done,hn,M⟩
 obtain⟨l1,l2,r2,r3,r4,⟨t,r6⟩,⟨t',r7⟩,kA,hj,fg,ca,cb⟩:=M
 have hz: ∀k:Nat,¬(((k+1:Nat):Int)=0):=fun k=>by omega
 have kS: ∀k:Nat,(0:Int)<((k+1:Nat):Int):=fun k=>by omega
 have ga:=av ca
 have gb:=av cb
 have n1:h.next<H.next:=by omega
 have n2:h.next+1<H.next:=by omega
 have hZ:((0:Nat):Int)=0:=rfl
 have hQ: ∀ρ2 H2 l2 m2 DU,l2.length+m2.length<n->MJ h a b ta eI g dX J l2 m2 DU ρ2 H2-> ∃m,m<n/\ ∃l m_1 done,l.length+m_1.length=m/\MJ h a b ta eI g dX J l m_1 done ρ2 H2:=fun ρ2 H2 l2 m2 DU h1 h2=>⟨_,h1,l2,m2,DU,rfl,h2⟩
 have hd: ∀(e y:Nat) (m:List (Nat×Nat)),(aw.R ((e,y)::m))[0]? =some [.int .u16 e, .int .u8 y]:=fun _ _ _=>rfl
 have k1: ∀(p:Nat×Nat) (m:List (Nat×Nat)),dF 2 (aw.R (p::m))=true:=fun p m=>aw.jn
 have k3: ∀(p:Nat×Nat) (m:List (Nat×Nat)),Int.toNat 1<=(aw.R (p::m)).length:=fun p m=>by rw[aw.aN];simp
 rcases l with _|⟨⟨c,x⟩,l⟩
 ·rcases m with _|⟨⟨e,y⟩,m⟩
  ·rw[Jn,List.append_nil] at kA
   have h0:IntKind.wrap .i64 ((0:Int)+0)=0:=rfl
   simp+decide only[st,xv,xt,r6,r7,aw.kM,List.length_nil,h0]
   exact⟨rfl,by rw[kA];exact hj⟩
  ·have hw:IntKind.wrap .i64 ((0:Int)+((m.length+1:Nat):Int))=((m.length+1:Nat):Int):=by simp only[List.length_cons] at l2;rw[bw]<;>omega
   rw[Q4] at kA
   simp+decide only[st,xv,eg,xt,r6,r7,aw.kM,aw.aN,hw,hz,kS]
   refine bJ 6 rfl rfl ?_
   simp+decide only[st,xv,eg,zW,r3,r4,ga,gb,n1,n2,Lb.c]
   refine bJ 20 rfl rfl ?_
   simp+decide only[st,xv,eg,zV,r6,r7,aw.kM,aw.aN,hz,kS,hd]
   refine bJ 20 rfl rfl ?_
   simp+decide only[st,xv,eg,zU,r6,r7,aw.kM,aw.aN,hz,kS,hd]
   simp+decide only[st,xv,eg,zT,zS]
   refine bJ 13 rfl rfl ?_
   simp+decide only[st,xv,eg,Im,zR,r6,r7,hd,k1,k3,Az]
   exact vh.1 (tK.1 (Cn (l2:=[]) (m2:=m) (p:=(e,a.d,y)) hQ hg wB sj hj fg ca cb (by simp[aa.clean];omega) (fun x hx=>by simp only[aa.clean];simp[show x<H.next+6 by omega,show x<H.next+6+20 by omega,show x<H.next+6+20+20 by omega,show x<H.next+6+20+20+13 by omega,show x<H.next+6+20+20+13+13 by omega,hx]) (by simp only[List.length_cons,List.length_nil] at hn ⊢;omega) (by simp only[List.length_cons,List.length_nil] at l1 ⊢;omega) (by simp only[List.length_cons,List.length_nil] at l2 ⊢;omega) kA r2 r3 r4 ⟨_,r6⟩ ⟨_,rfl⟩ rfl rfl rfl))
 ·rcases m with _|⟨⟨e,y⟩,m⟩
  ·have hw:IntKind.wrap .i64 (((l.length+1:Nat):Int)+0)=((l.length+1:Nat):Int):=by simp only[List.length_cons] at l1;rw[bw]<;>omega
   rw[Q5] at kA
   simp+decide only[st,xv,eg,xt,r6,r7,aw.kM,aw.aN,hw,hz,kS]
   refine bJ 6 rfl rfl ?_
   simp+decide only[st,xv,eg,zW,r3,r4,ga,gb,n1,n2,Lb.c]
   refine bJ 20 rfl rfl ?_
   simp+decide only[st,xv,eg,zV,r6,r7,aw.kM,aw.aN,hz,kS,hd]
   refine bJ 20 rfl rfl ?_
   simp+decide only[st,xv,eg,zU,r6,r7,aw.kM,aw.aN,hz,kS,hd]
   simp+decide only[st,xv,eg,zT,zS,zR]
   refine bJ 13 rfl rfl ?_
   simp+decide only[st,xv,eg,HO,r6,r7,hd,k1,k3,Az]
   exact vh.1 (tK.1 (Cn (l2:=l) (m2:=[]) (p:=(c,x,b.d)) hQ hg wB sj hj fg ca cb (by simp[aa.clean];omega) (fun x hx=>by simp only[aa.clean];simp[show x<H.next+6 by omega,show x<H.next+6+20 by omega,show x<H.next+6+20+20 by omega,show x<H.next+6+20+20+13 by omega,show x<H.next+6+20+20+13+13 by omega,hx]) (by simp only[List.length_cons,List.length_nil] at hn ⊢;omega) (by simp only[List.length_cons,List.length_nil] at l1 ⊢;omega) (by simp only[List.length_cons,List.length_nil] at l2 ⊢;omega) kA r2 r3 r4 ⟨_,rfl⟩ ⟨_,r7⟩ rfl rfl rfl))
  ·have hw:IntKind.wrap .i64 (((l.length+1:Nat):Int)+((m.length+1:Nat):Int))=((l.length+1+(m.length+1):Nat):Int):=by simp only[List.length_cons] at l1 l2;rw[bw]<;>omega
   have Wo: ¬((l.length+1+(m.length+1):Nat):Int)=0:=by omega
   rw[Jo] at kA
   by_cases h1:c<e
   ·rw[if_pos h1] at kA
    have f1:(c:Int)<=(e:Int):=by omega
    have f2: ¬(e:Int)<=(c:Int):=by omega
    simp+decide only[st,xv,eg,xt,r6,r7,aw.kM,aw.aN,hw,Wo,hz,kS]
    refine bJ 6 rfl rfl ?_
    simp+decide only[st,xv,eg,zW,r3,r4,ga,gb,n1,n2,Lb.c]
    refine bJ 20 rfl rfl ?_
    simp+decide only[st,xv,eg,zV,r6,r7,aw.kM,aw.aN,hz,kS,hd,f1,f2]
    refine bJ 20 rfl rfl ?_
    simp+decide only[st,xv,eg,zU,r6,r7,aw.kM,aw.aN,hz,kS,hd,f1,f2]
    simp+decide only[st,xv,eg,zT,zS,zR]
    refine bJ 13 rfl rfl ?_
    simp+decide only[st,xv,eg,HO,r6,r7,hd,k1,k3,Az]
    exact vh.1 (tK.1 (Cn (l2:=l) (m2:=((e,y)::m)) (p:=(c,x,b.d)) hQ hg wB sj hj fg ca cb (by simp[aa.clean];omega) (fun x hx=>by simp only[aa.clean];simp[show x<H.next+6 by omega,show x<H.next+6+20 by omega,show x<H.next+6+20+20 by omega,show x<H.next+6+20+20+13 by omega,show x<H.next+6+20+20+13+13 by omega,hx]) (by simp only[List.length_cons,List.length_nil] at hn ⊢;omega) (by simp only[List.length_cons,List.length_nil] at l1 ⊢;omega) (by simp only[List.length_cons,List.length_nil] at l2 ⊢;omega) kA r2 r3 r4 ⟨_,rfl⟩ ⟨_,r7⟩ rfl rfl rfl))
   by_cases h2:e<c
   ·rw[if_neg h1,if_pos h2] at kA
    have f1: ¬(c:Int)<=(e:Int):=by omega
    have f2:(e:Int)<=(c:Int):=by omega
    simp+decide only[st,xv,eg,xt,r6,r7,aw.kM,aw.aN,hw,Wo,hz,kS]
    refine bJ 6 rfl rfl ?_
    simp+decide only[st,xv,eg,zW,r3,r4,ga,gb,n1,n2,Lb.c]
    refine bJ 20 rfl rfl ?_
    simp+decide only[st,xv,eg,zV,r6,r7,aw.kM,aw.aN,hz,kS,hd,f1,f2]
    refine bJ 20 rfl rfl ?_
    simp+decide only[st,xv,eg,zU,r6,r7,aw.kM,aw.aN,hz,kS,hd,f1,f2]
    simp+decide only[st,xv,eg,zT,zS]
    refine bJ 13 rfl rfl ?_
    simp+decide only[st,xv,eg,Im,zR,r6,r7,hd,k1,k3,Az]
    exact vh.1 (tK.1 (Cn (l2:=((c,x)::l)) (m2:=m) (p:=(e,a.d,y)) hQ hg wB sj hj fg ca cb (by simp[aa.clean];omega) (fun x hx=>by simp only[aa.clean];simp[show x<H.next+6 by omega,show x<H.next+6+20 by omega,show x<H.next+6+20+20 by omega,show x<H.next+6+20+20+13 by omega,show x<H.next+6+20+20+13+13 by omega,hx]) (by simp only[List.length_cons,List.length_nil] at hn ⊢;omega) (by simp only[List.length_cons,List.length_nil] at l1 ⊢;omega) (by simp only[List.length_cons,List.length_nil] at l2 ⊢;omega) kA r2 r3 r4 ⟨_,r6⟩ ⟨_,rfl⟩ rfl rfl rfl))
   ·rw[if_neg h1,if_neg h2] at kA
    have hce:c=e:=by omega
    subst hce
    have f1:(c:Int)<=(c:Int):=by omega
    simp+decide only[st,xv,eg,xt,r6,r7,aw.kM,aw.aN,hw,Wo,hz,kS]
    refine bJ 6 rfl rfl ?_
    simp+decide only[st,xv,eg,zW,r3,r4,ga,gb,n1,n2,Lb.c]
    refine bJ 20 rfl rfl ?_
    simp+decide only[st,xv,eg,zV,r6,r7,aw.kM,aw.aN,hz,kS,hd,f1]
    refine bJ 20 rfl rfl ?_
    simp+decide only[st,xv,eg,zU,r6,r7,aw.kM,aw.aN,hz,kS,hd,f1]
    simp+decide only[st,xv,eg,zT,zS]
    refine bJ 13 rfl rfl ?_
    simp+decide only[st,xv,eg,Im,zR,r6,r7,hd,k1,k3,Az]
    refine bJ 13 rfl rfl ?_
    simp+decide only[st,xv,eg,HO,r6,r7,hd,k1,k3,Az]
    exact vh.1 (tK.1 (Cn (l2:=l) (m2:=m) (p:=(c,x,y)) hQ hg wB sj hj fg ca cb (by simp[aa.clean];omega) (fun x hx=>by simp only[aa.clean];simp[show x<H.next+6 by omega,show x<H.next+6+20 by omega,show x<H.next+6+20+20 by omega,show x<H.next+6+20+20+13 by omega,show x<H.next+6+20+20+13+13 by omega,hx]) (by simp only[List.length_cons,List.length_nil] at hn ⊢;omega) (by simp only[List.length_cons,List.length_nil] at l1 ⊢;omega) (by simp only[List.length_cons,List.length_nil] at l2 ⊢;omega) kA r2 r3 r4 ⟨_,rfl⟩ ⟨_,rfl⟩ rfl rfl rfl))
end
section
open Go
variable {P:Program}
theorem vj {dx dy:Nat} (hx:dx<256) (hy:dy<256): ∀{l m:List (Nat×Nat)},(∀p∈l,p.1<65536/\p.2<256)->(∀p∈m,p.1<65536/\p.2<256)-> ∀p∈mg dx dy l m,p.1<65536/\p.2.1<256/\p.2.2<256
 |[],[],_,_,p,hp=>by rw[Jn] at hp;cases hp
 |(c,x)::l,[],h1,h2,p,hp=>by
  rw[Q5] at hp
  rcases List.mem_cons.1 hp with rfl|hp
  ·have:=h1 _ (List.mem_cons_self ..);exact⟨this.1,this.2,hy⟩
  ·exact vj hx hy (fun q hq=>h1 q (List.mem_cons_of_mem _ hq)) h2 p hp
 |[],(c,x)::l,h1,h2,p,hp=>by
  rw[Q4] at hp
  rcases List.mem_cons.1 hp with rfl|hp
  ·have:=h2 _ (List.mem_cons_self ..);exact⟨this.1,hx,this.2⟩
  ·exact vj hx hy h1 (fun q hq=>h2 q (List.mem_cons_of_mem _ hq)) p hp
 |(c,x)::l,(e,y)::m,h1,h2,p,hp=>by
  rw[Jo] at hp
  have b1:=h1 _ (List.mem_cons_self ..)
  have b2:=h2 _ (List.mem_cons_self ..)
  have t1: ∀p∈l,p.1<65536/\p.2<256:=fun q hq=>h1 q (List.mem_cons_of_mem _ hq)
  have t2: ∀p∈m,p.1<65536/\p.2<256:=fun q hq=>h2 q (List.mem_cons_of_mem _ hq)
  split at hp
  ·rcases List.mem_cons.1 hp with rfl|hp
   ·exact⟨b1.1,b1.2,hy⟩
   ·exact vj hx hy t1 h2 p hp
  ·split at hp
   ·rcases List.mem_cons.1 hp with rfl|hp
    ·exact⟨b2.1,hx,b2.2⟩
    ·exact vj hx hy h1 t2 p hp
   ·rcases List.mem_cons.1 hp with rfl|hp
    ·exact⟨b1.1,b1.2,b2.2⟩
    ·exact vj hx hy t1 t2 p hp
termination_by l m=>l.length+m.length
def yH (p:Nat×Nat×Nat):Bool:=decide (p.2.1<=p.2.2)
def fo (a b:Lb):Bool:=decide (a.d<=b.d)&&(mg a.d b.d a.ps b.ps).all yH
theorem GQ (ok:ax P tb) {a b:Lb} {ta eI:aH} {h:aa} (ha:a.ok) (hb:b.ok):an P 140 [.agg (a.c ta), .agg (b.c eI)] h (.bool (fo a b)) h:=by
 refine ok.keeps (rf:=vY) rfl (Nat.le_of_ble_eq_true rfl) rfl ?_
 simp+decide only[st,xv,vY,Dh,Dg,Lb.c]
 refine aq (ZR ok ha.d hb.d _) ?_
 simp+decide only[st,xv,vY,Dh,Dg,Iu,Lb.c]
 let J:List (Nat×Nat×Nat)->aa->Prop:=fun done H=>h.next+1+1<H.next/\H.get (h.next+1+1)=some (.cells [.bool (decide (a.d<=b.d)&&done.all yH)])/\ ∀x,x<h.next->H.get x=h.get x
 obtain⟨H',k1,_,k2,k3⟩:=XV ok (ta:=ta) (eI:=eI) (g:=163) (dX:=[.ptr (h.next+1+1) 0]) (J:=J) (h:=(((h.at h.next (.cells [.int .u8 a.d, .vs (aw.R a.ps) ta])).at (h.next+1) (.cells [.int .u8 b.d, .vs (aw.R b.ps) eI])).at (h.next+1+1) (.cells [.bool false])).set (h.next+1+1) (some (.cells [.bool (decide (a.d<=b.d))]))) (a:=a) (b:=b) (by have:=ha.len;omega) (by have:=hb.len;omega) (ok.bZ _ rfl)
  ⟨by simp[aa.set,aa.at],by simp[aa.set],fun x hx=>by simp[aa.set,aa.at,show¬x=h.next+1+1 by omega,show¬x=h.next+1 by omega,show¬x=h.next by omega]⟩
  (fun done H H' hj ho=>⟨by have:=ho.next;have:=hj.1;omega,by rw[ho.get _ hj.1];exact hj.2.1,fun x hxx=>by rw[ho.get _ (by have:=hj.1;omega)];exact hj.2.2 x hxx⟩)
  (fun done p rest H kA hj hn=>by
    have hp:=vj ha.d hb.d ha.ps hb.ps p (by rw[kA];simp)
    have hc:=av hj.2.1
    refine⟨H.set (h.next+1+1) (some (.cells [.bool (decide (a.d<=b.d)&&(done++[p]).all yH)])),?_,⟨hj.1,by simp[aa.set],fun x hx=>by simp[aa.set,show¬x=h.next+1+1 by omega,hj.2.2 x hx]⟩,by simp[aa.set],fun x h1 h2=>?_⟩
    ·refine ok.calls (rf:=A9) rfl (Nat.le_of_ble_eq_true rfl) ?_
     cases hq:(decide (a.d<=b.d)&&done.all yH) with
     |true=>
      rw[hq] at hc
      simp+decide only[st,xv,A9,Po,hc,Ao]
      refine aq (ZR ok hp.2.1 hp.2.2 _) ?_
      have e:(decide (a.d<=b.d)&&(done++[p]).all yH)=decide (p.2.1<=p.2.2):=by
       rw[List.all_append,<-Bool.and_assoc,hq];simp[yH]
      simp+decide only[st,xv,e,hc]
     |false=>
      rw[hq] at hc
      have e:(decide (a.d<=b.d)&&(done++[p]).all yH)=false:=by
       rw[List.all_append,<-Bool.and_assoc,hq];rfl
      simp+decide only[st,xv,A9,Po,hc,Ao,e]
    ·have: ¬x=h.next+1+1:=by simp[aa.set,aa.at] at h1;omega
     simp[aa.set,this])
 simp+decide only[st,xv,vY,Dh,Dg,Iu,P5,Lb.c]
 refine aq k1 ?_
 have hc:=av k2
 simp+decide only[st,xv,vY,Dh,Dg,Iu,P5,hc]
 exact⟨rfl,k3⟩
end
section
open Go
variable {P:Program}
def mW (F:Nat->Nat->Nat) (D:Nat) (l:List (Nat×Nat×Nat)):List (Nat×Nat):=l.filterMap fun p=>if F p.2.1 p.2.2=D then none else some (p.1,F p.2.1 p.2.2)
theorem aap {F:Nat->Nat->Nat} {D:Nat} {l:List (Nat×Nat×Nat)}:(mW F D l).length<=l.length:=List.length_filterMap_le _ _
theorem zK {dx dy:Nat}: ∀{l m:List (Nat×Nat)},(mg dx dy l m).length<=l.length+m.length
 |[],[]=>by rw[Jn];simp
 |(c,x)::l,[]=>by rw[Q5];have:=zK (dx:=dx) (dy:=dy) (l:=l) (m:=[]);simp only[List.length_cons,List.length_nil] at this ⊢;omega
 |[],(c,x)::l=>by rw[Q4];have:=zK (dx:=dx) (dy:=dy) (l:=[]) (m:=l);simp only[List.length_cons,List.length_nil] at this ⊢;omega
 |(c,x)::l,(e,y)::m=>by
  rw[Jo]
  have h1:=zK (dx:=dx) (dy:=dy) (l:=l) (m:=(e,y)::m)
  have h2:=zK (dx:=dx) (dy:=dy) (l:=(c,x)::l) (m:=m)
  have h3:=zK (dx:=dx) (dy:=dy) (l:=l) (m:=m)
  split
  ·simp only[List.length_cons] at h1 ⊢;omega
  ·split
   ·simp only[List.length_cons] at h2 ⊢;omega
   ·simp only[List.length_cons] at h3 ⊢;omega
termination_by l m=>l.length+m.length
def Jq (F:Nat->Nat->Nat) (a b:Lb):Lb:=⟨F a.d b.d,mW F (F a.d b.d) (mg a.d b.d a.ps b.ps)⟩
def BJ (h:aa) (g:Nat) (F:Nat->Nat->Nat) (D:Nat) (done:List (Nat×Nat×Nat)) (H:aa):Prop:=
 h.next+1+1+1+1+1<=H.next/\H.get (h.next+1+1)=some (.cells [.fn g [] []])/\H.get (h.next+1+1+1)=some (.cells [.int .u8 0, .vs [] .full])/\(∃v,H.get (h.next+1+1+1+1)=some (.cells [.int .u8 D,v])/\App ⟨h.get,h.next+1+1+1+1+1+2⟩ H v (aw.R (mW F D done)))/\ ∀x,x<h.next->H.get x=h.get x
theorem alG (ok:ax P tb) {a b:Lb} {ta eI:aH} {h:aa} (ha:a.ok) (hb:b.ok) {g:Nat} {F:Nat->Nat->Nat} (hg:bZ P g=true) (hF: ∀x y:Nat,x<256->y<256-> ∀h,an P g [.int .u8 x, .int .u8 y] h (.int .u8 (F x y)) h):
 an P 178 [.agg (a.c ta), .agg (b.c eI), .fn g [] []] h (.agg ((Jq F a b).c .ao)) h:=by
 refine ok.eM (rf:=yl) rfl (Nat.le_of_ble_eq_true rfl) (by simp only[AV.bB,AV.bX,Lb.c,aw.iB];rfl) ?_
 simp+decide only[st,xv,yl,O6,O5,Lb.c]
 refine qf hg (hF _ _ ha.d hb.d _) ?_
 simp+decide only[st,xv,yl,O6,O5,abW,Lb.c]
 have hD:F a.d b.d=(Jq F a b).d:=rfl
 have key: ∀X:aa,X.next=h.next+1+1+1+1+1->X.get (h.next+1+1)=some (.cells [.fn g [] []])->X.get (h.next+1+1+1)=some (.cells [.int .u8 0, .vs [] .full])->X.get (h.next+1+1+1+1)=some (.cells [.int .u8 (F a.d b.d), .vs [] .full])->(∀x,x<h.next->X.get x=h.get x)->
  ∃H',an P 162 [.agg (a.c ta), .agg (b.c eI), .fn 184 [] [.ptr (h.next+1+1) 0, .ptr (h.next+1+1+1+1) 0]] X (.az []) H'/\BJ h g F (F a.d b.d) (mg a.d b.d a.ps b.ps) H':=by
  intro X x1 x2 x3 x4 x5
  refine XV ok (J:=BJ h g F (F a.d b.d)) (by have:=ha.len;omega) (by have:=hb.len;omega) (ok.bZ _ rfl) ⟨by omega,x2,x3,⟨_,x4,⟨_,rfl, .inl rfl⟩⟩,x5⟩ ?_ ?_
  ·rintro done H H' ⟨j1,j2,j3,⟨v,j4,j5⟩,j6⟩ ho
   have hn:=ho.next
   exact⟨by omega,by rw[ho.get _ (by omega),j2],by rw[ho.get _ (by omega),j3],⟨v,by rw[ho.get _ (by omega),j4],j5.to hn (fun k _ q2 q3=>by rw[ho.get _ q2,q3])⟩,fun x hx=>by rw[ho.get _ (by omega),j6 x hx]⟩
  ·rintro done p rest H kA ⟨j1,j2,j3,⟨v,j4,j5⟩,j6⟩ hn
   have hp:=vj ha.d hb.d ha.ps hb.ps p (by rw[kA];simp)
   have BH:=av j2
   have sY:=av j4
   have hlen:done.length<=a.ps.length+b.ps.length:=by
    have h1:=zK (dx:=a.d) (dy:=b.d) (l:=a.ps) (m:=b.ps)
    rw[kA] at h1;simp at h1;omega
   have WM:=ha.len
   have jz:=hb.len
   have pP:=aap (F:=F) (D:=F a.d b.d) (l:=done)
   refine ok.dz (rf:=vU) rfl (Nat.le_of_ble_eq_true rfl) ?_
   by_cases hv:F p.2.1 p.2.2=F a.d b.d
   ·have da:((F p.2.1 p.2.2:Nat):Int)=((F a.d b.d:Nat):Int):=by omega
    have hs:mW F (F a.d b.d) (done++[p])=mW F (F a.d b.d) done:=by simp[mW,hv]
    simp+decide only[st,xv,vU,Db,Da,C9,BH,sY,Ao]
    refine qf hg (hF _ _ hp.2.1 hp.2.2 _) ?_
    simp+decide only[st,xv,vU,Db,Da,C9,BH,sY,hv]
    exact⟨rfl,⟨j1,j2,j3,⟨v,j4,by rw[hs];exact j5⟩,j6⟩,Nat.le_refl _,fun _ _ _=>rfl⟩
   ·have da: ¬((F p.2.1 p.2.2:Nat):Int)=((F a.d b.d:Nat):Int):=by omega
    have hs:mW F (F a.d b.d) (done++[p])=mW F (F a.d b.d) done++[(p.1,F p.2.1 p.2.2)]:=by simp[mW,hv]
    have j5':App ⟨H.get,h.next+1+1+1+1+1+2⟩ H v (aw.R (mW F (F a.d b.d) done)):=j5
    obtain⟨v',h2,a1,a2,a3,a4,a5,a6⟩:=j5'.app ⟨by rw[<-x1];exact hn,fun _ _=>rfl⟩ (bytes:=4) (sz:=2) (id:=H.next) (by rw[<-x1];exact hn) [[.int .u16 p.1, .int .u8 (F p.2.1 p.2.2)]] aw.jn (by rw[aw.aN];simp only[List.length_singleton];omega) (by rw[aw.aN];simp only[List.length_singleton];omega)
    simp+decide only[st,xv,vU,Db,Da,C9,BH,sY,Ao]
    refine qf hg (hF _ _ hp.2.1 hp.2.2 _) ?_
    have awJ:cellsOf h2 (h.next+1+1+1+1)=some [.int .u8 (F a.d b.d),v]:=av (by rw[a3.get _ (by simp),j4])
    obtain⟨tt,rfl,ht⟩:=a2
    simp+decide only[st,xv,vU,Db,Da,C9,BH,sY,hv,a1,awJ]
    refine⟨rfl,⟨by simp[aa.set];omega,by simp[aa.set,a3.get,j2],by simp[aa.set,a3.get,j3],⟨.vs (aw.R (mW F (F a.d b.d) done)++[[.int .u16 p.1, .int .u8 (F p.2.1 p.2.2)]]) tt,by simp[aa.set],?_⟩,fun x hx=>?_⟩,by simp[aa.set];omega,fun x h1 fH=>?_⟩
    ·rw[hs,<-aw.jK]
     exact App.to (h:=h2) ⟨tt,rfl,ht⟩ (by simp[aa.set]) (fun k q1 q2 q3=>by
      have: ¬k=h.next+1+1+1+1:=by have:h.next+1+1+1+1+1+2<=k:=q1;omega
      simp[aa.set,this,q3])
    ·simp only[aa.set];rw[if_neg (by omega),a3.get x (show x<h.next+1+1+1+1+1+2 by omega),j6 x hx]
    ·simp only[aa.set];rw[if_neg (by omega),a3.get x (show x<h.next+1+1+1+1+1+2 by omega)]
 refine(key _ ?_ ?_ ?_ ?_ ?_).elim (fun H' hk=>aq hk.1 ?_)
 ·simp[aa.set,aa.at]
 ·simp[aa.set,aa.at]
 ·simp[aa.set,aa.at]
 ·simp[aa.set,aa.at]
 ·intro x hx
  simp[aa.set,aa.at,show¬x=h.next+1+1+1+1 by omega,show¬x=h.next+1+1+1 by omega,show¬x=h.next+1+1 by omega,show¬x=h.next+1 by omega,show¬x=h.next by omega]
 ·obtain⟨_,j1,j2,j3,⟨v,j4,⟨tt,rfl,_⟩⟩,j6⟩:=hk
  have hc6:=av j3
  have sY:=av j4
  simp+decide only[st,xv,yl,abV,hc6,sY,bE]
  exact⟨by simp only[AV.strip,AV.bA,aw.ew];rfl,fun x hx=>by rw[if_neg (by omega),j6 x hx]⟩
theorem NG {d:Nat}: ∀{l:List (Nat×Nat)},mg d d l l=l.map fun p=>(p.1,p.2,p.2)
 |[]=>by rw[Jn];rfl
 |(c,x)::l=>by rw[Jo,if_neg (by omega),if_neg (by omega),NG];rfl
def Ct (l:Lb):Lb:=Jq (fun x _=>qw x) l l
theorem ZP {x:Nat} (h:x<256):qw x<256:=by unfold qw;split<;>omega
theorem akf {l:Lb} (hl:l.ok):(Ct l).ok:=by
 refine⟨ZP hl.d,fun p hp=>?_,?_⟩
 ·simp only[Ct,Jq,mW,List.mem_filterMap] at hp
  obtain⟨q,hq,he⟩:=hp
  have:=vj hl.d hl.d hl.ps hl.ps q hq
  split at he
  ·cases he
  ·cases he;exact⟨this.1,ZP this.2.1⟩
 ·have h1:(mW (fun x _=>qw x) (qw l.d) (mg l.d l.d l.ps l.ps)).length<=(mg l.d l.d l.ps l.ps).length:=aap
  rw[NG] at h1
  have h2:(Ct l).ps=mW (fun x _=>qw x) (qw l.d) (mg l.d l.d l.ps l.ps):=rfl
  rw[h2,NG]
  simp only[List.length_map] at h1
  have:=hl.len
  omega
theorem alO (ok:ax P tb) {l:Lb} {t:aH} {h:aa} (hl:l.ok):an P 166 [.agg (l.c t)] h (.agg ((Ct l).c .ao)) h:=by
 refine ok.eM (rf:=Fy) rfl (Nat.le_of_ble_eq_true rfl) (by simp only[AV.bB,AV.bX,Lb.c,aw.iB];rfl) ?_
 simp+decide only[st,xv,Fy,acf,ace,Lb.c]
 refine aq (alG ok hl hl (F:=fun x _=>qw x) (ok.bZ _ rfl) (fun x y hx hy h=>?_)) ?_
 ·refine ok.calls (rf:=Fv) rfl (Nat.le_of_ble_eq_true rfl) ?_
  simp+decide only[st,xv,Fv,abU,abT]
  refine aq (aox ok _) ?_
  simp+decide only[st,xv]
 ·simp+decide only[st,xv,Lb.c,bE]
  refine⟨by simp only[AV.strip,AV.bA,aw.ew];rfl,?_⟩
  first|(intro b hb;first|(intros;omega)|(repeat(first|rw[if_neg (by omega)]|rw[if_pos (by omega)]));done)|(refine⟨rfl,?_⟩;intro b hb;first|(intros;omega)|(repeat(first|rw[if_neg (by omega)]|rw[if_pos (by omega)])))
def fD (t o:Lb):Bool:=fo o (Ct t)
theorem alN (ok:ax P tb) {a b:Lb} {ta eI:aH} {h:aa} (ha:a.ok) (hb:b.ok):an P 144 [.agg (a.c ta), .agg (b.c eI)] h (.bool (fD a b)) h:=by
 refine ok.keeps (rf:=Bb) rfl (Nat.le_of_ble_eq_true rfl) rfl ?_
 simp+decide only[st,xv,Bb,P3,Lb.c]
 refine zC ?_
 simp+decide only[st,xv,Bb,P3,acP,Lb.c]
 refine i6 (alO ok ha) (dp (by simp[aa.at])) ?_
 simp+decide only[st,xv]
 refine i6 (GQ ok hb (akf ha)) (dp (by simp[aa.at])) ?_
 simp+decide only[st,xv]
 first|(intro b hb;first|(intros;omega)|(repeat(first|rw[if_neg (by omega)]|rw[if_pos (by omega)]));done)|(refine⟨rfl,?_⟩;intro b hb;first|(intros;omega)|(repeat(first|rw[if_neg (by omega)]|rw[if_pos (by omega)])))
theorem akJ (ok:ax P tb) {a b:Lb} {ta eI:aH} {h:aa} (ha:a.ok) (hb:b.ok):an P 145 [.agg (a.c ta), .agg (b.c eI)] h (.bool (fo a b)) h:=by
 refine ok.keeps (rf:=FE) rfl (Nat.le_of_ble_eq_true rfl) rfl ?_
 simp+decide only[st,xv,FE,acO,acN,Lb.c]
 refine aq (GQ ok ha hb) ?_
 simp+decide only[st,xv]
 first|(intro b hb;first|(intros;omega)|(repeat(first|rw[if_neg (by omega)]|rw[if_pos (by omega)]));done)|(refine⟨rfl,?_⟩;intro b hb;first|(intros;omega)|(repeat(first|rw[if_neg (by omega)]|rw[if_pos (by omega)])))
def va (t l:Lb):Nat:=if names l=false then 4 else if 0<(dR l.ps).length then 5 else if fo t l=false then 6 else 0
theorem akL (ok:ax P tb) {a b:Lb} {ta eI:aH} {h:aa} (ha:a.ok) (hb:b.ok):an P 98 [.agg (a.c ta), .agg (b.c eI)] h (.int .i64 (va a b)) h:=by
 refine ok.keeps (rf:=ry) rfl (Nat.le_of_ble_eq_true rfl) rfl ?_
 have hl:=hb.len
 simp+decide only[st,xv,ry,vE,vD,vC,vB,vA,vy,vx,vw,Lb.c]
 refine aq (zj ok (by omega)) ?_
 unfold va
 cases hn:names b with
 |false=>
  simp+decide only[st,xv,ry,vE,vD,vC,vB,vA,vy,vx,vw]
  first|(intro b hb;first|(intros;omega)|(repeat(first|rw[if_neg (by omega)]|rw[if_pos (by omega)]));done)|(refine⟨rfl,?_⟩;intro b hb;first|(intros;omega)|(repeat(first|rw[if_neg (by omega)]|rw[if_pos (by omega)])))
 |true=>
  simp+decide only[st,xv,ry,vE,vD,vC,vB,vA,vy,vx,vw,Lb.c]
  refine aq (MI ok (by omega)) ?_
  by_cases hs:0<(dR b.ps).length
  ·have iW:(0:Int)<((dR b.ps).length:Int):=by omega
   simp+decide only[st,xv,ry,vE,vD,vC,vB,vA,vy,vx,vw,(ay .u16).aN,hs,iW]
   first|(intro b hb;first|(intros;omega)|(repeat(first|rw[if_neg (by omega)]|rw[if_pos (by omega)]));done)|(refine⟨rfl,?_⟩;intro b hb;first|(intros;omega)|(repeat(first|rw[if_neg (by omega)]|rw[if_pos (by omega)])))
  ·have iW: ¬(0:Int)<((dR b.ps).length:Int):=by omega
   simp+decide only[st,xv,ry,vE,vD,vC,vB,vA,vy,vx,vw,Lb.c,(ay .u16).aN,hs,iW]
   refine aq (GQ ok ha hb) ?_
   cases hf:fo a b with
   |false=>
    simp+decide only[st,xv,ry,vE,vD,vC,vB,vA,vy,vx,vw]
    first|(intro b hb;first|(intros;omega)|(repeat(first|rw[if_neg (by omega)]|rw[if_pos (by omega)]));done)|(refine⟨rfl,?_⟩;intro b hb;first|(intros;omega)|(repeat(first|rw[if_neg (by omega)]|rw[if_pos (by omega)])))
   |true=>
    simp+decide only[st,xv,ry,vE,vD,vC,vB,vA,vy,vx,vw]
    first|(intro b hb;first|(intros;omega)|(repeat(first|rw[if_neg (by omega)]|rw[if_pos (by omega)]));done)|(refine⟨rfl,?_⟩;intro b hb;first|(intros;omega)|(repeat(first|rw[if_neg (by omega)]|rw[if_pos (by omega)])))
def w9 (t l:Lb):Nat:=if names l=false then 4 else if(dR l.ps).any (fun c=>!(oD t c==0)) then 5 else if fo t l=false then 6 else 0
theorem akK (ok:ax P tb) {a b:Lb} {ta eI:aH} {h:aa} (ha:a.ok) (hb:b.ok):an P 95 [.agg (a.c ta), .agg (b.c eI)] h (.int .i64 (w9 a b)) h:=by
 refine ok.keeps (rf:=tg) rfl (Nat.le_of_ble_eq_true rfl) rfl ?_
 have hl:=hb.len
 have hla:=ha.len
 simp+decide only[st,xv,tg,D2,D1,D0,Lb.c]
 refine aq (zj ok (by omega)) ?_
 unfold w9
 cases hn:names b with
 |false=>
  simp+decide only[st,xv,tg,D2,D1,D0,JH,JG,Rw,Rv,Ru,Rt,Rs,Oi,Oh]
  first|(intro b hb;first|(intros;omega)|(repeat(first|rw[if_neg (by omega)]|rw[if_pos (by omega)]));done)|(refine⟨rfl,?_⟩;intro b hb;first|(intros;omega)|(repeat(first|rw[if_neg (by omega)]|rw[if_pos (by omega)])))
 |true=>
  simp+decide only[st,xv,tg,D2,D1,D0,JH,Lb.c]
  refine aq (MI ok (by omega)) ?_
  simp+decide only[st,xv,tg,D2,D1,D0,JH,Lb.c]
  obtain⟨X,hX⟩: ∃X,X=((h.at h.next (.cells [.int .u8 a.d, .vs (aw.R a.ps) ta])).at (h.next+1) (.cells [.int .u8 b.d, .vs (aw.R b.ps) eI])):=⟨_,rfl⟩
  have g1:cellsOf X h.next=some [.int .u8 a.d, .vs (aw.R a.ps) ta]:=by subst hX;simp+decide only[st,xv]
  have g2:cellsOf X (h.next+1)=some [.int .u8 b.d, .vs (aw.R b.ps) eI]:=by subst hX;simp+decide only[st,xv]
  have g3: ∀x,x<h.next->X.get x=h.get x:=by subst hX;intro x hx;simp[aa.at,show¬x=h.next+1 by omega,show¬x=h.next by omega]
  rw[<-hX]
  have pP:=YV (l:=b.ps)
  let I:Nat->Env->aa->Prop:=fun n ρ h'=>h'=X/\ ∃i:Nat,(dR b.ps).length=i+n/\(∀j,j<i-> ∀hj:j<(dR b.ps).length,oD a (dR b.ps)[j]=0)/\ρ 2= .ptr h.next 0/\ρ 3= .ptr (h.next+1) 0/\ρ 11= .vs ((ay .u16).R (dR b.ps)) .ao/\ρ 12= .int .i64 (dR b.ps).length/\ρ 13= .int .i64 i
  refine dn I ?_ (dR b.ps).length ⟨rfl,0,by omega,by omega,rfl,rfl,rfl,by simp+decide only[st,xv,(ay .u16).aN],rfl⟩
  rintro n ρ h' ⟨rfl,i,aE,hf,r2,r3,eU,fX,eJ⟩
  by_cases hi:i<(dR b.ps).length
  ·have aB:(i:Int)<((dR b.ps).length:Int):=by omega
   have bR:(0:Int)<=i:=by omega
   have hw:=cT (show i<2^61 by omega)
   have cE:((ay .u16).R (dR b.ps))[i]? =some [.int .u16 (dR b.ps)[i]]:=(ay .u16).eW hi
   simp+decide only[st,xv,tg,JG,Rw,Rv,Ru,Rt,r2,eU,fX,eJ,aB,bR,cE,g1]
   refine aq (aah (l:=a) (t:=ta) ok (by omega)) ?_
   by_cases hz:oD a (dR b.ps)[i]=0
   ·simp+decide only[st,xv,hz,eJ,hw]
    refine⟨n-1,by omega,rfl,i+1,by omega,fun j hj dO=>?_,r2,r3,eU,fX,rfl⟩
    by_cases d7:j=i
    ·subst d7;exact hz
    ·exact hf j (by omega) dO
   ·have Wk: ¬((oD a (dR b.ps)[i]:Nat):Int)=0:=by omega
    have m9:(dR b.ps).any (fun c=>!(oD a c==0))=true:=List.any_eq_true.2 ⟨_,List.getElem_mem hi,by simp[hz]⟩
    simp+decide only[st,xv,Wk,hz,m9]
    exact⟨rfl,g3⟩
  ·have aB: ¬(i:Int)<((dR b.ps).length:Int):=by omega
   have m9:(dR b.ps).any (fun c=>!(oD a c==0))=false:=by
    rw[List.any_eq_false]
    intro x hx
    obtain⟨j,hj,rfl⟩:=List.getElem_of_mem hx
    simp[hf j (by omega) hj]
   simp+decide only[st,xv,tg,JG,Rs,Oi,Oh,r2,r3,fX,eJ,aB,g1,g2]
   refine aq (GQ (ta:=ta) (eI:=eI) ok ha hb) ?_
   cases bH:fo a b with
   |false=>
    simp+decide only[st,xv,m9]
    exact⟨rfl,g3⟩
   |true=>
    simp+decide only[st,xv,m9]
    exact g3
end
section
open Go
variable {P:Program}
def di (l:List (Nat×Nat)):Prop:=l.Pairwise fun p q=>p.1<q.1
def eE (l:List (Nat×Nat)) (c:Nat):Nat:=l.findIdx fun p=>decide (c<=p.1)
theorem N4 {l:List (Nat×Nat)} {c:Nat}:eE l c<=l.length:=List.findIdx_le_length
theorem aa7 {l:List (Nat×Nat)} {c i:Nat} (hi:i<eE l c) (hl:i<l.length):l[i].1<c:=by
 have:=List.not_of_lt_findIdx hi
 simpa using this
theorem N5 {l:List (Nat×Nat)} (hs:di l) {c i:Nat} (hi:eE l c<=i) (hl:i<l.length):c<=l[i].1:=by
 have h0:eE l c<l.length:=by omega
 have h1:c<=l[eE l c].1:=by
  have:=List.findIdx_getElem (xs:=l) (p:=fun p=>decide (c<=p.1)) (w:=by exact h0)
  exact of_decide_eq_true this
 by_cases he:eE l c=i
 ·simpa [he] using h1
 ·have:=List.pairwise_iff_getElem.1 hs (eE l c) i h0 hl (by omega)
  omega
theorem amE (ok:ax P tb) {l:List (Nat×Nat)} {v:AV} {c:Nat} {h:aa} (hs:di l) (hc:c<65536) (hb: ∀p∈l,p.1<65536/\p.2<256) (hv: ∀h',Old h h'->i0 h' v 2 (aw.R l)) (hl:l.length<2^30):
 ∃b,an P 171 [v, .int .u16 c, .fn 172 [] []] h (.az [.int .i64 (eE l c), .bool b]) h:=by
 have cmp: ∀p∈l,∀h',an P 172 [.agg (aw.e p), .int .u16 c] h' (.int .i64 ((p.1:Int)-c)) h':=by
  intro p hp h'
  have:=hb p hp
  refine ok.keeps (rf:=Fx) rfl (Nat.le_of_ble_eq_true rfl) rfl ?_
  have w1:IntKind.wrap .i64 (p.1:Int)=p.1:=se (by omega)
  have w2:IntKind.wrap .i64 (c:Int)=c:=se (by omega)
  have w3:IntKind.wrap .i64 ((p.1:Int)-c)=(p.1:Int)-c:=bw (by omega) (by omega)
  simp+decide only[st,xv,Fx,ab0,abZ,aw,w1,w2,w3]
  first|(intro b hb;first|(intros;omega)|(repeat(first|rw[if_neg (by omega)]|rw[if_pos (by omega)]));done)|(refine⟨rfl,?_⟩;intro b hb;first|(intros;omega)|(repeat(first|rw[if_neg (by omega)]|rw[if_pos (by omega)])))
 have hlen:gI v=some l.length:=by rw[(hv h (Old.refl h)).len,aw.aN]
 refine⟨(decide (eE l c<l.length)&&decide ((l.getD (eE l c) (0,0)).1=c)),?_⟩
 refine ok.calls (rf:=sC) rfl (Nat.le_of_ble_eq_true rfl) ?_
 simp+decide only[st,xv,sC,ab7,ab6,ab5,hlen]
 let I:Nat->Env->aa->Prop:=fun n ρ h'=>h'=h/\ ∃i j:Nat,j-i=n/\i<=eE l c/\eE l c<=j/\j<=l.length/\ρ 0=v/\ρ 1= .int .u16 c/\ρ 2= .fn 172 [] []/\ρ 8= .int .i64 l.length/\ρ 9= .int .i64 i/\ρ 10= .int .i64 j
 refine dn I ?_ l.length ⟨rfl,0,l.length,by omega,by omega,N4,by omega,rfl,rfl,rfl,rfl,rfl,rfl⟩
 rintro n ρ h' ⟨rfl,i,j,hn,hi,hj,dO,r0,r1,r2,r8,r9,eV⟩
 by_cases oO:i<j
 ·have Lf:(i:Int)<(j:Int):=by omega
  have w1:IntKind.wrap .i64 ((i:Int)+(j:Int))=((i+j:Nat):Int):=by rw[bw]<;>omega
  have w2:IntKind.wrap .u64 ((i+j:Nat):Int)=((i+j:Nat):Int):=fC (by omega)
  have w3:((i+j:Nat):Int).fdiv (2^min (Int.toNat 1) IntKind.u64.bits)=(((i+j)/2:Nat):Int):=by
   rw[show(2:Int)^min (Int.toNat 1) IntKind.u64.bits=2 by rfl,Int.fdiv_eq_ediv_of_nonneg _ (by omega)];rfl
  have w4:IntKind.wrap .i64 (((i+j)/2:Nat):Int)=(((i+j)/2:Nat):Int):=se (by omega)
  have h1: ¬(1:Int)<0:=by omega
  have hm:(i+j)/2<l.length:=by omega
  obtain⟨p,g1,g2⟩:=(hv h' (Old.refl h')).get ((i+j)/2) (by rw[aw.aN];exact hm)
  have g3:(aw.R l)[(i+j)/2]'(by rw[aw.aN];exact hm)=aw.e l[(i+j)/2]:=by simp[ba.R]
  rw[g3] at g2
  simp+decide only[st,xv,sC,Ik,ab4,ab3,r0,r1,r2,r9,eV,Lf,w1,w2,w3,w4,h1,g1,g2]
  refine qf (ok.bZ _ rfl) (cmp _ (List.getElem_mem hm) _) ?_
  by_cases aC:l[(i+j)/2].1<c
  ·have kc:((l[(i+j)/2].1:Int)-(c:Int))<0:=by omega
   have w5:=cT (show(i+j)/2<2^61 by omega)
   have hle:(i+j)/2<eE l c:=by
    by_cases hx:eE l c<=(i+j)/2
    ·have:=N5 hs hx hm;omega
    ·omega
   simp+decide only[st,xv,sC,ab2,kc,w5]
   exact⟨j-((i+j)/2+1),by omega,rfl,(i+j)/2+1,j,rfl,by omega,hj,dO,r0,r1,r2,r8,rfl,eV⟩
  ·have kc: ¬((l[(i+j)/2].1:Int)-(c:Int))<0:=by omega
   have hle:eE l c<=(i+j)/2:=by
    by_cases hx:(i+j)/2<eE l c
    ·have:=aa7 hx hm;omega
    ·omega
   simp+decide only[st,xv,sC,ab1,kc]
   exact⟨(i+j)/2-i,by omega,rfl,i,(i+j)/2,rfl,hi,hle,by omega,r0,r1,r2,r8,r9,rfl⟩
 ·have Lf: ¬(i:Int)<(j:Int):=by omega
  have ix:i=eE l c:=by omega
  subst ix
  by_cases hm:eE l c<l.length
  ·have oK:((eE l c:Nat):Int)<(l.length:Int):=by omega
   obtain⟨p,g1,g2⟩:=(hv h' (Old.refl h')).get (eE l c) (by rw[aw.aN];exact hm)
   have g3:(aw.R l)[eE l c]'(by rw[aw.aN];exact hm)=aw.e l[eE l c]:=by simp[ba.R]
   rw[g3] at g2
   simp+decide only[st,xv,sC,Ik,Pd,r0,r1,r2,r8,r9,eV,Lf,oK,g1,g2]
   refine qf (ok.bZ _ rfl) (cmp _ (List.getElem_mem hm) _) ?_
   have e:decide ((l[eE l c].1:Int)-(c:Int)=0)=decide (l[eE l c].1=c):=by rw[decide_eq_decide];omega
   simp+decide only[st,xv,e,hm]
   simp[hm]
  ·have oK: ¬((eE l c:Nat):Int)<(l.length:Int):=by omega
   simp+decide only[st,xv,sC,Ik,Pd,r0,r1,r2,r8,r9,eV,Lf,oK,hm]
   simp
end
section
open Go
variable {P:Program}
def dl (l:List (Nat×Nat)) (c:Nat):List (Nat×Nat):=if 0<=cidx l c then l.eraseIdx (cidx l c).toNat else l
def ins (l:List (Nat×Nat)) (p:Nat×Nat):List (Nat×Nat):=l.take (eE l p.1)++p::l.drop (eE l p.1)
def oA (d:Nat) (l:List (Nat×Nat)) (p:Nat×Nat):List (Nat×Nat):=if p.2=d then dl l p.1 else ins (dl l p.1) p
def km (d:Nat) (l:List (Nat×Nat)):List (Nat×Nat):=l.foldl (oA d) []
theorem amC {l:List (Nat×Nat)} {c:Nat} (h: ¬0<=cidx l c): ∀p∈l,p.1≠c:=by
 rcases He (q:=fun p:Nat×Nat=>p.1==c) (l:=l) with⟨e1,e2⟩|⟨i,hi,e1,e2⟩
 ·intro p hp
  have:=List.find?_eq_none.1 e2 p hp
  simpa using this
 ·exact(h (by rw[cidx,e1];omega)).elim
theorem Zl {l:List (Nat×Nat)} {c:Nat} (h:0<=cidx l c): ∃i,∃hi:i<l.length,cidx l c=i/\l[i].1=c:=by
 rcases He (q:=fun p:Nat×Nat=>p.1==c) (l:=l) with⟨e1,e2⟩|⟨i,hi,e1,e2⟩
 ·rw[cidx,e1] at h;omega
 ·refine⟨i,hi,e1,?_⟩
  have:=List.find?_some e2
  simpa using this
theorem ve {l:List (Nat×Nat)} {c:Nat}:(dl l c).Sublist l:=by
 unfold dl
 split
 ·exact List.eraseIdx_sublist ..
 ·exact List.Sublist.refl _
theorem HW {l:List (Nat×Nat)} (hs:di l) {c:Nat}:di (dl l c):=List.Pairwise.sublist ve hs
theorem auP {l:List (Nat×Nat)} (hs:di l) {c:Nat}: ∀p∈dl l c,p.1≠c:=by
 unfold dl
 split
 ·rename_i h
  obtain⟨i,hi,e1,e2⟩:=Zl h
  rw[e1,Int.toNat_natCast]
  intro p hp
  obtain⟨j,hj,d7,rfl⟩:=List.mem_eraseIdx_iff_getElem.1 hp
  have:=List.pairwise_iff_getElem.1 hs
  rcases Nat.lt_or_gt_of_ne d7 with aC|Gi
  ·have:=this j i hj hi aC;omega
  ·have:=this i j hi hj Gi;omega
 ·rename_i h
  exact amC h
theorem aoD {l:List (Nat×Nat)} (hs:di l) {p:Nat×Nat} (hn: ∀q∈l,q.1≠p.1):di (ins l p):=by
 unfold ins di
 rw[List.pairwise_append]
 refine⟨List.Pairwise.sublist (List.take_sublist ..) hs,?_,?_⟩
 ·rw[List.pairwise_cons]
  refine⟨fun q hq=>?_,List.Pairwise.sublist (List.drop_sublist ..) hs⟩
  obtain⟨j,hj,rfl⟩:=List.getElem_of_mem hq
  rw[List.getElem_drop]
  have pS:eE l p.1+j<l.length:=by rw[List.length_drop] at hj;omega
  have h1:=N5 hs (c:=p.1) (i:=eE l p.1+j) (by omega) pS
  have h2:=hn _ (List.getElem_mem pS)
  omega
 ·intro q hq r hr
  obtain⟨j,hj,rfl⟩:=List.getElem_of_mem hq
  rw[List.getElem_take]
  have uw:j<eE l p.1:=by rw[List.length_take] at hj;omega
  have pS:j<l.length:=by rw[List.length_take] at hj;omega
  have h1:=aa7 uw pS
  rcases List.mem_cons.1 hr with rfl|hr
  ·exact h1
  ·obtain⟨k,hk,rfl⟩:=List.getElem_of_mem hr
   rw[List.getElem_drop]
   have oL:eE l p.1+k<l.length:=by rw[List.length_drop] at hk;omega
   have h3:=N5 hs (c:=p.1) (i:=eE l p.1+k) (by omega) oL
   omega
theorem aou {d:Nat} {l:List (Nat×Nat)} (hs:di l) {p:Nat×Nat}:di (oA d l p):=by
 unfold oA
 split
 ·exact HW hs
 ·exact aoD (HW hs) (auP hs)
theorem aoF {l:List (Nat×Nat)} {p q:Nat×Nat} (h:q∈ins l p):q=p\/q∈l:=by
 unfold ins at h
 rcases List.mem_append.1 h with h|h
 ·exact .inr (List.mem_of_mem_take h)
 ·rcases List.mem_cons.1 h with h|h
  ·exact .inl h
  ·exact .inr (List.mem_of_mem_drop h)
theorem aau {d:Nat} {l:List (Nat×Nat)} {p q:Nat×Nat} (h:q∈oA d l p):q=p\/q∈l:=by
 unfold oA at h
 split at h
 ·exact .inr (ve.subset h)
 ·rcases aoF h with h|h
  ·exact .inl h
  ·exact .inr (ve.subset h)
theorem aaw {l:List (Nat×Nat)} {p:Nat×Nat}:(ins l p).length=l.length+1:=by
 have:=N4 (l:=l) (c:=p.1)
 simp[ins];omega
theorem aav {d:Nat} {l:List (Nat×Nat)} {p:Nat×Nat}:(oA d l p).length<=l.length+1:=by
 have:=(ve (l:=l) (c:=p.1)).length_le
 unfold oA
 split
 ·omega
 ·rw[aaw];omega
def PV (m:Nat) (H:aa) (pv:AV) (l:List (Nat×Nat)):Prop:=(l=[]/\pv= .vs [] .full)\/ ∃b,pv= .rs b 0 l.length 2/\H.get b=some (.cells (aw.R l).flatten)/\m<=b/\b<H.next
theorem PV.mX {m:Nat} {H H':aa} {pv:AV} {l:List (Nat×Nat)} (h:PV m H pv l) (ho: ∀x,x<H.next->H'.get x=H.get x):i0 H' pv 2 (aw.R l):=by
 rcases h with⟨rfl,rfl⟩|⟨b,rfl,h1,h2,h3⟩
 ·exact i0.vs aw (l:=[])
 ·have:=i0.rs (h:=H') (b:=b) (sz:=2) (rows:=aw.R l) (cs:=(aw.R l).flatten) (av (by rw[ho b h3,h1])) (List.take_of_length_le (by rw[jE (sz:=2) (fun r hr=>by obtain⟨p,_,rfl⟩:=List.mem_map.1 hr;rfl)];exact Nat.le_refl _)) (fun r hr=>by obtain⟨p,_,rfl⟩:=List.mem_map.1 hr;rfl)
  rw[aw.aN] at this
  exact this
theorem PV.to {m:Nat} {H H':aa} {pv:AV} {l:List (Nat×Nat)} (h:PV m H pv l) (hn:H.next<=H'.next) (ho: ∀x,m<=x->x<H.next->H'.get x=H.get x):PV m H' pv l:=by
 rcases h with h|⟨b,h0,h1,h2,h3⟩
 ·exact .inl h
 ·exact .inr ⟨b,h0,by rw[ho b h2 h3,h1],h2,by omega⟩
end
section
open Go
variable {P:Program}
structure MS (h:aa) (d:Nat) (l:List (Nat×Nat)) (pv:AV) (H:aa):Prop where
 n:h.next+2<=H.next
 res:H.get h.next=some (.cells [.int .u8 0, .vs [] .full])
 out:H.get (h.next+1)=some (.cells [.int .u8 d,pv])
 pv:PV (h.next+2) H pv l
 old: ∀x,x<h.next->H.get x=h.get x
theorem MS.to {h H H':aa} {d:Nat} {l:List (Nat×Nat)} {pv:AV} (M:MS h d l pv H) (o:Old H H'):MS h d l pv H' where
 n:=by have:=M.n;have:=o.next;omega
 res:=by rw[o.get _ (by have:=M.n;omega),M.res]
 out:=by rw[o.get _ (by have:=M.n;omega),M.out]
 pv:=M.pv.to o.next (fun x _ h2=>o.get x h2)
 old x hx:=by rw[o.get _ (by have:=M.n;omega),M.old x hx]
theorem YI {l:List (Nat×Nat)} {i:Nat}:(aw.R l).flatten.take (i*2)=(aw.R (l.take i)).flatten:=by
 induction l generalizing i with
 |nil=>simp[ba.R]
 |cons p l ih=>
  cases i with
  |zero=>simp[ba.R]
  |succ i=>
   rw[List.take_succ_cons,aw.xF,aw.xF,List.flatten_cons,List.flatten_cons,Nat.add_mul,<-ih]
   show List.take (i*2+2) (_::_::_)=_
   rw[List.take_succ_cons,List.take_succ_cons];rfl
theorem YJ {l:List (Nat×Nat)} {i:Nat}:(aw.R l).flatten.drop (i*2)=(aw.R (l.drop i)).flatten:=by
 induction l generalizing i with
 |nil=>simp[ba.R]
 |cons p l ih=>
  cases i with
  |zero=>simp[ba.R]
  |succ i=>
   rw[List.drop_succ_cons,aw.xF,List.flatten_cons,Nat.add_mul,<-ih]
   show List.drop (i*2+2) (_::_::_)=_
   rw[List.drop_succ_cons,List.drop_succ_cons];rfl
theorem GN {l:List (Nat×Nat)}:(aw.R l).flatten.length=l.length*2:=by
 rw[jE (sz:=2) (fun r hr=>by obtain⟨p,_,rfl⟩:=List.mem_map.1 hr;rfl),aw.aN]
theorem Cg {cs ds:List AV} {sz:Nat}: ∀{n off:Nat},off+n*sz<=ds.length->rowsOf (cs++ds) (cs.length+off) sz n=rowsOf ds off sz n
 |0,_,_=>rfl
 |n+1,off,h=>by
  have hh:off+sz+n*sz<=ds.length:=by rw[Nat.add_mul] at h;omega
  simp only[rowsOf]
  rw[Nat.add_assoc,Cg hh]
  congr 1
  rw[List.drop_append,List.drop_of_length_le (by omega),List.nil_append,Nat.add_sub_cancel_left]
theorem ZE: ∀{l:List (Nat×Nat)},rowsOf (aw.R l).flatten 0 2 l.length=aw.R l
 |[]=>rfl
 |p::l=>by
  have ih:=ZE (l:=l)
  rw[aw.xF,List.flatten_cons,List.length_cons,rowsOf]
  rw[show 0+2=(aw.e p).length+0 by rfl,Cg (by rw[GN];omega),ih]
  rfl
theorem amz {l:List (Nat×Nat)} {i:Nat}:qH (aw.R l).flatten i=(aw.R (l.eraseIdx i)).flatten:=by
 rw[qH,YI,YJ,<-List.flatten_append,aw.jK,List.eraseIdx_eq_take_drop_succ]
theorem amp {l:List (Nat×Nat)} {i:Nat} {p:Nat×Nat}:ka (aw.R l).flatten (aw.e p) i=(aw.R (l.take i++p::l.drop i)).flatten:=by
 rw[ka,YI,YJ,<-aw.jK,List.flatten_append,aw.xF,List.flatten_cons,List.append_assoc]
theorem MS.buf {h H:aa} {d b:Nat} {l l2:List (Nat×Nat)} {pv:AV} (M:MS h d l pv H) (hb:h.next+2<=b):MS h d l2 (.rs (H.next+19) 0 l2.length 2) ((jN H b (aw.R l2).flatten).set (h.next+1) (some (.cells [.int .u8 d, .rs (H.next+19) 0 l2.length 2]))) where
 n:=by have:=M.n;simp only[jN,aa.set,aa.at,aa.clean];omega
 res:=by
  have hn:=M.n
  simp[jN,aa.set,aa.at,aa.clean,show¬h.next=H.next+19 by omega,show h.next<H.next by omega,show¬h.next=b by omega,M.res]
 out:=by simp[aa.set]
 pv:=by
  have hn:=M.n
  exact .inr ⟨_,rfl,by simp[jN,aa.set,aa.at,show¬H.next+19=h.next+1 by omega],by omega,by simp only[jN,aa.set,aa.at,aa.clean];omega⟩
 old x hx:=by
  have hn:=M.n
  simp[jN,aa.set,aa.at,aa.clean,show¬x=H.next+19 by omega,show x<H.next by omega,show¬x=b by omega,show¬x=h.next+1 by omega,M.old x hx]
structure MR (h:aa) (d:Nat) (t:aH) (l:List (Nat×Nat)) (i:Nat) (ρ:Env):Prop where
 r0:ρ 0= .int .u8 d
 r4:ρ 4= .ptr h.next 0
 r5:ρ 5= .ptr (h.next+1) 0
 eJ:ρ 13= .vs (aw.R l) t
 jf:ρ 14= .int .i64 l.length
 gA:ρ 15= .int .i64 i
theorem PV.one {m:Nat} {H:aa} {pv:AV} {l:List (Nat×Nat)} (h:PV m H pv l):pv.one=true:=by
 rcases h with⟨_,rfl⟩|⟨b,rfl,_⟩<;>rfl
theorem Y4 (ok:ax P tb) {h H H2:aa} {d i:Nat} {t:aH} {l m1:List (Nat×Nat)} {p:Nat×Nat} {V6:AV} {ρ1:Env} {K:aQ->Env->aa->Prop} (R:MR h d t l i ρ1) (r7:ρ1 7= .ptr H.next 0) (M:MS h d m1 V6 H2) (hH:h.next+2<=H.next) (hH2:H.next<H2.next)
 (hp:H2.get H.next=some (.cells [.int .u16 p.1, .int .u8 p.2])) (yO:p.1<65536/\p.2<256) (hs:di m1) (pW: ∀p∈m1,p.1<65536/\p.2<256) (WB:m1.length<2^29)
 (hK: ∀ρ' H' ue,MR h d t l i ρ'->MS h d (if p.2=d then m1 else ins m1 p) ue H'->K .normal ρ' H'):
 WP P (.seq (.af Io) (.cond (Am.t 36) (.seq (.af Pu) (.af NO)) .skip)) K ρ1 H2:=by
 obtain⟨r0,r4,r5,eJ,jf,gA⟩:=R
 have g7:=av hp
 have g5:=av M.out
 by_cases hd:p.2=d
 ·have kY:(p.2:Int)=(d:Int):=by omega
  simp+decide only[st,xv,lh,Io,r0,r7,g7,kY]
  rw[if_pos hd] at hK
  exact hK _ _ V6 ⟨r0,r4,r5,eJ,jf,gA⟩ M
 ·have kY: ¬(p.2:Int)=(d:Int):=by omega
  rw[if_neg hd] at hK
  obtain⟨b,k1⟩:=amE ok (h:=H2) (v:=V6) hs yO.1 pW (fun h' ho=>M.pv.mX ho.get) (by omega)
  simp+decide only[st,xv,lh,Io,Pu,r0,r5,r7,g5,g7,kY]
  refine aq k1 ?_
  simp+decide only[st,xv,lh,NO,r5,r7,g5,g7]
  have m7:=N4 (l:=m1) (c:=p.1)
  rcases M.pv with⟨rfl,rfl⟩|⟨bb,rfl,q1,q2,q3⟩
  ·have k2:=aoE ok (h:=H2) (f:=173) rfl (row:=[.int .u16 p.1, .int .u8 p.2]) (tl:= .full) rfl
   refine aq k2 ?_
   have hn:=M.n
   have hg:cellsOf (H2.at H2.next (.cells [.int .u16 p.1, .int .u8 p.2])) (h.next+1)=some [.int .u8 d, .vs [] .full]:=av (by simp[aa.at,show¬h.next+1=H2.next by omega,M.out])
   simp+decide only[st,xv,r5,hg]
   refine hK _ _ (.rs H2.next 0 1 2) ⟨r0,r4,r5,eJ,jf,gA⟩ ⟨by simp[aa.at,aa.set];omega,?_,by simp[aa.set], .inr ⟨H2.next,rfl,?_,by omega,by simp[aa.at,aa.set]⟩,fun x hx=>?_⟩
   ·simp[aa.at,aa.set,show¬h.next=H2.next by omega,M.res]
   ·simp[aa.at,aa.set,show¬H2.next=h.next+1 by omega,ins,eE,aw,ba.R]
   ·simp[aa.at,aa.set,show¬x=H2.next by omega,show¬x=h.next+1 by omega,M.old x hx]
  ·have k2:=amo ok (h:=H2) (f:=173) rfl (row:=aw.e p) (tl:= .full) (i:=eE m1 p.1) q3 q1 GN rfl (by omega) m7
   have ix:m1.length+1=(ins m1 p).length:=aaw.symm
   rw[amp,ix] at k2
   refine aq k2 ?_
   have hn:=M.n
   have hg:cellsOf (jN H2 bb (aw.R (ins m1 p)).flatten) (h.next+1)=some [.int .u8 d, .rs bb 0 m1.length 2]:=av (by simp[jN,aa.at,aa.set,aa.clean,show¬h.next=H2.next+18 by omega,show h.next+1<H2.next by omega,show¬h.next+1=bb by omega,M.out])
   show exec P _ _ (jN H2 bb (aw.R (ins m1 p)).flatten) _
   simp+decide only[st,xv,r5,hg]
   exact hK _ _ _ ⟨r0,r4,r5,eJ,jf,gA⟩ (M.buf q2)
theorem alQ (ok:ax P tb) {d:Nat} {l:List (Nat×Nat)} {t:aH} {h:aa} (hd:d<256) (hb: ∀p∈l,p.1<65536/\p.2<256) (hl:l.length<2^28):an P 159 [.int .u8 d, .vs (aw.R l) t] h (.agg (Lb.c ⟨d,km d l⟩ .ao)) h:=by
 refine ok.N8 (rf:=lh) rfl (Nat.le_of_ble_eq_true rfl) (by simp only[AV.bB,AV.bX,Lb.c,aw.iB];rfl) ?_
 simp+decide only[st,xv,lh,acr,acq,acp]
 let I:Nat->Env->aa->Prop:=fun n ρ H=> ∃i pv,l.length=i+n/\MR h d t l i ρ/\MS h d (km d (l.take i)) pv H/\di (km d (l.take i))/\(∀p∈km d (l.take i),p.1<65536/\p.2<256)/\(km d (l.take i)).length<=i
 refine dn I ?_ l.length ⟨0, .vs [] .full,by omega,⟨rfl,rfl,rfl,rfl,by simp+decide only[st,xv,aw.aN],rfl⟩,⟨by simp[aa.set,aa.at],by simp[aa.set,aa.at],by simp[aa.set,aa.at], .inl ⟨rfl,rfl⟩,fun x hx=>by simp[aa.set,aa.at,show¬x=h.next by omega,show¬x=h.next+1 by omega]⟩,List.Pairwise.nil,(fun p hp=>by simp[km] at hp),by simp[km]⟩
 rintro n ρ H ⟨i,pv,aE,⟨r0,r4,r5,eJ,jf,gA⟩,M,hs,pW,WB⟩
 by_cases hi:i<l.length
 ·have aB:(i:Int)<(l.length:Int):=by omega
  have bR:(0:Int)<=i:=by omega
  have hw:=cT (show i<2^61 by omega)
  have cE:(aw.R l)[i]? =some [.int .u16 l[i].1, .int .u8 l[i].2]:=aw.eW hi
  have eX:km d (l.take (i+1))=oA d (km d (l.take i)) l[i]:=by
   rw[<-List.take_append_getElem hi,km,List.foldl_append];rfl
  generalize hm:km d (l.take i)=m at M hs pW WB eX
  generalize hp:l[i]=p at cE eX
  have yO:p.1<65536/\p.2<256:=by rw[<-hp];exact hb _ (List.getElem_mem hi)
  have hMn:=M.n
  simp+decide only[st,xv,lh,Pw,aco,eJ,jf,gA,aB,bR,cE]
  obtain⟨H1,jR⟩: ∃H1,H1=(H.at H.next (.cells [.int .u16 0, .int .u8 0])).set H.next (some (.cells [.int .u16 p.1, .int .u8 p.2])):=⟨_,rfl⟩
  have o1:Old H H1:=by subst jR;exact((Old.refl H).at (Nat.le_refl _)).set (Nat.le_refl _)
  have uq:H1.get H.next=some (.cells [.int .u16 p.1, .int .u8 p.2]):=by subst jR;simp[aa.set]
  have sS:H1.next=H.next+1:=by subst jR;simp[aa.set,aa.at]
  rw[<-jR]
  have M1:=M.to o1
  have g5:=av M1.out
  have g7:=av uq
  simp+decide only[st,xv,lh,acn,Ip,r5,g5,g7]
  refine aq (atR ok (l:=m) (fun h' ho=>M1.pv.mX ho) (by omega)) ?_
  have fin: ∀ρ' H' ue,MR h d t l i ρ'->MS h d (oA d m p) ue H'-> ∃k,k<n/\I k (put (put ρ' (some 52) (.int .i64 ((i+1:Nat):Int))) (some 15) (.int .i64 ((i+1:Nat):Int))) H':=by
   intro ρ' H' ue R' M'
   refine⟨n-1,by omega,i+1,ue,by omega,⟨R'.r0,R'.r4,R'.r5,R'.eJ,R'.jf,rfl⟩,by rw[eX];exact M',by rw[eX];exact aou hs,fun q hq=>?_,by rw[eX];have:=aav (d:=d) (l:=m) (p:=p);omega⟩
   rw[eX] at hq
   rcases aau hq with rfl|hq
   ·exact yO
   ·exact pW q hq
  by_cases hc:0<=cidx m p.1
  ·obtain⟨k,hk,e1,e2⟩:=Zl hc
   have w1:=cT (show k<2^61 by omega)
   rcases M.pv with⟨rfl,_⟩|⟨bb,rfl,q1,q2,q3⟩
   ·simp at hk
   have k2:=amy ok (h:=H1) (f:=170) rfl (i:=k) (by omega) ((o1.get _ q3).trans q1) GN (by omega) hk
   have yU:dl m p.1=m.eraseIdx k:=by rw[dl,if_pos hc,e1,Int.toNat_natCast]
   have Gl:m.length-1=(dl m p.1).length:=by rw[yU,List.length_eraseIdx];simp[hk]
   rw[amz,<-yU,Gl] at k2
   have m8:(0:Int)<=k:=by omega
   have hg:cellsOf (jN H1 bb (aw.R (dl m p.1)).flatten) (h.next+1)=some [.int .u8 d, .rs bb 0 m.length 2]:=av (by simp[jN,aa.at,aa.set,aa.clean,show¬h.next=H1.next+18 by omega,show h.next+1<H1.next by omega,show¬h.next+1=bb by omega,M1.out])
   simp+decide only[st,xv,lh,Ip,Pv,e1,m8,w1,r5,g5]
   refine aq k2 ?_
   simp+decide only[st,xv,lh,Pv,r5,hg]
   have Mb:=M1.buf (l2:=dl m p.1) q2
   exact vh.1 (tK.1 (Y4 ok (H:=H) (p:=p) (m1:=dl m p.1) ⟨r0,r4,r5,eJ,jf,gA⟩ rfl Mb (by omega) (by simp only[jN,aa.set,aa.at,aa.clean];omega) (by simp[jN,aa.set,aa.at,aa.clean,show¬H.next=h.next+1 by omega,show¬H.next=H1.next+19 by omega,show H.next<H1.next by omega,show¬H.next=bb by omega,uq]) yO (HW hs) (fun q hq=>pW q (ve.subset hq)) (by have:=(ve (l:=m) (c:=p.1)).length_le;omega) (fun ρ' H' ue R' M'=>by
    have UQ:=R'.gA
    simp+decide only[st,xv,lh,NN,UQ,hw]
    exact fin _ _ ue R' M')))
  ·have yU:dl m p.1=m:=by rw[dl,if_neg hc]
   simp+decide only[st,xv,lh,Ip,hc]
   exact vh.1 (tK.1 (Y4 ok (H:=H) (p:=p) (m1:=dl m p.1) ⟨r0,r4,r5,eJ,jf,gA⟩ rfl (by rw[yU];exact M1) (by omega) (by omega) uq yO (HW hs) (fun q hq=>pW q (ve.subset hq)) (by have:=(ve (l:=m) (c:=p.1)).length_le;omega) (fun ρ' H' ue R' M'=>by
    have UQ:=R'.gA
    simp+decide only[st,xv,lh,NN,UQ,hw]
    exact fin _ _ ue R' M')))
 ·have aB: ¬(i:Int)<(l.length:Int):=by omega
  have ix:l.take i=l:=List.take_of_length_le (by omega)
  rw[ix] at M
  have g1:=av M.out
  have g2:=av M.res
  have cV:=M.pv.one
  simp+decide only[st,xv,lh,Pw,aaz,jf,gA,r4,r5,aB,g1,g2,cV]
  have hMn:=M.n
  rw[ix] at WB
  rcases M.pv with⟨e,rfl⟩|⟨b,rfl,q1,q2,q3⟩
  ·refine Hb.2 ⟨.agg [.int .u8 d, .vs [] .full],h.next,[.int .u8 d, .vs [] .full],by simp+decide only[st,xv,r4],by simp[aa.set],Nat.le_refl _,rfl,by rw[e];rfl,fun x hx=>?_⟩
   simp[aa.set,show¬x=h.next by omega,M.old x hx]
  ·have pU:AV.eK b (aw.R (km d l)).flatten (.agg [.int .u8 d, .rs b 0 (km d l).length 2])= .agg [.int .u8 d, .vs (aw.R (km d l)) .ao]:=by
    simp only[AV.eK,AV.qG,if_true]
    rw[if_pos (by rw[GN];omega),ZE]
   refine Hb.2 ⟨.agg [.int .u8 d, .rs b 0 (km d l).length 2],b,(aw.R (km d l)).flatten,by simp+decide only[st,xv,r4],by simp[aa.set,show¬b=h.next by omega,q1],by omega,?_,?_,fun x hx=>?_⟩
   ·rw[pU];simp only[AV.bB,AV.bX,aw.iB];rfl
   ·rw[pU];simp only[AV.strip,AV.bA,aw.ew];rfl
   ·simp[aa.set,show¬x=h.next by omega,M.old x hx]
end
section
open Go
variable {P:Program}
def yc (l:Lb) (c gB:Nat):Lb:=⟨l.d,km l.d (l.ps++[(c,gB)])⟩
theorem amM (ok:ax P tb) {l:Lb} {t:aH} {c gB:Nat} {h:aa} (hl:l.ok) (hc:c<65536) (U5:gB<256):an P 138 [.agg (l.c t), .int .u16 c, .int .u8 gB] h (.agg ((yc l c gB).c .ao)) h:=by
 refine ok.eM (rf:=yr) rfl (Nat.le_of_ble_eq_true rfl) (by simp only[AV.bB,AV.bX,Lb.c,aw.iB];rfl) ?_
 have jQ:=hl.len
 simp+decide only[st,xv,yr,acW,Lb.c]
 obtain⟨X,hX⟩: ∃X,X=((h.at h.next (.cells [.int .u8 l.d, .vs (aw.R l.ps) t])).at (h.next+1) (.cells [.int .u8 0, .vs [] .full])):=⟨_,rfl⟩
 have xn:X.next=h.next+2:=by subst hX;simp[aa.at]
 have xo: ∀x,x<h.next->X.get x=h.get x:=by subst hX;intro x hx;simp[aa.at,show¬x=h.next by omega,show¬x=h.next+1 by omega]
 have x1:cellsOf X h.next=some [.int .u8 l.d, .vs (aw.R l.ps) t]:=by subst hX;simp+decide only[st,xv]
 have x2:X.get (h.next+1)=some (.cells [.int .u8 0, .vs [] .full]):=by subst hX;simp[aa.at]
 rw[<-hX]
 refine qg 11 12 rfl (by omega) rfl ?_
 have xl:h.next<X.next:=by omega
 simp+decide only[st,xv,yr,Qd,x1,xl,List.take_succ_cons,List.take_zero]
 obtain⟨v,h1,k1,⟨tt,rfl,k2⟩,k3,k4,k5⟩:=abh aw ok (f:=37) (z:=[.int .u16 0, .int .u8 0]) (jl:=4) rfl (l:=l.ps) (t:=t) (h:=X.clean 12) (by omega) (by omega)
 have vn: ∀j,j<12->h1.get (X.next+j)=none:=by
  intro j hj
  rcases k5 with rfl|rfl
  ·simp only[aa.clean];rw[if_neg (by omega)]
  ·have kW: ¬X.next+j=X.next+12:=by omega
   simp only[aa.clean,aa.at,kW,if_false];rw[if_neg (by omega)]
 have sS:X.next+12<=h1.next:=k3.next
 have ho1:Old X h1:=⟨by omega,fun x hx=>by rw[k3.get x (by simp[aa.clean];omega)];simp[aa.clean,hx]⟩
 refine⟨_,h1,k1,fun j _ hj=>vn j hj,fun x hx=>k3.get x (by simp[aa.clean];omega),?_⟩
 have ha:App X h1 (.vs (aw.R l.ps) tt) (aw.R l.ps):=⟨tt,rfl,k2.imp id (fun⟨k,q1,q2,q3,q4⟩=>⟨k,q1,by have:X.next+12<=k:=q2;omega,q3,q4⟩)⟩
 obtain⟨v',h2,a1,⟨t2,rfl,_⟩,a3,a4,a5⟩:=ha.sG ho1 (bytes:=4) (sz:=2) (base:=X.next) (n:=12) (i:=9) (Nat.le_refl _) (fun j hj=> .inl (vn j hj)) [[.int .u16 c, .int .u8 gB]] aw.jn (by rw[aw.aN];simp only[List.length_singleton];omega) (by rw[aw.aN];simp only[List.length_singleton];omega)
 simp+decide only[st,xv]
 refine⟨_,h2,a1,a5,fun x hx=>by rw[a3.get x hx,ho1.get x hx],?_⟩
 simp+decide only[st,xv]
 have hap:aw.R l.ps++[[.int .u16 c, .int .u8 gB]]=aw.R (l.ps++[(c,gB)]):=by rw[<-aw.jK];rfl
 rw[hap]
 refine⟨_,h2,alQ ok hl.d (fun p hp=>?_) (by simp;omega),fun j hj hn=>a5 j (by omega) hn,fun _ _=>rfl,?_⟩
 ·rcases List.mem_append.1 hp with hp|hp
  ·exact hl.ps p hp
  ·simp at hp;subst hp;exact⟨hc,U5⟩
 have x3:cellsOf h2 (h.next+1)=some [.int .u8 0, .vs [] .full]:=av (by rw[a3.get _ (by omega),x2])
 simp+decide only[st,xv,yr,Qd,Lb.c,x3,bE,List.drop_succ_cons,List.drop_zero]
 refine⟨fun j hj hn=>?_,by simp only[AV.strip,AV.bA,aw.ew];rfl,fun x hx=>?_⟩
 ·omega
 ·rw[if_neg (by omega),a3.get x (by omega),xo x hx]
def oe (d:Nat) (l:List (Nat×Nat)) (i:Nat):Bool:=decide ((l.getD i (0,0)).2<=4)&&!((l.getD i (0,0)).2==d)&&(i==0||decide ((l.getD (i-1) (0,0)).1<(l.getD i (0,0)).1))
def dB (l:Lb):Bool:=decide (1<=l.d)&&decide (l.d<=4)&&decide (l.ps.length<=16)&&(List.range l.ps.length).all (oe l.d l.ps)
theorem Ng (ok:ax P tb) {l:Lb} {t:aH} {h:aa} (hl:l.ok):an P 20 [.agg (l.c t)] h (.bool (dB l)) h:=by
 refine ok.keeps (rf:=lM) rfl (Nat.le_of_ble_eq_true rfl) rfl ?_
 have jQ:=hl.len
 by_cases h1:1<=l.d
 case neg=>
  have dc:(l.d:Int)<1:=by omega
  have e:dB l=false:=by simp[dB,h1]
  simp+decide only[st,xv,lM,EZ,EY,Ki,Lb.c,dc,e]
  first|(intro b hb;first|(intros;omega)|(repeat(first|rw[if_neg (by omega)]|rw[if_pos (by omega)]));done)|(refine⟨rfl,?_⟩;intro b hb;first|(intros;omega)|(repeat(first|rw[if_neg (by omega)]|rw[if_pos (by omega)])))
 have dc: ¬(l.d:Int)<1:=by omega
 by_cases h2:l.d<=4
 case neg=>
  have fH:(4:Int)<(l.d:Int):=by omega
  have e:dB l=false:=by simp[dB,h2]
  simp+decide only[st,xv,lM,EZ,EY,Ki,Lb.c,dc,fH,e]
  first|(intro b hb;first|(intros;omega)|(repeat(first|rw[if_neg (by omega)]|rw[if_pos (by omega)]));done)|(refine⟨rfl,?_⟩;intro b hb;first|(intros;omega)|(repeat(first|rw[if_neg (by omega)]|rw[if_pos (by omega)])))
 have fH: ¬(4:Int)<(l.d:Int):=by omega
 by_cases h3:l.ps.length<=16
 case neg=>
  have nf:(16:Int)<(l.ps.length:Int):=by omega
  have e:dB l=false:=by simp[dB,h3]
  simp+decide only[st,xv,lM,EZ,EY,Ki,Lb.c,dc,fH,nf,aw.aN,e]
  first|(intro b hb;first|(intros;omega)|(repeat(first|rw[if_neg (by omega)]|rw[if_pos (by omega)]));done)|(refine⟨rfl,?_⟩;intro b hb;first|(intros;omega)|(repeat(first|rw[if_neg (by omega)]|rw[if_pos (by omega)])))
 have nf: ¬(16:Int)<(l.ps.length:Int):=by omega
 simp+decide only[st,xv,lM,EZ,EY,ah5,Lb.c,dc,fH,nf,aw.aN]
 obtain⟨X,hX⟩: ∃X,X=h.at h.next (.cells [.int .u8 l.d, .vs (aw.R l.ps) t]):=⟨_,rfl⟩
 have xo:Old h X:=by subst hX;exact(Old.refl h).at (Nat.le_refl _)
 have x1:X.get h.next=some (.cells [.int .u8 l.d, .vs (aw.R l.ps) t]):=by subst hX;simp[aa.at]
 have xn:X.next=h.next+1:=by subst hX;simp[aa.at]
 rw[<-hX]
 let I:Nat->Env->aa->Prop:=fun n ρ H=>Old X H/\ ∃i:Nat,l.ps.length=i+n/\(∀j,j<i->oe l.d l.ps j=true)/\ρ 1= .ptr h.next 0/\ρ 20= .vs (aw.R l.ps) t/\ρ 21= .int .i64 l.ps.length/\ρ 22= .int .i64 i
 refine dn I ?_ l.ps.length ⟨Old.refl X,0,by omega,by omega,rfl,rfl,rfl,rfl⟩
 rintro n ρ H ⟨ho,i,aE,hf,r1,qP,pL,FN⟩
 by_cases hi:i<l.ps.length
 ·have aB:(i:Int)<(l.ps.length:Int):=by omega
  have bR:(0:Int)<=i:=by omega
  have hw:=cT (show i<2^61 by omega)
  have cE:(aw.R l.ps)[i]? =some [.int .u16 l.ps[i].1, .int .u8 l.ps[i].2]:=aw.eW hi
  have kX:l.ps.getD i (0,0)=l.ps[i]:=by simp[hi]
  simp+decide only[st,xv,lM,Uo,ah4,qP,pL,FN,aB,bR,cE]
  obtain⟨H1,jR⟩: ∃H1,H1=(H.at H.next (.cells [.int .u16 0, .int .u8 0])).set H.next (some (.cells [.int .u16 l.ps[i].1, .int .u8 l.ps[i].2])):=⟨_,rfl⟩
  have o1:Old H H1:=by subst jR;exact((Old.refl H).at (Nat.le_refl _)).set (Nat.le_refl _)
  have sS:H1.next=H.next+1:=by subst jR;simp[aa.set,aa.at]
  have g4:cellsOf H1 H.next=some [.int .u16 l.ps[i].1, .int .u8 l.ps[i].2]:=by subst jR;exact av (by simp[aa.set])
  have Wy:=ho.next
  have g1:cellsOf H1 h.next=some [.int .u8 l.d, .vs (aw.R l.ps) t]:=av (by rw[o1.get _ (by omega),ho.get _ (by omega),x1])
  have l1:h.next<H1.next:=by omega
  have l2:H.next<H1.next:=by omega
  rw[<-jR]
  refine bJ 27 rfl rfl ?_
  simp+decide only[st,xv,lM,x7,g4,l2]
  refine fA (apx ok _) (dp (Nat.le_refl _)) ?_
  have hO: ∀k,Old X (H1.clean k):=fun k=>(ho.trans o1).clean
  have qF:oe l.d l.ps i=false->dB l=false:=fun hb=>by
   unfold dB
   have:(List.range l.ps.length).all (oe l.d l.ps)=false:=by
    rw[List.all_eq_false];exact⟨i,List.mem_range.2 hi,by simp[hb]⟩
   rw[this,Bool.and_false]
  have Gp: ∀b,b<h.next->(H1.clean 27).get b=h.get b:=fun b hb=>by rw[(hO 27).get b (by omega),xo.get b hb]
  have Vf: ∀b,b<h.next->(if b<H1.next then H1.get b else none)=h.get b:=Gp
  have aiZ:oe l.d l.ps i=true-> ∀ρ',ρ' 1= .ptr h.next 0->ρ' 20= .vs (aw.R l.ps) t->ρ' 21= .int .i64 l.ps.length->ρ' 22= .int .i64 ((i+1:Nat):Int)-> ∃m,m<n/\I m ρ' (H1.clean 27):=fun hg ρ' q1 q2 q3 q4=>
   ⟨n-1,by omega,hO 27,i+1,by omega,fun j hj=>by
     by_cases d7:j=i
     ·subst d7;exact hg
     ·exact hf j (by omega),q1,q2,q3,q4⟩
  by_cases h4:l.ps[i].2<=4
  case neg=>
   have e:=qF (by simp only[oe,kX];simp[h4])
   simp+decide only[st,xv,lM,x7,AM,h4,e]
   exact Vf
  by_cases h5:l.ps[i].2=l.d
  ·have e:=qF (by simp only[oe,kX];simp[h5])
   simp+decide only[st,xv,lM,x7,AM,h4,h5,h2,g1,g4,l1,l2,r1,e]
   exact Vf
  ·have WX: ¬(l.ps[i].2:Int)=(l.d:Int):=by omega
   by_cases h6:i=0
   ·have iS: ¬(0:Int)<(i:Int):=by omega
    have e:oe l.d l.ps i=true:=by
     simp only[oe,kX,h4,decide_true,Bool.true_and]
     rw[beq_eq_false_iff_ne.2 h5]
     simp[h6]
    simp+decide only[st,xv,lM,x7,AM,Un,h4,h5,WX,g1,g4,l1,l2,r1,FN,iS,hw]
    exact aiZ e _ r1 qP pL rfl
   ·have iS:(0:Int)<(i:Int):=by omega
    have w1:IntKind.wrap .i64 ((i:Int)-1)=((i-1:Nat):Int):=by rw[bw]<;>omega
    have ux:i-1<l.ps.length:=by omega
    have Gj:(aw.R l.ps)[i-1]? =some [.int .u16 l.ps[i-1].1, .int .u8 l.ps[i-1].2]:=aw.eW ux
    have aiV:l.ps.getD (i-1) (0,0)=l.ps[i-1]:=by simp[ux]
    have aiO:(0:Int)<=((i-1:Nat):Int):=by omega
    by_cases h7:l.ps[i].1<=l.ps[i-1].1
    ·have WW:(l.ps[i].1:Int)<=(l.ps[i-1].1:Int):=by omega
     have e:=qF (by simp only[oe,kX,aiV];simp[h6];omega)
     simp+decide only[st,xv,lM,x7,AM,h4,h5,WX,g1,g4,l1,l2,r1,FN,iS,w1,Gj,aiO,h7,WW,e]
     exact Vf
    ·have WW: ¬(l.ps[i].1:Int)<=(l.ps[i-1].1:Int):=by omega
     have e:oe l.d l.ps i=true:=by simp only[oe,kX,aiV];simp[h4,h5];omega
     simp+decide only[st,xv,lM,x7,AM,Un,h4,h5,WX,g1,g4,l1,l2,r1,FN,iS,w1,Gj,aiO,h7,WW,hw]
     exact aiZ e _ r1 qP pL rfl
 ·have aB: ¬(i:Int)<(l.ps.length:Int):=by omega
  have e:dB l=true:=by
   unfold dB
   simp only[h1,h2,h3,decide_true,Bool.true_and,List.all_eq_true,List.mem_range]
   exact fun j hj=>hf j (by omega)
  simp+decide only[st,xv,lM,Uo,ah3,pL,FN,aB,e]
  exact fun b hb=>by rw[ho.get b (by omega),xo.get b hb]
end
section
open Go
variable {P:Program}
def uP (v i:Nat):UInt8:=UInt8.ofNat (v/2^(8*i)%256)
def be (v:Nat):Nat->List UInt8
 |0=>[]
 |n+1=>uP v n::be v n
theorem bW {v:Nat}: ∀{n:Nat},(be v n).length=n
 |0=>rfl
 |n+1=>by simp[be,bW (n:=n)]
def de (l:List UInt8):Nat:=l.foldl (fun v b=>v*256+b.toNat) 0
theorem abg {l:List UInt8} {b:UInt8}:de (l++[b])=de l*256+b.toNat:=by simp[de]
theorem vu: ∀(l:List UInt8),de l<256^l.length:=by
 intro l
 rcases List.eq_nil_or_concat l with rfl|⟨m,b,rfl⟩
 ·simp[de]
 ·have ih:=vu m
  have hb:=b.toNat_lt
  rw[List.concat_eq_append,abg,List.length_append,List.length_singleton,Nat.pow_succ]
  omega
termination_by l=>l.length
decreasing_by simp_all
theorem aaS {v i:Nat}:(uP v i).toNat=v/2^(8*i)%256:=by
 rw[uP,UInt8.toNat_ofNat']
 omega
theorem Z4 {v:Nat}: ∀{n a:Nat},(be v n).foldl (fun v b=>v*256+b.toNat) a=a*256^n+v%256^n
 |0,a=>by simp[be];omega
 |n+1,a=>by
  rw[be,List.foldl_cons,Z4,aaS]
  have h1:v%256^(n+1)=256^n*(v/256^n%256)+v%256^n:=by rw[Nat.pow_succ,Nat.mod_mul];omega
  have h2:(2:Nat)^(8*n)=256^n:=by rw[Nat.pow_mul]
  rw[h1,h2,Nat.pow_succ,Nat.add_mul,Nat.mul_assoc,Nat.mul_comm 256 (256^n),Nat.mul_comm (v/256^n%256)]
  omega
theorem auQ {v n:Nat}:de (be v n)=v%256^n:=by rw[de,Z4];omega
theorem pg (ok:ax P tb) {b:List UInt8} {t:aH} {v n:Nat} {h:aa} (hv:v<2^64) (hn:n<=8) (hb:b.length<2^30):an P 52 [.vs (BS b) t, .int .u64 v, .int .i64 n] h (.vs (BS (b++be v n)) .ao) h:=by
 refine ok.eM (rf:=uI) rfl (Nat.le_of_ble_eq_true rfl) jM.lV ?_
 obtain⟨c0,h0,k1,k2,k3,k4,_⟩:=abh jM ok (f:=57) (z:=[.int .u8 0]) (jl:=1) rfl (l:=b) (t:=t) (h:=h) (by omega) (by omega)
 have n0: ¬(n:Int)<0:=by omega
 have n8: ¬(8:Int)<(n:Int):=by omega
 simp+decide only[st,xv,uI,AJ,AI,AH,AG,AF,n0,n8]
 let J:Nat->Env->aa->Prop:=fun m ρ H=>Old h H/\ ∃pre,be v n=pre++be v m/\m<=n/\pre.length+m=n/\ρ 1= .int .u64 v/\ρ 8= .int .i64 m/\App h H (ρ 7) (BS (b++pre))
 refine lQ 0 rfl rfl J (fun l' ρ h hk=>hk) ?_ ?_
 ·simp+decide only[st,xv,uI,AJ,AI,AH,AG,AF,j7,List.foldr,n0,n8]
  refine aq k1 ?_
  simp+decide only[st,xv,uI,AJ,AI,AH,AG,AF,n0,n8]
  exact⟨n,k3,[],rfl,Nat.le_refl _,by simp,rfl,rfl,by rw[List.append_nil];exact k2⟩
 rintro m ρ H ⟨ho,pre,aiN,sT,kV,r1,r8,ha⟩
 cases m with
 |zero=>
  obtain⟨tt,hv7,_⟩:=ha
  simp+decide only[st,xv,uI,AJ,AI,AH,AG,AF,To,Tn,Tm,agv,r8,hv7,bE]
  exact⟨by rw[aiN,be,List.append_nil];exact jM.lR,ho.get⟩
 |succ m=>
  have m0:(0:Int)<((m+1:Nat):Int):=by omega
  have w1:IntKind.wrap .i64 (((m+1:Nat):Int)-1)=(m:Int):=by rw[bw]<;>omega
  have w2:IntKind.wrap .i64 (8*(m:Int))=((8*m:Nat):Int):=by rw[bw]<;>omega
  have w3:IntKind.wrap .u64 ((8*m:Nat):Int)=((8*m:Nat):Int):=fC (by omega)
  have w4: ¬((8*m:Nat):Int)<0:=by omega
  have w5:min (8*m) (IntKind.u64.bits)=8*m:=Nat.min_eq_left (by show 8*m<=64;omega)
  have w6:IntKind.wrap .u8 ((v:Int).fdiv (2^(8*m)))=((uP v m).toNat:Int):=by
   have p2:(2:Int)^(8*m)=((2^(8*m):Nat):Int):=by rw[Int.natCast_pow];rfl
   have e1:(v:Int).fdiv (2^(8*m))=((v/2^(8*m):Nat):Int):=by rw[p2,Int.fdiv_eq_ediv_of_nonneg _ (Int.natCast_nonneg _)];rfl
   rw[e1,aaS]
   simp[IntKind.wrap,IntKind.signed,IntKind.bits]
  obtain⟨v',h2,a1,a2,a3,a4,a5,a6⟩:=ha.app ho (bytes:=1) (sz:=1) (id:=H.next) ho.next [[.int .u8 (uP v m).toNat]] jM.jn (by rw[b8];simp only[List.length_singleton,List.length_append];omega) (by rw[b8];simp only[List.length_singleton,List.length_append];omega)
  simp+decide only[st,xv,uI,AJ,AI,AH,AG,AF,To,Tn,Tm,r1,r8,m0,w1,w2,w3,w4,w5,w6,a1,List.length_cons,List.length_nil]
  exact⟨m,by omega,a3,pre++[uP v m],by rw[aiN,be];simp,by omega,by simp only[List.length_append,List.length_singleton];omega,r1,rfl,by rw[<-List.append_assoc,<-ad0];exact a2⟩
theorem zq (ok:ax P tb) {b:List UInt8} {t:aH} {n:Nat} {h:aa} (hn:n<=8) (hb:b.length<2^30):an P 157 [.vs (BS b) t, .int .i64 n] h (if b.length<n then .az [.int .u64 0, .int .i64 3] else .az [.int .u64 (de (b.take n)), .int .i64 0]) h:=by
 have n0: ¬(n:Int)<0:=by omega
 have n8: ¬(8:Int)<(n:Int):=by omega
 refine ok.keeps (rf:=sD) rfl (Nat.le_of_ble_eq_true rfl) (by split<;>rfl) ?_
 by_cases hs:b.length<n
 ·rw[if_pos hs]
  have iW:(b.length:Int)<(n:Int):=by omega
  simp+decide only[st,xv,sD,xA,xz,xy,xw,xu,n0,n8,b8,iW]
  refine lQ 0 rfl rfl (fun m ρ H=>False) (fun l' ρ h hk=>hk) ?_ (fun _ _ _ h=>h.elim)
  simp+decide only[st,xv,sD,xA,xz,xy,xw,xu,j7,List.foldr,n0,n8,b8,iW]
 rw[if_neg hs]
 have iW: ¬(b.length:Int)<(n:Int):=by omega
 simp+decide only[st,xv,sD,xA,xz,xy,xw,xu,n0,n8,b8,iW]
 let J:Nat->Env->aa->Prop:=fun m ρ H=>H=h/\ ∃i,i+m=n/\ρ 0= .vs (BS b) t/\ρ 1= .int .i64 n/\ρ 4= .int .u64 (de (b.take i))/\ρ 6= .int .i64 i
 refine lQ 0 rfl rfl J (fun l' ρ h hk=>hk) ?_ ?_
 ·simp+decide only[st,xv,sD,xA,xz,xy,xw,xu,Is,j7,List.foldr,n0,n8,b8,iW]
  exact⟨n,rfl,0,by omega,rfl,rfl,rfl,rfl⟩
 rintro m ρ H ⟨rfl,i,pT,r0,r1,r4,r6⟩
 cases m with
 |zero=>
  have aE:i=n:=by omega
  subst aE
  have dH: ¬(i:Int)<(i:Int):=by omega
  simp+decide only[st,xv,sD,xA,xz,xy,xw,xu,Is,PG,PE,PD,acs,r0,r1,r4,r6,dH]
 |succ m=>
  have hi:(i:Int)<(n:Int):=by omega
  have rh:i<b.length:=by omega
  have bR:(0:Int)<=i:=by omega
  have hw:=cT (show i<2^61 by omega)
  have hg:(BS b)[i]? =some [.int .u8 b[i].toNat]:=jM.eW rh
  have aC:=vu (b.take i)
  have hle:(b.take i).length=i:=by rw[List.length_take];omega
  rw[hle] at aC
  have axK:(256:Nat)^i*256<=2^64:=by
   have:(256:Nat)^i*256=256^(i+1):=(Nat.pow_succ ..).symm
   rw[this]
   have:(256:Nat)^(i+1)<=256^8:=Nat.pow_le_pow_right (by omega) (by omega)
   omega
  have e8:min 8 (IntKind.u64.bits)=8:=rfl
  have e9:Int.toNat 8=8:=rfl
  have w1:IntKind.wrap .u64 ((de (b.take i):Int)*2^8)=((de (b.take i)*256:Nat):Int):=by
   rw[show(de (b.take i):Int)*2^8=((de (b.take i)*256:Nat):Int) by omega]
   exact fC (by omega)
  have hb8:=b[i].toNat_lt
  have w2:IntKind.wrap .u64 (b[i].toNat:Int)=(b[i].toNat:Int):=fC (by omega)
  have w3:pD .or .u64 ((de (b.take i)*256:Nat):Int) (b[i].toNat:Int)=some ((de (b.take (i+1)):Nat):Int):=by
   rw[NY (by omega) (by omega),<-List.take_append_getElem rh,abg]
   have:=Nat.shiftLeft_add_eq_or_of_lt (i:=8) hb8 (de (b.take i))
   rw[Nat.shiftLeft_eq] at this
   rw[show(256:Nat)=2^8 by rfl,this]
  have h8: ¬(8:Int)<0:=by omega
  simp+decide only[st,xv,sD,xA,xz,xy,xw,xu,Is,PG,PE,PD,r0,r1,r4,r6,hi,bR,hw,Int.toNat_natCast,hg,e8,e9,w1,w2,w3,h8,List.length_cons,List.length_nil]
  exact⟨m,by omega,rfl,i+1,by omega,r0,r1,rfl,rfl⟩
end
section
open Go
variable {P:Program}
def qt (p:Nat×Nat):List UInt8:=be p.1 2++be p.2 1
def du (l:Lb):List UInt8:=be l.d 1++be l.ps.length 1++l.ps.flatMap qt
theorem YZ {l:List (Nat×Nat)}:(l.flatMap qt).length=3*l.length:=by
 induction l with
 |nil=>rfl
 |cons p l ih=>simp only[List.flatMap_cons,List.length_append,ih,qt,bW,List.length_cons];omega
theorem Hj {l:Lb}:(du l).length=2+3*l.ps.length:=by simp only[du,List.length_append,bW,YZ]
theorem MP (ok:ax P tb) {b:List UInt8} {l:Lb} {t t':aH} {h:aa} (hl:l.ok) (hb:b.length<2^20):an P 51 [.vs (BS b) t, .agg (l.c t')] h (.vs (BS (b++du l)) .ao) h:=by
 refine ok.eM (rf:=rB) rfl (Nat.le_of_ble_eq_true rfl) jM.lV ?_
 have hd:=hl.d
 have jQ:=hl.len
 have w1:IntKind.wrap .u64 (l.d:Int)=l.d:=fC (by omega)
 have w2:IntKind.wrap .u64 (l.ps.length:Int)=l.ps.length:=fC (by omega)
 simp+decide only[st,xv,rB,agC,Lb.c]
 obtain⟨X,hX⟩: ∃X,X=h.at h.next (.cells [.int .u8 l.d, .vs (aw.R l.ps) t']):=⟨_,rfl⟩
 have xo:Old h X:=by subst hX;exact(Old.refl h).at (Nat.le_refl _)
 have x1:cellsOf X h.next=some [.int .u8 l.d, .vs (aw.R l.ps) t']:=by subst hX;simp+decide only[st,xv]
 have xn:h.next<X.next:=by subst hX;simp[aa.at]
 rw[<-hX]
 refine zC ?_
 simp+decide only[st,xv,rB,agB,x1,xn,w1]
 refine i6 (pg ok (v:=l.d) (n:=1) (by omega) (by omega) (by omega)) (dp (Nat.le_refl _)) ?_
 simp+decide only[st,xv,x1,xn,aw.aN,w2]
 refine i6 (pg ok (v:=l.ps.length) (n:=1) (by omega) (by omega) (by simp only[List.length_append,bW];omega)) (dp (Nat.le_refl _)) ?_
 have x2: ∀k,cellsOf (X.clean k) h.next=some [.int .u8 l.d, .vs (aw.R l.ps) t']:=fun k=>by simp+decide only[st,xv,x1,xn]
 have xo2: ∀k,Old X (X.clean k):=fun k=>(Old.refl X).clean
 simp+decide only[st,xv,rB,agA,x1,xn]
 let I:Nat->Env->aa->Prop:=fun n ρ H=>Old X H/\ ∃i:Nat,l.ps.length=i+n/\ρ 19= .vs (aw.R l.ps) t'/\ρ 20= .int .i64 l.ps.length/\ρ 21= .int .i64 i/\ρ 5= .vs (BS (b++be l.d 1++be l.ps.length 1++(l.ps.take i).flatMap qt)) .ao
 refine dn I ?_ l.ps.length ⟨xo2 _,0,by omega,rfl,by simp+decide only[st,xv,aw.aN],rfl,by simp only[List.take_zero,List.flatMap_nil,List.append_nil];rfl⟩
 rintro n ρ H ⟨ho,i,aE,Bl,qP,pL,r5⟩
 by_cases hi:i<l.ps.length
 ·have aB:(i:Int)<(l.ps.length:Int):=by omega
  have bR:(0:Int)<=i:=by omega
  have hw:=cT (show i<2^61 by omega)
  have cE:(aw.R l.ps)[i]? =some [.int .u16 l.ps[i].1, .int .u8 l.ps[i].2]:=aw.eW hi
  have yO:=hl.ps _ (List.getElem_mem hi)
  have w3:IntKind.wrap .u64 (l.ps[i].1:Int)=l.ps[i].1:=fC (by omega)
  have w4:IntKind.wrap .u64 (l.ps[i].2:Int)=l.ps[i].2:=fC (by omega)
  simp+decide only[st,xv,rB,Tp,agz,Bl,qP,pL,aB,bR,cE]
  obtain⟨H1,jR⟩: ∃H1,H1=(H.at H.next (.cells [.int .u16 0, .int .u8 0])).set H.next (some (.cells [.int .u16 l.ps[i].1, .int .u8 l.ps[i].2])):=⟨_,rfl⟩
  have o1:Old H H1:=by subst jR;exact((Old.refl H).at (Nat.le_refl _)).set (Nat.le_refl _)
  have sS:H.next<H1.next:=by subst jR;simp[aa.set,aa.at]
  have g7:cellsOf H1 H.next=some [.int .u16 l.ps[i].1, .int .u8 l.ps[i].2]:=by subst jR;exact av (by simp[aa.set])
  rw[<-jR]
  have kV:=YZ (l:=l.ps.take i)
  have uj:=List.length_take_le i l.ps
  refine zC ?_
  simp+decide only[st,xv,rB,agy,r5,g7,sS,w3]
  refine i6 (pg ok (v:=l.ps[i].1) (n:=2) (by omega) (by omega) (by simp only[List.length_append,bW];omega)) (dp (Nat.le_refl _)) ?_
  simp+decide only[st,xv,g7,sS,w4]
  refine i6 (pg ok (v:=l.ps[i].2) (n:=1) (by omega) (by omega) (by simp only[List.length_append,bW];omega)) (dp (Nat.le_refl _)) ?_
  simp+decide only[st,xv,rB,agx,pL,hw]
  refine⟨n-1,by omega,(ho.trans o1).clean,i+1,by omega,Bl,qP,rfl,?_⟩
  show AV.vs (BS _) .ao=_
  rw[<-List.take_append_getElem hi]
  simp only[List.flatMap_append,List.flatMap_cons,List.flatMap_nil,List.append_nil,qt,List.append_assoc]
 ·have aB: ¬(i:Int)<(l.ps.length:Int):=by omega
  simp+decide only[st,xv,rB,Tp,agw,qP,pL,r5,aB,bE]
  refine⟨?_,fun x hx=>by rw[ho.get x (by omega),xo.get x hx]⟩
  rw[List.take_of_length_le (by omega)]
  simp only[du,List.append_assoc]
  exact jM.lR
end
section
open Go
variable {P:Program}
def jv (b:List UInt8) (k:Nat):List (Nat×Nat):=(List.range k).map fun i=>(de ((b.drop (2+3*i)).take 2),(b.getD (4+3*i) 0).toNat)
def qz (b:List UInt8):Lb×Nat×Nat:=
 if b.length<2 then(⟨0,[]⟩,0,3)
 else if b.length<2+3*(b.getD 1 0).toNat then(⟨0,[]⟩,0,3)
 else if dB ⟨(b.getD 0 0).toNat,jv b (b.getD 1 0).toNat⟩ then(⟨(b.getD 0 0).toNat,jv b (b.getD 1 0).toNat⟩,2+3*(b.getD 1 0).toNat,0)
 else(⟨0,[]⟩,0,2)
theorem Hw {b:List UInt8} {k:Nat}:(jv b k).length=k:=by simp[jv]
theorem amZ {b:List UInt8} {k:Nat}:jv b (k+1)=jv b k++[(de ((b.drop (2+3*k)).take 2),(b.getD (4+3*k) 0).toNat)]:=by simp[jv,List.range_succ]
def Q3 (r:Lb×Nat×Nat):AV:= .az [.agg (r.1.c .ao), .int .i64 r.2.1, .int .i64 r.2.2]
theorem akg (ok:ax P tb) {b:List UInt8} {t:aH} {h:aa} (hb:b.length<2^20):an P 125 [.vs (BS b) t] h (Q3 (qz b)) h:=by
 refine ok.eM (rf:=mU) rfl (Nat.le_of_ble_eq_true rfl) (by simp only[Q3,Lb.c,AV.bB,AV.bX,aw.iB];rfl) ?_
 simp+decide only[st,xv,mU,adA]
 by_cases h1:b.length<2
 ·have dc:(b.length:Int)<2:=by omega
  have e:qz b=(⟨0,[]⟩,0,3):=by simp[qz,h1]
  refine lQ 0 rfl rfl (fun _ _ _=>False) (fun l' ρ h hk=>hk) ?_ (fun _ _ _ h=>h.elim)
  simp+decide only[st,xv,mU,Qz,adz,j7,List.foldr,dc,b8,bE]
  rw[e]
  refine⟨rfl,fun x hx=>?_⟩
  have: ¬x=h.next:=by omega
  simp[aa.at,aa.set,this]
 have dc: ¬(b.length:Int)<2:=by omega
 have Gj:(BS b)[Int.toNat 0]? =some [.int .u8 (b.getD 0 0).toNat]:=by
  rw[show Int.toNat 0=0 by rfl,Ja,List.getElem?_eq_getElem (show 0<b.length by omega),List.getD_eq_getElem?_getD,List.getElem?_eq_getElem (show 0<b.length by omega)];rfl
 have cE:(BS b)[Int.toNat 1]? =some [.int .u8 (b.getD 1 0).toNat]:=by
  rw[show Int.toNat 1=1 by rfl,Ja,List.getElem?_eq_getElem (show 1<b.length by omega),List.getD_eq_getElem?_getD,List.getElem?_eq_getElem (show 1<b.length by omega)];rfl
 have hd:=(b.getD 0 0).toNat_lt
 have hk:=(b.getD 1 0).toNat_lt
 generalize hD:(b.getD 0 0).toNat=D at*
 generalize hK:(b.getD 1 0).toNat=K at*
 have w1:IntKind.wrap .i64 (K:Int)=K:=se (by omega)
 have awD:(BS b)[0]? =some [.int .u8 D]:=Gj
 let J:Nat->Env->aa->Prop:=fun m ρ H=> ∃i v,K=i+m/\2+3*i<=b.length/\ρ 0= .vs (BS b) t/\ρ 2= .ptr h.next 0/\ρ 3= .int .i64 ((2+3*i:Nat):Int)/\ρ 5= .int .i64 m/\h.next<H.next/\H.get h.next=some (.cells [.int .u8 D,v])/\App ⟨h.get,h.next+1⟩ H v (aw.R (jv b i))/\ ∀x,x<h.next->H.get x=h.get x
 refine lQ 0 rfl rfl J (fun l' ρ h hk=>hk) ?_ ?_
 ·simp+decide only[st,xv,mU,Qz,ady,adx,j7,List.foldr,dc,b8,awD,Gj,cE,w1]
  refine⟨K,0, .vs [] .full,by omega,by omega,rfl,rfl,rfl,rfl,by simp[aa.at,aa.set],by simp[aa.set],⟨_,rfl, .inl rfl⟩,fun x hx=>?_⟩
  simp[aa.at,aa.set,show¬x=h.next by omega]
 rintro m ρ H ⟨i,v,hKi,hle,r0,r2,r3,r5,hn,hc,ha,hold⟩
 have g2:=av hc
 cases m with
 |zero=>
  have awO:K=i:=by omega
  subst awO
  obtain⟨tt,rfl,_⟩:=ha
  have aY:(⟨D,jv b K⟩:Lb).ok:=by
   refine⟨hd,fun p hp=>?_,by rw[Hw];omega⟩
   simp only[jv,List.mem_map] at hp
   obtain⟨j,_,rfl⟩:=hp
   refine⟨?_,(b.getD (4+3*j) 0).toNat_lt⟩
   have h1:=vu ((b.drop (2+3*j)).take 2)
   have h2:((b.drop (2+3*j)).take 2).length<=2:=List.length_take_le ..
   have h3:(256:Nat)^((b.drop (2+3*j)).take 2).length<=256^2:=Nat.pow_le_pow_right (by omega) h2
   show de _<65536
   omega
  simp+decide only[st,xv,mU,IK,aaM,r2,r5,g2]
  refine aq (Ng (l:=⟨D,jv b K⟩) (t:=tt) ok aY) ?_
  cases hm:dB ⟨D,jv b K⟩ with
  |false=>
   simp+decide only[st,xv,mU,aaL,r2,g2,bE]
   have e:qz b=(⟨0,[]⟩,0,2):=by simp only[qz,hD,hK];rw[if_neg h1,if_neg (by omega),hm];rfl
   rw[e]
   exact⟨rfl,fun x hx=>by rw[if_neg (by omega),hold x hx]⟩
  |true=>
   simp+decide only[st,xv,mU,aaK,r2,r3,g2,bE]
   have e:qz b=(⟨D,jv b K⟩,2+3*K,0):=by simp only[qz,hD,hK];rw[if_neg h1,if_neg (by omega),hm];rfl
   rw[e]
   exact⟨by simp only[AV.strip,AV.bA,aw.ew];rfl,fun x hx=>by rw[if_neg (by omega),hold x hx]⟩
 |succ m=>
  have Ge:(0:Int)<((m+1:Nat):Int):=by omega
  have w2:IntKind.wrap .i64 ((b.length:Int)-((2+3*i:Nat):Int))=((b.length-(2+3*i):Nat):Int):=by rw[bw]<;>omega
  by_cases hs:b.length-(2+3*i)<3
  ·have iW:((b.length-(2+3*i):Nat):Int)<3:=by omega
   simp+decide only[st,xv,mU,IK,Qy,adw,r0,r2,r3,r5,Ge,b8,w2,iW,g2,bE]
   have e:qz b=(⟨0,[]⟩,0,3):=by simp only[qz,hD,hK];rw[if_neg h1,if_pos (by omega)]
   rw[e]
   exact⟨rfl,fun x hx=>by rw[if_neg (by omega),hold x hx]⟩
  have iW: ¬((b.length-(2+3*i):Nat):Int)<3:=by omega
  have k1:2+3*i<=b.length:=hle
  have k2:dF 1 (BS b)=true:=qj
  have k3:(BS b).drop (2+3*i)=BS (b.drop (2+3*i)):=wW
  have k4:List.take (b.length-(2+3*i)) (BS (b.drop (2+3*i)))=BS (b.drop (2+3*i)):=List.take_of_length_le (by rw[b8,List.length_drop];omega)
  have ht:=zq ok (b:=b.drop (2+3*i)) (t:=pe t b.length (2+3*i) b.length) (n:=2) (h:=H) (by omega) (by rw[List.length_drop];omega)
  rw[if_neg (by rw[List.length_drop];omega)] at ht
  simp+decide only[st,xv,mU,IK,Qy,adv,r0,r2,r3,r5,Ge,b8,w2,iW,k1,k2,k3,k4]
  refine aq ht ?_
  generalize hV:de ((b.drop (2+3*i)).take 2)=V
  have hV2:V<65536:=by
   have h1:=vu ((b.drop (2+3*i)).take 2)
   have h2:((b.drop (2+3*i)).take 2).length<=2:=List.length_take_le ..
   have h3:(256:Nat)^((b.drop (2+3*i)).take 2).length<=256^2:=Nat.pow_le_pow_right (by omega) h2
   omega
  have w3:IntKind.wrap .u16 (V:Int)=V:=by simp[IntKind.wrap,IntKind.signed,IntKind.bits];omega
  have w4:IntKind.wrap .i64 (((2+3*i:Nat):Int)+3)=((2+3*(i+1):Nat):Int):=by rw[bw]<;>omega
  have w5:IntKind.wrap .i64 (((2+3*(i+1):Nat):Int)-1)=((4+3*i:Nat):Int):=by rw[bw]<;>omega
  have w6:IntKind.wrap .i64 (((m+1:Nat):Int)-1)=(m:Int):=by rw[bw]<;>omega
  have h4:4+3*i<b.length:=by omega
  have hg4:(BS b)[4+3*i]? =some [.int .u8 (b.getD (4+3*i) 0).toNat]:=by
   rw[Ja,List.getElem?_eq_getElem h4,List.getD_eq_getElem?_getD,List.getElem?_eq_getElem h4];rfl
  have Wy:(0:Int)<=((4+3*i:Nat):Int):=by omega
  have hxn:h.next<H.next:=hn
  have lE:App ⟨h.get,h.next+1⟩ (H.clean 15) v (aw.R (jv b i)):=ha.to (by simp[aa.clean]) (fun k _ q2 q3=>by simp[aa.clean,q2,q3])
  obtain⟨v',h2,a1,⟨tt,rfl,at2⟩,a3,a4,a5⟩:=App.sG (h0:=⟨(H.clean 15).get,h.next+1⟩) lE ⟨by simp[aa.clean];omega,fun _ _=>rfl⟩ (bytes:=4) (sz:=2) (base:=H.next) (n:=15) (i:=12) (by show h.next+1<=_;omega) (fun j hj=> .inl (by simp only[aa.clean];rw[if_neg (by omega)])) [[.int .u16 V, .int .u8 (b.getD (4+3*i) 0).toNat]] aw.jn (by rw[aw.aN,Hw];simp only[List.length_singleton];omega) (by rw[aw.aN,Hw];simp only[List.length_singleton];omega)
  have a1':mr 4 2 (H.next+(1+1+1+1+1+1+1+1+1+1+1+1)) (H.clean 15) v (some [[.int .u16 V, .int .u8 (b.getD (4+3*i) 0).toNat]])=some (.vs (aw.R (jv b i)++[[.int .u16 V, .int .u8 (b.getD (4+3*i) 0).toNat]]) tt,h2):=a1
  have bk:cellsOf h2 h.next=some [.int .u8 D,v]:=av (by rw[a3.get _ (by simp)];simp[aa.clean,hxn,hc])
  simp+decide only[st,xv]
  refine bJ 15 rfl rfl ?_
  simp+decide only[st,xv,mU,adu,r0,r2,r3,g2,hxn,w3,w4,w5,hg4,Wy,a1',bk]
  refine⟨a5,fun j hj _=>by omega,?_⟩
  simp+decide only[st,xv,mU,aaO,aaN,r3,r5,w4,w6]
  have qV:aw.R (jv b i)++[[.int .u16 V, .int .u8 (b.getD (4+3*i) 0).toNat]]=aw.R (jv b (i+1)):=by rw[amZ,hV,<-aw.jK];rfl
  rw[qV]
  refine⟨m,by omega,i+1, .vs (aw.R (jv b (i+1))) tt,by omega,by omega,r0,r2,rfl,rfl,by simp only[aa.set,aa.clean] at a4 ⊢;omega,by simp[aa.set],?_,fun x hx=>?_⟩
  ·refine App.to (h:=h2) ⟨tt,rfl,at2⟩ (by simp[aa.set]) (fun k q1 q2 q3=>?_)
   have: ¬k=h.next:=by have:h.next+1<=k:=q1;omega
   simp[aa.set,this,q3]
  ·simp only[aa.set]
   rw[if_neg (by omega),a3.get x (show x<h.next+1 by omega)]
   simp only[aa.clean]
   rw[if_pos (by omega),hold x hx]
end
section
open Go
variable {P:Program}
def xO {α:Type} (q:α->Bool) (l:List α):Int:=if l.findIdx q<l.length then(l.findIdx q:Int) else -1
def fR:Nat->Nat->Option (List Nat)
 |0,id=>if id=1 then some [] else none
 |k+1,id=>if id=1 then some [] else if 1<id/\0<id%64 then(fR k (id/64)).map (id%64:: ·) else none
def gx (id:Nat):Option (List Nat):=fR 6 id
def dM (id:Nat):Bool:=(gx id).isSome
def tN (id:Nat):AV:=match gx id with
 |some l=> .az [.vs ((ay .i64).R l) .ao, .bool true]
 |none=> .az [.vs [] .ao, .bool false]
theorem Nn {k:Nat}:fR k 1=some []:=by cases k<;>simp[fR]
theorem wQ: ∀{k id:Nat} {l:List Nat},fR k id=some l->l.length<=k
 |0,id,l,h=>by
  simp only[fR] at h
  split at h
  ·cases h;simp
  ·cases h
 |k+1,id,l,h=>by
  simp only[fR] at h
  split at h
  ·cases h;simp
  ·split at h
   ·obtain⟨m,hm,rfl⟩:=Option.map_eq_some_iff.1 h
    have:=wQ hm
    simp;omega
   ·cases h
theorem GL (ok:ax P tb) {id:Nat} {h:aa} (aL:id<2^64):an P 130 [.int .u64 id] h (tN id) h:=by
 refine ok.eM (rf:=qJ) rfl (Nat.le_of_ble_eq_true rfl) (by unfold tN;split<;>simp only[AV.bB,AV.bX,(ay .i64).iB]<;>rfl) ?_
 simp+decide only[st,xv,qJ,adi]
 let J:Nat->Env->aa->Prop:=fun m ρ H=>Old h H/\ ∃i pre:_,i<2^64/\List.length pre+m=6/\gx id=(fR m i).map (pre++ ·)/\ρ 0= .int .u64 i/\App h H (ρ 4) ((ay .i64).R pre)
 refine lQ 0 rfl rfl J (fun l' ρ h hk=>hk) ?_ ?_
 ·simp+decide only[st,xv,qJ,adh,j7,List.foldr]
  exact⟨6,Old.refl h,id,[],aL,rfl,by simp[gx],rfl,App.nil h h⟩
 rintro m ρ H ⟨ho,i,pre,hi,LK,m5,r0,ha⟩
 obtain⟨tt,F4,ht⟩:=ha
 by_cases h1:i=1
 ·subst h1
  have dc:((1:Nat):Int)=1:=rfl
  simp+decide only[st,xv,qJ,zY,adg,r0,dc,F4,bE]
  rw[Nn] at m5
  refine⟨?_,ho.get⟩
  simp only[tN,m5,Option.map_some,List.append_nil,AV.strip,AV.bA,(ay .i64).ew]
 have dc: ¬(i:Int)=1:=by omega
 have w1:pD .and .u64 (i:Int) 63=some ((i%64:Nat):Int):=by
  rw[show(63:Int)=((63:Nat):Int) by rfl,apa hi (by omega)]
  rw[show(63:Nat)=2^6-1 by rfl,Nat.and_two_pow_sub_one_eq_mod]
 have w2:IntKind.wrap .i64 ((i%64:Nat):Int)=((i%64:Nat):Int):=se (by omega)
 have w3:(i:Int).fdiv (2^min (Int.toNat 6) IntKind.u64.bits)=((i/64:Nat):Int):=by
  rw[show(2:Int)^min (Int.toNat 6) IntKind.u64.bits=64 by rfl,Int.fdiv_eq_ediv_of_nonneg _ (by omega)];rfl
 have h6: ¬(6:Int)<0:=by omega
 by_cases hg:1<i/\0<i%64/\0<m
 ·obtain⟨g1,g2,g3⟩:=hg
  obtain⟨m,rfl⟩: ∃k,m=k+1:=⟨m-1,by omega⟩
  have BL:(1:Int)<(i:Int):=by omega
  have wC:(0:Int)<((i%64:Nat):Int):=by omega
  have W0:(pre.length:Int)<6:=by omega
  obtain⟨v',h2,a1,a2,a3,a4,a5,a6⟩:=App.app (h0:=h) (rows:=(ay .i64).R pre) ⟨tt,rfl,ht⟩ ho (bytes:=8) (sz:=1) (id:=H.next) ho.next [[.int .i64 (i%64:Nat)]] (ay .i64).jn (by rw[(ay .i64).aN];simp only[List.length_singleton];omega) (by rw[(ay .i64).aN];simp only[List.length_singleton];omega)
  simp+decide only[st,xv,qJ,zY,Dv,Du,adf,r0,dc,w1,w2,w3,h6,F4,(ay .i64).aN,BL,wC,W0,a1]
  refine⟨m,by omega,a3,i/64,pre++[i%64],by omega,by simp;omega,?_,rfl,by rw[<-(ay .i64).jK];exact a2⟩
  rw[m5,fR,if_neg h1,if_pos ⟨g1,g2⟩,Option.map_map]
  congr 1
  funext l
  simp
 ·have e:gx id=none:=by
   rw[m5]
   cases m with
   |zero=>simp[fR,h1]
   |succ m=>rw[fR,if_neg h1,if_neg (by omega)];rfl
  have eA:tN id= .az [.vs [] .ao, .bool false]:=by simp only[tN,e]
  rw[eA]
  by_cases g1:1<i
  ·have BL:(1:Int)<(i:Int):=by omega
   by_cases g2:0<i%64
   ·have wC:(0:Int)<((i%64:Nat):Int):=by omega
    have W0: ¬(pre.length:Int)<6:=by omega
    simp+decide only[st,xv,qJ,zY,Dv,Du,IE,r0,dc,w1,w2,F4,(ay .i64).aN,BL,wC,W0,bE]
    exact⟨rfl,ho.get⟩
   ·have wC: ¬(0:Int)<((i%64:Nat):Int):=by omega
    simp+decide only[st,xv,qJ,zY,Dv,Du,IE,r0,dc,w1,w2,F4,(ay .i64).aN,BL,wC,bE]
    exact⟨rfl,ho.get⟩
  ·have BL: ¬(1:Int)<(i:Int):=by omega
   simp+decide only[st,xv,qJ,zY,Dv,Du,IE,r0,dc,w1,w2,F4,(ay .i64).aN,BL,bE]
   exact⟨rfl,ho.get⟩
theorem GX (ok:ax P tb) {id:Nat} {h:aa} (aL:id<2^64):an P 82 [.int .u64 id] h (.bool (dM id)) h:=by
 refine ok.keeps (rf:=wG) rfl (Nat.le_of_ble_eq_true rfl) rfl ?_
 have hc:=GL ok (h:=h) aL
 unfold tN at hc
 unfold dM
 cases hn:gx id with
 |none=>
  rw[hn] at hc
  simp+decide only[st,xv,wG,D7,D6,D5]
  refine aq hc ?_
  simp+decide only[st,xv,wG,D7,D6,D5]
  rfl
 |some l=>
  rw[hn] at hc
  simp+decide only[st,xv,wG,D7,D6,D5]
  refine aq hc ?_
  simp+decide only[st,xv,wG,D7,D6,D5]
  rfl
def mf (id:Nat):Nat:=((gx id).getD []).length
def fu (id:Nat):Nat:=if mf id=0 then 0 else id/64
theorem ajx (ok:ax P tb) {id:Nat} {h:aa} (aL:id<2^64):an P 107 [.int .u64 id] h (.int .u64 (fu id)) h:=by
 refine ok.keeps (rf:=t4) rfl (Nat.le_of_ble_eq_true rfl) rfl ?_
 have hc:=GL ok (h:=h) aL
 unfold tN at hc
 unfold fu mf
 have w3:(id:Int).fdiv (2^min (Int.toNat 6) IntKind.u64.bits)=((id/64:Nat):Int):=by
  rw[show(2:Int)^min (Int.toNat 6) IntKind.u64.bits=64 by rfl,Int.fdiv_eq_ediv_of_nonneg _ (by omega)];rfl
 have h6: ¬(6:Int)<0:=by omega
 cases hn:gx id with
 |none=>
  rw[hn] at hc
  simp+decide only[st,xv,t4,Ac,Ab,Aa,z9,z8]
  refine aq hc ?_
  simp+decide only[st,xv,t4,Ac,Ab,Aa,z9,z8]
 |some l=>
  rw[hn] at hc
  simp+decide only[st,xv,t4,Ac,Ab,Aa,z9,z8]
  refine aq hc ?_
  by_cases hl:l.length=0
  ·have bj:(l.length:Int)=0:=by omega
   simp+decide only[st,xv,t4,Ac,Ab,Aa,z9,z8,(ay .i64).aN,bj,hl,Option.getD_some]
  ·have bj: ¬(l.length:Int)=0:=by omega
   simp+decide only[st,xv,t4,Ac,Ab,Aa,z9,z8,(ay .i64).aN,bj,hl,Option.getD_some,w3,h6]
theorem ajH (ok:ax P tb) {id:Nat} {h:aa} (aL:id<2^64):an P 142 [.int .u64 id] h (.int .i64 (mf id)) h:=by
 refine ok.keeps (rf:=vX) rfl (Nat.le_of_ble_eq_true rfl) rfl ?_
 have hc:=GL ok (h:=h) aL
 unfold tN at hc
 unfold mf
 cases hn:gx id with
 |none=>
  rw[hn] at hc
  simp+decide only[st,xv,vX,Df,De,Dd]
  refine aq hc ?_
  simp+decide only[st,xv,vX,Df,De,Dd]
  rfl
 |some l=>
  rw[hn] at hc
  simp+decide only[st,xv,vX,Df,De,Dd]
  refine aq hc ?_
  simp+decide only[st,xv,vX,Df,De,Dd,(ay .i64).aN,Option.getD_some]
def iu (box:Nat) (n:Int):Nat×Nat:=if dM box=false\/n<1\/63<n then(0,1) else if mf box=6 then(0,13) else(box*64+n.toNat,0)
theorem NC: ∀{k id:Nat} {l:List Nat},fR k id=some l->id<2^(1+6*l.length)
 |0,id,l,h=>by
  simp only[fR] at h
  split at h
  ·cases h;simp;omega
  ·cases h
 |k+1,id,l,h=>by
  simp only[fR] at h
  split at h
  ·cases h;simp;omega
  ·split at h
   ·obtain⟨m,hm,rfl⟩:=Option.map_eq_some_iff.1 h
    have:=NC hm
    rw[List.length_cons,show 1+6*(m.length+1)=(1+6*m.length)+6 by omega,Nat.pow_add]
    omega
   ·cases h
theorem amd (ok:ax P tb) {box:Nat} {n:Int} {h:aa} (hb:box<2^64):an P 100 [.int .u64 box, .int .i64 n] h (.az [.int .u64 (iu box n).1, .int .i64 (iu box n).2]) h:=by
 refine ok.keeps (rf:=qL) rfl (Nat.le_of_ble_eq_true rfl) rfl ?_
 simp+decide only[st,xv,qL,adX,adW]
 refine aq (GX ok hb) ?_
 unfold iu
 cases hm:dM box with
 |false=>
  simp+decide only[st,xv,qL,I7]
  simp
 |true=>
  by_cases h1:n<1
  ·simp+decide only[st,xv,qL,I7,h1]
   simp
  by_cases h2:63<n
  ·simp+decide only[st,xv,qL,I7,h1,h2]
  simp+decide only[st,xv,qL,adV,h1,h2]
  refine aq (ajH ok hb) ?_
  by_cases h3:mf box=6
  ·have nf:(mf box:Int)=6:=by omega
   simp+decide only[st,xv,qL,adU,nf,h3,h1,h2]
   simp
  ·have nf: ¬(mf box:Int)=6:=by omega
   obtain⟨l,hl⟩: ∃l,gx box=some l:=Option.isSome_iff_exists.1 hm
   have aC:=NC hl
   have hlen:=wQ hl
   have hd:mf box=l.length:=by simp[mf,hl]
   have jz:box<2^31:=Nat.lt_of_lt_of_le aC (Nat.pow_le_pow_right (by omega) (by omega))
   obtain⟨k,rfl⟩: ∃k:Nat,n=k:=⟨n.toNat,by omega⟩
   have w1:IntKind.wrap .u64 ((box:Int)*2^min (Int.toNat 6) IntKind.u64.bits)=((box*64:Nat):Int):=by
    rw[show(2:Int)^min (Int.toNat 6) IntKind.u64.bits=64 by rfl,show(box:Int)*64=((box*64:Nat):Int) by omega]
    exact fC (by omega)
   have w2:IntKind.wrap .u64 (k:Int)=k:=fC (by omega)
   have w3:pD .or .u64 ((box*64:Nat):Int) (k:Int)=some ((box*64+k:Nat):Int):=by
    rw[NY (by omega) (by omega)]
    have:=Nat.shiftLeft_add_eq_or_of_lt (i:=6) (b:=k) (by omega) box
    rw[Nat.shiftLeft_eq] at this
    rw[show(64:Nat)=2^6 by rfl,this]
   have h6: ¬(6:Int)<0:=by omega
   simp+decide only[st,xv,qL,adT,nf,h3,h1,h2,w1,w2,w3,h6]
def ij (id:Nat):List Nat:=match gx id with
 |some l=>(List.range (l.length+1)).map fun j=>id/64^(l.length-j)
 |none=>[]
theorem HA: ∀{k id:Nat} {l:List Nat},fR k id=some l->id/64^l.length=1/\ ∀i (hi:i<l.length),l[i]=id/64^i%64
 |0,id,l,h=>by
  simp only[fR] at h
  split at h
  ·cases h;rename_i h;subst h;exact⟨rfl,fun i hi=>by simp at hi⟩
  ·cases h
 |k+1,id,l,h=>by
  simp only[fR] at h
  split at h
  ·cases h;rename_i h;subst h;exact⟨rfl,fun i hi=>by simp at hi⟩
  ·split at h
   ·obtain⟨m,hm,rfl⟩:=Option.map_eq_some_iff.1 h
    obtain⟨e1,e2⟩:=HA hm
    refine⟨by rw[List.length_cons,Nat.pow_succ,Nat.mul_comm,<-Nat.div_div_eq_div_mul,e1],fun i hi=>?_⟩
    cases i with
    |zero=>simp
    |succ i=>rw[List.getElem_cons_succ,e2 i (by simpa using hi),Nat.pow_succ,Nat.mul_comm,<-Nat.div_div_eq_div_mul]
   ·cases h
theorem XU (ok:ax P tb) {id:Nat} {h:aa} (aL:id<2^64):an P 146 [.int .u64 id] h (.vs ((ay .u64).R (ij id)) .ao) h:=by
 refine ok.eM (rf:=pG) rfl (Nat.le_of_ble_eq_true rfl) (ay .u64).lV ?_
 have hc:=GL ok (h:=h) aL
 unfold tN at hc
 unfold ij
 cases hn:gx id with
 |none=>
  rw[hn] at hc
  simp+decide only[st,xv,pG,P2,P1]
  refine aq hc ?_
  simp+decide only[st,xv,pG,P0,acM,bE]
  rfl
 |some l=>
  rw[hn] at hc
  obtain⟨cV,kB⟩:=HA hn
  have hlen:=wQ hn
  simp+decide only[st,xv,pG,P2,P1]
  refine aq hc ?_
  have w1:IntKind.wrap .i64 ((l.length:Int)-1)=(l.length:Int)-1:=bw (by omega) (by omega)
  simp+decide only[st,xv,pG,P0,acL,acK,(ay .i64).aN,w1]
  let I:Nat->Env->aa->Prop:=fun m ρ H=>Old h H/\m<=l.length/\ρ 3= .vs ((ay .i64).R l) .ao/\ρ 6= .int .i64 ((m:Int)-1)/\App h H (ρ 5) ((ay .u64).R ((List.range (l.length-m+1)).map fun j=>id/64^(l.length-j)))
  have h0:(ay .u64).R ((List.range (l.length-l.length+1)).map fun j=>id/64^(l.length-j))=[[.int .u64 1]]:=by rw[Nat.sub_self];simp[cV,ay,ba.R]
  refine dn I ?_ l.length ⟨Old.refl h,Nat.le_refl _,rfl,rfl,⟨.full,by rw[h0];rfl, .inl rfl⟩⟩
  clear h0
  rintro m ρ H ⟨ho,hm,r3,r6,ha⟩
  obtain⟨tt,hv5,ht⟩:=ha
  have iJ:((List.range (l.length-m+1)).map fun j=>id/64^(l.length-j)).length=l.length-m+1:=by simp
  cases m with
  |zero=>
   have h0: ¬(0:Int)<=((0:Nat):Int)-1:=by omega
   simp+decide only[st,xv,pG,PZ,acH,r6,h0,hv5,bE]
   exact⟨(ay .u64).lR,ho.get⟩
  |succ k=>
   have h0:(0:Int)<=((k+1:Nat):Int)-1:=by omega
   have hk:k<l.length:=by omega
   have sU:((k+1:Nat):Int)-1=(k:Int):=by omega
   have m8:(0:Int)<=(k:Int):=by omega
   have w2:IntKind.wrap .i64 (((l.length-(k+1)+1:Nat):Int)-1)=((l.length-(k+1):Nat):Int):=by rw[bw]<;>omega
   have hp0:(0:Int)<=((l.length-(k+1):Nat):Int):=by omega
   have cE:((ay .u64).R ((List.range (l.length-(k+1)+1)).map fun j=>id/64^(l.length-j)))[l.length-(k+1)]? =some [.int .u64 (id/64^(k+1):Nat)]:=by
    rw[(ay .u64).aiB,List.getElem?_map,List.getElem?_range (by omega)]
    simp only[Option.map_some,ay]
    rw[show l.length-(l.length-(k+1))=k+1 by omega]
   have sW:((ay .i64).R l)[k]? =some [.int .i64 l[k]]:=(ay .i64).eW hk
   have uv:=kB k hk
   generalize hq:id/64^k=q at uv
   have hq1:id/64^(k+1)=q/64:=by rw[Nat.pow_succ,<-Nat.div_div_eq_div_mul,hq]
   have wo:q<2^64:=by rw[<-hq];exact Nat.lt_of_le_of_lt (Nat.div_le_self ..) aL
   rw[hq1] at cE
   rw[uv] at sW
   have w3:IntKind.wrap .u64 (((q/64:Nat):Int)*2^min (Int.toNat 6) IntKind.u64.bits)=((q/64*64:Nat):Int):=by
    rw[show(2:Int)^min (Int.toNat 6) IntKind.u64.bits=64 by rfl,show((q/64:Nat):Int)*64=((q/64*64:Nat):Int) by omega]
    exact fC (by omega)
   have w4:IntKind.wrap .u64 ((q%64:Nat):Int)=((q%64:Nat):Int):=fC (by omega)
   have w5:pD .or .u64 ((q/64*64:Nat):Int) ((q%64:Nat):Int)=some (q:Int):=by
    rw[NY (by omega) (by omega)]
    have:=Nat.shiftLeft_add_eq_or_of_lt (i:=6) (b:=q%64) (by omega) (q/64)
    rw[Nat.shiftLeft_eq] at this
    rw[<-show(2:Nat)^6=64 by rfl] at*
    rw[<-this]
    congr 2
    omega
   have h6: ¬(6:Int)<0:=by omega
   have lE:App h (H.clean 17) (.vs ((ay .u64).R ((List.range (l.length-(k+1)+1)).map fun j=>id/64^(l.length-j))) tt) ((ay .u64).R ((List.range (l.length-(k+1)+1)).map fun j=>id/64^(l.length-j))):=App.to (h:=H) ⟨tt,rfl,ht⟩ (by simp[aa.clean]) (fun k _ q2 q3=>by simp[aa.clean,q2,q3])
   obtain⟨v',h2,a1,a2,a3,a4,a5⟩:=lE.sG ho.clean (bytes:=8) (sz:=1) (base:=H.next) (n:=17) (i:=15) ho.next (fun j hj=> .inl (by simp only[aa.clean];rw[if_neg (by omega)])) [[.int .u64 q]] (ay .u64).jn (by rw[(ay .u64).aN,iJ];simp only[List.length_singleton];omega) (by rw[(ay .u64).aN,iJ];simp only[List.length_singleton];omega)
   simp+decide only[st,xv,pG,PZ,r6,h0]
   refine bJ 17 rfl rfl ?_
   simp+decide only[st,xv,pG,acJ,r3,r6,hv5,sU,m8,(ay .u64).aN,iJ,w2,hp0,cE,sW,w3,w4,w5,h6]
   refine⟨v',h2,a1,a5,?_⟩
   have w6:IntKind.wrap .i64 ((k:Int)-1)=(k:Int)-1:=bw (by omega) (by omega)
   simp+decide only[st,xv,pG,acI,r6,sU,w6]
   refine⟨k,by omega,a3,by omega,r3,rfl,?_⟩
   have hr:(ay .u64).R ((List.range (l.length-k+1)).map fun j=>id/64^(l.length-j))=(ay .u64).R ((List.range (l.length-(k+1)+1)).map fun j=>id/64^(l.length-j))++[[.int .u64 q]]:=by
    rw[show l.length-k+1=(l.length-(k+1)+1)+1 by omega,List.range_succ,List.map_append,<-(ay .u64).jK]
    congr 1
    simp only[List.map_cons,List.map_nil,(ay .u64).avF]
    rw[show l.length-(l.length-(k+1)+1)=k by omega,hq]
    rfl
   rw[hr]
   exact a2
theorem ajQ (ok:ax P tb) {l:List Nat} {t:aH} {c:Nat} {h:aa} (hl:l.length<2^30):an P 167 [.vs ((ay .u64).R l) t, .int .u64 c] h (.int .i64 (xO (fun x=>x==c) l)) h:=by
 refine ok.calls (rf:=vV) rfl (Nat.le_of_ble_eq_true rfl) ?_
 simp+decide only[st,xv,vV,acd,acb,(ay .u64).aN]
 let I:Nat->Env->aa->Prop:=fun n ρ h'=>h'=h/\ ∃i:Nat,l.length=i+n/\(∀j,j<i-> ∀hj:j<l.length,¬l[j]=c)/\ρ 0= .vs ((ay .u64).R l) t/\ρ 1= .int .u64 c/\ρ 7= .int .i64 l.length/\ρ 8= .int .i64 i
 refine dn I ?_ l.length ⟨rfl,0,by omega,by omega,rfl,rfl,rfl,rfl⟩
 rintro n ρ h' ⟨rfl,i,aE,hf,r0,r1,r7,r8⟩
 by_cases hi:i<l.length
 ·have aB:(i:Int)<(l.length:Int):=by omega
  have bR:(0:Int)<=i:=by omega
  have hw:=cT (show i<2^61 by omega)
  have cE:((ay .u64).R l)[i]? =some [.int .u64 l[i]]:=(ay .u64).eW hi
  by_cases hq:l[i]=c
  ·have gP:(c:Int)=(l[i]:Int):=by omega
   have e:xO (fun x=>x==c) l=i:=by
    have:l.findIdx (fun x=>x==c)=i:=by
     rw[List.findIdx_eq hi]
     exact⟨by simpa using hq,fun j hj=>by simpa using hf j hj (by omega)⟩
    simp[xO,this,hi]
   simp+decide only[st,xv,vV,Il,Pl,Pk,aca,r0,r1,r7,r8,aB,bR,cE,gP,e]
  ·have gP: ¬c=l[i]:=fun e=>hq e.symm
   simp+decide only[st,xv,vV,Il,Pl,Pk,ab9,r0,r1,r7,r8,aB,bR,cE,gP,hw]
   refine⟨n-1,by omega,rfl,i+1,by omega,fun j hj dO=>?_,r0,r1,r7,rfl⟩
   by_cases d7:j=i
   ·subst d7;exact hq
   ·exact hf j (by omega) dO
 ·have aB: ¬(i:Int)<(l.length:Int):=by omega
  have e:xO (fun x=>x==c) l= -1:=by
   have:l.findIdx (fun x=>x==c)=l.length:=by
    rw[List.findIdx_eq_length]
    intro x hx
    obtain⟨j,hj,rfl⟩:=List.getElem_of_mem hx
    simpa using hf j (by omega) hj
   simp[xO,this]
  simp+decide only[st,xv,vV,Il,ab8,r7,r8,aB,e]
  rfl
def jW (id box:Nat):Bool:=(ij id).contains box
theorem amb {id:Nat}:(ij id).length<=7:=by
 unfold ij
 cases h:gx id with
 |none=>simp
 |some l=>have:=wQ h;simp;omega
theorem ajw (ok:ax P tb) {id box:Nat} {h:aa} (aL:id<2^64):an P 108 [.int .u64 id, .int .u64 box] h (.bool (jW id box)) h:=by
 have hl:=amb (id:=id)
 refine ok.calls (rf:=yw) rfl (Nat.le_of_ble_eq_true rfl) ?_
 simp+decide only[st,xv,yw,IT,IS]
 refine aq (XU ok aL) ?_
 simp+decide only[st,xv,yw,IT,IS]
 have hc:an P 147 [.vs ((ay .u64).R (ij id)) .ao, .int .u64 box] h (.bool (jW id box)) h:=by
  refine ok.calls (rf:=FD) rfl (Nat.le_of_ble_eq_true rfl) ?_
  simp+decide only[st,xv,FD,acG,acF]
  refine aq (ajQ ok (by omega)) ?_
  have e:decide ((0:Int)<=xO (fun x=>x==box) (ij id))=jW id box:=by
   unfold xO jW
   by_cases aC:(ij id).findIdx (fun x=>x==box)<(ij id).length
   ·have:=List.findIdx_lt_length.1 aC
    obtain⟨x,hx,hb⟩:=this
    have ug:x=box:=by simpa using hb
    subst ug
    rw[if_pos aC]
    simp[hx]
   ·rw[if_neg aC]
    have:box∉ij id:=fun hm=>aC (List.findIdx_lt_length_of_exists ⟨box,hm,by simp⟩)
    simp[this]
  simp+decide only[st,xv,e]
 refine aq hc ?_
 simp+decide only[st,xv,yw,IT,IS]
end
section
open Go
variable {P:Program}
structure St where
 s:List Nat
 i:List Nat
 o:List Nat
 deriving DecidableEq
def oz:St:=⟨[],[],[]⟩
def St.c (s:St) (t:Nat->aH):List AV:=[.vs ((ay .u16).R s.s) (t 1), .vs ((ay .u16).R s.i) (t 2), .vs ((ay .u16).R s.o) (t 3)]
structure Ob where
 id:Nat
 kind:Int
 ak:Lb
 bf:Int
 used:Int
 next:Int
 data:List UInt8
 bu:List Nat
 ring:List (List UInt8)
 st:St
 deriving DecidableEq
def bc:Ob:=⟨0,0,⟨0,[]⟩,0,0,0,[],[],[],oz⟩
def Ob.c (o:Ob) (t:Nat->aH):List AV:=[.int .u64 o.id, .int .i64 o.kind, .int .u8 o.ak.d, .vs (aw.R o.ak.ps) (t 0), .vs ((ay .u16).R o.st.s) (t 1), .vs ((ay .u16).R o.st.i) (t 2), .vs ((ay .u16).R o.st.o) (t 3), .int .i64 o.bf, .int .i64 o.used, .int .i64 o.next, .vs (BS o.data) (t 4), .vs ((ay .u16).R o.bu) (t 5), .vs (a9.R o.ring) (t 6)]
def aK:Nat->aH:=fun _=> .ao
theorem zz {o:Ob} {t:Nat->aH}:AV.bA (o.c t)=o.c aK:=by
 simp only[Ob.c,AV.bA,AV.strip,aw.ew,jV,(ay .u16).ew,a9.ew,aK]<;>rfl
theorem u9 {o:Ob} {p:Nat->Bool}:AV.bX p (o.c aK)=true:=by
 simp only[Ob.c,AV.bX,AV.bB,aw.iB,u3,(ay .u16).iB,a9.iB,aK]<;>rfl
theorem NZ {o:Ob} {t:Nat->aH}:(AV.agg (o.c t)).strip= .agg (o.c aK):=by simp only[AV.strip,zz]
def cost (o:Ob):Int:=if o.kind=1 then 1+o.bf else if o.kind=2 then 1+o.data.length else if o.kind=3 then 2 else if o.kind=4 then 8 else 0
theorem YR (ok:ax P tb) {o:Ob} {t:Nat->aH} {h:aa} (hq: -(2^61)<=o.bf/\o.bf<2^61) (hd:o.data.length<2^30):an P 103 [.agg (o.c t)] h (.int .i64 (cost o)) h:=by
 refine ok.keeps (rf:=t5) rfl (Nat.le_of_ble_eq_true rfl) rfl ?_
 unfold cost
 have w1:IntKind.wrap .i64 (1+o.bf)=1+o.bf:=bw (by omega) (by omega)
 have w2:IntKind.wrap .i64 (1+(o.data.length:Int))=1+(o.data.length:Int):=bw (by omega) (by omega)
 by_cases h1:o.kind=1
 ·simp+decide only[st,xv,t5,An,Al,Ak,Aj,Ai,Ah,Ag,Af,Ae,Ad,zH,Ob.c,h1,w1]
  first|(intro b hb;first|(intros;omega)|(repeat(first|rw[if_neg (by omega)]|rw[if_pos (by omega)]));done)|(refine⟨rfl,?_⟩;intro b hb;first|(intros;omega)|(repeat(first|rw[if_neg (by omega)]|rw[if_pos (by omega)])))
 by_cases h2:o.kind=2
 ·simp+decide only[st,xv,t5,An,Al,Ak,Aj,Ai,Ah,Ag,Af,Ae,Ad,zH,Ob.c,h2,b8,w2]
  first|(intro b hb;first|(intros;omega)|(repeat(first|rw[if_neg (by omega)]|rw[if_pos (by omega)]));done)|(refine⟨rfl,?_⟩;intro b hb;first|(intros;omega)|(repeat(first|rw[if_neg (by omega)]|rw[if_pos (by omega)])))
 by_cases h3:o.kind=3
 ·simp+decide only[st,xv,t5,An,Al,Ak,Aj,Ai,Ah,Ag,Af,Ae,Ad,zH,Ob.c,h3]
  first|(intro b hb;first|(intros;omega)|(repeat(first|rw[if_neg (by omega)]|rw[if_pos (by omega)]));done)|(refine⟨rfl,?_⟩;intro b hb;first|(intros;omega)|(repeat(first|rw[if_neg (by omega)]|rw[if_pos (by omega)])))
 by_cases h4:o.kind=4
 ·simp+decide only[st,xv,t5,An,Al,Ak,Aj,Ai,Ah,Ag,Af,Ae,Ad,zH,Ob.c,h4]
  first|(intro b hb;first|(intros;omega)|(repeat(first|rw[if_neg (by omega)]|rw[if_pos (by omega)]));done)|(refine⟨rfl,?_⟩;intro b hb;first|(intros;omega)|(repeat(first|rw[if_neg (by omega)]|rw[if_pos (by omega)])))
 simp+decide only[st,xv,t5,An,Al,Ak,Aj,Ai,Ah,Ag,Af,Ae,Ad,zH,Ob.c,h1,h2,h3,h4]
 first|(intro b hb;first|(intros;omega)|(repeat(first|rw[if_neg (by omega)]|rw[if_pos (by omega)]));done)|(refine⟨rfl,?_⟩;intro b hb;first|(intros;omega)|(repeat(first|rw[if_neg (by omega)]|rw[if_pos (by omega)])))
def mR (o:Ob) (c:Int):Ob×Nat:=if c<0 then(bc,1) else if o.bf-o.used<c then(bc,10) else({o with used:=o.used+c},0)
theorem amP (ok:ax P tb) {o:Ob} {t:Nat->aH} {c:Int} {h:aa} (hq: -(2^60)<=o.bf/\o.bf<2^60) (hu: -(2^60)<=o.used/\o.used<2^60) (hc:c<2^60):an P 102 [.agg (o.c t), .int .i64 c] h (.az [.agg ((mR o c).1.c aK), .int .i64 (mR o c).2]) h:=by
 refine ok.eM (rf:=yx) rfl (Nat.le_of_ble_eq_true rfl) (by simp only[AV.bB,AV.bX,u9];rfl) ?_
 unfold mR
 have w1:IntKind.wrap .i64 (o.bf-o.used)=o.bf-o.used:=bw (by omega) (by omega)
 by_cases h1:c<0
 ·simp+decide only[st,xv,yx,I5,I4,I3,IZ,IY,IX,IW,Ob.c,h1,bE]
  refine⟨rfl,?_⟩
  first|(intro b hb;first|(intros;omega)|(repeat(first|rw[if_neg (by omega)]|rw[if_pos (by omega)]));done)|(refine⟨rfl,?_⟩;intro b hb;first|(intros;omega)|(repeat(first|rw[if_neg (by omega)]|rw[if_pos (by omega)])))
 by_cases h2:o.bf-o.used<c
 ·simp+decide only[st,xv,yx,I5,I4,I3,IZ,IY,IX,IW,Ob.c,h1,h2,w1,bE]
  refine⟨rfl,?_⟩
  first|(intro b hb;first|(intros;omega)|(repeat(first|rw[if_neg (by omega)]|rw[if_pos (by omega)]));done)|(refine⟨rfl,?_⟩;intro b hb;first|(intros;omega)|(repeat(first|rw[if_neg (by omega)]|rw[if_pos (by omega)])))
 have w2:IntKind.wrap .i64 (o.used+c)=o.used+c:=bw (by omega) (by omega)
 simp+decide only[st,xv,yx,I5,I4,I3,IZ,IY,IX,IW,Ob.c,h1,h2,w1,w2,bE]
 refine⟨by simp only[AV.strip,AV.bA,aw.ew,jV,(ay .u16).ew,a9.ew,aK]<;>rfl,?_⟩
 first|(intro b hb;first|(intros;omega)|(repeat(first|rw[if_neg (by omega)]|rw[if_pos (by omega)]));done)|(refine⟨rfl,?_⟩;intro b hb;first|(intros;omega)|(repeat(first|rw[if_neg (by omega)]|rw[if_pos (by omega)])))
def qA (o:Ob) (c:Int):Ob:=if 0<c then{o with used:=max (o.used-c) 0} else o
theorem amL (ok:ax P tb) {o:Ob} {t:Nat->aH} {c:Int} {h:aa} (hu: -(2^60)<=o.used/\o.used<2^60) (hc:c<2^60):an P 110 [.agg (o.c t), .int .i64 c] h (.agg ((qA o c).c aK)) h:=by
 refine ok.eM (rf:=Bf) rfl (Nat.le_of_ble_eq_true rfl) (by simp only[AV.bB,u9]) ?_
 unfold qA
 by_cases h1:0<c
 ·have w1:IntKind.wrap .i64 (o.used-c)=o.used-c:=bw (by omega) (by omega)
  simp+decide only[st,xv,Bf,QP,QO,QN,QM,Ob.c,h1,w1,bE]
  refine⟨by simp only[AV.strip,AV.bA,aw.ew,jV,(ay .u16).ew,a9.ew,aK]<;>rfl,?_⟩
  first|(intro b hb;first|(intros;omega)|(repeat(first|rw[if_neg (by omega)]|rw[if_pos (by omega)]));done)|(refine⟨rfl,?_⟩;intro b hb;first|(intros;omega)|(repeat(first|rw[if_neg (by omega)]|rw[if_pos (by omega)])))
 ·simp+decide only[st,xv,Bf,QP,QO,QN,QM,Ob.c,h1,bE]
  refine⟨by simp only[AV.strip,AV.bA,aw.ew,jV,(ay .u16).ew,a9.ew,aK]<;>rfl,?_⟩
  first|(intro b hb;first|(intros;omega)|(repeat(first|rw[if_neg (by omega)]|rw[if_pos (by omega)]));done)|(refine⟨rfl,?_⟩;intro b hb;first|(intros;omega)|(repeat(first|rw[if_neg (by omega)]|rw[if_pos (by omega)])))
end
section
open Go
variable {P:Program}
def zI (l:List Nat):Bool:=(List.range (l.length-1)).all fun i=>decide (l.getD i 0<l.getD (i+1) 0)
theorem aj5 (ok:ax P tb) {l:List Nat} {t:aH} {h:aa} (hl:l.length<2^30):an P 132 [.vs ((ay .u16).R l) t] h (.bool (zI l)) h:=by
 refine ok.keeps (rf:=sE) rfl (Nat.le_of_ble_eq_true rfl) rfl ?_
 simp+decide only[st,xv,sE,ade]
 let J:Nat->Env->aa->Prop:=fun m ρ H=>Old h H/\ ∃i:Nat,1<=i/\l.length+1-i=m/\(∀j,j+1<i->l.getD j 0<l.getD (j+1) 0)/\ρ 0= .vs ((ay .u16).R l) t/\ρ 3= .int .i64 i
 refine lQ 0 rfl rfl J (fun l' ρ h hk=>hk) ?_ ?_
 ·simp+decide only[st,xv,sE,adb,j7,List.foldr]
  exact⟨l.length,Old.refl h,1,by omega,by omega,fun j hj=>by omega,rfl,rfl⟩
 rintro m ρ H ⟨ho,i,ux,pT,hf,r0,r3⟩
 by_cases hi:i<l.length
 ·have aB: ¬(l.length:Int)<=(i:Int):=by omega
  have w1:IntKind.wrap .i64 ((i:Int)-1)=((i-1:Nat):Int):=by rw[bw]<;>omega
  have hw:=cT (show i<2^61 by omega)
  have p0:(0:Int)<=((i-1:Nat):Int):=by omega
  have p1:(0:Int)<=(i:Int):=by omega
  have g0:((ay .u16).R l)[i-1]? =some [.int .u16 l[i-1]]:=(ay .u16).eW (by omega)
  have g1:((ay .u16).R l)[i]? =some [.int .u16 l[i]]:=(ay .u16).eW hi
  have d0:l.getD (i-1) 0=l[i-1]:=by rw[List.getD_eq_getElem?_getD,List.getElem?_eq_getElem (show i-1<l.length by omega)];rfl
  have d1:l.getD i 0=l[i]:=by rw[List.getD_eq_getElem?_getD,List.getElem?_eq_getElem hi];rfl
  simp+decide only[st,xv,sE,Ql,r0,r3,(ay .u16).aN,aB]
  refine bJ 10 rfl rfl ?_
  by_cases aC:l[i]<=l[i-1]
  ·have e:zI l=false:=by
    unfold zI
    rw[List.all_eq_false]
    refine⟨i-1,List.mem_range.2 (by omega),?_⟩
    rw[show i-1+1=i by omega,d0,d1]
    simp;omega
   simp+decide only[st,xv,sE,Qk,ac9,r0,r3,w1,p0,p1,g0,g1,aC,e]
   intro b hb
   have:=ho.next
   rw[if_pos (by omega),ho.get b hb]
  ·have kc: ¬(l[i]:Int)<=(l[i-1]:Int):=by omega
   simp+decide only[st,xv,sE,Qk,ac8,r0,r3,w1,p0,p1,g0,g1,aC,hw]
   refine⟨m-1,by omega,ho.clean,i+1,by omega,by omega,fun j hj=>?_,r0,rfl⟩
   by_cases d7:j+1=i
   ·rw[show j=i-1 by omega,show i-1+1=i by omega,d0,d1];omega
   ·exact hf j (by omega)
 ·have aB:(l.length:Int)<=(i:Int):=by omega
  have e:zI l=true:=by
   unfold zI
   rw[List.all_eq_true]
   intro j hj
   have:=List.mem_range.1 hj
   simpa using hf j (by omega)
  simp+decide only[st,xv,sE,Ql,ada,r0,r3,(ay .u16).aN,aB,e]
  exact ho.get
def jY (l:List Nat):Bool:=decide (l.length<=16)&&zI l
theorem YP (ok:ax P tb) {l:List Nat} {t:aH} {h:aa} (hl:l.length<2^30):an P 84 [.vs ((ay .u16).R l) t] h (.bool (jY l)) h:=by
 refine ok.calls (rf:=yY) rfl (Nat.le_of_ble_eq_true rfl) ?_
 unfold jY
 by_cases h1:l.length<=16
 ·have dc:(l.length:Int)<=16:=by omega
  simp+decide only[st,xv,yY,JO,JN,(ay .u16).aN,dc]
  refine aq (aj5 ok hl) ?_
  simp+decide only[st,xv,yY,JO,JN,h1]
  all_goals simp
 ·have dc: ¬(l.length:Int)<=16:=by omega
  simp+decide only[st,xv,yY,JO,JN,(ay .u16).aN,dc,h1]
  all_goals simp
def jX (l:List Nat):List UInt8:=be l.length 1++l.flatMap fun c=>be c 2
theorem alB (ok:ax P tb) {b:List UInt8} {l:List Nat} {t t':aH} {h:aa} (hc: ∀c∈l,c<65536) (hl:l.length<2^20) (hb:b.length<2^20):an P 54 [.vs (BS b) t, .vs ((ay .u16).R l) t'] h (.vs (BS (b++jX l)) .ao) h:=by
 refine ok.eM (rf:=uH) rfl (Nat.le_of_ble_eq_true rfl) jM.lV ?_
 have w2:IntKind.wrap .u64 (l.length:Int)=l.length:=fC (by omega)
 simp+decide only[st,xv,uH,agu,Tj,(ay .u16).aN,w2]
 refine aq (pg ok (v:=l.length) (n:=1) (by omega) (by omega) (by omega)) ?_
 simp+decide only[st,xv,uH,Tj,agt]
 let I:Nat->Env->aa->Prop:=fun n ρ H=>H=h/\ ∃i:Nat,l.length=i+n/\ρ 13= .vs ((ay .u16).R l) t'/\ρ 14= .int .i64 l.length/\ρ 15= .int .i64 i/\ρ 5= .vs (BS (b++be l.length 1++(l.take i).flatMap fun c=>be c 2)) .ao
 refine dn I ?_ l.length ⟨rfl,0,by omega,rfl,by simp+decide only[st,xv,(ay .u16).aN],rfl,by simp only[List.take_zero,List.flatMap_nil,List.append_nil];rfl⟩
 rintro n ρ H ⟨rfl,i,aE,eJ,jf,gA,r5⟩
 by_cases hi:i<l.length
 ·have aB:(i:Int)<(l.length:Int):=by omega
  have bR:(0:Int)<=i:=by omega
  have hw:=cT (show i<2^61 by omega)
  have cE:((ay .u16).R l)[i]? =some [.int .u16 l[i]]:=(ay .u16).eW hi
  have yO:=hc _ (List.getElem_mem hi)
  have w3:IntKind.wrap .u64 (l[i]:Int)=l[i]:=fC (by omega)
  have bH:((l.take i).flatMap fun c=>be c 2).length=2*i:=by
   have: ∀(m:List Nat),(m.flatMap fun c=>be c 2).length=2*m.length:=by
    intro m
    induction m with
    |nil=>rfl
    |cons c m ih=>simp only[List.flatMap_cons,List.length_append,ih,bW,List.length_cons];omega
   rw[this,List.length_take];omega
  simp+decide only[st,xv,uH,Ti,ags,agr,eJ,jf,gA,r5,aB,bR,cE,w3]
  refine aq (pg ok (v:=l[i]) (n:=2) (by omega) (by omega) (by simp only[List.length_append,bW,bH];omega)) ?_
  simp+decide only[st,xv,uH,agq,gA,hw]
  refine⟨n-1,by omega,rfl,i+1,by omega,eJ,jf,rfl,?_⟩
  show AV.vs (BS _) .ao=_
  rw[<-List.take_append_getElem hi]
  simp only[List.flatMap_append,List.flatMap_cons,List.flatMap_nil,List.append_nil,List.append_assoc]
 ·have aB: ¬(i:Int)<(l.length:Int):=by omega
  simp+decide only[st,xv,uH,Ti,agp,jf,gA,r5,aB,bE]
  rw[List.take_of_length_le (by omega)]
  simp only[jX,List.append_assoc]
  first|exact jM.lR|exact⟨jM.lR,fun x hx=>rfl⟩
end
section
open Go
variable {P:Program}
theorem XE (ok:ax P tb) {l:List (List UInt8)} {t:aH} {h:aa} (hl:l.length<2^20) (hb: ∀b∈l,b.length<2^20): ∃v h',an P 150 [.vs (a9.R l) t] h v h'/\App h h' v (a9.R l)/\Old h h':=by
 refine ok.py (rf:=vW) rfl (Nat.le_of_ble_eq_true rfl) ?_
 simp+decide only[st,xv,vW,acB,acA,acz]
 let I:Nat->Env->aa->Prop:=fun n ρ H=>Old h H/\ ∃i:Nat,l.length=i+n/\ρ 6= .vs (a9.R l) t/\ρ 7= .int .i64 l.length/\ρ 8= .int .i64 i/\App h H (ρ 3) (a9.R (l.take i))
 refine dn I ?_ l.length ⟨Old.refl h,0,by omega,rfl,by simp+decide only[st,xv,a9.aN],rfl,App.nil h h⟩
 rintro n ρ H ⟨ho,i,aE,r6,r7,r8,ha⟩
 by_cases hi:i<l.length
 ·have aB:(i:Int)<(l.length:Int):=by omega
  have bR:(0:Int)<=i:=by omega
  have hw:=cT (show i<2^61 by omega)
  have cE:(a9.R l)[i]? =some [.vs (BS l[i]) .ao]:=a9.eW hi
  have cj:=hb _ (List.getElem_mem hi)
  obtain⟨v',h2,a1,a2,a3,a4,a5,a6⟩:=ha.app ho (bytes:=24) (sz:=1) (id:=H.next) ho.next [[.vs (BS l[i]) .ao]] a9.jn (by rw[a9.aN,List.length_take];simp only[List.length_singleton];omega) (by rw[a9.aN,List.length_take];simp only[List.length_singleton];omega)
  simp+decide only[st,xv,vW,PI,acy,PH,r6,r7,r8,aB,bR,cE]
  refine aq (zP ok (z:=[.int .u8 0]) (f:=57) rfl (by omega)) ?_
  simp+decide only[st,xv,vW,PH,acx,r8,a1,hw]
  refine⟨n-1,by omega,a3,i+1,by omega,r6,r7,rfl,?_⟩
  rw[<-List.take_append_getElem hi,<-a9.jK]
  exact a2
 ·have aB: ¬(i:Int)<(l.length:Int):=by omega
  simp+decide only[st,xv,vW,PI,acw,r7,r8,aB,lP]
  rw[List.take_of_length_le (by omega)] at ha
  exact⟨ha,ho⟩
theorem akz (ok:ax P tb) {l:List (List UInt8)} {t:aH} {h:aa} (hl:l.length<2^20) (hb: ∀b∈l,b.length<2^20):an P 150 [.vs (a9.R l) t] h (.vs (a9.R l) .ao) h:=by
 obtain⟨v,h',h1,⟨tt,rfl,_⟩,ho⟩:=XE ok (t:=t) (h:=h) hl hb
 have:=h1.strip
 rw[a9.lR] at this
 exact this.restore (fun x hx=>ho.get x hx) a9.lV
def sf (l:List (List UInt8)) (b:List UInt8):List (List UInt8)×Nat:=if 16<b.length then([],12) else if 4<=l.length then([],9) else(l++[b],0)
theorem alP (ok:ax P tb) {l:List (List UInt8)} {b:List UInt8} {t t':aH} {h:aa} (hl:l.length<2^20) (hb: ∀b∈l,b.length<2^20) (jz:b.length<2^30):an P 111 [.vs (a9.R l) t, .vs (BS b) t'] h (.az [.vs (a9.R (sf l b).1) .ao, .int .i64 (sf l b).2]) h:=by
 refine ok.eM (rf:=tZ) rfl (Nat.le_of_ble_eq_true rfl) (by simp only[AV.bB,AV.bX,a9.iB];rfl) ?_
 unfold sf
 by_cases h1:16<b.length
 ·have dc:(16:Int)<(b.length:Int):=by omega
  simp+decide only[st,xv,tZ,IQ,IP,QL,IN,QK,z7,b8,dc,h1,bE]
  first|rfl|exact⟨rfl,fun _ _=>rfl⟩
 have dc: ¬(16:Int)<(b.length:Int):=by omega
 by_cases h2:4<=l.length
 ·have fH:(4:Int)<=(l.length:Int):=by omega
  simp+decide only[st,xv,tZ,IQ,IP,QL,IN,QK,z7,b8,a9.aN,dc,h1,fH,h2,bE]
  first|rfl|exact⟨rfl,fun _ _=>rfl⟩
 have fH: ¬(4:Int)<=(l.length:Int):=by omega
 obtain⟨v,h',k1,k2,k3⟩:=XE ok (t:=t) (h:=h) hl hb
 obtain⟨v',h2b,a1,⟨tt,rfl,at2⟩,a3,a4,a5,a6⟩:=k2.app k3 (bytes:=24) (sz:=1) (id:=h'.next) k3.next [[.vs (BS b) .ao]] a9.jn (by rw[a9.aN];simp only[List.length_singleton];omega) (by rw[a9.aN];simp only[List.length_singleton];omega)
 simp+decide only[st,xv,tZ,IQ,IP,IN,z7,b8,a9.aN,dc,fH]
 refine aq k1 ?_
 simp+decide only[st,xv,tZ,z7]
 refine aq (zP ok (z:=[.int .u8 0]) (f:=57) rfl (by omega)) ?_
 simp+decide only[st,xv,tZ,z7,a1,h1,h2,bE]
 refine⟨?_,a3.get⟩
 have e:a9.R l++[[.vs (BS b) .ao]]=a9.R (l++[b]):=by rw[<-a9.jK];rfl
 rw[e]
 simp only[AV.strip,AV.bA,a9.ew]
theorem amN (ok:ax P tb) {l:List (List UInt8)} {t:aH} {h:aa} (hl:l.length<2^20) (hb: ∀b∈l,b.length<2^20):an P 112 [.vs (a9.R l) t] h (match l with|[]=> .az [.vs [] .ao, .vs [] .ao, .bool false]|b::m=> .az [.vs (BS b) .ao, .vs (a9.R m) .ao, .bool true]) h:=by
 refine ok.eM (rf:=yu) rfl (Nat.le_of_ble_eq_true rfl) (by split<;>simp only[AV.bB,AV.bX,a9.iB,u3]<;>rfl) ?_
 cases l with
 |nil=>
  simp+decide only[st,xv,yu,QJ,QI,adF,QH,a9.kM,bE]
  first|rfl|exact⟨rfl,fun _ _=>rfl⟩
 |cons b m=>
  have hz: ¬(((m.length+1:Nat):Int)=0):=by omega
  have hg:(a9.R (b::m))[0]? =some [.vs (BS b) .ao]:=rfl
  have k1:dF 1 (a9.R (b::m))=true:=a9.jn
  have k3:Int.toNat 1<=(a9.R (b::m)).length:=by rw[a9.aN];simp
  have k4:List.take ((a9.R (b::m)).length-Int.toNat 1) (List.drop (Int.toNat 1) (a9.R (b::m)))=a9.R m:=by rw[List.take_of_length_le (by simp)];rfl
  have lD:=hb b (List.mem_cons_self ..)
  simp+decide only[st,xv,yu,QJ,QI,a9.aN,hz]
  refine bJ 10 rfl rfl ?_
  simp+decide only[st,xv,yu,QH,hg]
  refine fA (zP ok (z:=[.int .u8 0]) (f:=57) rfl (by omega)) (dp (Nat.le_refl _)) ?_
  simp+decide only[st,xv,k1,k3,k4]
  refine fA (akz ok (by simp only[List.length_cons] at hl;omega) (fun x hx=>hb x (List.mem_cons_of_mem _ hx))) (dp (Nat.le_refl _)) ?_
  simp+decide only[st,xv,bE]
  refine⟨?_,fun x hx=>?_⟩
  ·simp only[AV.strip,AV.bA,a9.ew,jV]
  ·rw[if_pos (by omega)]
end
section
open Go
variable {P:Program}
theorem alR (ok:ax P tb) {n:Nat} {h:aa} (h0:0<n) (hn:n<2^30):an P 135 [.bx, .int .i64 n] h (.rs h.next 0 0 1) (h.at h.next (.cells (List.replicate n [AV.int .u8 0]).flatten)):=by
 refine ok.calls (rf:=FG) rfl (Nat.le_of_ble_eq_true rfl) ?_
 have h1: ¬(n:Int)<0:=by omega
 have h2:(0:Int)<(n:Int):=by omega
 have w0:IntKind.wrap .i64 ((0:Int)-0)=0:=rfl
 have w1:IntKind.wrap .i64 ((n:Int)-0)=n:=by rw[bw]<;>omega
 have a1: ∀id,vH 1 [.int .u8 0] id h .bx (.int .i64 n)=some (.rs id 0 n 1,h.at id (.cells (List.replicate n [AV.int .u8 0]).flatten)):=fun id=>by
  simp only[vH]
  rw[if_pos (by omega),if_pos (by rw[Int.toNat_natCast];omega),Int.toNat_natCast];rfl
 have s1: ∀ρ:Env,ρ 19= .int .i64 0->i7 ρ 1 .bx none (some (Am.t 19)) none=some .bx:=fun ρ hr=>by simp[i7,cC,Am.t,au.ev,hr]
 have s2: ∀(ρ:Env) (b:Nat),ρ 24= .int .i64 0->i7 ρ 1 (.rs b 0 n 1) none (some (Am.t 24)) none=some (.rs b 0 0 1):=fun ρ b hr=>by simp[i7,cC,Am.t,au.ev,hr]
 simp+decide only[st,xv,FG,ac3,ac2,ac1,ac0,acZ,acY,acX,h1,h2,w0,w1,a1,s1,s2]
theorem DD {l:List UInt8}:(BS l).flatten=l.map fun b=>AV.int .u8 b.toNat:=by
 induction l with
 |nil=>rfl
 |cons b l ih=>simp only[BS,List.map_cons,List.flatten_cons] at ih ⊢;rw[ih];rfl
theorem YX: ∀{l:List UInt8},rowsOf (BS l).flatten 0 1 l.length=BS l
 |[]=>rfl
 |b::l=>by
  have ih:=YX (l:=l)
  have hc:BS (b::l)=[.int .u8 b.toNat]::BS l:=rfl
  rw[hc,List.flatten_cons,List.length_cons,rowsOf]
  rw[show 0+1=([AV.int .u8 b.toNat]).length+0 by rfl,Cg (by rw[DD,List.length_map];omega),ih]
  rfl
theorem Xv: ∀{n off m:Nat} {cs:List AV},off+n<=m->rowsOf cs off 1 n=rowsOf (cs.take m) off 1 n
 |0,_,_,_,_=>rfl
 |n+1,off,m,cs,h=>by
  simp only[rowsOf]
  rw[Xv (n:=n) (off:=off+1) (m:=m) (by omega),List.drop_take,List.take_take,Nat.min_eq_left (by omega)]
theorem aj4 {n:Nat} {cs:List AV}:rowsOf cs 0 1 n=rowsOf (cs.take n) 0 1 n:=Xv (by omega)
theorem ajX (ok:ax P tb) {l:List (List UInt8)} {t:aH} {h:aa} (h0:0<l.flatten.length) (hl:l.length<2^20) (hs:l.flatten.length<2^30):an P 86 [.vs (a9.R l) t] h (.vs (BS l.flatten) .ao) h:=by
 refine ok.N8 (rf:=rA) rfl (Nat.le_of_ble_eq_true rfl) jM.lV ?_
 have aiM: ∀i,(l.take i).flatten.length<=l.flatten.length:=fun i=>by
  have:=congrArg List.length (congrArg List.flatten (List.take_append_drop i l))
  rw[List.flatten_append,List.length_append] at this
  omega
 have Jv: ∀i (hi:i<l.length),(l.take (i+1)).flatten=(l.take i).flatten++l[i]:=fun i hi=>by
  rw[<-List.take_append_getElem hi,List.flatten_append];simp
 simp+decide only[st,xv,rA,ae4,ae3,ae2]
 let I:Nat->Env->aa->Prop:=fun n ρ H=>H=h/\ ∃i:Nat,l.length=i+n/\ρ 0= .vs (a9.R l) t/\ρ 9= .vs (a9.R l) t/\ρ 10= .int .i64 l.length/\ρ 11= .int .i64 i/\ρ 3= .int .i64 (l.take i).flatten.length
 refine dn I ?_ l.length ⟨rfl,0,by omega,rfl,rfl,by simp+decide only[st,xv,a9.aN],rfl,rfl⟩
 rintro n ρ H ⟨rfl,i,aE,r0,r9,eV,eU,r3⟩
 by_cases hi:i<l.length
 ·have aB:(i:Int)<(l.length:Int):=by omega
  have bR:(0:Int)<=i:=by omega
  have hw:=cT (show i<2^61 by omega)
  have cE:(a9.R l)[i]? =some [.vs (BS l[i]) .ao]:=a9.eW hi
  have h1:=aiM (i+1)
  have h2:=congrArg List.length (Jv i hi)
  rw[List.length_append] at h2
  have w1:IntKind.wrap .i64 (((l.take i).flatten.length:Int)+(l[i].length:Int))=((l.take (i+1)).flatten.length:Int):=by rw[bw]<;>omega
  have w2: ¬((l.take (i+1)).flatten.length:Int)<0:=by omega
  simp+decide only[st,xv,rA,RP,ae1,ae0,aeZ,aeY,r3,r9,eV,eU,aB,bR,cE,b8,w1,w2,hw]
  exact⟨n-1,by omega,rfl,i+1,by omega,r0,r9,eV,rfl,rfl⟩
 have aB: ¬(i:Int)<(l.length:Int):=by omega
 rw[List.take_of_length_le (by omega)] at r3
 simp+decide only[st,xv,rA,RP,aeX,r3,eV,eU,aB]
 refine aq (alR ok h0 hs) ?_
 simp+decide only[st,xv,rA,abl,r0]
 let I2:Nat->Env->aa->Prop:=fun n ρ X=>(∀x,x<H.next->X.get x=H.get x)/\ ∃i b cs:_,l.length=i+n/\ρ 25= .vs (a9.R l) t/\ρ 26= .int .i64 l.length/\ρ 27= .int .i64 (i:Nat)/\ρ 6= .rs b 0 (l.take i).flatten.length 1/\X.get b=some (.cells cs)/\cs.take (l.take i).flatten.length=(BS (l.take i).flatten).flatten/\H.next<=b/\b<X.next
 refine dn I2 ?_ l.length ⟨fun x hx=>by simp[aa.at,show¬x=H.next by omega],0,H.next,_,by omega,rfl,by simp+decide only[st,xv,a9.aN],rfl,rfl,by simp[aa.at];rfl,by simp[BS],Nat.le_refl _,by simp[aa.at]⟩
 rintro n ρ X ⟨ho,i,b,cs,aE,Lu,uc,yD,r6,hb,eF,ef,bY⟩
 by_cases hi:i<l.length
 ·have aB:(i:Int)<(l.length:Int):=by omega
  have bR:(0:Int)<=(i:Int):=by omega
  have hw:=cT (show i<2^61 by omega)
  have cE:(a9.R l)[i]? =some [.vs (BS l[i]) .ao]:=a9.eW hi
  have cw:cQ 1 X (.vs (BS l[i]) .ao)=some (BS l[i]):=aaW
  have h1:=aiM (i+1)
  have h2:=congrArg List.length (Jv i hi)
  rw[List.length_append] at h2
  have dj:(l.take i).flatten.length<=cs.length:=by
   have:=congrArg List.length eF
   rw[List.length_take,DD,List.length_map] at this
   omega
  have hc:=av hb
  by_cases hz:l[i]=[]
  ·have ha:fp 1 1 X.next X (.rs b 0 (l.take i).flatten.length 1) (some (BS l[i]))=some (.rs b 0 (l.take i).flatten.length 1,X):=by simp[fp,hz,BS]
   have he:(l.take (i+1)).flatten=(l.take i).flatten:=by rw[Jv i hi,hz,List.append_nil]
   simp+decide only[st,xv,rA,HY,Ol,Ok,Oj,r6,Lu,uc,yD,aB,bR,cE,cw,ha,hw]
   exact⟨n-1,by omega,ho,i+1,b,cs,by omega,Lu,uc,rfl,by rw[he];rfl,hb,by rw[he];exact eF,ef,bY⟩
  ·have aM:BS l[i]≠[]:=by simp[BS,hz]
   have ha:fp 1 1 X.next X (.rs b 0 (l.take i).flatten.length 1) (some (BS l[i]))=some (.rs X.next 0 ((l.take i).flatten.length+l[i].length) 1,(X.set b none).at X.next (.cells (cs.take (l.take i).flatten.length++(BS l[i]).flatten))):=by
    simp only[fp,hc,Option.bind_some,b8,Nat.mul_one]
    rw[if_neg aM,if_pos ⟨trivial,trivial,dj,by omega,by omega⟩]
   simp+decide only[st,xv,rA,HY,Ol,Ok,Oj,r6,Lu,uc,yD,aB,bR,cE,cw,ha,hw]
   refine⟨n-1,by omega,fun x hx=>?_,i+1,X.next,cs.take (l.take i).flatten.length++(BS l[i]).flatten,by omega,Lu,uc,rfl,by rw[h2];rfl,by simp only[aa.at,if_true],?_,by omega,by simp[aa.at,aa.set]⟩
   ·simp[aa.at,aa.set,show¬x=X.next by omega,show¬x=b by omega,ho x hx]
   ·rw[eF,Jv i hi,<-ad0,List.flatten_append]
    exact List.take_of_length_le (by rw[List.length_append,DD,DD,List.length_map,List.length_map,List.length_append];omega)
 ·have aB: ¬(i:Int)<(l.length:Int):=by omega
  have ix:l.take i=l:=List.take_of_length_le (by omega)
  rw[ix] at r6 eF
  simp+decide only[st,xv,rA,HY,abk,r6,uc,yD,aB]
  have dj:l.flatten.length<=cs.length:=by
   have:=congrArg List.length eF
   rw[List.length_take,DD,List.length_map] at this
   omega
  have Bu:rowsOf cs 0 1 l.flatten.length=BS l.flatten:=by
   have h1:rowsOf cs 0 1 l.flatten.length=rowsOf (BS l.flatten).flatten 0 1 l.flatten.length:=by
    rw[<-eF]
    exact aj4
   rw[h1,YX]
  have pU:AV.eK b cs (.rs b 0 l.flatten.length 1)= .vs (BS l.flatten) .ao:=by
   simp only[AV.eK,if_true]
   rw[if_pos (by omega),Bu]
  refine Hb.2 ⟨.rs b 0 l.flatten.length 1,b,cs,by simp+decide only[st,xv],hb,ef,?_,?_,ho⟩
  ·rw[pU];exact jM.lV
  ·rw[pU];exact jM.lR
end
section
open Go
variable {P:Program}
def ei (s:List UInt8):List UInt8:=be s.length 2++s
theorem Xi (ok:ax P tb) {b s:List UInt8} {t t':aH} {h:aa} (hb:b.length<2^28) (hs:s.length<2^28):an P 53 [.vs (BS b) t, .vs (BS s) t'] h (.vs (BS (b++ei s)) .ao) h:=by
 refine ok.calls (rf:=BZ) rfl (Nat.le_of_ble_eq_true rfl) ?_
 have w1:IntKind.wrap .u64 (s.length:Int)=s.length:=fC (by omega)
 have hc:=ajX ok (l:=[b++be s.length 2,s]) (t:= .ao) (h:=h) (by simp[bW];omega) (by simp) (by simp[bW];omega)
 have bk:=hc.E4 (E3:=[.vs [[.vs (BS (b++be s.length 2)) .ao],[.vs (BS s) t']] .full]) rfl (fun i x y hx hy=>by
  match i with
  |0=>
   cases hx;cases hy
   refine .inr (.inr (.inr ?_))
   simp only[AV.strip,AV.fy,AV.bA,jV];rfl
  |i+1=>simp at hx)
 simp+decide only[st,xv,BZ,Tl,Tk,b8,w1]
 refine aq (pg ok (v:=s.length) (n:=2) (by omega) (by omega) (by omega)) ?_
 simp+decide only[st,xv,BZ,Tl,Tk]
 refine aq bk ?_
 have e:[b++be s.length 2,s].flatten=b++ei s:=by simp[ei]
 simp+decide only[st,xv,e]
def pq (b:List UInt8):List UInt8×Nat×Nat:=if b.length<2 then([],0,3) else if b.length-2<de (b.take 2) then([],0,3) else((b.drop 2).take (de (b.take 2)),2+de (b.take 2),0)
def Hy (r:List UInt8×Nat×Nat):AV:= .az [.vs (BS r.1) .ao, .int .i64 r.2.1, .int .i64 r.2.2]
theorem Z9 {l:List UInt8} {n m:Nat} {t:aH}:(AV.az [.vs (BS l) t, .int .i64 n, .int .i64 m]).strip= .az [.vs (BS l) .ao, .int .i64 n, .int .i64 m]:=by simp only[AV.strip,AV.bA,jV]
theorem Xh (ok:ax P tb) {b:List UInt8} {t:aH} {h:aa} (hb:b.length<2^28):an P 127 [.vs (BS b) t] h (Hy (pq b)) h:=by
 refine ok.eM (rf:=qK) rfl (Nat.le_of_ble_eq_true rfl) (by simp only[Hy,AV.bB,AV.bX,u3];rfl) ?_
 have ht:=zq ok (b:=b) (t:=t) (n:=2) (h:=h) (by omega) (by omega)
 unfold pq
 by_cases h1:b.length<2
 ·rw[if_pos h1] at ht
  simp+decide only[st,xv,qK,z6,xC,z5,Dy,z4,Dx,zZ]
  refine aq ht ?_
  simp+decide only[st,xv,qK,z6,xC,z5,Dy,z4,Dx,zZ,bE,h1]
  first|rfl|exact⟨rfl,fun _ _=>rfl⟩
 rw[if_neg h1] at ht
 have hv:=vu (b.take 2)
 have hle:(b.take 2).length<=2:=List.length_take_le ..
 have h3:(256:Nat)^(b.take 2).length<=256^2:=Nat.pow_le_pow_right (by omega) hle
 generalize hV:de (b.take 2)=V at*
 have w1:IntKind.wrap .i64 ((b.length:Int)-2)=((b.length-2:Nat):Int):=by rw[bw]<;>omega
 have w2:IntKind.wrap .i64 (V:Int)=V:=se (by omega)
 by_cases h2:b.length-2<V
 ·have fH:((b.length-2:Nat):Int)<(V:Int):=by omega
  simp+decide only[st,xv,qK,z6,xC,z5,Dy,z4,Dx,zZ]
  refine aq ht ?_
  simp+decide only[st,xv,qK,z6,xC,z5,Dy,z4,Dx,zZ,bE,b8,h1,h2,fH,w1,w2]
  first|rfl|exact⟨rfl,fun _ _=>rfl⟩
 have fH: ¬((b.length-2:Nat):Int)<(V:Int):=by omega
 have w3:IntKind.wrap .i64 (2+(V:Int))=((2+V:Nat):Int):=by rw[bw]<;>omega
 have k1:Int.toNat 2<=2+V/\2+V<=(BS b).length/\dF 1 (BS b)=true:=⟨by show 2<=_;omega,by rw[b8];omega,qj⟩
 have k2:List.take (2+V-Int.toNat 2) (List.drop (Int.toNat 2) (BS b))=BS ((b.drop 2).take V):=by
  rw[show 2+V-Int.toNat 2=V by show 2+V-2=_;omega,<-aaV,<-wW];rfl
 have dj:=zP ok (z:=[.int .u8 0]) (f:=57) rfl (l:=(b.drop 2).take V) (t:=pe t (BS b).length (Int.toNat 2) (2+V)) (h:=h) (by rw[List.length_take];omega)
 simp+decide only[st,xv,qK,z6,xC]
 refine aq ht ?_
 simp+decide only[st,xv,qK,xC,z5,z4,b8,fH,w1,w2]
 simp+decide only[st,xv,qK,zZ,w2,w3,k1.1,k1.2.1,k1.2.2,k2]
 refine aq dj ?_
 simp+decide only[st,xv,w2,w3,bE,h1,h2]
 first|rfl|exact⟨Z9,fun _ _=>rfl⟩|exact Z9
end
section
open Go
variable {P:Program}
def jo (l:List (List UInt8)):List UInt8:=be l.length 1++l.flatMap ei
theorem akW (ok:ax P tb) {b:List UInt8} {l:List (List UInt8)} {t t':aH} {h:aa} (hs: ∀x∈l,x.length<2^10) (hl:l.length<2^10) (hb:b.length<2^20):an P 55 [.vs (BS b) t, .vs (a9.R l) t'] h (.vs (BS (b++jo l)) .ao) h:=by
 refine ok.eM (rf:=uG) rfl (Nat.le_of_ble_eq_true rfl) jM.lV ?_
 have w2:IntKind.wrap .u64 (l.length:Int)=l.length:=fC (by omega)
 have bH: ∀(m:List (List UInt8)),(∀x∈m,x.length<2^10)->(m.flatMap ei).length<=1026*m.length:=by
  intro m
  induction m with
  |nil=>intro _;simp
  |cons c m ih=>
   intro hm
   have h1:=ih (fun x hx=>hm x (List.mem_cons_of_mem _ hx))
   have h2:=hm c (List.mem_cons_self ..)
   simp only[List.flatMap_cons,List.length_append,ei,bW,List.length_cons] at h1 ⊢;omega
 simp+decide only[st,xv,uG,ago,Tg,a9.aN,w2]
 refine aq (pg ok (v:=l.length) (n:=1) (by omega) (by omega) (by omega)) ?_
 simp+decide only[st,xv,uG,Tg,agn]
 let I:Nat->Env->aa->Prop:=fun n ρ H=>H=h/\ ∃i:Nat,l.length=i+n/\ρ 13= .vs (a9.R l) t'/\ρ 14= .int .i64 l.length/\ρ 15= .int .i64 i/\ρ 5= .vs (BS (b++be l.length 1++(l.take i).flatMap ei)) .ao
 refine dn I ?_ l.length ⟨rfl,0,by omega,rfl,by simp+decide only[st,xv,a9.aN],rfl,by simp only[List.take_zero,List.flatMap_nil,List.append_nil];rfl⟩
 rintro n ρ H ⟨rfl,i,aE,eJ,jf,gA,r5⟩
 by_cases hi:i<l.length
 ·have aB:(i:Int)<(l.length:Int):=by omega
  have bR:(0:Int)<=i:=by omega
  have hw:=cT (show i<2^61 by omega)
  have cE:(a9.R l)[i]? =some [.vs (BS l[i]) .ao]:=a9.eW hi
  have Wq:=hs _ (List.getElem_mem hi)
  have h1:=bH (l.take i) (fun x hx=>hs x (List.mem_of_mem_take hx))
  have h2:=List.length_take_le i l
  simp+decide only[st,xv,uG,Tf,agm,agl,eJ,jf,gA,r5,aB,bR,cE]
  refine aq (Xi ok (by simp only[List.length_append,bW];omega) (by omega)) ?_
  simp+decide only[st,xv,uG,agk,gA,hw]
  refine⟨n-1,by omega,rfl,i+1,by omega,eJ,jf,rfl,?_⟩
  show AV.vs (BS _) .ao=_
  rw[<-List.take_append_getElem hi]
  simp only[List.flatMap_append,List.flatMap_cons,List.flatMap_nil,List.append_nil,List.append_assoc]
 ·have aB: ¬(i:Int)<(l.length:Int):=by omega
  simp+decide only[st,xv,uG,Tf,agj,jf,gA,r5,aB,bE]
  rw[List.take_of_length_le (by omega)]
  simp only[jo,List.append_assoc]
  first|exact jM.lR|exact⟨jM.lR,fun x hx=>rfl⟩
end
section
open Go
variable {P:Program}
theorem aqT (ok:ax P tb) {g:Nat} {dX:List AV} {q:List UInt8->Bool} {l:List (List UInt8)} {t:aH} {h:aa} (hl:l.length<2^30) (hg:bZ P g=true) (hq: ∀p∈l,an P g (.vs (BS p) .ao::dX) h (.bool (q p)) h):
 an P 158 [.vs (a9.R l) t, .fn g [] dX] h (.int .i64 (kQ q l)) h:=by
 refine ok.calls (rf:=yp) rfl (Nat.le_of_ble_eq_true rfl) ?_
 simp+decide only[st,xv,yp,Ir,Iq,a9.aN]
 let I:Nat->Env->aa->Prop:=fun n ρ h'=>h'=h/\ ∃i:Nat,l.length=i+n/\(∀j,j<i-> ∀hj:j<l.length,q l[j]=false)/\ρ 0= .vs (a9.R l) t/\ρ 1= .fn g [] dX/\ρ 7= .int .i64 l.length/\ρ 8= .int .i64 i
 refine dn I ?_ l.length ⟨rfl,0,by omega,by omega,rfl,rfl,rfl,rfl⟩
 rintro n ρ h' ⟨rfl,i,aE,hf,r0,r1,r7,r8⟩
 by_cases hi:i<l.length
 ·have aB:(i:Int)<(l.length:Int):=by omega
  have bR:(0:Int)<=i:=by omega
  have hw:=cT (show i<2^61 by omega)
  have cE:(a9.R l)[i]? =some [.vs (BS l[i]) .ao]:=a9.eW hi
  simp+decide only[st,xv,yp,Ir,Iq,PC,PB,PA,Pz,Py,Px,r0,r1,r7,r8,aB,bR,cE]
  refine qf hg (hq l[i] (List.getElem_mem hi)) ?_
  by_cases mz:q l[i]=true
  ·simp+decide only[st,xv,mz,r8,HM hi hf mz]
  ·have qW:q l[i]=false:=by simpa using mz
   simp+decide only[st,xv,qW,r8,hw]
   refine⟨n-1,by omega,rfl,i+1,by omega,fun j hj dO=>?_,r0,r1,r7,rfl⟩
   by_cases d7:j=i
   ·subst d7;exact qW
   ·exact hf j (by omega) dO
 ·have aB: ¬(i:Int)<(l.length:Int):=by omega
  have dH:=HL (q:=q) (l:=l) (fun j _ hj=>hf j (by omega) hj)
  simp+decide only[st,xv,yp,Ir,Iq,PC,PB,PA,Pz,Py,Px,r7,r8,aB,dH]
  rfl
def j8 (l:List (List UInt8)):Bool:=decide (l.length<=4)&&!l.any (fun b=>decide (16<b.length))
theorem Yt (ok:ax P tb) {l:List (List UInt8)} {t:aH} {h:aa} (hl:l.length<2^30):an P 85 [.vs (a9.R l) t] h (.bool (j8 l)) h:=by
 refine ok.calls (rf:=yX) rfl (Nat.le_of_ble_eq_true rfl) ?_
 unfold j8
 have hc:an P 133 [.vs (a9.R l) t, .fn 134 [] []] h (.bool (l.any (fun b=>decide (16<b.length)))) h:=by
  refine ok.calls (rf:=FI) rfl (Nat.le_of_ble_eq_true rfl) ?_
  simp+decide only[st,xv,FI,ac7,ac6]
  refine aq (aqT ok hl (ok.bZ _ rfl) (q:=fun b=>decide (16<b.length)) (fun p hp=>?_)) ?_
  ·refine ok.calls (rf:=FH) rfl (Nat.le_of_ble_eq_true rfl) ?_
   have e:decide ((16:Int)<(p.length:Int))=decide (16<p.length):=by rw[decide_eq_decide];omega
   simp+decide only[st,xv,FH,ac5,ac4,b8,e]
  ·simp+decide only[st,xv,Nu]
 by_cases h1:l.length<=4
 ·have dc:(l.length:Int)<=4:=by omega
  simp+decide only[st,xv,yX,JM,JL,a9.aN,dc]
  refine aq hc ?_
  simp+decide only[st,xv,yX,JM,JL,h1]
  all_goals simp
 ·have dc: ¬(l.length:Int)<=4:=by omega
  simp+decide only[st,xv,yX,JM,JL,a9.aN,dc,h1]
  all_goals simp
end
section
open Go
variable {P:Program}
def pJ (b:List UInt8) (k:Nat):List Nat:=(List.range k).map fun i=>de ((b.drop (1+2*i)).take 2)
theorem Hx {b:List UInt8} {k:Nat}:(pJ b k).length=k:=by simp[pJ]
theorem am2 {b:List UInt8} {k:Nat}:pJ b (k+1)=pJ b k++[de ((b.drop (1+2*k)).take 2)]:=by simp[pJ,List.range_succ]
def Je (b:List UInt8):List Nat×Nat×Nat:=
 if b.length<1 then([],0,3) else if b.length<1+2*de (b.take 1) then([],0,3) else if jY (pJ b (de (b.take 1))) then(pJ b (de (b.take 1)),1+2*de (b.take 1),0) else([],0,2)
def NX (r:List Nat×Nat×Nat):AV:= .az [.vs ((ay .u16).R r.1) .ao, .int .i64 r.2.1, .int .i64 r.2.2]
theorem akA (ok:ax P tb) {b:List UInt8} {t:aH} {h:aa} (hb:b.length<2^20):an P 128 [.vs (BS b) t] h (NX (Je b)) h:=by
 refine ok.eM (rf:=mq) rfl (Nat.le_of_ble_eq_true rfl) (by simp only[NX,AV.bB,AV.bX,(ay .u16).iB];rfl) ?_
 have ht:=zq ok (b:=b) (t:=t) (n:=1) (h:=h) (by omega) (by omega)
 unfold Je
 by_cases h1:b.length<1
 ·rw[if_pos h1] at ht
  simp+decide only[st,xv,mq,IH,xB]
  refine aq ht ?_
  simp+decide only[st,xv,mq,xB,IG,adq,bE,h1]
  first|rfl|exact⟨rfl,fun _ _=>rfl⟩
 rw[if_neg h1] at ht
 have hv:=vu (b.take 1)
 have hle:(b.take 1).length<=1:=List.length_take_le ..
 have h3:(256:Nat)^(b.take 1).length<=256^1:=Nat.pow_le_pow_right (by omega) hle
 generalize hV:de (b.take 1)=V at*
 have w1:IntKind.wrap .i64 (V:Int)=V:=se (by omega)
 have w2:IntKind.wrap .i64 (2*(V:Int))=((2*V:Nat):Int):=by rw[bw]<;>omega
 have w3:IntKind.wrap .i64 (1+((2*V:Nat):Int))=((1+2*V:Nat):Int):=by rw[bw]<;>omega
 by_cases h2:b.length<1+2*V
 ·have fH:(b.length:Int)<((1+2*V:Nat):Int):=by omega
  simp+decide only[st,xv,mq,IH,xB]
  refine aq ht ?_
  simp+decide only[st,xv,mq,xB,IG,Qu,Qt,adp,bE,b8,h1,h2,fH,w1,w2,w3]
  first|rfl|exact⟨rfl,fun _ _=>rfl⟩
 have fH: ¬(b.length:Int)<((1+2*V:Nat):Int):=by omega
 simp+decide only[st,xv,mq,IH,xB]
 refine aq ht ?_
 simp+decide only[st,xv,mq,xB,IG,Qu,Qt,ado,b8,h1,h2,fH,w1,w2,w3]
 let I:Nat->Env->aa->Prop:=fun n ρ H=>Old h H/\ ∃i:Nat,V=i+n/\ρ 0= .vs (BS b) t/\ρ 3= .int .i64 ((1+2*V:Nat):Int)/\ρ 26= .int .i64 V/\ρ 27= .int .i64 i/\App h H (ρ 2) ((ay .u16).R (pJ b i))
 refine dn I ?_ V ⟨Old.refl h,0,by omega,rfl,rfl,rfl,rfl,App.nil h h⟩
 rintro n ρ H ⟨ho,i,aE,r0,r3,uc,yD,ha⟩
 by_cases hi:i<V
 ·have aB:(i:Int)<(V:Int):=by omega
  have hw:=cT (show i<2^61 by omega)
  have q1:IntKind.wrap .i64 (2*(i:Int))=((2*i:Nat):Int):=by rw[bw]<;>omega
  have q2:IntKind.wrap .i64 (1+((2*i:Nat):Int))=((1+2*i:Nat):Int):=by rw[bw]<;>omega
  have k1:1+2*i<=b.length:=by omega
  have k2:dF 1 (BS b)=true:=qj
  have k3:(BS b).drop (1+2*i)=BS (b.drop (1+2*i)):=wW
  have k4:List.take (b.length-(1+2*i)) (BS (b.drop (1+2*i)))=BS (b.drop (1+2*i)):=List.take_of_length_le (by rw[b8,List.length_drop];omega)
  have LH:=zq ok (b:=b.drop (1+2*i)) (t:=pe t b.length (1+2*i) b.length) (n:=2) (h:=H) (by omega) (by rw[List.length_drop];omega)
  rw[if_neg (by rw[List.length_drop];omega)] at LH
  have qV:=am2 (b:=b) (k:=i)
  have hW2:de ((b.drop (1+2*i)).take 2)<65536:=by
   have h1:=vu ((b.drop (1+2*i)).take 2)
   have h2:((b.drop (1+2*i)).take 2).length<=2:=List.length_take_le ..
   have h3:(256:Nat)^((b.drop (1+2*i)).take 2).length<=256^2:=Nat.pow_le_pow_right (by omega) h2
   omega
  generalize hW:de ((b.drop (1+2*i)).take 2)=W at*
  have q3:IntKind.wrap .u16 (W:Int)=W:=by simp[IntKind.wrap,IntKind.signed,IntKind.bits];omega
  obtain⟨v',h2b,a1,a2,a3,a4,a5,a6⟩:=ha.app ho (bytes:=2) (sz:=1) (id:=H.next) ho.next [[.int .u16 W]] (ay .u16).jn (by rw[(ay .u16).aN,Hx];simp only[List.length_singleton];omega) (by rw[(ay .u16).aN,Hx];simp only[List.length_singleton];omega)
  simp+decide only[st,xv,mq,Qr,adn,NR,r0,uc,yD,aB,q1,q2,b8,k1,k2,k3,k4]
  refine aq LH ?_
  simp+decide only[st,xv,mq,NR,aaJ,aaI,yD,q3,a1,hw]
  exact⟨n-1,by omega,a3,i+1,by omega,r0,r3,uc,rfl,by rw[qV,<-(ay .u16).jK];exact a2⟩
 ·have aB: ¬(i:Int)<(V:Int):=by omega
  have hiV:i=V:=by omega
  subst hiV
  obtain⟨tt,jP,_⟩:=ha
  have hm:=YP ok (l:=pJ b i) (t:=tt) (h:=H) (by rw[Hx];omega)
  simp+decide only[st,xv,mq,Qr,aaH,uc,yD,aB,jP]
  refine aq hm ?_
  cases iw:jY (pJ b i) with
  |false=>
   simp+decide only[st,xv,mq,aaG,bE,h1,h2,iw]
   exact⟨rfl,ho.get⟩
  |true=>
   simp+decide only[st,xv,mq,aaF,bE,h1,h2,iw,jP,r3]
   exact⟨by simp only[AV.strip,AV.bA,(ay .u16).ew];rfl,ho.get⟩
end
section
open Go
variable {P:Program}
def sK (b:List UInt8):Nat->Nat->List (List UInt8)->List (List UInt8)×Nat×Nat
 |0,n,acc=>if j8 acc then(acc,n,0) else([],0,2)
 |k+1,n,acc=>if(pq (b.drop n)).2.2=0 then sK b k (n+(pq (b.drop n)).2.1) (acc++[(pq (b.drop n)).1]) else([],0,(pq (b.drop n)).2.2)
def Jd (b:List UInt8):List (List UInt8)×Nat×Nat:=if b.length<1 then([],0,3) else sK b (de (b.take 1)) 1 []
def NV (r:List (List UInt8)×Nat×Nat):AV:= .az [.vs (a9.R r.1) .ao, .int .i64 r.2.1, .int .i64 r.2.2]
theorem alZ {b:List UInt8}:(pq b).2.1<=b.length:=by
 unfold pq
 split
 ·simp
 ·split
  ·simp
  ·show 2+_<=_;omega
theorem aj8 (ok:ax P tb) {b:List UInt8} {t:aH} {h:aa} (hb:b.length<2^20):an P 129 [.vs (BS b) t] h (NV (Jd b)) h:=by
 refine ok.eM (rf:=mT) rfl (Nat.le_of_ble_eq_true rfl) (by simp only[NV,AV.bB,AV.bX,a9.iB];rfl) ?_
 have ht:=zq ok (b:=b) (t:=t) (n:=1) (h:=h) (by omega) (by omega)
 unfold Jd
 by_cases h1:b.length<1
 ·rw[if_pos h1] at ht
  simp+decide only[st,xv,mT,Qq,Dw]
  refine aq ht ?_
  simp+decide only[st,xv,mT,Dw,Qp,adm,bE,h1]
  first|rfl|exact⟨rfl,fun _ _=>rfl⟩
 rw[if_neg h1] at ht
 rw[if_neg h1]
 have hv:=vu (b.take 1)
 have hle:(b.take 1).length<=1:=List.length_take_le ..
 have h3:(256:Nat)^(b.take 1).length<=256^1:=Nat.pow_le_pow_right (by omega) hle
 generalize hV:de (b.take 1)=V at*
 simp+decide only[st,xv,mT,Qq,Dw]
 refine aq ht ?_
 simp+decide only[st,xv,mT,Dw,Qp,adl,adk]
 let I:Nat->Env->aa->Prop:=fun m ρ H=>Old h H/\ ∃i n acc,V=i+m/\n<=b.length/\List.length acc=i/\sK b V 1 []=sK b m n acc/\ρ 0= .vs (BS b) t/\ρ 3= .int .i64 (n:Nat)/\ρ 17= .int .u64 V/\ρ 18= .int .u64 (i:Nat)/\App h H (ρ 2) (a9.R acc)
 refine dn I ?_ V ⟨Old.refl h,0,1,[],by omega,by omega,rfl,rfl,rfl,rfl,rfl,rfl,App.nil h h⟩
 rintro m ρ H ⟨ho,i,n,acc,aE,hnb,Lh,heq,r0,r3,wa,V5,ha⟩
 cases m with
 |zero=>
  have aB: ¬(i:Int)<(V:Int):=by omega
  obtain⟨tt,jP,_⟩:=ha
  have hm:=Yt ok (l:=acc) (t:=tt) (h:=H) (by omega)
  rw[heq,sK]
  simp+decide only[st,xv,mT,Qo,aaC,wa,V5,aB,jP]
  refine aq hm ?_
  cases iw:j8 acc with
  |false=>
   simp+decide only[st,xv,mT,aaB,bE]
   exact⟨rfl,ho.get⟩
  |true=>
   simp+decide only[st,xv,mT,aaA,bE,jP,r3]
   exact⟨by simp only[AV.strip,AV.bA,a9.ew];rfl,ho.get⟩
 |succ m=>
  have aB:(i:Int)<(V:Int):=by omega
  have k2:dF 1 (BS b)=true:=qj
  have k3:(BS b).drop n=BS (b.drop n):=wW
  have k4:List.take (b.length-n) (BS (b.drop n))=BS (b.drop n):=List.take_of_length_le (by rw[b8,List.length_drop];omega)
  have F7:=Xh ok (b:=b.drop n) (t:=pe t b.length n b.length) (h:=H) (by rw[List.length_drop];omega)
  have jz:=alZ (b:=b.drop n)
  rw[List.length_drop] at jz
  unfold Hy at F7
  rw[heq,sK]
  generalize hR:pq (b.drop n)=R at*
  obtain⟨s,k,e⟩:=R
  simp only at jz F7 ⊢
  have hw:IntKind.wrap .u64 ((i:Int)+1)=((i+1:Nat):Int):=by
   rw[show(i:Int)+1=((i+1:Nat):Int) by omega];exact fC (by omega)
  have hwn:IntKind.wrap .i64 ((n:Int)+(k:Int))=((n+k:Nat):Int):=by rw[bw]<;>omega
  simp+decide only[st,xv,mT,Qo,IF,r0,r3,wa,V5,aB,b8,hnb,k2,k3,k4]
  refine aq F7 ?_
  by_cases he:e=0
  ·subst he
   obtain⟨v',h2b,a1,a2,a3,a4,a5,a6⟩:=ha.app ho (bytes:=24) (sz:=1) (id:=H.next) ho.next [[.vs (BS s) .ao]] a9.jn (by rw[a9.aN];simp only[List.length_singleton];omega) (by rw[a9.aN];simp only[List.length_singleton];omega)
   simp+decide only[st,xv,mT,IF,Qn,aaE,aaD,r3,V5,a1,hw,hwn]
   exact⟨m,by omega,a3,i+1,n+k,acc++[s],by omega,by omega,by simp[Lh],by rw[heq,sK,hR];rfl,r0,rfl,wa,rfl,by rw[<-a9.jK];exact a2⟩
  ·have dJ: ¬(e:Int)=0:=by omega
   simp+decide only[st,xv,mT,IF,Qn,adj,bE,dJ,he]
   exact⟨rfl,ho.get⟩
end
section
open Go
variable {P:Program}
def qB (o:Ob):Bool:=dB o.ak&&(dR o.ak.ps).length==0
theorem ak0 (ok:ax P tb) {o:Ob} {t:Nat->aH} {h:aa} (hl:o.ak.ok):an P 83 [.agg (o.c t)] h (.bool (qB o)) h:=by
 refine ok.keeps (rf:=wF) rfl (Nat.le_of_ble_eq_true rfl) rfl ?_
 have jQ:=hl.len
 simp+decide only[st,xv,wF,D4,D3,Ob.c]
 refine aq (Ng (l:=o.ak) (t:=t 0) ok hl) ?_
 unfold qB
 cases hm:dB o.ak with
 |false=>
  simp+decide only[st,xv,wF,D4,D3]
  first|(intro b hb;first|(intros;omega)|(repeat(first|rw[if_neg (by omega)]|rw[if_pos (by omega)]));done)|(refine⟨rfl,?_⟩;intro b hb;first|(intros;omega)|(repeat(first|rw[if_neg (by omega)]|rw[if_pos (by omega)])))
 |true=>
  simp+decide only[st,xv,wF,D4,D3]
  refine aq (MI (l:=o.ak) (t:=t 0) ok (by omega)) ?_
  have e:decide (((dR o.ak.ps).length:Int)=0)=((dR o.ak.ps).length==0):=by rw[Bool.eq_iff_iff];simp
  simp+decide only[st,xv,wF,D4,D3,(ay .u16).aN,e]
  first|(intro b hb;first|(intros;omega)|(repeat(first|rw[if_neg (by omega)]|rw[if_pos (by omega)]));done)|(refine⟨rfl,?_⟩;intro b hb;first|(intros;omega)|(repeat(first|rw[if_neg (by omega)]|rw[if_pos (by omega)])))
def nF (o:Ob):Bool:=if o.kind=1 then decide (0<=o.used)&&decide (o.used<=o.bf)&&decide (o.bf<=400)&&decide (1<=o.next)&&decide (o.next<=64) else if o.kind=2 then decide (o.data.length<=64) else if o.kind=3 then jY o.bu else if o.kind=4 then j8 o.ring else false
def eY (o:Ob):Bool:=dM o.id&&qB o&&nF o
theorem Yy (ok:ax P tb) {o:Ob} {t:Nat->aH} {h:aa} (hl:o.ak.ok) (aL:o.id<2^64) (hc:o.bu.length<2^30) (hr:o.ring.length<2^30):an P 50 [.agg (o.c t)] h (.bool (eY o)) h:=by
 refine ok.keeps (rf:=jA) rfl (Nat.le_of_ble_eq_true rfl) rfl ?_
 simp+decide only[st,xv,jA,vF,kK,Ob.c]
 refine aq (GX ok aL) ?_
 unfold eY
 cases hm:dM o.id with
 |false=>
  simp+decide only[st,xv,jA,kK,tR]
  first|(intro b hb;first|(intros;omega)|(repeat(first|rw[if_neg (by omega)]|rw[if_pos (by omega)]));done)|(refine⟨rfl,?_⟩;intro b hb;first|(intros;omega)|(repeat(first|rw[if_neg (by omega)]|rw[if_pos (by omega)])))
 |true=>
  simp+decide only[st,xv,jA,kK]
  refine aq (ak0 (t:=t) ok hl) ?_
  cases m7:qB o with
  |false=>
   simp+decide only[st,xv,jA,kK,tR]
   first|(intro b hb;first|(intros;omega)|(repeat(first|rw[if_neg (by omega)]|rw[if_pos (by omega)]));done)|(refine⟨rfl,?_⟩;intro b hb;first|(intros;omega)|(repeat(first|rw[if_neg (by omega)]|rw[if_pos (by omega)])))
  |true=>
   unfold nF
   by_cases h1:o.kind=1
   ·by_cases a1:0<=o.used
    case neg=>
     simp+decide only[st,xv,jA,kK,nR,nQ,nP,h1,a1]
     first|(intro b hb;first|(intros;omega)|(repeat(first|rw[if_neg (by omega)]|rw[if_pos (by omega)]));done)|(refine⟨rfl,?_⟩;intro b hb;first|(intros;omega)|(repeat(first|rw[if_neg (by omega)]|rw[if_pos (by omega)])))
    by_cases a2:o.used<=o.bf
    case neg=>
     simp+decide only[st,xv,jA,kK,nR,nQ,nP,h1,a1,a2]
     first|(intro b hb;first|(intros;omega)|(repeat(first|rw[if_neg (by omega)]|rw[if_pos (by omega)]));done)|(refine⟨rfl,?_⟩;intro b hb;first|(intros;omega)|(repeat(first|rw[if_neg (by omega)]|rw[if_pos (by omega)])))
    by_cases a3:o.bf<=400
    case neg=>
     simp+decide only[st,xv,jA,kK,nR,nQ,nP,h1,a1,a2,a3]
     first|(intro b hb;first|(intros;omega)|(repeat(first|rw[if_neg (by omega)]|rw[if_pos (by omega)]));done)|(refine⟨rfl,?_⟩;intro b hb;first|(intros;omega)|(repeat(first|rw[if_neg (by omega)]|rw[if_pos (by omega)])))
    by_cases a4:1<=o.next
    case neg=>
     simp+decide only[st,xv,jA,kK,nR,nQ,nP,h1,a1,a2,a3,a4]
     first|(intro b hb;first|(intros;omega)|(repeat(first|rw[if_neg (by omega)]|rw[if_pos (by omega)]));done)|(refine⟨rfl,?_⟩;intro b hb;first|(intros;omega)|(repeat(first|rw[if_neg (by omega)]|rw[if_pos (by omega)])))
    by_cases a5:o.next<=64
    case neg=>
     simp+decide only[st,xv,jA,kK,nR,nQ,nP,h1,a1,a2,a3,a4,a5]
     first|(intro b hb;first|(intros;omega)|(repeat(first|rw[if_neg (by omega)]|rw[if_pos (by omega)]));done)|(refine⟨rfl,?_⟩;intro b hb;first|(intros;omega)|(repeat(first|rw[if_neg (by omega)]|rw[if_pos (by omega)])))
    simp+decide only[st,xv,jA,kK,nR,nQ,nP,h1,a1,a2,a3,a4,a5]
    first|(intro b hb;first|(intros;omega)|(repeat(first|rw[if_neg (by omega)]|rw[if_pos (by omega)]));done)|(refine⟨rfl,?_⟩;intro b hb;first|(intros;omega)|(repeat(first|rw[if_neg (by omega)]|rw[if_pos (by omega)])))
   by_cases h2:o.kind=2
   ·have e:decide ((o.data.length:Int)<=64)=decide (o.data.length<=64):=by rw[decide_eq_decide];omega
    simp+decide only[st,xv,jA,vF,kK,tR,nR,nQ,nP,xV,xU,xT,xS,xk,xj,xh,h2,b8,e]
    first|(intro b hb;first|(intros;omega)|(repeat(first|rw[if_neg (by omega)]|rw[if_pos (by omega)]));done)|(refine⟨rfl,?_⟩;intro b hb;first|(intros;omega)|(repeat(first|rw[if_neg (by omega)]|rw[if_pos (by omega)])))
   by_cases h3:o.kind=3
   ·simp+decide only[st,xv,jA,vF,kK,tR,nR,nQ,nP,xV,xU,xT,xS,xk,xj,xh,h3]
    refine aq (YP ok hc) ?_
    simp+decide only[st,xv,jA,vF,kK,tR,nR,nQ,nP,xV,xU,xT,xS,xk,xj,xh]
    first|(intro b hb;first|(intros;omega)|(repeat(first|rw[if_neg (by omega)]|rw[if_pos (by omega)]));done)|(refine⟨rfl,?_⟩;intro b hb;first|(intros;omega)|(repeat(first|rw[if_neg (by omega)]|rw[if_pos (by omega)])))
   by_cases h4:o.kind=4
   ·simp+decide only[st,xv,jA,vF,kK,tR,nR,nQ,nP,xV,xU,xT,xS,xk,xj,xh,h4]
    refine aq (Yt ok hr) ?_
    simp+decide only[st,xv,jA,vF,kK,tR,nR,nQ,nP,xV,xU,xT,xS,xk,xj,xh]
    first|(intro b hb;first|(intros;omega)|(repeat(first|rw[if_neg (by omega)]|rw[if_pos (by omega)]));done)|(refine⟨rfl,?_⟩;intro b hb;first|(intros;omega)|(repeat(first|rw[if_neg (by omega)]|rw[if_pos (by omega)])))
   simp+decide only[st,xv,jA,vF,kK,tR,nR,nQ,nP,xV,xU,xT,xS,xk,xj,xh,h1,h2,h3,h4]
   first|(intro b hb;first|(intros;omega)|(repeat(first|rw[if_neg (by omega)]|rw[if_pos (by omega)]));done)|(refine⟨rfl,?_⟩;intro b hb;first|(intros;omega)|(repeat(first|rw[if_neg (by omega)]|rw[if_pos (by omega)])))
end
section
open Go
variable {P:Program}
theorem zr {c:aZ} {K:aQ->Env->aa->Prop} {ρ:Env} {h:aa} (hw:WP P c (i9 (fun ρ' h'=>WP P (.loop c) K ρ' h') K) ρ h):WP P (.loop c) K ρ h:=by
 obtain⟨e,ρ',h',hb,hk⟩:=hw
 cases e with
 |normal=>
  obtain⟨e2,ρ2,h2,bY,oL⟩:=hk
  exact⟨_,_,_, .loop hb bY,oL⟩
 |exit id=>exact⟨_,_,_, .sg hb (by simp),hk⟩
 |goto l=>exact⟨_,_,_, .sg hb (by simp),hk⟩
 |ret=>exact⟨_,_,_, .sg hb (by simp),hk⟩
theorem aoH {k:Nat->Option (Env->aa->Prop)} {K:aQ->Env->aa->Prop} {ρ:Env} {h:aa}:qU k K .ret ρ h=K .ret ρ h:=rfl
theorem alk {k:Nat->Option (Env->aa->Prop)} {K:aQ->Env->aa->Prop} {ρ:Env} {h:aa}:qU k K .normal ρ h=K .normal ρ h:=rfl
theorem anH {k:Nat->Option (Env->aa->Prop)} {K:aQ->Env->aa->Prop} {ρ:Env} {h:aa} {i:Nat}:qU k K (.exit i) ρ h=K (.exit i) ρ h:=rfl
set_option linter.defProp false in
def xi:=And.intro @aoH<|And.intro @alk @anH
theorem anG {body rest:aZ} {K:aQ->Env->aa->Prop} {ρ:Env} {h:aa} {l:Nat} (hf:fM body l=some rest) (hw:WP P (.inScope body rest) K ρ h):qU (fun l=>(fM body l).map fun rest=>WP P (.inScope body rest) K) K (.goto l) ρ h:=by
 show(match(fM body l).map fun rest=>WP P (.inScope body rest) K with|some k=>k ρ h|none=>K (.goto l) ρ h)
 rw[hf];exact hw
theorem an.ao {f:Nat} {args:List AV} {h h':aa} {r:AV} (hc:an P f (AV.bA args) h r h'):an P f args h r h':=by
 refine hc.E4 Ce fun i a b ha hb=>?_
 obtain⟨u,hu,rfl⟩:=zk ha
 rw[hb] at hu;cases hu
 exact .inr (.inr (.inr rfl))
theorem asJ {α:Type} {a v:α} {l:List α}:(a::l).set 0 v=v::l:=rfl
theorem asI {α:Type} {a v:α} {l:List α} {n:Nat}:(a::l).set (n+1) v=a::l.set n v:=rfl
theorem avP {α:Type} {z:α}:List.replicate 3 z=[z,z,z]:=rfl
theorem avO {α:Type} {z:α}:List.replicate 4 z=[z,z,z,z]:=rfl
theorem wr1:IntKind.wrap .i64 (0+1)=1:=rfl
theorem wr2:IntKind.wrap .i64 (1+1)=2:=rfl
theorem wr3:IntKind.wrap .i64 (2+1)=3:=rfl
theorem tn1:Int.toNat 1=1:=rfl
theorem tn2:Int.toNat 2=2:=rfl
theorem avY {n:Nat}:(1<=n+1)=True:=eq_true (by omega)
theorem aus {h:aa} {b:Nat} {x y:Option cI}:(h.set b x).set b y=h.set b y:=by
 unfold aa.set;congr 1;funext i;by_cases e:i=b<;>simp[e]
theorem nz1 {n:Nat}:(((n+1:Nat):Int)=0)=False:=eq_false (by omega)
set_option linter.defProp false in
def xr:=And.intro @asJ<|And.intro @asI<|And.intro @avP<|And.intro @avO<|And.intro wr1<|And.intro wr2<|And.intro wr3<|And.intro tn1<|And.intro tn2<|And.intro @avY<|And.intro @aus @nz1
theorem amO {l:List UInt8} {t:aH}:(AV.vs (BS l) t).strip= .vs (BS l) .ao:=jM.lR
theorem VY {α:Type} {f:α->List UInt8} {k:Nat} (hf: ∀a,(f a).length=k) {r:List UInt8}: ∀{l:List α} {i:Nat} (hi:i<l.length),(l.flatMap f++r).drop (k*i)=f l[i]++((l.drop (i+1)).flatMap f++r)
 |[],i,hi=>by simp at hi
 |a::l,0,hi=>by simp
 |a::l,i+1,hi=>by
  have ih:=VY hf (r:=r) (l:=l) (i:=i) (by simpa using hi)
  rw[List.flatMap_cons,List.append_assoc,List.drop_append,List.drop_of_length_le (by rw[hf,Nat.mul_add];omega),List.nil_append,hf,show k*(i+1)-k=k*i by rw[Nat.mul_add];omega,ih];rfl
theorem xe {v n:Nat} (h:v<256^n):de (be v n)=v:=by rw[auQ,Nat.mod_eq_of_lt h]
theorem qe {α:Type} {l m:List α} {n:Nat} (h:l.length=n):(l++m).take n=l:=by rw[List.take_append_of_le_length (by omega),List.take_of_length_le (by omega)]
theorem tF {α:Type} {l m:List α} {n:Nat} (h:l.length=n):(l++m).drop n=m:=by rw[List.drop_append,List.drop_of_length_le (by omega),h,Nat.sub_self];simp
theorem Q1 {v:Nat} (h:v<256):(UInt8.ofNat v).toNat=v:=by simp;omega
theorem de1 {b:UInt8}:de [b]=b.toNat:=by simp[de]
theorem am0 {l:Lb} {r:List UInt8} (hp: ∀p∈l.ps,p.1<65536/\p.2<256):jv (du l++r) l.ps.length=l.ps:=by
 refine List.ext_getElem (by simp[Hw]) fun i h1 h2=>?_
 have hb:=hp _ (List.getElem_mem h2)
 have e:(du l++r).drop (2+3*i)=qt l.ps[i]++((l.ps.drop (i+1)).flatMap qt++r):=by
  rw[<-List.drop_drop]
  have:(du l++r).drop 2=l.ps.flatMap qt++r:=by unfold du;rw[List.append_assoc];exact tF (by simp[bW])
  rw[this]
  exact VY (fun a=>by simp[qt,bW]) h2
 have e2:(du l++r).getD (4+3*i) 0=UInt8.ofNat l.ps[i].2:=by
  have h3:(du l++r).getD (4+3*i) 0=((du l++r).drop (2+3*i)).getD 2 0:=by
   rw[List.getD_eq_getElem?_getD,List.getD_eq_getElem?_getD,List.getElem?_drop,show 2+3*i+2=4+3*i by omega]
  rw[h3,e]
  simp[qt,be,uP,Nat.mod_eq_of_lt hb.2]
 simp only[jv,List.getElem_map,List.getElem_range,e,e2]
 refine Prod.ext ?_ (Q1 hb.2)
 show de _=_
 unfold qt
 rw[List.append_assoc,qe bW,xe (by omega)]
theorem alX {l:Lb} {r:List UInt8} (hm:dB l=true) (hp: ∀p∈l.ps,p.1<65536/\p.2<256):qz (du l++r)=(l,(du l).length,0):=by
 have hl:l.d<=4/\l.ps.length<=16:=by
  unfold dB at hm;simp only[Bool.and_eq_true,decide_eq_true_eq] at hm;omega
 have h0:(du l++r).getD 0 0=UInt8.ofNat l.d:=by
  simp[du,be,uP,Nat.mod_eq_of_lt (show l.d<256 by omega)]
 have h1:(du l++r).getD 1 0=UInt8.ofNat l.ps.length:=by
  simp[du,be,uP,Nat.mod_eq_of_lt (show l.ps.length<256 by omega)]
 have hlen:=Hj (l:=l)
 unfold qz
 rw[h0,h1,Q1 (show l.d<256 by omega),Q1 (show l.ps.length<256 by omega),if_neg (by rw[List.length_append];omega),if_neg (by rw[List.length_append];omega),am0 hp]
 rw[if_pos hm,hlen]
theorem Xk {s r:List UInt8} (hs:s.length<65536):pq (ei s++r)=(s,(ei s).length,0):=by
 have h0:(ei s++r).take 2=be s.length 2:=by unfold ei;rw[List.append_assoc];exact qe bW
 have h1:(ei s++r).drop 2=s++r:=by unfold ei;rw[List.append_assoc];exact tF bW
 have hl:(ei s++r).length=2+s.length+r.length:=by simp[ei,bW,Nat.add_assoc]
 unfold pq
 rw[h0,h1,hl,xe (by omega),if_neg (by omega),if_neg (by omega),qe rfl]
 simp[ei,bW]
theorem alY {l:List Nat} {r:List UInt8} (hc: ∀c∈l,c<65536):pJ (jX l++r) l.length=l:=by
 refine List.ext_getElem (by simp[Hx]) fun i h1 h2=>?_
 have hb:=hc _ (List.getElem_mem h2)
 have e:(jX l++r).drop (1+2*i)=be l[i] 2++((l.drop (i+1)).flatMap (fun c=>be c 2)++r):=by
  rw[<-List.drop_drop]
  have:(jX l++r).drop 1=l.flatMap (fun c=>be c 2)++r:=by unfold jX;rw[List.append_assoc];exact tF bW
  rw[this]
  exact VY (fun a=>bW) h2
 simp only[pJ,List.getElem_map,List.getElem_range,e]
 rw[qe bW,xe (by omega)]
theorem abd {α:Type} {f:α->List UInt8} {k:Nat} (hf: ∀a,(f a).length=k): ∀{l:List α},(l.flatMap f).length=k*l.length
 |[]=>by simp
 |a::l=>by rw[List.flatMap_cons,List.length_append,hf,abd hf,List.length_cons,Nat.mul_add];omega
theorem Ck {l:List Nat}:(jX l).length=1+2*l.length:=by
 unfold jX
 rw[List.length_append,bW,abd (k:=2) (fun a=>bW)]
theorem aj2 {l:List Nat} {r:List UInt8} (hm:jY l=true) (hc: ∀c∈l,c<65536):Je (jX l++r)=(l,(jX l).length,0):=by
 have hl:l.length<=16:=by unfold jY at hm;simp only[Bool.and_eq_true,decide_eq_true_eq] at hm;omega
 have h0:(jX l++r).take 1=be l.length 1:=by unfold jX;rw[List.append_assoc];exact qe bW
 have h1:(jX l++r).length=1+2*l.length+r.length:=by rw[List.length_append,Ck]
 unfold Je
 rw[h0,h1,xe (by omega),if_neg (by omega),if_neg (by omega),alY hc,if_pos hm,Ck]
theorem YT {r:List UInt8}: ∀{m done:List (List UInt8)} {b:List UInt8} {n:Nat},b.drop n=m.flatMap ei++r->(∀x∈m,x.length<65536)->j8 (done++m)=true->sK b m.length n done=(done++m,n+(m.flatMap ei).length,0)
 |[],done,b,n,hb,_,hm=>by simp only[List.append_nil] at hm;simp[sK,hm]
 |x::m,done,b,n,hb,hx,hm=>by
  have Wn:=hx x (List.mem_cons_self ..)
  have ht:pq (b.drop n)=(x,(ei x).length,0):=by rw[hb,List.flatMap_cons,List.append_assoc];exact Xk Wn
  have:=YT (r:=r) (m:=m) (done:=done++[x]) (b:=b) (n:=n+(ei x).length) (by rw[<-List.drop_drop,hb,List.flatMap_cons,List.append_assoc,tF rfl]) (fun y hy=>hx y (List.mem_cons_of_mem _ hy)) (by simpa using hm)
  rw[List.length_cons,sK,ht]
  simp only[if_true]
  rw[this];simp[Nat.add_assoc]
theorem aj1 {l:List (List UInt8)} {r:List UInt8} (hm:j8 l=true) (hs: ∀x∈l,x.length<65536):Jd (jo l++r)=(l,(jo l).length,0):=by
 have hl:l.length<=4:=by unfold j8 at hm;simp only[Bool.and_eq_true,decide_eq_true_eq] at hm;exact hm.1
 have h0:(jo l++r).take 1=be l.length 1:=by unfold jo;rw[List.append_assoc];exact qe bW
 have h1:(jo l++r).drop 1=l.flatMap ei++r:=by unfold jo;rw[List.append_assoc];exact tF bW
 have h2: ¬(jo l++r).length<1:=by simp[jo,bW]
 unfold Jd
 rw[if_neg h2,h0,xe (by omega),YT (r:=r) h1 hs (by simpa using hm)]
 simp[jo,bW]
end
section
open Go
variable {P:Program}
def kH (o:Ob):List UInt8:=if o.kind=1 then be o.bf.toNat 2++be o.used.toNat 2++be o.next.toNat 2 else if o.kind=2 then ei o.data else if o.kind=3 then jX o.bu else jo o.ring
def me (o:Ob):List UInt8:=[1,UInt8.ofNat o.kind.toNat]++be o.id 8++du o.ak++kH o
theorem uU {o:Ob} (h:eY o=true):o.kind=1\/o.kind=2\/o.kind=3\/o.kind=4:=by
 unfold eY nF at h
 by_cases h1:o.kind=1
 ·exact .inl h1
 by_cases h2:o.kind=2
 ·exact .inr (.inl h2)
 by_cases h3:o.kind=3
 ·exact .inr (.inr (.inl h3))
 by_cases h4:o.kind=4
 ·exact .inr (.inr (.inr h4))
 simp[h1,h2,h3,h4] at h
theorem Nl {o:Ob} (h:eY o=true):dB o.ak=true/\dR o.ak.ps=[]/\dM o.id=true:=by
 unfold eY qB at h
 simp only[Bool.and_eq_true,beq_iff_eq,List.length_eq_zero_iff] at h
 exact⟨h.1.2.1,h.1.2.2,h.1.1⟩
theorem Hn {l:Lb} (h:dB l=true):l.ps.length<=16:=by
 unfold dB at h;simp only[Bool.and_eq_true,decide_eq_true_eq] at h;omega
theorem uX {o:Ob} (h:eY o=true) (h1:o.kind=1):0<=o.used/\o.used<=o.bf/\o.bf<=400/\1<=o.next/\o.next<=64:=by
 unfold eY nF at h
 rw[if_pos h1] at h
 simp only[Bool.and_eq_true,decide_eq_true_eq] at h
 obtain⟨_,⟨⟨⟨a,b⟩,c⟩,d⟩,e⟩:=h
 exact⟨a,b,c,d,e⟩
theorem tE {o:Ob} (h:eY o=true) (h1:o.kind=2):o.data.length<=64:=by
 unfold eY nF at h
 rw[if_neg (by omega),if_pos h1] at h
 simp only[Bool.and_eq_true,decide_eq_true_eq] at h
 exact h.2
theorem G6 {o:Ob} (h:eY o=true) (h1:o.kind=3):jY o.bu=true:=by
 unfold eY nF at h
 rw[if_neg (by omega),if_neg (by omega),if_pos h1] at h
 simp only[Bool.and_eq_true,decide_eq_true_eq] at h
 exact h.2
theorem zw {o:Ob} (h:eY o=true) (h1:o.kind=4):j8 o.ring=true:=by
 unfold eY nF at h
 rw[if_neg (by omega),if_neg (by omega),if_neg (by omega),if_pos h1] at h
 simp only[Bool.and_eq_true,decide_eq_true_eq] at h
 exact h.2
theorem Hq {l:List Nat} (h:jY l=true):l.length<=16:=by
 unfold jY at h;simp only[Bool.and_eq_true,decide_eq_true_eq] at h;exact h.1
theorem wP {l:List (List UInt8)} (h:j8 l=true):l.length<=4/\ ∀x∈l,x.length<=16:=by
 unfold j8 at h;simp only[Bool.and_eq_true,decide_eq_true_eq,Bool.not_eq_true',List.any_eq_false] at h
 exact⟨h.1,fun x hx=>by have:=h.2 x hx;omega⟩
structure Lo (o:Ob):Prop where
 ak:o.ak.ok
 id:o.id<2^64
 bu:o.bu.length<2^20
 ring:o.ring.length<2^20
 cat: ∀c∈o.bu,c<65536
def DE (o:Ob):AV:= .az (if eY o then [.vs (BS (me o)) .ao, .int .i64 0] else [.vs [] .ao, .int .i64 1])
theorem ak2 (ok:ax P tb) {o:Ob} {t:Nat->aH} {h:aa} (k:Lo o):an P 38 [.agg (o.c t)] h (DE o) h:=by
 refine an.ao ?_
 rw[show AV.bA [.agg (o.c t)]=[.agg (o.c aK)] by simp only[AV.bA,NZ]]
 refine ok.eM (rf:=gS) rfl (Nat.le_of_ble_eq_true rfl) (by unfold DE;split<;>simp only[AV.bB,AV.bX,u3]<;>rfl) ?_
 simp+decide only[st,xv,gS,aha,Ob.c]
 obtain⟨X,hX⟩: ∃X,X=h.at h.next (.cells (o.c aK)):=⟨_,rfl⟩
 have xo:Old h X:=by subst hX;exact(Old.refl h).at (Nat.le_refl _)
 have x1:cellsOf X h.next=some (o.c aK):=by subst hX;exact av (by simp[aa.at])
 have xn:h.next<X.next:=by subst hX;simp[aa.at]
 have hX':=hX
 simp only[Ob.c] at hX' x1
 rw[<-hX']
 simp+decide only[st,xv,gS,Ka,x1]
 refine aq (Yy (o:=o) (t:=aK) ok k.ak k.id (by have:=k.bu;omega) (by have:=k.ring;omega)) ?_
 unfold DE
 cases hm:eY o with
 |false=>
  simp+decide only[st,xv,gS,Ka,ag9,bE]
  exact⟨rfl,xo.get⟩
 |true=>
  obtain⟨kk,hk,oM,BC⟩: ∃kk:UInt8,o.kind=kk.toNat/\1<=kk.toNat/\kk.toNat<=4:=by
   rcases uU hm with h|h|h|h<;>rw[h]
   ·exact⟨1,rfl,by decide⟩
   ·exact⟨2,rfl,by decide⟩
   ·exact⟨3,rfl,by decide⟩
   ·exact⟨4,rfl,by decide⟩
  obtain⟨m1,m2,m3⟩:=Nl hm
  have jQ:=Hn m1
  have kV:=Hj (l:=o.ak)
  have w1:IntKind.wrap .u8 o.kind=kk.toNat:=by rw[hk,wrap_u8];unfold FJ;simp;omega
  have x2: ∀k,cellsOf (X.clean k) h.next=some (o.c aK):=fun k=>by simp only[Ob.c];simp+decide only[st,xv,x1,xn]
  simp only[Ob.c] at x2
  simp+decide only[st,xv,gS,Ka]
  refine zC ?_
  simp+decide only[st,xv,gS,ag8,x1,xn,w1]
  refine i6 (pg ok (b:=[1,kk]) (v:=o.id) (n:=8) k.id (by omega) (by simp)) (dp (Nat.le_refl _)) ?_
  simp+decide only[st,xv,x1,xn]
  refine i6 (MP ok (b:=[1,kk]++be o.id 8) (l:=o.ak) (t':= .ao) k.ak (by simp[bW])) (dp (Nat.le_refl _)) ?_
  simp+decide only[st,xv,x1,xn]
  generalize hρ:put _ _ _=ρ1
  have r1:ρ1 1= .ptr h.next 0:=by rw[<-hρ];rfl
  obtain⟨B0,WV⟩: ∃B0,B0=[1,kk]++be o.id 8++du o.ak:=⟨_,rfl⟩
  have r4:ρ1 4= .vs (BS B0) .ao:=by rw[<-hρ,WV];rfl
  have sU:UInt8.ofNat o.kind.toNat=kk:=by rw[hk];simp
  have hhl:B0.length<=70:=by rw[WV];simp only[List.length_append,bW,List.length_cons,List.length_nil];omega
  have fin: ∀{ρ:Env} {H:aa} {tl:List UInt8},Old h H->ρ 4= .vs (BS (B0++tl)) .ao->kH o=tl->exec P OM ρ H (i9 (WP P .ret (vk [.tmp 2, .tmp 3] (.az [.vs (BS (me o)) .ao, .int .i64 0]) h)) (vk [.tmp 2, .tmp 3] (.az [.vs (BS (me o)) .ao, .int .i64 0]) h) .normal):=by
   intro ρ H tl ho h4 ht
   simp+decide only[st,xv,gS,OM,h4,bE]
   rw[show me o=B0++tl by rw[WV,<-ht,<-sU];rfl]
   exact⟨by simp only[AV.strip,AV.bA,jV],ho.get⟩
  simp+decide only[st,xv,gS,AK,x2,r1]
  by_cases h1:o.kind=1
  ·obtain⟨b1,b2,b3,b4,b5⟩:=uX hm h1
   obtain⟨q,hq⟩:=Int.eq_ofNat_of_zero_le (show 0<=o.bf by omega)
   obtain⟨u,hu⟩:=Int.eq_ofNat_of_zero_le (show 0<=o.used by omega)
   obtain⟨n,hn⟩:=Int.eq_ofNat_of_zero_le (show 0<=o.next by omega)
   have w2:IntKind.wrap .u64 o.bf=q:=by rw[hq];exact fC (by omega)
   have w3:IntKind.wrap .u64 o.used=u:=by rw[hu];exact fC (by omega)
   have w4:IntKind.wrap .u64 o.next=n:=by rw[hn];exact fC (by omega)
   simp+decide only[st,xv,gS,AK,EW,ag7,x2,r1,h1,xr]
   refine zr ?_
   simp+decide only[st,xv,gS,EV,J9,xY,xp,r4,w2,xr]
   refine aq (pg ok (v:=q) (n:=2) (by omega) (by omega) (by omega)) ?_
   simp+decide only[st,xv,gS,xY,xp,xr]
   refine zr ?_
   simp+decide only[st,xv,gS,EV,J9,xY,xp,r4,w3,xr]
   refine aq (pg ok (b:=B0++be q 2) (v:=u) (n:=2) (by omega) (by omega) (by simp[bW];omega)) ?_
   simp+decide only[st,xv,gS,xY,xp,xr]
   refine zr ?_
   simp+decide only[st,xv,gS,EV,J9,xY,xp,r4,w4,xr]
   refine aq (pg ok (b:=B0++be q 2++be u 2) (v:=n) (n:=2) (by omega) (by omega) (by simp[bW];omega)) ?_
   simp+decide only[st,xv,gS,xY,xp,xr]
   refine zr ?_
   simp+decide only[st,xv,gS,EV,xr]
   refine fin (tl:=kH o) ?_ ?_ rfl
   ·exact xo.clean
   ·unfold kH
    rw[if_pos h1,hq,hu,hn]
    show AV.vs (BS (B0++be q 2++be u 2++be n 2)) .ao=_
    simp
  by_cases h2:o.kind=2
  ·have hd:=tE hm h2
   simp+decide only[st,xv,gS,AK,EW,Ib,OQ,x2,r1,r4,h2]
   refine aq (Xi ok (by omega) (by omega)) ?_
   simp+decide only[st,xv,gS,OQ]
   refine fin (tl:=kH o) xo.clean ?_ rfl
   unfold kH
   rw[if_neg h1,if_pos h2];rfl
  by_cases h3:o.kind=3
  ·simp+decide only[st,xv,gS,AK,EW,Ib,OP,OO,x2,r1,r4,h3]
   refine aq (alB ok k.cat (by have:=k.bu;omega) (by omega)) ?_
   simp+decide only[st,xv,gS,OO]
   refine fin (tl:=kH o) xo.clean ?_ rfl
   unfold kH
   rw[if_neg h1,if_neg h2,if_pos h3];rfl
  have h4:o.kind=4:=by rcases uU hm with h|h|h|h<;>first|exact absurd h ‹_› |exact h
  have hr:=wP (zw hm h4)
  simp+decide only[st,xv,gS,AK,EW,Ib,OP,ON,x2,r1,r4,h4]
  refine aq (akW ok (fun x hx=>by have:=hr.2 x hx;omega) (by omega) (by omega)) ?_
  simp+decide only[st,xv,gS,ON]
  refine fin (tl:=kH o) xo.clean ?_ rfl
  unfold kH
  rw[if_neg h1,if_neg h2,if_neg h3];rfl
end
section
open Go
variable {P:Program}
theorem avG {b:List UInt8} {n:Nat}:List.take (b.length-n) (BS (b.drop n))=BS (b.drop n):=List.take_of_length_le (by rw[b8,List.length_drop];omega)
theorem Kz (ok:ax P tb) {rb n:Nat} {b:List UInt8} {os:List AV} {h:aa} (hg:cellsOf h rb=some (.vs (BS b) .ao::os)) (hn:n<=8) (hl:n<=b.length) (hb:b.length<2^20):
 an P 124 [.ptr rb 0, .int .i64 n] h (.az [.int .u64 (de (b.take n)), .int .i64 0]) (h.set rb (some (.cells (.vs (BS (b.drop n)) .ao::os)))):=by
 refine ok.calls (rf:=Bd) rfl (Nat.le_of_ble_eq_true rfl) ?_
 have ht:=zq ok (b:=b) (t:= .ao) (n:=n) (h:=h) hn (by omega)
 rw[if_neg (by omega)] at ht
 have k2:dF 1 (BS b)=true:=qj
 simp+decide only[st,xv,Bd,QB,QA,hg]
 refine aq ht ?_
 simp+decide only[st,xv,Bd,QB,QA,adE,adD,adC,adB,hg,b8,hl,k2,wW,avG,xr]
structure fl (rb:Nat) (h h':aa) (cs:List AV):Prop where
 cell:cellsOf h' rb=some cs
 next:h.next<=h'.next
 old: ∀x,x<h.next->x≠rb->h'.get x=h.get x
theorem fl.set {rb:Nat} {h:aa} {cs:List AV}:fl rb h (h.set rb (some (.cells cs))) cs:=⟨av (by simp[aa.set]),Nat.le_refl _,fun x _ hx=>by simp[aa.set,hx]⟩
theorem fl.trans {rb:Nat} {h h1 h2:aa} {cs ds:List AV} (a:fl rb h h1 cs) (b:fl rb h1 h2 ds):fl rb h h2 ds:=⟨b.cell,Nat.le_trans a.next b.next,fun x h1 h2=>by rw[b.old x (Nat.lt_of_lt_of_le h1 a.next) h2,a.old x h1 h2]⟩
theorem fl.clean {rb:Nat} {h h1:aa} {cs:List AV} {n:Nat} (a:fl rb h h1 cs) (hr:rb<h.next):fl rb h (h1.clean n) cs:=⟨by have:=a.cell;have:=a.next;simp+decide only[st,xv,a.cell,show rb<h1.next by omega],Nat.le_trans a.next (by simp[aa.clean]),fun x h1 h2=>by have:=a.next;simp only[aa.clean];rw[if_pos (by omega)];exact a.old x h1 h2⟩
def fT (a b c d:aH):Nat->aH:=fun i=>if i=0 then a else if i=4 then b else if i=5 then c else if i=6 then d else .full
theorem asL (ok:ax P tb) {rb id:Nat} {k:UInt8} {l:Lb} {r:List UInt8} {h:aa} (hg:cellsOf h rb=some (.vs (BS ([1,k]++be id 8++du l++r)) .ao::bc.c (fT .full .full .full .full)))
 (aL:id<2^64) (hk:1<=k.toNat/\k.toNat<=4) (hm:dB l=true) (hl:l.ok) (hr:r.length<2^18):
 ∃h',an P 78 [.ptr rb 0] h (.int .i64 0) h'/\fl rb h h' (.vs (BS r) .ao::Ob.c {bc with id:=id,kind:=k.toNat,ak:=l} (fT .ao .full .full .full)):=by
 refine ok.dz (rf:=uF) rfl (Nat.le_of_ble_eq_true rfl) ?_
 have jQ:=Hn hm
 have kV:=Hj (l:=l)
 have hlen:([1,k]++be id 8++du l++r).length=12+3*l.ps.length+r.length:=by simp[bW,kV];omega
 generalize wy:[1,k]++be id 8++du l++r=b0 at hg hlen
 have e0:b0=1::(k::(be id 8++(du l++r))):=by rw[<-wy];simp
 simp+decide only[st,xv,uF,afb,afa,ae9,R9]
 refine aq (Kz ok hg (n:=1) (by omega) (by omega) (by omega)) ?_
 have d1:de (b0.take 1)=1:=by rw[e0];rfl
 have d2:b0.drop 1=k::(be id 8++(du l++r)):=by rw[e0];rfl
 simp+decide only[st,xv,uF,R9,ae8,ae7,R8,d1,d2]
 refine aq (Kz ok (rb:=rb) (b:=k::(be id 8++(du l++r))) (os:=bc.c (fT .full .full .full .full)) (av (by simp[aa.set])) (n:=1) (by omega) (by simp) (by rw[e0,List.length_cons] at hlen;omega)) ?_
 have d3:de [k]=k.toNat:=de1
 have w1:IntKind.wrap .i64 (k.toNat:Int)=k.toNat:=bw (by omega) (by omega)
 have k1: ¬((k.toNat:Int)<1):=by omega
 have k4: ¬((4:Int)<k.toNat):=by omega
 simp+decide only[st,xv,uF,R8,ae6,abr,abq,On,d3,w1,k1,k4,bc,Ob.c,fT,oz,xr]
 refine aq (Kz ok (rb:=rb) (b:=be id 8++(du l++r)) (os:=Ob.c {bc with kind:=k.toNat} (fT .full .full .full .full)) (av (by simp[aa.set];rfl)) (n:=8) (by omega) (by simp[bW]) (by simp[bW,kV];omega)) ?_
 rw[qe bW,tF bW,xe (by omega)]
 simp+decide only[st,xv,uF,On,abp,Om,bc,Ob.c,fT,oz,xr]
 refine aq (akg ok (b:=du l++r) (t:= .ao) (by simp[kV];omega)) ?_
 rw[alX hm hl.ps]
 have k2:dF 1 (BS (du l++r))=true:=qj
 have k3:(BS (du l++r)).drop (du l).length=BS r:=by rw[wW,tF rfl]
 have k5:(du l).length<=(du l++r).length:=by simp
 have k6:List.take ((du l++r).length-(du l).length) (BS r)=BS r:=List.take_of_length_le (by simp[b8])
 simp+decide only[st,xv,uF,Om,abo,abn,abm,Q3,Lb.c,bc,Ob.c,fT,oz,xr,b8,k2,k3,k5,k6]
 exact⟨rfl,fl.set⟩
def uO (q u n:Nat) (o:Ob):Nat->List UInt8×Ob
 |0=>([],{o with bf:=q,used:=u,next:=n})
 |1=>(be n 2,{o with bf:=q,used:=u})
 |2=>(be u 2++be n 2,{o with bf:=q})
 |_=>(be q 2++(be u 2++be n 2),o)
def bxP (rb:Nat):Nat->List (List AV)
 |0=>[]
 |1=>[[.ptr rb 10]]
 |2=>[[.ptr rb 9],[.ptr rb 10]]
 |_=>[[.ptr rb 8],[.ptr rb 9],[.ptr rb 10]]
theorem avQ (ok:ax P tb) {rb q u n:Nat} {o:Ob} {t:Nat->aH} {h:aa} (hg:cellsOf h rb=some (.vs (BS (be q 2++(be u 2++be n 2))) .ao::o.c t)) (LJ:rb<h.next) (hq:q<2^16) (hu:u<2^16) (hn:n<2^16):
 ∃h',an P 126 [.ptr rb 0] h (.int .i64 0) h'/\fl rb h h' (.vs (BS []) .ao::Ob.c {o with bf:=q,used:=u,next:=n} t):=by
 refine ok.dz (rf:=sF) rfl (Nat.le_of_ble_eq_true rfl) ?_
 have w1:IntKind.wrap .i64 (q:Int)=q:=bw (by omega) (by omega)
 have w2:IntKind.wrap .i64 (u:Int)=u:=bw (by omega) (by omega)
 have w3:IntKind.wrap .i64 (n:Int)=n:=bw (by omega) (by omega)
 simp+decide only[st,xv,sF,adt]
 let J:Nat->Env->aa->Prop:=fun m ρ H=>m<=3/\ρ 0= .ptr rb 0/\(∃t',ρ 3= .vs (bxP rb m) t')/\fl rb h H (.vs (BS (uO q u n o m).1) .ao::(uO q u n o m).2.c t)
 refine lQ 0 rfl rfl J (fun l' ρ h hk=>hk) ?_ ?_
 ·simp+decide only[st,xv,j7,List.foldr]
  refine bJ 14 rfl rfl ?_
  simp+decide only[st,xv,sF,ads,xr]
  exact⟨3,Nat.le_refl _,rfl,⟨_,rfl⟩,fl.clean ⟨hg,Nat.le_refl _,fun _ _ _=>rfl⟩ LJ⟩
 have step: ∀{x:Nat} {bs:List UInt8} {rest:List (List AV)} {off:Nat} {t':aH} {ρ:Env} {H:aa} {cs ds:List AV} {K:aQ->Env->aa->Prop},x<2^16->ρ 0= .ptr rb 0->ρ 3= .vs ([.ptr rb (off+1)]::rest) t'->dF 1 rest=true->fl rb h H (.vs (BS (be x 2++bs)) .ao::cs)->bs.length<2^10->off+1<=cs.length->List.take off cs++[.int .i64 x]++List.drop (off+1) cs=ds->
  (∀ρ' H',ρ' 0= .ptr rb 0->(∃t',ρ' 3= .vs rest t')->fl rb h H' (.vs (BS bs) .ao::ds)->K (.goto 0) ρ' H')->WP P (.seq (.seq (.af IJ) (.cond (Am.t 21) (.seq (.af Qx) .ret) .skip)) (.seq (.af II) (.seq (.seq (.af Qw) (.cond (Am.t 28) (.seq (.af adr) .ret) .skip)) (.seq (.aU Qv [[],[],[],[],[],[],[],[],[],[]]) (.goto 0))))) K ρ H:=by
  intro x bs rest off t' ρ H cs ds K hx r0 r3 hh ha uB eF mo hK
  have hw:IntKind.wrap .i64 (x:Int)=x:=bw (by omega) (by omega)
  simp+decide only[st,xv,sF,IJ,II,r0,r3,xr]
  refine aq (Kz ok ha.cell (n:=2) (by omega) (by simp[bW]) (by simp[bW];omega)) ?_
  rw[qe bW,tF bW,xe (by omega)]
  simp+decide only[st,xv,sF,II,Qw,r0]
  refine bJ 10 rfl rfl ?_
  have bY:=fl.clean (n:=10) (ha.trans (fl.set (cs:= .vs (BS bs) .ao::cs))) LJ
  have hc:=bY.cell
  have hh1:dF 1 ([.ptr rb (off+1)]::rest)=true:=rfl
  have k1:List.take (rest.length+1-1) rest=rest:=List.take_of_length_le (by omega)
  have hle:off+1+1<=cs.length+1:=by omega
  have hrH:rb<H.next:=by have:=ha.next;omega
  simp+decide only[st,xv,sF,Qv,r0,r3,hc,hw,k1,hle,mo,xr]
  refine⟨fun j hj hn=>?_,?_⟩
  ·simp only[aa.set,aa.clean]
   rw[if_neg (by omega)]
   exact if_neg (by omega)
  refine hK _ _ r0 ⟨_,rfl⟩ (bY.trans fl.set)
 rintro m ρ H ⟨hm3,r0,⟨t',r3⟩,ha⟩
 match m,hm3 with
 |0,_=>
  simp+decide only[st,xv,sF,IJ,Qx,r0,r3,bxP]
  exact⟨rfl,ha⟩
 |1,_=>exact step (rest:=[]) (off:=9) (bs:=[]) (cs:=(uO q u n o 1).2.c t) (ds:=(uO q u n o 0).2.c t) hn r0 r3 rfl (by simpa only[uO,List.append_nil] using ha) (by simp) (by simp[Ob.c]) rfl (fun ρ' H' h0 h3 h4=>⟨0,by omega,by omega,h0,h3,h4⟩)
 |2,_=>exact step (rest:=[[.ptr rb 10]]) (off:=8) (bs:=be n 2) (cs:=(uO q u n o 2).2.c t) (ds:=(uO q u n o 1).2.c t) hu r0 r3 rfl ha (by simp[bW]) (by simp[Ob.c]) rfl (fun ρ' H' h0 h3 h4=>⟨1,by omega,by omega,h0,h3,h4⟩)
 |3,_=>exact step (rest:=[[.ptr rb 9],[.ptr rb 10]]) (off:=7) (bs:=be u 2++be n 2) (cs:=(uO q u n o 3).2.c t) (ds:=(uO q u n o 2).2.c t) hq r0 r3 rfl ha (by simp[bW]) (by simp[Ob.c]) rfl (fun ρ' H' h0 h3 h4=>⟨2,by omega,by omega,h0,h3,h4⟩)
def jr (o:Ob):Ob:=if o.kind=1 then{o with data:=[],bu:=[],ring:=[],st:=oz} else if o.kind=2 then{bc with id:=o.id,kind:=o.kind,ak:=o.ak,data:=o.data} else if o.kind=3 then{bc with id:=o.id,kind:=o.kind,ak:=o.ak,bu:=o.bu} else{bc with id:=o.id,kind:=o.kind,ak:=o.ak,ring:=o.ring}
theorem asK (ok:ax P tb) {rb:Nat} {o:Ob} {h:aa} (k:Lo o) (hm:eY o=true) (hg:cellsOf h rb=some (.vs (BS (kH o)) .ao::Ob.c {bc with id:=o.id,kind:=o.kind,ak:=o.ak} (fT .ao .full .full .full))) (LJ:rb<h.next):
 ∃h',an P 79 [.ptr rb 0] h (.int .i64 0) h'/\ ∃t,fl rb h h' (.vs (BS []) .ao::(jr o).c t):=by
 refine ok.dz (rf:=p4) rfl (Nat.le_of_ble_eq_true rfl) ?_
 simp only[Ob.c] at hg
 unfold kH at hg
 by_cases h1:o.kind=1
 ·obtain⟨b1,b2,b3,b4,b5⟩:=uX hm h1
  rw[if_pos h1] at hg
  obtain⟨h',hc,ha⟩:=avQ ok (o:={bc with id:=o.id,kind:=o.kind,ak:=o.ak}) (t:=fT .ao .full .full .full) (by rw[hg,List.append_assoc];rfl) LJ (show o.bf.toNat<2^16 by omega) (show o.used.toNat<2^16 by omega) (show o.next.toNat<2^16 by omega)
  simp+decide only[st,xv,p4,Eb,Ea,D9,D8,R7,hg,h1]
  refine aq hc ?_
  simp+decide only[st,xv,p4,R7]
  refine⟨rfl,fT .ao .full .full .full,?_⟩
  have:jr o={bc with id:=o.id,kind:=o.kind,ak:=o.ak,bf:=o.bf.toNat,used:=o.used.toNat,next:=o.next.toNat}:=by
   unfold jr
   rw[if_pos h1,Int.toNat_of_nonneg (by omega),Int.toNat_of_nonneg (by omega),Int.toNat_of_nonneg (by omega)];rfl
  rw[this];exact ha
 rw[if_neg h1] at hg
 by_cases h2:o.kind=2
 ·have hd:=tE hm h2
  rw[if_pos h2] at hg
  have e:jr o={bc with id:=o.id,kind:=o.kind,ak:=o.ak,data:=o.data}:=by unfold jr;rw[if_neg h1,if_pos h2]
  have ht:=Xh ok (b:=ei o.data) (t:= .ao) (h:=h) (by simp[ei,bW];omega)
  have hp:=Xk (s:=o.data) (r:=[]) (by omega)
  rw[List.append_nil] at hp
  rw[hp] at ht
  have k2:dF 1 (BS (ei o.data))=true:=qj
  have k3:(BS (ei o.data)).drop (ei o.data).length=[]:=List.drop_of_length_le (by rw[b8];omega)
  simp+decide only[st,xv,p4,Eb,Ea,D9,D8,JP,R6,hg,h2]
  refine aq ht ?_
  simp+decide only[st,xv,p4,R6,H4,HZ,hg,Hy,xr,k2,k3,b8,List.take_nil]
  refine⟨rfl,fT .ao .ao .full .full,?_⟩
  rw[e];exact fl.set
 rw[if_neg h2] at hg
 by_cases h3:o.kind=3
 ·have hc:=G6 hm h3
  have dj:=Hq hc
  rw[if_pos h3] at hg
  have e:jr o={bc with id:=o.id,kind:=o.kind,ak:=o.ak,bu:=o.bu}:=by unfold jr;rw[if_neg h1,if_neg h2,if_pos h3]
  have ht:=akA ok (b:=jX o.bu) (t:= .ao) (h:=h) (by rw[Ck];omega)
  have hp:=aj2 (l:=o.bu) (r:=[]) hc k.cat
  rw[List.append_nil] at hp
  rw[hp] at ht
  have k2:dF 1 (BS (jX o.bu))=true:=qj
  have k3:(BS (jX o.bu)).drop (jX o.bu).length=[]:=List.drop_of_length_le (by rw[b8];omega)
  simp+decide only[st,xv,p4,Eb,Ea,D9,D8,JP,R5,R4,hg,h3]
  refine aq ht ?_
  simp+decide only[st,xv,p4,R4,H4,HZ,hg,NX,xr,k2,k3,b8,List.take_nil]
  refine⟨rfl,fT .ao .full .ao .full,?_⟩
  rw[e];exact fl.set
 rw[if_neg h3] at hg
 have h4:o.kind=4:=by rcases uU hm with h|h|h|h<;>first|exact absurd h ‹_› |exact h
 have hr:=zw hm h4
 have iJ:=wP hr
 have e:jr o={bc with id:=o.id,kind:=o.kind,ak:=o.ak,ring:=o.ring}:=by unfold jr;rw[if_neg h1,if_neg h2,if_neg h3]
 have hp:=aj1 (l:=o.ring) (r:=[]) hr (fun x hx=>by have:=iJ.2 x hx;omega)
 rw[List.append_nil] at hp
 have uu:(jo o.ring).length<2^20:=by
  have bH: ∀(m:List (List UInt8)),(∀x∈m,x.length<=16)->(m.flatMap ei).length<=18*m.length:=by
   intro m
   induction m with
   |nil=>intro _;simp
   |cons c m ih=>
    intro hm
    have h1:=ih (fun x hx=>hm x (List.mem_cons_of_mem _ hx))
    have h2:=hm c (List.mem_cons_self ..)
    simp only[List.flatMap_cons,List.length_append,ei,bW,List.length_cons] at h1 ⊢;omega
  have:=bH o.ring iJ.2
  unfold jo
  rw[List.length_append,bW];omega
 have ht:=aj8 ok (b:=jo o.ring) (t:= .ao) (h:=h) uu
 rw[hp] at ht
 have k2:dF 1 (BS (jo o.ring))=true:=qj
 have k3:(BS (jo o.ring)).drop (jo o.ring).length=[]:=List.drop_of_length_le (by rw[b8];omega)
 simp+decide only[st,xv,p4,Eb,Ea,D9,D8,JP,R5,R3,hg,h4]
 refine aq ht ?_
 simp+decide only[st,xv,p4,R3,H4,HZ,hg,NV,xr,k2,k3,b8,List.take_nil]
 refine⟨rfl,fT .ao .full .full .ao,?_⟩
 rw[e];exact fl.set
theorem akb (ok:ax P tb) {o:Ob} {t:aH} {h:aa} (k:Lo o) (hm:eY o=true) (hn:jr o=o):an P 46 [.vs (BS (me o)) t] h (.az [.agg (o.c aK), .int .i64 0]) h:=by
 refine an.ao ?_
 rw[show AV.bA [.vs (BS (me o)) t]=[.vs (BS (me o)) .ao] by simp only[AV.bA,amO]]
 refine ok.eM (rf:=uJ) rfl (Nat.le_of_ble_eq_true rfl) (by simp only[AV.bB,AV.bX,u9];rfl) ?_
 simp+decide only[st,xv,uJ,agJ]
 refine MZ (Jc ?_)
 simp+decide only[st,xv,uJ,agI,Tw]
 generalize hX:aa.at _ _ _=X
 have xo:Old h X:=by rw[<-hX];exact((Old.refl h).at (Nat.le_refl _)).at (by omega)
 have x0:cellsOf X h.next=some (bc.c (fT .full .full .full .full)):=by rw[<-hX];exact av (by simp[aa.at];rfl)
 have x1:cellsOf X (h.next+1)=some (.vs (BS (me o)) .ao::bc.c (fT .full .full .full .full)):=by rw[<-hX];exact av (by simp[aa.at];rfl)
 have xn:X.next=h.next+2:=by rw[<-hX];simp[aa.at]
 obtain⟨kk,hk,oM,BC⟩: ∃kk:UInt8,o.kind=kk.toNat/\1<=kk.toNat/\kk.toNat<=4:=by
  rcases uU hm with h|h|h|h<;>rw[h]
  ·exact⟨1,rfl,by decide⟩
  ·exact⟨2,rfl,by decide⟩
  ·exact⟨3,rfl,by decide⟩
  ·exact⟨4,rfl,by decide⟩
 have sU:UInt8.ofNat o.kind.toNat=kk:=by rw[hk];simp
 have hpt:(kH o).length<2^18:=by
  unfold kH
  split
  ·simp[bW]
  split
  ·rename_i h2;have:=tE hm h2;simp[ei,bW];omega
  split
  ·rename_i h3;have:=Hq (G6 hm h3);rw[Ck];omega
  ·rename_i h1 h2 h3
   have h4:o.kind=4:=by rcases uU hm with h|h|h|h<;>first|exact absurd h ‹_› |exact h
   have iJ:=wP (zw hm h4)
   have bH: ∀(m:List (List UInt8)),(∀x∈m,x.length<=16)->(m.flatMap ei).length<=18*m.length:=by
    intro m
    induction m with
    |nil=>intro _;simp
    |cons c m ih=>
     intro hm
     have h1:=ih (fun x hx=>hm x (List.mem_cons_of_mem _ hx))
     have h2:=hm c (List.mem_cons_self ..)
     simp only[List.flatMap_cons,List.length_append,ei,bW,List.length_cons] at h1 ⊢;omega
   have:=bH o.ring iJ.2
   unfold jo
   rw[List.length_append,bW];omega
 obtain⟨H1,bn,a1⟩:=asL ok (rb:=h.next+1) (h:=X) (r:=kH o) (id:=o.id) (k:=kk) (l:=o.ak) (by rw[x1];unfold me;rw[sU]) k.id ⟨oM,BC⟩ (Nl hm).1 k.ak hpt
 rw[<-hk] at a1
 refine aq bn ?_
 simp+decide only[st,xv,uJ,Tw,agH,Tv]
 obtain⟨H2,bk,t2,a2⟩:=asK ok k hm a1.cell (by have:=a1.next;omega)
 rw[hn] at a2
 refine aq bk ?_
 have a3:=a1.trans a2
 have c3:=a3.cell
 have z3:cellsOf H2 h.next=some (bc.c (fT .full .full .full .full)):=by rw[<-x0];unfold cellsOf;rw[a3.old _ (by omega) (by omega)]
 simp only[Ob.c] at c3 z3
 simp+decide only[st,xv,uJ,Tv,agG,Tu,c3]
 refine aq (Yy (o:=o) (t:=t2) ok k.ak k.id (by have:=k.bu;omega) (by have:=k.ring;omega)) ?_
 rw[hm]
 simp+decide only[st,xv,uJ,Tu,agF,c3,z3,xr,xi,bE,bc,oz]
 refine⟨?_,fun b hb=>?_⟩
 ·show(AV.az [.agg (o.c t2), .int .i64 0]).strip=_
  simp only[AV.strip,AV.bA,zz]
 ·rw[if_neg (by omega),a3.old _ (by omega) (by omega)]
  exact xo.get b hb
end
section
open Go
variable {P:Program} {h:aa} {bm bl:Nat} {fs:List Fr}
def iT (fs:List Fr) (f:Int):Option Nat:=if 0<=f then(match fs[f.toNat]? with|some x=>if x.taken then some f.toNat else none|none=>none) else none
def pC:Option Nat->Nat->AV
 |some i,bl=> .az [.ptr bl (i*17), .int .i64 0]
 |none,_=> .az [.nil, .int .i64 7]
theorem YG (ok:ax P tb) (M:eS h bm bl fs) (hb:bl<h.next) (f:Int):an P 136 [.ptr bm 0, .int .i64 f] h (pC (iT fs f) bl) h:=by
 have h1:=M.top
 have h2:=M.row
 refine ok.keeps (rf:=vZ) rfl (Nat.le_of_ble_eq_true rfl) ?_ ?_
 ·unfold pC;split<;>simp[AV.bB,AV.bX,hb]
 have hc:=av h1
 have bk:=av h2
 by_cases h0:f<0
 ·have:iT fs f=none:=by simp[iT];omega
  rw[this]
  simp+decide only[st,vZ,Dq,Dp,Dm,Dl,Dk,Dj,pC,h0]
 ·obtain⟨n,rfl⟩:=Int.eq_ofNat_of_zero_le (show 0<=f by omega)
  by_cases hn:n<fs.length
  ·have hf:fs[n]? =some fs[n]:=List.getElem?_eq_getElem hn
   have ht:=M.taken hf
   have hle: ¬fs.length<=n:=by omega
   cases hk:fs[n].taken
   ·have:iT fs n=none:=by simp[iT,hf,hk]
    rw[this]
    rw[hk] at ht
    simp+decide only[st,vZ,Dq,Dp,Dm,Dl,Dk,Dj,pC,hc,bk,hn,hle,ht]
   ·have:iT fs n=some n:=by simp[iT,hf,hk]
    rw[this]
    rw[hk] at ht
    simp+decide only[st,vZ,Dq,Dp,Dm,Dl,Dk,Dj,pC,hc,bk,hn,hle,ht]
  ·have:iT fs n=none:=by simp[iT,List.getElem?_eq_none (show fs.length<=n by omega)]
   rw[this]
   have hle:fs.length<=n:=by omega
   simp+decide only[st,vZ,Dq,Dp,Dm,Dl,Dk,Dj,pC,hc,bk,hn,hle]
def k8 (fs:List Fr) (f off:Int):Option (Nat×Nat)×Int:=match iT fs f with
 |none=>(none,7)
 |some i=>if off<0\/16<=off then(none,11) else(some (i,off.toNat),0)
def rQ (bl:Nat):Option (Nat×Nat)->AV
 |none=> .nil
 |some (i,j)=> .ptr bl (i*17+j)
theorem Na {f:Int} {i:Nat} (e:iT fs f=some i): ∃x,fs[i]? =some x/\x.taken=true/\f=i:=by
 unfold iT at e
 split at e
 ·split at e
  ·rename_i x hx
   split at e
   ·rename_i h1 h2;cases e;exact⟨x,hx,h2,by omega⟩
   ·cases e
  ·cases e
 ·cases e
theorem YQ (ok:ax P tb) (M:eS h bm bl fs) (hb:bl<h.next) (f off:Int):
 an P 91 [.ptr bm 0, .int .i64 f, .int .i64 off] h (.az [rQ bl (k8 fs f off).1, .int .i64 (k8 fs f off).2]) h:=by
 have kB:=YG ok M hb f
 have hc:=av M.top
 refine ok.keeps (rf:=BT) rfl (Nat.le_of_ble_eq_true rfl) ?_ ?_
 ·unfold rQ;split<;>simp[AV.bB,AV.bX,hb]
 unfold k8
 cases e:iT fs f with
 |none=>
  rw[e] at kB
  simp+decide only[st,BT,RH,RG,RF,RE,RD,RC,RB]
  refine aq kB ?_
  simp+decide only[st,pC,rQ]
 |some i=>
  rw[e] at kB
  simp+decide only[st,BT,RH,RG,RF,RE,RD,RC,RB]
  refine aq kB ?_
  by_cases h0:off<0
  ·simp+decide only[st,pC,rQ,h0,true_or]
  ·by_cases h1:16<=off
   ·simp+decide only[st,pC,rQ,h0,h1,or_true]
   ·obtain⟨j,rfl⟩:=Int.eq_ofNat_of_zero_le (show 0<=off by omega)
    have h2:(j:Int)<(16:Nat):=by omega
    simp+decide only[st,pC,rQ,h0,h1,or_self,h2,Nat.mul_one]
theorem eS.byte (M:eS h bm bl fs) {i j:Nat} {x:Fr} (hi:fs[i]? =some x) (hj:j<16):(fs.map Fr.enc).flatten[i*17+j]? =(x.b[j]?).map (.int .u8):=by
 have hx:=M.len x (List.mem_of_getElem? hi)
 rw[wT M.rows (row:=x.enc) (by simp[hi]) (by omega)]
 simp[Fr.enc,List.getElem?_append_left (show j<(x.b.map (AV.int .u8)).length by simp[hx];omega)]
theorem X9 {f off:Int} {i j:Nat} {e:Int} (hb:k8 fs f off=(some (i,j),e)):e=0/\j<16/\f=i/\off=j/\ ∃x,fs[i]? =some x/\x.taken=true:=by
 unfold k8 at hb
 split at hb
 ·cases hb
 ·rename_i k hk
  obtain⟨x,h1,h2,h3⟩:=Na hk
  split at hb
  ·cases hb
  ·cases hb
   exact⟨rfl,by omega,h3,by omega,x,h1,h2⟩
theorem Ya {f off:Int} {e:Int} (hb:k8 fs f off=(none,e)):e≠0:=by
 unfold k8 at hb
 split at hb
 ·cases hb;decide
 ·split at hb
  ·cases hb;decide
  ·cases hb
def zN (fs:List Fr) (f off:Int):Int×Int:=match k8 fs f off with
 |(none,e)=>(0,e)
 |(some (i,j),e)=>(((fs[i]?).bind fun x=>x.b[j]?).getD 0,e)
theorem ak9 (ok:ax P tb) (M:eS h bm bl fs) (hb:bl<h.next) (f off:Int):
 an P 81 [.ptr bm 0, .int .i64 f, .int .i64 off] h (.az [.int .u8 (zN fs f off).1, .int .i64 (zN fs f off).2]) h:=by
 have uA:=YQ ok M hb f off
 have bk:=av M.row
 refine ok.keeps (rf:=BU) rfl (Nat.le_of_ble_eq_true rfl) rfl ?_
 unfold zN
 rcases hq:k8 fs f off with⟨_|⟨i,j⟩,e⟩
 ·have he:=Ya hq
  rw[hq] at uA
  simp+decide only[st,BU,RU,RT,RS,RR,RQ]
  refine aq uA ?_
  simp+decide only[st,rQ,he]
 ·obtain⟨rfl,hj,rfl,rfl,x,hx,_⟩:=X9 hq
  have mY:=M.len x (List.mem_of_getElem? hx)
  have bq:=M.byte hx hj
  rw[List.getElem?_eq_getElem (show j<x.b.length by omega)] at bq
  rw[hq] at uA
  simp+decide only[st,BU,RU,RT,RS,RR,RQ]
  refine aq uA ?_
  simp+decide only[st,rQ,bk,bq,hx,List.getElem?_eq_getElem (show j<x.b.length by omega),Option.getD_some]
def gy (h:aa) (bl:Nat) (fs:List Fr):aa:=h.set bl (some (.cells (fs.map Fr.enc).flatten))
theorem eS.lp (M:eS h bm bl fs) {gs:List Fr} (h1:gs.length=fs.length) (h2: ∀f∈gs,f.b.length=16):eS (gy h bl gs) bm bl gs where
 top:=by simp[gy,aa.set,M.ne,M.top,h1]
 row:=by simp[gy,aa.set]
 ne:=M.ne
 len:=h2
 small:=by rw[h1];exact M.small
theorem eS.same (M:eS h bm bl fs):gy h bl fs=h:=aa.gj M.row
def qi (fs:List Fr) (f off b:Int):List Fr:=match k8 fs f off with
 |(none,_)=>fs
 |(some (i,j),_)=>match fs[i]? with
  |none=>fs
  |some x=>fs.set i {x with b:=x.b.set j b}
theorem Xl {α:Type} {l:List α} {j:Nat} {v:α} (hj:j<l.length):l.take j++[v]++l.drop (j+1)=l.set j v:=by
 rw[List.set_eq_take_append_cons_drop];simp[hj]
theorem aj3 (ok:ax P tb) (M:eS h bm bl fs) (hb:bl<h.next) (f off b:Int):
 an P 61 [.ptr bm 0, .int .i64 f, .int .i64 off, .int .u8 b] h (.int .i64 (k8 fs f off).2) (gy h bl (qi fs f off b)):=by
 have uA:=YQ ok M hb f off
 have bk:=av M.row
 refine ok.calls (rf:=BX) rfl (Nat.le_of_ble_eq_true rfl) ?_
 unfold qi
 rcases hq:k8 fs f off with⟨_|⟨i,j⟩,e⟩
 ·have he:=Ya hq
  rw[hq] at uA
  simp+decide only[st,BX,S5,S0,SZ,SY,SX]
  refine aq uA ?_
  simp+decide only[st,rQ,he,M.same]
 ·obtain⟨rfl,hj,rfl,rfl,x,hx,_⟩:=X9 hq
  have mY:=M.len x (List.mem_of_getElem? hx)
  rw[hq] at uA
  have qE:=Cx (v:=[AV.int .u8 b]) M.rows (i:=i) (j:=j) (row:=x.enc) (by simp[hx]) (by simp;omega)
  have hlen:=zA M.rows
  have hi:=(List.getElem?_eq_some_iff.1 hx).1
  have hle:i*17+j+1<=(fs.map Fr.enc).flatten.length:=by rw[hlen];simp;omega
  have cw:x.enc.take j++[AV.int .u8 b]++x.enc.drop (j+1)=Fr.enc {x with b:=x.b.set j b}:=by
   rw[Xl (by rw[Fr.CF mY];omega)]
   simp[Fr.enc,List.set_append,mY,hj]
  simp only[List.length_singleton] at qE
  rw[cw] at qE
  simp+decide only[st,BX,S5,S0,SZ,SY,SX]
  refine aq uA ?_
  simp only[List.map_set,hx,gy]
  rw[<-qE]
  simp+decide only[st,rQ,bk,hle,List.append_assoc]
def jG (fs:List Fr) (f:Int):List Fr:=match iT fs f with
 |none=>fs
 |some i=>match fs[i]? with
  |none=>fs
  |some x=>fs.set i {x with taken:=false}
theorem alp (ok:ax P tb) (M:eS h bm bl fs) (hb:bl<h.next) (f:Int):
 an P 168 [.ptr bm 0, .int .i64 f] h (.int .i64 (if(iT fs f).isSome then 0 else 7)) (gy h bl (jG fs f)):=by
 have kB:=YG ok M hb f
 have bk:=av M.row
 refine ok.calls (rf:=A7) rfl (Nat.le_of_ble_eq_true rfl) ?_
 unfold jG
 cases e:iT fs f with
 |none=>
  rw[e] at kB
  simp+decide only[st,A7,Pj,Ph,Pg,Pf,Pe]
  refine aq kB ?_
  simp+decide only[st,pC,M.same,Option.isSome]
 |some i=>
  obtain⟨x,hx,_,rfl⟩:=Na e
  have mY:=M.len x (List.mem_of_getElem? hx)
  rw[e] at kB
  have qE:=Cx (v:=[AV.bool false]) M.rows (i:=i) (j:=16) (row:=x.enc) (by simp[hx]) (by simp)
  have hlen:=zA M.rows
  have hi:=(List.getElem?_eq_some_iff.1 hx).1
  have hle:i*17+16+1<=(fs.map Fr.enc).flatten.length:=by rw[hlen];simp;omega
  have cw:x.enc.take 16++[AV.bool false]++x.enc.drop (16+1)=Fr.enc {x with taken:=false}:=by
   rw[Xl (by rw[Fr.CF mY];omega)]
   simp[Fr.enc,List.set_append,mY]
  simp only[List.length_singleton] at qE
  rw[cw] at qE
  simp+decide only[st,A7,Pj,Ph,Pg,Pf,Pe]
  refine aq kB ?_
  simp only[List.map_set,hx,gy]
  rw[<-qE]
  simp+decide only[st,pC,bk,hle,List.append_assoc,Option.isSome]
def pn (fs:List Fr):Option Nat:=fs.findIdx? fun f=>!f.taken
def iN (fs:List Fr):List Fr:=match pn fs with
 |none=>fs
 |some i=>fs.set i ⟨List.replicate 16 0,true⟩
theorem amh (ok:ax P tb) (M:eS h bm bl fs):an P 89 [.ptr bm 0] h (.int .i64 fs.length) h:=by
 have hc:=av M.top
 refine ok.keeps (rf:=GB) rfl (Nat.le_of_ble_eq_true rfl) rfl ?_
 simp+decide only[st,GB,aeU,aeT,aeS,aeR,hc]
theorem akS (ok:ax P tb) (M:eS h bm bl fs):
 an P 59 [.ptr bm 0] h (match pn fs with|some i=> .az [.int .i64 i, .int .i64 0]|none=> .az [.int .i64 0, .int .i64 9]) (gy h bl (iN fs)):=by
 have hc:=av M.top
 have bk:=av M.row
 have yM:=M.small
 refine ok.calls (rf:=wH) rfl (Nat.le_of_ble_eq_true rfl) ?_
 simp+decide only[st,wH,Eo,En,Em,El,Ek,Ej,Ei,Eh,Eg,Ef,CW,hc]
 let I:Nat->Env->aa->Prop:=fun n ρ h'=>h'=h/\ ∃i:Nat,fs.length=i+n/\ρ 0= .ptr bm 0/\ρ 11= .int .i64 fs.length/\ρ 12= .int .i64 i/\ ∀j,j<i-> ∀x,fs[j]? =some x->x.taken=true
 refine dn I ?_ fs.length ⟨rfl,0,by omega,rfl,rfl,rfl,fun j hj=>by omega⟩
 rintro n ρ h' ⟨rfl,i,aE,r0,eU,fX,gM⟩
 by_cases hi:i<fs.length
 ·have hx:fs[i]? =some fs[i]:=List.getElem?_eq_getElem hi
  have bq:=M.taken hx
  have mY:=M.len _ (List.mem_of_getElem? hx)
  cases mZ:fs[i].taken
  ·have hl:pn fs=some i:=by
    unfold pn
    rw[List.findIdx?_eq_some_iff_getElem]
    exact⟨hi,by simp[mZ],fun j hj=>by simpa using gM j hj _ (List.getElem?_eq_getElem (by omega))⟩
   rw[mZ] at bq
   have qE:=Cx (v:=Fr.enc ⟨List.replicate 16 0,true⟩) M.rows (i:=i) (j:=0) (row:=fs[i].enc) (by simp[hx]) (by simp[Fr.enc])
   have hlen:=zA M.rows
   have hle:i*17+17<=(fs.map Fr.enc).flatten.length:=by rw[hlen];simp;omega
   have cw:fs[i].enc.take 0++Fr.enc ⟨List.replicate 16 0,true⟩++fs[i].enc.drop (0+(Fr.enc ⟨List.replicate 16 0,true⟩).length)=Fr.enc ⟨List.replicate 16 0,true⟩:=by
    rw[List.drop_of_length_le (by rw[Fr.CF mY];simp[Fr.enc])];simp
   rw[cw] at qE
   simp only[Fr.enc,List.replicate,List.map,List.cons_append,List.nil_append,List.length,Nat.add_zero,Nat.reduceAdd] at qE
   simp+decide only[st,wH,Eo,En,Em,El,Ek,Ej,Ei,Eh,Eg,Ef,CW,r0,eU,fX,hi,hc,bk,bq,hl,hle,Nat.reduceAdd]
   simp only[iN,hl,gy,List.map_set,Fr.enc,List.replicate,List.map,List.cons_append,List.nil_append]
   rw[<-qE]
  ·rw[mZ] at bq
   have hw:IntKind.wrap .i64 ((i:Int)+1)=((i+1:Nat):Int):=by rw[bw]<;>omega
   simp+decide only[st,wH,Eo,En,Em,El,Ek,Ej,Ei,Eh,Eg,Ef,CW,r0,eU,fX,hi,hc,bk,bq,hw]
   refine⟨n-1,by omega,rfl,i+1,by omega,?_,?_,?_,fun j hj x Gg=>?_⟩
   ·simp+decide only[st,r0]
   ·simp+decide only[st,eU]
   ·simp+decide only[st]
   ·by_cases d7:j=i
    ·subst d7;rw[hx] at Gg;cases Gg;exact mZ
    ·exact gM j (by omega) x Gg
 ·have cP:i=fs.length:=by omega
  have hl:pn fs=none:=by
   unfold pn
   rw[List.findIdx?_eq_none_iff]
   intro x hx
   obtain⟨j,hj⟩:=List.mem_iff_getElem?.1 hx
   have:=gM j (by rw[cP];exact(List.getElem?_eq_some_iff.1 hj).1) x hj
   simp[this]
  simp+decide only[st,wH,Eo,En,Em,El,Ek,Ej,Ei,Eh,Eg,Ef,CW,r0,eU,fX,hi,hl]
  simp only[iN,hl,M.same]
theorem aog (ok:ax P tb) (M:eS h bm bl fs) (aC:bm<h.next/\bl<h.next):an P 90 [.ptr bm 0] h (.int .i64 (dQ fs)) h:=akP ok rfl M aC
def vt (n:Int):Nat:=(max 0 (min n 512)).toNat
theorem amc (ok:ax P tb) (n:Int):an P 49 [.int .i64 n] h (.ptr (h.next+1) 0)
 ((h.at h.next (.cells (List.replicate (vt n) (Fr.enc ⟨List.replicate 16 0,false⟩)).flatten)).at (h.next+1) (.cells [.rs h.next 0 (vt n) 17])):=by
 refine ok.calls (rf:=GG) rfl (Nat.le_of_ble_eq_true rfl) ?_
 have hm:lT 17 (.int .i64 (max 0 (min n 512))) (.int .i64 (max 0 (min n 512)))=some (vt n):=by
  unfold lT vt
  simp only[]
  rw[if_pos ⟨by omega,trivial,by omega,by omega⟩]
 simp+decide only[st,GG,agE,agD,hm,Nat.reduceAdd]
 simp[Fr.enc,List.replicate]
def F0:Fr:=⟨List.replicate 16 0,false⟩
theorem aot (ok:ax P tb) (h:aa) (n:Int): ∃bm bl h',an P 49 [.int .i64 n] h (.ptr bm 0) h'/\eS h' bm bl (List.replicate (vt n) F0)/\h.next<=bm/\h.next<=bl/\bm<h'.next/\bl<h'.next/\h.next<=h'.next/\ ∀b,b<h.next->h'.get b=h.get b:=by
 refine⟨h.next+1,h.next,_,amc ok n,⟨?_,?_,?_,?_,?_⟩,by omega,by omega,?_,?_,?_,?_⟩
 ·simp[aa.at]
 ·simp[aa.at,F0]
 ·omega
 ·intro f hf;simp[List.mem_replicate] at hf;simp[hf.2,F0]
 ·simp[vt];omega
 ·simp[aa.at]
 ·simp[aa.at];omega
 ·simp[aa.at];omega
 ·intro b hb;simp[aa.at,show b≠h.next by omega,show b≠h.next+1 by omega]
theorem MU:(iN fs).length=fs.length:=by unfold iN;split<;>simp
theorem Ns (hl: ∀f∈fs,f.b.length=16): ∀f∈iN fs,f.b.length=16:=by
 unfold iN
 split
 ·exact hl
 ·intro f hf
  rcases List.mem_or_eq_of_mem_set hf with hf|rfl
  ·exact hl f hf
  ·simp
theorem X8 {f off b:Int}:(qi fs f off b).length=fs.length:=by unfold qi;split<;>first|rfl|(split<;>simp)
theorem Zd {f off b:Int} (hl: ∀f∈fs,f.b.length=16): ∀x∈qi fs f off b,x.b.length=16:=by
 unfold qi
 split
 ·exact hl
 ·split
  ·exact hl
  ·rename_i x hx
   intro y hy
   rcases List.mem_or_eq_of_mem_set hy with hy|rfl
   ·exact hl y hy
   ·simp[hl x (List.mem_of_getElem? hx)]
theorem MW {f:Int}:(jG fs f).length=fs.length:=by unfold jG;split<;>first|rfl|(split<;>simp)
theorem Nt {f:Int} (hl: ∀f∈fs,f.b.length=16): ∀x∈jG fs f,x.b.length=16:=by
 unfold jG
 split
 ·exact hl
 ·split
  ·exact hl
  ·rename_i x hx
   intro y hy
   rcases List.mem_or_eq_of_mem_set hy with hy|rfl
   ·exact hl y hy
   ·simp[hl x (List.mem_of_getElem? hx)]
theorem eS.take (M:eS h bm bl fs):eS (gy h bl (iN fs)) bm bl (iN fs):=M.lp MU (Ns M.len)
theorem eS.store (M:eS h bm bl fs) (f off b:Int):eS (gy h bl (qi fs f off b)) bm bl (qi fs f off b):=M.lp X8 (Zd M.len)
theorem eS.free (M:eS h bm bl fs) (f:Int):eS (gy h bl (jG fs f)) bm bl (jG fs f):=M.lp MW (Nt M.len)
end
section
open Go
structure Tb where
 l:List Nat
 n:Nat
def dU (l:List Nat):List (List AV):=l.map fun(f:Nat)=>[AV.int .i64 f]
def Tb.enc (t:Tb):AV:= .agg [.vs (dU t.l) .ao, .int .i64 t.n]
def uQ:AV:= .agg [.vs [] .ao, .int .i64 0]
abbrev iV:=List (Int×Tb)
def ny (ts:iV):List (AV×AV):=ts.map fun e=>(.int .u64 e.1,e.2.enc)
def eG (ts:iV) (id:Int):Option Tb:=(ts.find? fun e=>id==e.1).map (·.2)
def sq (ts:iV) (id:Int):Option Nat:=ts.findIdx? fun e=>id==e.1
theorem G1 {id:Int}: ∀(ts:iV) (i:Nat),mM (.int .u64 id) (ny ts) i=some ((sq ts id).map (· +i))
 |[],i=>rfl
 |e::ts,i=>by
  have ih:=G1 (id:=id) ts (i+1)
  simp only[ny,List.map_cons,mM,if_true,sq,List.findIdx?_cons] at ih ⊢
  by_cases h:(id==e.1)=true
  ·simp[h]
  ·have h':(id==e.1)=false:=by simpa using h
   simp only[h',if_false,Bool.false_eq_true]
   rw[ih]
   simp only[Option.map_map]
   congr 2
   funext x
   simp[Nat.add_comm,Nat.add_left_comm]
theorem MB {id:Int} {ts:iV}:u2 (.int .u64 id) (ny ts)=some ((eG ts id).map Tb.enc):=by
 unfold u2
 rw[G1]
 simp only[Option.map_some,Option.some.injEq]
 unfold sq eG
 induction ts with
 |nil=>rfl
 |cons e ts ih=>
  simp only[List.findIdx?_cons,List.find?_cons]
  by_cases h:(id==e.1)=true
  ·simp[h,ny]
  ·have h':(id==e.1)=false:=by simpa using h
   simp only[h',if_false,Bool.false_eq_true]
   rw[<-ih]
   cases ts.findIdx? (fun e=>id==e.1)<;>simp[ny]
structure dY (h:aa) (bs bm bl bp:Nat) (fs:List Fr) (ts:iV):Prop where
 top:h.get bs=some (.cells [.ptr bm 0, .map (some bp)])
 mem:eS h bm bl fs
 map:h.get bp=some (.map (ny ts))
 n1:bs≠bm
 n2:bs≠bl
 n3:bs≠bp
 n4:bp≠bm
 n5:bp≠bl
 l1:bs<h.next
 l2:bm<h.next
 l3:bl<h.next
 l4:bp<h.next
 tn: ∀e∈ts,e.2.n<=64/\e.2.l.length=(e.2.n+15)/16
variable {P:Program} {h:aa} {bs bm bl bp:Nat} {fs:List Fr} {ts:iV}
theorem dY.look (S:dY h bs bm bl bp fs ts) (id:Int) (h':aa) (hh:h'.get bp=h.get bp):pj (.agg [.vs [] .full, .int .i64 0]) true h' (.map (some bp)) (.int .u64 id)=
 some (match eG ts id with|some t=> .az [t.enc, .bool true]|none=> .az [.agg [.vs [] .full, .int .i64 0], .bool false]):=by
 unfold pj
 simp only[hh,S.map,MB,Option.map_some]
 cases eG ts id<;>rfl
def qu:Option Tb->AV
 |some t=> .az [t.enc, .int .i64 0]
 |none=> .az [uQ, .int .i64 7]
theorem G0: ∀(l:List Nat),AV.fy (dU l)=dU l
 |[]=>rfl
 |x::xs=>by
  have:=G0 xs
  simp only[dU,List.map_cons,AV.fy,AV.bA,AV.strip] at this ⊢
  rw[this]
theorem Zb {p:Nat->Bool}: ∀(l:List Nat),AV.iA p (dU l)=true
 |[]=>rfl
 |x::xs=>by
  have:=Zb (p:=p) xs
  simp only[dU,List.map_cons,AV.iA,AV.bX,AV.bB,Bool.and_true,Bool.true_and] at this ⊢
  exact this
theorem Tb.Z8 {p:Nat->Bool} {t:Tb}:t.enc.bB p=true:=by simp only[Tb.enc,AV.bB,AV.bX,Zb,Bool.and_self]
theorem ak1 {p:Nat->Bool} {o:Option Tb}:(qu o).bB p=true:=by
 cases o
 ·rfl
 ·simp only[qu,AV.bB,AV.bX,Tb.Z8,Bool.and_self]
theorem Nm (ok:ax P tb) (S:dY h bs bm bl bp fs ts) (id:Int):an P 80 [.ptr bs 0, .int .u64 id] h (qu (eG ts id)) h:=by
 have hc:=av S.top
 have hk:=fun h' hh=>S.look id h' hh
 have l1:=S.l1
 have l4:=S.l4
 have n1: ¬bs=h.next:=by omega
 have n4: ¬bp=h.next:=by omega
 have aM: ∀b,b<h.next-> ¬b=h.next:=fun b hb=>by omega
 have ot: ∀b,b<h.next-> ¬b=h.next+1:=fun b hb=>by omega
 have e1: ¬h.next=h.next+1:=by omega
 have e2: ¬h.next+1=h.next:=by omega
 refine ok.eM (rf:=BV) rfl (Nat.le_of_ble_eq_true rfl) ak1 ?_
 cases dD:eG ts id with
 |none=>
  simp only[dD] at hk
  simp+decide only[st,BV,R1,R0,RZ,RY,RX,RW,RV,hc,n1,n4,hk,e1,e2,bE,AV.strip,AV.bA,AV.fy,qu,uQ]
  intro b hb
  simp+decide only[st,aM b hb,ot b hb]
 |some t=>
  simp only[dD] at hk
  have lZ:t.enc.cells=[.vs (dU t.l) .ao, .int .i64 t.n]:=rfl
  have Gp:AV.agg [.vs (dU t.l) .ao, .int .i64 t.n]=t.enc:=rfl
  simp+decide only[st,BV,R1,R0,RZ,RY,RX,RW,RV,hc,n1,n4,hk,e1,e2,bE,lZ,AV.strip,AV.bA,AV.fy,G0,qu,Tb.enc]
  intro b hb
  simp+decide only[st,aM b hb,ot b hb]
theorem G3 {id:Int} {t:Tb} (e:eG ts id=some t): ∃x∈ts,x.1=id/\x.2=t:=by
 unfold eG at e
 obtain⟨x,h1,h2⟩:=Option.map_eq_some_iff.1 e
 exact⟨x,List.mem_of_find?_eq_some h1,by have:=List.find?_some h1;simp at this;exact this.symm,h2⟩
theorem dY.small (S:dY h bs bm bl bp fs ts) {id:Int} {t:Tb} (e:eG ts id=some t):t.n<=64:=by
 obtain⟨x,h1,_,rfl⟩:=G3 e
 exact(S.tn x h1).1
theorem dY.UU (S:dY h bs bm bl bp fs ts) {id:Int} {t:Tb} (e:eG ts id=some t):t.l.length=(t.n+15)/16:=by
 obtain⟨x,h1,_,rfl⟩:=G3 e
 exact(S.tn x h1).2
def iH (ts:iV) (id off n:Int):Option Tb×Int:=match eG ts id with
 |none=>(none,7)
 |some t=>if off<0\/n<0\/(t.n:Int)<off\/(t.n:Int)-off<n then(none,11) else(some t,0)
def ub:Option Tb->AV
 |none=>uQ
 |some t=>t.enc
theorem am4 {p:Nat->Bool} {o:Option Tb}:(ub o).bB p=true:=by
 cases o
 ·rfl
 ·exact Tb.Z8
theorem GM (ok:ax P tb) (S:dY h bs bm bl bp fs ts) (id off n:Int):an P 60 [.ptr bs 0, .int .u64 id, .int .i64 off, .int .i64 n] h (.az [ub (iH ts id off n).1, .int .i64 (iH ts id off n).2]) h:=by
 have m4:=fun h' (S':dY h' bs bm bl bp fs ts)=>Nm ok S' id
 have aM: ∀b,b<h.next-> ¬b=h.next:=fun b hb=>by omega
 have ot: ∀b,b<h.next-> ¬b=h.next+1:=fun b hb=>by omega
 have e1: ¬h.next=h.next+1:=by omega
 have e2: ¬h.next+1=h.next:=by omega
 have S1:dY (h.at h.next (.cells [.vs [] .full, .int .i64 0])) bs bm bl bp fs ts:=
  {S with top:=by rw[aa.I8,if_neg (aM _ S.l1)];exact S.top
          mem:={S.mem with top:=by rw[aa.I8,if_neg (aM _ S.l2)];exact S.mem.top,row:=by rw[aa.I8,if_neg (aM _ S.l3)];exact S.mem.row}
          map:=by rw[aa.I8,if_neg (aM _ S.l4)];exact S.map
          l1:=by rw[aa.HP];have:=S.l1;omega
          l2:=by rw[aa.HP];have:=S.l2;omega
          l3:=by rw[aa.HP];have:=S.l3;omega
          l4:=by rw[aa.HP];have:=S.l4;omega}
 refine ok.eM (rf:=BY) rfl (Nat.le_of_ble_eq_true rfl) (by simp only[AV.bB,AV.bX,am4,Bool.and_self]) ?_
 unfold iH
 cases dD:eG ts id with
 |none=>
  simp only[dD,qu] at m4
  simp+decide only[st,BY,Tc,Ta,S9,S8,AE,S7,S6]
  refine aq (m4 _ S1) ?_
  simp+decide only[st,e1,e2,uQ,bE,AV.strip,AV.bA,AV.fy,ub]
  intro b hb
  simp+decide only[st,aM b hb,ot b hb]
 |some t=>
  have yM:=S.small dD
  simp only[dD,qu] at m4
  have lZ:t.enc.cells=[.vs (dU t.l) .ao, .int .i64 t.n]:=rfl
  simp+decide only[st,BY,Tc,Ta,S9,S8,S7,S6]
  refine aq (m4 _ S1) ?_
  simp+decide only[st,e1,e2,lZ]
  refine Cy (Q:=fun ρ'=>ρ' 8= .ptr h.next 0/\ρ' 10= .ptr (h.next+1) 0/\ρ' 23= .bool (decide (off<0\/n<0\/(t.n:Int)<off\/(t.n:Int)-off<n))) ?_ ?_
  ·by_cases h1:off<0
   ·simp+decide only[st,AE,e1,e2,h1,true_or]
   ·by_cases h2:n<0
    ·simp+decide only[st,AE,e1,e2,h1,h2,true_or,or_true]
    ·by_cases h3:(t.n:Int)<off
     ·simp+decide only[st,AE,e1,e2,h1,h2,h3,true_or,or_true]
     ·have uh:IntKind.wrap .i64 ((t.n:Int)-off)=(t.n:Int)-off:=bw (by omega) (by omega)
      simp+decide only[st,AE,e1,e2,h1,h2,h3,false_or,uh]
  ·rintro ρ' ⟨q8,Lv,q23⟩
   by_cases hc:off<0\/n<0\/(t.n:Int)<off\/(t.n:Int)-off<n
   ·simp+decide only[st,q8,Lv,q23,hc,e1,e2,uQ,bE,AV.strip,AV.bA,AV.fy,ub]
    intro b hb
    simp+decide only[st,aM b hb,ot b hb]
   ·simp+decide only[st,q8,Lv,q23,hc,e1,e2,bE,AV.strip,AV.bA,AV.fy,G0,ub,Tb.enc]
    intro b hb
    simp+decide only[st,aM b hb,ot b hb]
theorem alb (ok:ax P tb) (S:dY h bs bm bl bp fs ts) (id:Int):an P 47 [.ptr bs 0, .int .u64 id] h (match eG ts id with|some t=> .az [.int .i64 t.n, .int .i64 0]|none=> .az [.int .i64 0, .int .i64 7]) h:=by
 have m4:=Nm ok S id
 have aM: ∀b,b<h.next-> ¬b=h.next:=fun b hb=>by omega
 refine ok.keeps (rf:=B3) rfl (Nat.le_of_ble_eq_true rfl) (by split<;>rfl) ?_
 cases dD:eG ts id with
 |none=>
  simp only[dD,qu] at m4
  simp+decide only[st,B3,Tt,Ts,Tq]
  refine aq m4 ?_
  simp+decide only[st,uQ]
  intro b hb
  simp+decide only[st,aM b hb]
 |some t=>
  simp only[dD,qu] at m4
  have lZ:t.enc.cells=[.vs (dU t.l) .ao, .int .i64 t.n]:=rfl
  simp+decide only[st,B3,Tt,Ts,Tq]
  refine aq m4 ?_
  simp+decide only[st,lZ]
  intro b hb
  simp+decide only[st,aM b hb]
theorem dY.clean (S:dY h bs bm bl bp fs ts) (n:Nat):dY (h.clean n) bs bm bl bp fs ts:=
 {S with top:=by simp only[aa.clean];rw[if_pos S.l1];exact S.top
         mem:={S.mem with top:=by simp only[aa.clean];rw[if_pos S.l2];exact S.mem.top,row:=by simp only[aa.clean];rw[if_pos S.l3];exact S.mem.row}
         map:=by simp only[aa.clean];rw[if_pos S.l4];exact S.map
         l1:=Nat.lt_of_lt_of_le S.l1 (Nat.le_add_right _ _)
         l2:=Nat.lt_of_lt_of_le S.l2 (Nat.le_add_right _ _)
         l3:=Nat.lt_of_lt_of_le S.l3 (Nat.le_add_right _ _)
         l4:=Nat.lt_of_lt_of_le S.l4 (Nat.le_add_right _ _)}
theorem aoh {fs:List Fr}:dQ fs<=fs.length:=List.countP_le_length
theorem ajC (ok:ax P tb) (S:dY h bs bm bl bp fs ts):an P 58 [.ptr bs 0] h (.int .i64 ((fs.length-dQ fs:Nat):Int)) h:=by
 have S1:=S.clean 12
 have hc:=av S1.top
 have yM:=S.mem.small
 have hul:=aoh (fs:=fs)
 have hlen:=amh ok S1.mem
 have Br:=aog ok S1.mem ⟨S1.l2,S1.l3⟩
 have hw:IntKind.wrap .i64 ((fs.length:Int)-(dQ fs:Int))=((fs.length-dQ fs:Nat):Int):=by rw[bw]<;>omega
 refine ok.keeps (rf:=GF) rfl (Nat.le_of_ble_eq_true rfl) rfl ?_
 simp+decide only[st,GF,agh,agf,age,agd]
 refine zC ?_
 simp only[List.length_cons,List.length_nil,Nat.zero_add,Nat.reduceAdd]
 simp+decide only[st,hc]
 refine i6 hlen (by simp+decide only[st]) ?_
 simp+decide only[st,hc,S.l1]
 refine i6 Br (by simp+decide only[st]) ?_
 simp+decide only[st,hw]
 intro b hb
 simp+decide only[st,hb]
theorem dY.bM (S:dY h bs bm bl bp fs ts) {h':aa} (hn:h.next<=h'.next) (hk: ∀b,b<h.next->h'.get b=h.get b):dY h' bs bm bl bp fs ts:=
 {S with top:=by rw[hk _ S.l1];exact S.top
         mem:={S.mem with top:=by rw[hk _ S.l2];exact S.mem.top,row:=by rw[hk _ S.l3];exact S.mem.row}
         map:=by rw[hk _ S.l4];exact S.map
         l1:=Nat.lt_of_lt_of_le S.l1 hn
         l2:=Nat.lt_of_lt_of_le S.l2 hn
         l3:=Nat.lt_of_lt_of_le S.l3 hn
         l4:=Nat.lt_of_lt_of_le S.l4 hn}
theorem dY.cu (S:dY h bs bm bl bp fs ts) {gs:List Fr} (h1:gs.length=fs.length) (h2: ∀f∈gs,f.b.length=16):dY (gy h bl gs) bs bm bl bp gs ts:=
 {S with top:=by simp only[gy,aa.set];rw[if_neg S.n2];exact S.top
         mem:=S.mem.lp h1 h2
         map:=by simp only[gy,aa.set];rw[if_neg S.n5];exact S.map}
theorem apk (ok:ax P tb) (h:aa) (n:Int): ∃bs bm bl bp h',an P 35 [.int .i64 n] h (.ptr bs 0) h'/\dY h' bs bm bl bp (List.replicate (vt n) F0) []/\
 h.next<=bs/\h.next<=bm/\h.next<=bl/\h.next<=bp/\h.next<=h'.next/\ ∀b,b<h.next->h'.get b=h.get b:=by
 obtain⟨bm,bl,h1,gJ,M,g1,g2,g3,g4,g5,g6⟩:=aot ok h n
 refine⟨h1.next+1,bm,bl,h1.next,(h1.at h1.next (.map [])).at (h1.next+1) (.cells [.ptr bm 0, .map (some h1.next)]),?_,⟨?_,⟨?_,?_,M.ne,M.len,M.small⟩,?_,?_,?_,?_,?_,?_,?_,?_,?_,?_,?_⟩,?_,g1,g2,?_,?_,?_⟩
 ·refine ok.calls (rf:=GI) rfl (Nat.le_of_ble_eq_true rfl) ?_
  simp+decide only[st,GI,ahe,ahd]
  refine aq gJ ?_
  simp+decide only[st]
 ·simp[aa.at]
 ·simp only[aa.at];rw[if_neg (by omega),if_neg (by omega)];exact M.top
 ·simp only[aa.at];rw[if_neg (by omega),if_neg (by omega)];exact M.row
 ·simp[aa.at,ny]
 ·omega
 ·omega
 ·omega
 ·omega
 ·omega
 ·simp[aa.at]
 ·simp[aa.at];omega
 ·simp[aa.at];omega
 ·simp[aa.at];omega
 ·simp
 ·omega
 ·omega
 ·simp[aa.at];omega
 ·intro b hb
  simp only[aa.at]
  rw[if_neg (by omega),if_neg (by omega)]
  exact g6 b hb
def takeN (fs:List Fr):Nat->List Fr×List Nat
 |0=>(fs,[])
 |k+1=>(iN (takeN fs k).1,(takeN fs k).2++[(pn (takeN fs k).1).getD 0])
theorem Cj {k:Nat}:(takeN fs k).1.length=fs.length/\(takeN fs k).2.length=k:=by
 induction k with
 |zero=>exact⟨rfl,rfl⟩
 |succ k ih=>
  simp only[takeN,MU,List.length_append,List.length_singleton]
  omega
theorem aok (hl: ∀f∈fs,f.b.length=16) {k:Nat}: ∀f∈(takeN fs k).1,f.b.length=16:=by
 induction k with
 |zero=>exact hl
 |succ k ih=>exact Ns ih
theorem Ms (h:dQ fs<fs.length): ∃i,pn fs=some i/\dQ (iN fs)=dQ fs+1:=by
 cases hl:pn fs with
 |none=>
  unfold pn at hl
  rw[List.findIdx?_eq_none_iff] at hl
  have:dQ fs=fs.length:=by
   unfold dQ
   rw[List.countP_eq_length]
   intro x hx
   have:=hl x hx
   simpa using this
  omega
 |some i=>
  refine⟨i,rfl,?_⟩
  simp only[iN,hl]
  unfold pn at hl
  rw[List.findIdx?_eq_some_iff_getElem] at hl
  obtain⟨hi,h1,_⟩:=hl
  have BF:fs[i].taken=false:=by simpa using h1
  unfold dQ
  rw[List.countP_set hi,BF]
  simp
theorem MK {k:Nat} (hk:k<=fs.length-dQ fs):dQ (takeN fs k).1=dQ fs+k:=by
 induction k with
 |zero=>rfl
 |succ k ih=>
  have ih:=ih (by omega)
  have hl:=(Cj (fs:=fs) (k:=k)).1
  obtain⟨i,h1,h2⟩:=Ms (fs:=(takeN fs k).1) (by omega)
  simp only[takeN]
  rw[h2,ih]
  omega
def hP (n:Int):Nat:=((n+15)/16).toNat
def mh (fs:List Fr) (ts:iV) (id n:Int):Int×List Fr×iV:=
 if n<0\/64<n then(1,fs,ts)
 else if(eG ts id).isSome then(1,fs,ts)
 else if fs.length-dQ fs<hP n then(9,fs,ts)
 else(0,(takeN fs (hP n)).1,ts++[(id,⟨(takeN fs (hP n)).2,n.toNat⟩)])
theorem ak7 {id:Int} {v:AV} (hn:eG ts id=none):rT (.int .u64 id) v (ny ts)=some (ny ts++[(.int .u64 id,v)]):=by
 unfold rT
 rw[G1]
 have:sq ts id=none:=by
  unfold eG at hn
  unfold sq
  rw[List.findIdx?_eq_none_iff]
  intro x hx
  have:=List.find?_eq_none.1 (Option.map_eq_none_iff.1 hn) x hx
  simpa using this
 rw[this]
 rfl
theorem Ha {ρ:Env} {h:aa} {n id:Int} (q0:ρ 0= .ptr bs 0) (q1:ρ 1= .int .u64 id) (q2:ρ 2= .int .i64 n):
 exec P J4 ρ h (fun ρ' h'=>(ρ' 0= .ptr bs 0/\ρ' 1= .int .u64 id/\ρ' 2= .int .i64 n/\ρ' 22= .bool (decide (n<0\/64<n)))/\h'=h):=by
 by_cases h1:n<0
 ·simp+decide only[st,J4,q0,q1,q2,h1,true_or]
 ·simp+decide only[st,J4,q0,q1,q2,h1,false_or]
theorem amf (ok:ax P tb) (S:dY h bs bm bl bp fs ts) (id n:Int): ∃h',an P 40 [.ptr bs 0, .int .u64 id, .int .i64 n] h (.int .i64 (mh fs ts id n).1) h'/\
 (dY h' bs bm bl bp (mh fs ts id n).2.1 (mh fs ts id n).2.2/\h.next<=h'.next/\ ∀b,b<h.next->b≠bl->b≠bp->h'.get b=h.get b):=by
 have hc:=av S.top
 have U4:=Nq S.map
 have aM: ∀b,b<h.next-> ¬b=h.next:=fun b hb=>by omega
 have ot: ∀b,b<h.next-> ¬b=h.next+1:=fun b hb=>by omega
 have e1: ¬h.next=h.next+1:=by omega
 have n1: ¬bs=h.next:=by have:=S.l1;omega
 have n4: ¬bp=h.next:=by have:=S.l4;omega
 by_cases hn:n<0\/64<n
 ·have hR:mh fs ts id n=(1,fs,ts):=by simp[mh,hn]
  rw[hR]
  refine ok.dz (rf:=rE) rfl (Nat.le_of_ble_eq_true rfl) ?_
  simp+decide only[st,rE,ES,EP,EO,EN,EM,EL,EK,EJ,C7,C6,C5,C4,C3,C2,C1,C0,CZ]
  refine Cy _ (Ha (bs:=bs) (id:=id) (n:=n) (by simp+decide only[st]) (by simp+decide only[st]) (by simp+decide only[st])) ?_
  rintro ρ1 ⟨q0,q1,q2,qQ⟩
  rw[decide_eq_true hn] at qQ
  simp+decide only[st,qQ,kE]
  exact S
 obtain⟨n,rfl⟩: ∃k:Nat,n=k:=⟨n.toNat,by omega⟩
 have awy:n<=64:=by omega
 cases dD:eG ts id with
 |some t=>
  have hR:mh fs ts id n=(1,fs,ts):=by simp only[mh,if_neg hn,dD,Option.isSome,if_true]
  have uv:=MB (ts:=ts) (id:=id)
  rw[dD] at uv
  have lZ:t.enc.cells=[.vs (dU t.l) .ao, .int .i64 t.n]:=rfl
  rw[hR]
  refine ok.dz (rf:=rE) rfl (Nat.le_of_ble_eq_true rfl) ?_
  simp+decide only[st,rE,ES,EP,J3,EO,EN,EM,EL,EK,EJ,C7,C6,C5,C4,C3,C2,C1,C0,CZ]
  refine Cy _ (Ha (bs:=bs) (id:=id) (n:=n) (by simp+decide only[st]) (by simp+decide only[st]) (by simp+decide only[st])) ?_
  rintro ρ1 ⟨q0,q1,q2,qQ⟩
  rw[decide_eq_false hn] at qQ
  simp+decide only[st,q0,q1,q2,qQ,hc,U4,uv,Mw,Jb,lZ,kE]
  refine⟨S.bM (by simp+decide only[st];omega) (fun b hb=>by simp+decide only[st,aM b hb]),by omega,fun b hb _ _=>?_⟩
  simp+decide only[st,aM b hb]
 |none=>
  have uv:=MB (ts:=ts) (id:=id)
  rw[dD] at uv
  have axm:hP n<=4:=by unfold hP;omega
  have axv:hP n<2^40:=by omega
  have oJ:IntKind.wrap .i64 ((n:Int)+16)=(n:Int)+16:=bw (by omega) (by omega)
  have sQ:IntKind.wrap .i64 ((n:Int)+16-1)=(n:Int)+15:=by rw[bw (by omega) (by omega)];omega
  have hq:((n:Int)+15).tdiv 16=(hP n:Int):=by rw[Int.tdiv_eq_ediv_of_nonneg (by omega)];unfold hP;omega
  have uh:=se (n:=hP n) (by omega)
  let h1:aa:=(h.at h.next (.cells [.vs [] .full, .int .i64 0])).set h.next (some (.cells [.vs [] .full, .int .i64 0]))
  have S1:dY h1 bs bm bl bp fs ts:=S.bM (by simp[h1,aa.at,aa.set]) (fun b hb=>by simp[h1,aa.at,aa.set,aM b hb])
  have fF:=ajC ok S1
  by_cases eN:fs.length-dQ fs<hP n
  ·have hR:mh fs ts id n=(9,fs,ts):=by simp only[mh,if_neg hn,dD,Option.isSome,eN,if_true,Bool.false_eq_true,if_false]
   rw[hR]
   refine ok.dz (rf:=rE) rfl (Nat.le_of_ble_eq_true rfl) ?_
   simp+decide only[st,rE,ES,EP,J3,EO,EN,EM,EL,EK,EJ,C7,C6,C5,C4,C3,C2,C1,C0,CZ]
   refine Cy _ (Ha (bs:=bs) (id:=id) (n:=n) (by simp+decide only[st]) (by simp+decide only[st]) (by simp+decide only[st])) ?_
   rintro ρ1 ⟨q0,q1,q2,qQ⟩
   rw[decide_eq_false hn] at qQ
   simp+decide only[st,q0,q1,q2,qQ,hc,U4,uv,Mw,Jb,oJ,sQ,hq,uh,n1,n4,Option.map_none]
   refine aq fF ?_
   simp+decide only[st,eN,kE]
   refine⟨S1,by simp[h1,aa.at,aa.set],fun b hb _ _=>by simp[h1,aa.at,aa.set,aM b hb]⟩
  ·have hR:mh fs ts id n=(0,(takeN fs (hP n)).1,ts++[(id,⟨(takeN fs (hP n)).2,n⟩)]):=by simp only[mh,if_neg hn,dD,Option.isSome,eN,Bool.false_eq_true,if_false,Int.toNat_natCast]
   rw[hR]
   refine ok.dz (rf:=rE) rfl (Nat.le_of_ble_eq_true rfl) ?_
   simp+decide only[st,rE,ES,EP,J3,EO,EN,EM,EL,EK,EJ,C7,C6,C5,C4,C3,C2,C1,C0,CZ]
   refine Cy _ (Ha (bs:=bs) (id:=id) (n:=n) (by simp+decide only[st]) (by simp+decide only[st]) (by simp+decide only[st])) ?_
   rintro ρ1 ⟨q0,q1,q2,qQ⟩
   rw[decide_eq_false hn] at qQ
   simp+decide only[st,q0,q1,q2,qQ,hc,U4,uv,Mw,Jb,oJ,sQ,hq,uh,n1,n4,Option.map_none]
   refine aq fF ?_
   simp+decide only[st,q0,q1,q2,eN]
   have Vh:h1.next=h.next+1:=by simp only[h1,aa.at,aa.set];omega
   have cE: ∀b,b<h.next->h1.get b=h.get b:=fun b hb=>by simp[h1,aa.at,aa.set,aM b hb]
   rw[Vh]
   let I:Nat->Env->aa->Prop:=fun m ρ h'=> ∃i,i+m=hP n/\ρ 0= .ptr bs 0/\ρ 1= .int .u64 id/\ρ 10= .ptr (h.next+1) 0/\ρ 43= .int .i64 (hP n)/\ρ 44= .int .i64 i/\
    dY h' bs bm bl bp (takeN fs i).1 ts/\h.next+1<h'.next/\(∃a,h'.get (h.next+1)=some (.cells [a, .int .i64 n])/\qy h.next h' a (dU (takeN fs i).2))/\ ∀b,b<h.next->b≠bl->h'.get b=h.get b
   refine dn I ?_ (hP n) ⟨0,by omega,by simp+decide only[st,q0],by simp+decide only[st,q1],by simp+decide only[st],by simp+decide only[st],by simp+decide only[st],S1.bM (by simp+decide only[st,Vh];omega) (fun b hb=>(by
    have: ¬b=h.next+1:=by omega
    simp+decide only[st,this])),by simp+decide only[st,Vh];omega,⟨.vs [] .full,by simp+decide only[st], .nil⟩,fun b hb _=>(by
    simp+decide only[st,ot b hb,cE b hb])⟩
   rintro m ρ h2 ⟨i,pT,r0,r1,eV,Lt,V3,Sp,aC,⟨a,hga,Lh⟩,iz⟩
   obtain⟨tl,rfl⟩:=Lh.vs
   have cS:=av Sp.top
   by_cases hi:i<hP n
   ·have Br:=MK (fs:=fs) (k:=i) (by omega)
    have uu:=Cj (fs:=fs) (k:=i)
    obtain⟨f,hf1,hf2⟩:=Ms (fs:=(takeN fs i).1) (by omega)
    have fg:takeN fs (i+1)=(iN (takeN fs i).1,(takeN fs i).2++[f]):=by simp only[takeN,hf1,Option.getD_some]
    have ht:=akS ok Sp.mem
    rw[hf1] at ht
    have pd:=Sp.cu (gs:=iN (takeN fs i).1) MU (Ns Sp.mem.len)
    have LM:(gy h2 bl (iN (takeN fs i).1)).next=h2.next:=rfl
    have sW: ∀b,b≠bl->(gy h2 bl (iN (takeN fs i).1)).get b=h2.get b:=fun b hb=>by simp only[gy,aa.set];rw[if_neg hb]
    have hgl:(gy h2 bl (iN (takeN fs i).1)).get bl≠some .tail:=by simp[gy,aa.set]
    generalize gy h2 bl (iN (takeN fs i).1)=h3 at*
    have jz: ∀x,h.next<=x->x≠bl:=fun x hx=>by have:=S.l3;omega
    have U9:h3.get (h.next+1)=some (.cells [.vs (dU (takeN fs i).2) tl, .int .i64 n]):=by rw[sW _ (jz _ (by omega))];exact hga
    have auI:qy h.next h3 (.vs (dU (takeN fs i).2) tl) (dU (takeN fs i).2):=by
     rcases Lh with⟨h5,h6⟩|⟨t0,h5,h6,h7,h8⟩
     ·exact .inl ⟨h5,h6⟩
     ·exact .inr ⟨t0,h5,by rw[sW _ (jz _ h7)];exact h6,h7,by omega⟩
    have iJ:(dU (takeN fs i).2).length=i:=by simp[dU,uu.2]
    have hhd:dF 1 (dU (takeN fs i).2)=true:=by
     cases(takeN fs i).2<;>simp[dU,dF]
    obtain⟨a4,h4,ha4,Rg,hn4,BC,aiS⟩:=alM (bytes:=8) (sz:=1) (id:=h3.next) (ys:=[[.int .i64 f]]) auI (Nat.le_refl _) (by omega) (by simp) hhd (by simp only[iJ,List.length_singleton];omega) (by simp only[iJ,List.length_singleton];omega)
    have cw:dU (takeN fs i).2++[[.int .i64 (f:Int)]]=dU (takeN fs (i+1)).2:=by rw[fg];simp[dU]
    rw[cw] at Rg
    obtain⟨tl4,rfl⟩:=Rg.vs
    have aiW:h4.get (h.next+1)=some (.cells [.vs (dU (takeN fs i).2) tl, .int .i64 n]):=by rw[BC _ (by omega) (by rw[U9];simp)];exact U9
    have hc4:=av aiW
    simp+decide only[st,r0,eV,Lt,V3,hi,cS]
    refine aq ht ?_
    simp+decide only[st,r0,eV,Lt,V3,cS,av U9,List.replicate,List.set,ha4,hc4,cT (show i<2^61 by omega)]
    have tw:dY h4 bs bm bl bp (takeN fs (i+1)).1 ts:=by
     rw[fg]
     have LS: ∀b,b<h2.next->b<h.next\/h3.get b≠some .tail->h4.get b=h3.get b:=fun b hb hor=>by
      rcases hor with h|h
      ·exact aiS b h
      ·exact BC b (by omega) h
     exact{pd with
      top:=by rw[LS _ Sp.l1 (.inl S.l1)];exact pd.top
      mem:={pd.mem with top:=by rw[LS _ Sp.l2 (.inl S.l2)];exact pd.mem.top,row:=by rw[LS _ Sp.l3 (.inl S.l3)];exact pd.mem.row}
      map:=by rw[LS _ Sp.l4 (.inl S.l4)];exact pd.map
      l1:=by have:=pd.l1;omega
      l2:=by have:=pd.l2;omega
      l3:=by have:=pd.l3;omega
      l4:=by have:=pd.l4;omega}
    have hold: ∀b,b<h.next-> ¬b=h.next+1:=fun b hb=>by omega
    refine⟨m-1,by omega,i+1,by omega,by simp+decide only[st,r0],by simp+decide only[st,r1],by simp+decide only[st,eV],by simp+decide only[st,Lt],by simp+decide only[st],?_,by simp+decide only[st];omega,⟨.vs (dU (takeN fs (i+1)).2) tl4,by simp+decide only[st],Rg.of (by simp+decide only[st]) (fun t0 Bs=>?_)⟩,fun b hb bY=>?_⟩
    ·exact{tw with
      top:=by simp+decide only[st,hold _ S.l1];exact tw.top
      mem:={tw.mem with top:=by simp+decide only[st,hold _ S.l2];exact tw.mem.top,row:=by simp+decide only[st,hold _ S.l3];exact tw.mem.row}
      map:=by simp+decide only[st,hold _ S.l4];exact tw.map
      l1:=tw.l1,l2:=tw.l2,l3:=tw.l3,l4:=tw.l4}
    ·have: ¬t0=h.next+1:=fun e=>by rw[e,aiW] at Bs;cases Bs
     simp+decide only[st,this]
     exact Bs
    ·simp+decide only[st,hold b hb]
     rw[aiS b hb,sW b bY]
     exact iz b hb bY
   ·have cP:i=hP n:=by omega
    subst cP
    have awk:AV.strip (.agg [.vs (dU (takeN fs (hP n)).2) tl, .int .i64 n])=(⟨(takeN fs (hP n)).2,n⟩:Tb).enc:=by simp only[AV.strip,AV.bA,G0,Tb.enc]
    have mo:=ak7 (ts:=ts) (v:=(⟨(takeN fs (hP n)).2,n⟩:Tb).enc) dD
    simp+decide only[st,r0,eV,Lt,V3,hi,cS]
    refine Hs rfl ?_
    have l1':=Sp.l1
    have l4':=Sp.l4
    simp+decide only[st,r0,r1,eV,cS,l1',aC,av hga,Nq Sp.map,l4',awk,mo]
    refine⟨(jD l4').2 (by simp+decide only[st]),?_⟩
    simp+decide only[st,kE]
    refine⟨?_,?_,fun b hb ef bY=>?_⟩
    ·have Sc:=Sp.clean 7
     exact{Sc with
      top:=by simp+decide only[st,S.n3,l1'];exact Sp.top
      mem:={Sc.mem with top:=by simp+decide only[st,S.n4.symm,Sp.l2];exact Sp.mem.top,row:=by simp+decide only[st,S.n5.symm,Sp.l3];exact Sp.mem.row}
      map:=by simp+decide only[st,ny,List.map_append,List.map_cons,List.map_nil]
      l1:=Sc.l1,l2:=Sc.l2,l3:=Sc.l3,l4:=Sc.l4
      tn:=fun e he=>by
       rcases List.mem_append.1 he with he|he
       ·exact S.tn e he
       ·simp at he;subst he;exact⟨awy,by show(takeN fs (hP n)).2.length=(n+15)/16;rw[Cj.2];unfold hP;omega⟩}
    ·omega
    ·have:b<h2.next:=by omega
     simp+decide only[st,bY,this]
     exact iz b hb ef
end
section
open Go
variable {P:Program} {h:aa} {bs bm bl bp:Nat} {fs:List Fr} {ts:iV}
def lU (fs:List Fr) (l:List Nat):List Fr:=l.foldl (fun fs (f:Nat)=>jG fs f) fs
def vL (ts:iV) (id:Int):iV:=match sq ts id with
 |some i=>ts.eraseIdx i
 |none=>ts
theorem X6: ∀{l:List Nat} {fs:List Fr},(lU fs l).length=fs.length
 |[],_=>rfl
 |f::l,fs=>by
  have:=X6 (l:=l) (fs:=jG fs f)
  simp only[lU,List.foldl_cons,MW] at this ⊢
  exact this
theorem Zc: ∀{l:List Nat} {fs:List Fr},(∀f∈fs,f.b.length=16)-> ∀f∈lU fs l,f.b.length=16
 |[],_,h=>h
 |f::l,fs,h=>Zc (l:=l) (fs:=jG fs f) (Nt h)
theorem M8 {α β:Type} {f:α->β}: ∀{l:List α} {i:Nat},(l.map f).eraseIdx i=(l.eraseIdx i).map f
 |[],i=>by simp
 |a::l,0=>by simp
 |a::l,i+1=>by simp[M8 (l:=l) (i:=i)]
def qk (fs:List Fr) (ts:iV) (id:Int):Int×List Fr×iV:=match eG ts id with
 |none=>(7,fs,ts)
 |some t=>(0,lU fs t.l,vL ts id)
theorem ake {id:Int} {t:Tb} (hf:eG ts id=some t):rU (.int .u64 id) (ny ts)=some (ny (vL ts id)):=by
 unfold rU
 rw[G1]
 have: ∃i,sq ts id=some i:=by
  cases ht:sq ts id with
  |some i=>exact⟨i,rfl⟩
  |none=>
   unfold sq at ht
   unfold eG at hf
   rw[List.findIdx?_eq_none_iff] at ht
   obtain⟨x,h1,_⟩:=Option.map_eq_some_iff.1 hf
   have h2:=List.find?_some h1
   have h3:=ht x (List.mem_of_find?_eq_some h1)
   rw[h2] at h3;cases h3
 obtain⟨i,hi⟩:=this
 simp only[vL,hi,Option.map_some,Nat.add_zero,ny,Option.some.injEq]
 rw[M8]
theorem am1 {id:Int} {e:Int×Tb} (he:e∈vL ts id):e∈ts:=by
 unfold vL at he
 split at he
 ·exact List.mem_of_mem_eraseIdx he
 ·exact he
theorem aj0 (ok:ax P tb) (S:dY h bs bm bl bp fs ts) (id:Int): ∃h',an P 149 [.ptr bs 0, .int .u64 id] h (.int .i64 (qk fs ts id).1) h'/\
 (dY h' bs bm bl bp (qk fs ts id).2.1 (qk fs ts id).2.2/\h.next<=h'.next/\ ∀b,b<h.next->b≠bl->b≠bp->h'.get b=h.get b):=by
 have m4:=Nm ok S id
 have aM: ∀b,b<h.next-> ¬b=h.next:=fun b hb=>by omega
 cases dD:eG ts id with
 |none=>
  have hR:qk fs ts id=(7,fs,ts):=by simp only[qk,dD]
  rw[dD] at m4
  rw[hR]
  refine ok.dz (rf:=yq) rfl (Nat.le_of_ble_eq_true rfl) ?_
  simp+decide only[st,yq,PU,PT,PS,PR,PQ,PO,PN,PM,PL,PJ,NQ]
  refine aq m4 ?_
  simp+decide only[st,qu,uQ,kE]
  refine⟨S.bM (by simp+decide only[st];omega) (fun b hb=>by simp+decide only[st,aM b hb]),by omega,fun b hb _ _=>?_⟩
  simp+decide only[st,aM b hb]
 |some t=>
  have hR:qk fs ts id=(0,lU fs t.l,vL ts id):=by simp only[qk,dD]
  rw[dD] at m4
  rw[hR]
  have lZ:t.enc.cells=[.vs (dU t.l) .ao, .int .i64 t.n]:=rfl
  have iJ:(dU t.l).length=t.l.length:=by simp[dU]
  have jQ:=S.UU dD
  have yM:=S.small dD
  refine ok.dz (rf:=yq) rfl (Nat.le_of_ble_eq_true rfl) ?_
  simp+decide only[st,yq,PU,PT,PS,PR,PQ,PO,PN,PM,PL,PJ,NQ]
  refine aq m4 ?_
  simp+decide only[st,qu,lZ,iJ]
  let I:Nat->Env->aa->Prop:=fun m ρ h'=> ∃i,i+m=t.l.length/\ρ 0= .ptr bs 0/\ρ 1= .int .u64 id/\ρ 19= .vs (dU t.l) .ao/\ρ 20= .int .i64 t.l.length/\ρ 21= .int .i64 i/\
   dY h' bs bm bl bp (lU fs (t.l.take i)) ts/\h.next<=h'.next/\ ∀b,b<h.next->b≠bl->b≠bp->h'.get b=h.get b
  refine dn I ?_ t.l.length ⟨0,by omega,by simp+decide only[st],by simp+decide only[st],by simp+decide only[st],by simp+decide only[st],by simp+decide only[st],S.bM (by simp+decide only[st];omega) (fun b hb=>(by simp+decide only[st,aM b hb])),by simp+decide only[st];omega,fun b hb _ _=>(by simp+decide only[st,aM b hb])⟩
  rintro m ρ h2 ⟨i,pT,r0,r1,Bl,qP,pL,Sp,fg,iz⟩
  have hc:=av Sp.top
  by_cases hi:i<t.l.length
  ·have hg:(dU t.l)[i]? =some [.int .i64 (t.l[i]:Int)]:=by simp[dU,List.getElem?_eq_getElem hi]
   have fF:=alp ok Sp.mem Sp.l3 (t.l[i]:Int)
   have hfa:lU fs (t.l.take (i+1))=jG (lU fs (t.l.take i)) (t.l[i]:Int):=by
    rw[<-List.take_append_getElem hi];simp only[lU,List.foldl_append,List.foldl_cons,List.foldl_nil]
   have pd:=Sp.cu (gs:=jG (lU fs (t.l.take i)) (t.l[i]:Int)) MW (Nt Sp.mem.len)
   rw[<-hfa] at pd fF
   simp+decide only[st,r0,r1,Bl,qP,pL,hi,hg,hc]
   refine aq fF ?_
   simp+decide only[st,pL,cT (show i<2^61 by omega)]
   ·refine⟨m-1,by omega,i+1,by omega,by simp+decide only[st,r0],by simp+decide only[st,r1],by simp+decide only[st,Bl],by simp+decide only[st,qP],by simp+decide only[st],pd,fg,fun b hb h1 h2=>?_⟩
    simp only[gy,aa.set]
    rw[if_neg h1]
    exact iz b hb h1 h2
  ·have cP:i=t.l.length:=by omega
   subst cP
   rw[List.take_length] at Sp
   simp+decide only[st,r0,r1,Bl,qP,pL,hi,hc,Nq Sp.map,ake dD,kE]
   refine⟨{Sp with
    top:=by simp+decide only[st,Sp.n3];exact Sp.top
    mem:={Sp.mem with top:=by simp+decide only[st,Sp.n4.symm];exact Sp.mem.top,row:=by simp+decide only[st,Sp.n5.symm];exact Sp.mem.row}
    map:=by simp+decide only[st]
    l1:=Sp.l1,l2:=Sp.l2,l3:=Sp.l3,l4:=Sp.l4
    tn:=fun e he=>S.tn e (am1 he)},fg,fun b hb h1 h2=>?_⟩
   simp+decide only[st,h2]
   exact iz b hb h1 h2
def my (fs:List Fr) (t:Tb) (j:Nat):Int:=(zN fs ((t.l[j/16]?.getD 0:Nat):Int) ((j%16:Nat):Int)).1
def ir (fs:List Fr) (t:Tb) (off n:Nat):List Int:=(List.range n).map fun j=>my fs t (off+j)
def lj (l:List Int):List (List AV):=l.map fun b=>[AV.int .u8 b]
theorem zE {t:Tb} {off n:Nat}:(ir fs t off n).length=n:=by simp[ir]
theorem akV (ok:ax P tb) (S:dY h bs bm bl bp fs ts) {id:Int} {off n:Nat} {t:Tb} (aE:iH ts id off n=(some t,0)): ∃bo h',an P 48 [.ptr bs 0, .int .u64 id, .int .i64 off, .int .i64 n] h (.az [.rs bo 0 n 1, .int .i64 0]) h'/\
 (h'.get bo=some (.cells ((ir fs t off n).map (.int .u8)))/\h.next<=bo/\bo<h'.next/\ ∀b,b<h.next->h'.get b=h.get b):=by
 have kT:=GM ok S id off n
 rw[aE] at kT
 have dD:eG ts id=some t:=by
  unfold iH at aE
  split at aE
  ·cases aE
  ·rename_i t' ht
   split at aE
   ·cases aE
   ·cases aE;exact ht
 have awm:off+n<=t.n:=by
  unfold iH at aE
  rw[dD] at aE
  simp only at aE
  split at aE
  ·cases aE
  ·omega
 have yM:=S.small dD
 have jQ:=S.UU dD
 have lZ:t.enc.cells=[.vs (dU t.l) .ao, .int .i64 t.n]:=rfl
 have wu:lT 1 (.int .i64 n) (.int .i64 n)=some n:=by
  unfold lT
  simp only[]
  rw[if_pos ⟨by omega,trivial,by omega,by omega⟩]
  simp
 have aM: ∀b,b<h.next-> ¬b=h.next:=fun b hb=>by omega
 have ot: ∀b,b<h.next-> ¬b=h.next+1:=fun b hb=>by omega
 have e1: ¬h.next=h.next+1:=by omega
 have e2: ¬h.next+1=h.next:=by omega
 refine⟨h.next+1,ok.dz (rf:=rC) rfl (Nat.le_of_ble_eq_true rfl) ?_⟩
 simp+decide only[st,rC,xW]
 let J:Nat->Env->aa->Prop:=fun m ρ h'=> ∃i,i+m=n/\ρ 0= .ptr bs 0/\ρ 2= .int .i64 off/\ρ 3= .int .i64 n/\ρ 10= .ptr h.next 0/\ρ 12= .rs (h.next+1) 0 n 1/\ρ 13= .int .i64 i/\
  h.next+1<h'.next/\h'.get h.next=some (.cells [.vs (dU t.l) .ao, .int .i64 t.n])/\h'.get (h.next+1)=some (.cells ((ir fs t off i).map (.int .u8)++List.replicate (n-i) (.int .u8 0)))/\ ∀b,b<h.next->h'.get b=h.get b
 refine lQ 0 rfl rfl J (fun l' ρ h hk=>hk) ?_ ?_
 ·simp+decide only[st,rC,xW,Ez,Ey,Ex,Ew,Ev,Eu,Et,Es,Er,CX,j7]
  refine aq kT ?_
  simp+decide only[st,ub,lZ,wu,List.length_cons,List.length_nil]
  refine⟨n,0,by omega,by simp+decide only[st],by simp+decide only[st],by simp+decide only[st],by simp+decide only[st],by simp+decide only[st],by simp+decide only[st],by simp+decide only[st];omega,?_,?_,fun b hb=>?_⟩
  ·simp+decide only[st,e1]
  ·have:(List.replicate n [AV.int .u8 0]).flatten=List.replicate n (.int .u8 0):=by simp
   simp+decide only[st,this,ir,List.range_zero,List.map_nil,Nat.sub_zero]
  ·simp+decide only[st,aM b hb,ot b hb]
 ·rintro m ρ h2 ⟨i,pT,r0,r2,r3,eV,fX,eJ,aC,cE,sW,iz⟩
  have S2:=S.bM (h':=h2) (by omega) iz
  have hc:=av S2.top
  by_cases hi:i<n
  ·have hq:((off:Int)+(i:Int)).tdiv 16=(((off+i)/16:Nat):Int):=by rw[Int.tdiv_eq_ediv_of_nonneg (by omega)];omega
   have hm:((off:Int)+(i:Int)).tmod 16=(((off+i)%16:Nat):Int):=by rw[Int.tmod_eq_emod_of_nonneg (by omega)];omega
   have hw:IntKind.wrap .i64 ((off:Int)+(i:Int))=(off:Int)+(i:Int):=bw (by omega) (by omega)
   have sQ:=se (n:=(off+i)/16) (by omega)
   have jh:(off+i)/16<t.l.length:=by omega
   have cw:(dU t.l)[(off+i)/16]? =some [.int .i64 (t.l[(off+i)/16]:Int)]:=by simp[dU,List.getElem?_eq_getElem jh]
   have S3:=S2.clean 20
   have hld:=ak9 ok S3.mem S3.l3 (t.l[(off+i)/16]:Int) (((off+i)%16:Nat):Int)
   have ku:my fs t (off+i)=(zN fs (t.l[(off+i)/16]:Int) (((off+i)%16:Nat):Int)).1:=by simp only[my,List.getElem?_eq_getElem jh,Option.getD_some]
   rw[<-ku] at hld
   have l1:=S2.l1
   have wy:h.next<h2.next:=by omega
   simp+decide only[st,rC,xW,Ez,Ey,Ex,Ew,Ev,Eu,Et,Es,Er,CX,r0,r2,r3,eV,fX,eJ,hi,hw]
   refine Hs rfl ?_
   simp+decide only[st,r0,r2,r3,eV,fX,eJ,hc,l1,wy,av cE,hq,sQ,cw,List.length_cons,List.length_nil]
   refine fA hld (by simp+decide only[st]) ?_
   have axG:(i:Int)<(n:Nat):=by omega
   have auy:((ir fs t off i).map (AV.int .u8)++List.replicate (n-i) (AV.int .u8 0)).length=n:=by simp[zE];omega
   have jt:i+1<=n:=by omega
   have kc:h.next+1<h2.next:=aC
   simp+decide only[st,r0,r2,r3,eV,fX,eJ,hi,Nat.mul_one,kc,av sW,auy,jt,cT (show i<2^61 by omega)]
   have hA:((ir fs t off i).map (AV.int .u8)).length=i:=by simp[zE]
   have eF:List.take i ((ir fs t off i).map (AV.int .u8)++List.replicate (n-i) (AV.int .u8 0))++[AV.int .u8 (my fs t (off+i))]++List.drop (i+1) ((ir fs t off i).map (AV.int .u8)++List.replicate (n-i) (AV.int .u8 0))=
    (ir fs t off (i+1)).map (AV.int .u8)++List.replicate (n-(i+1)) (AV.int .u8 0):=by
    rw[List.take_append_of_le_length (by omega),List.take_of_length_le (by omega),List.drop_append,List.drop_eq_nil_of_le (by omega),List.nil_append,hA,List.drop_replicate]
    simp only[ir,List.range_succ,List.map_append,List.map_cons,List.map_nil]
    congr 2;omega
   refine⟨(jD aC).2 (by simp+decide only[st]),m-1,by omega,i+1,by omega,by simp+decide only[st,r0],by simp+decide only[st,r2],by simp+decide only[st,r3],by simp+decide only[st,eV],by simp+decide only[st,fX],by simp+decide only[st],by simp+decide only[st];omega,?_,?_,fun b hb=>?_⟩
   ·simp+decide only[st,e1,wy]
    exact cE
   ·simp+decide only[st,eF]
   ·have:b<h2.next:=by omega
    simp+decide only[st,ot b hb,this]
    exact iz b hb
  ·have cP:i=n:=by omega
   subst cP
   rw[Nat.sub_self,List.replicate_zero,List.append_nil] at sW
   simp+decide only[st,rC,xW,Ez,Ey,Ex,Ew,Ev,Eu,Et,Es,Er,CX,r0,r2,r3,eV,fX,eJ,hi,kI,kE]
   exact⟨sW,by omega,aC,iz⟩
theorem anf (ok:ax P tb) (S:dY h bs bm bl bp fs ts) {id:Int} {off n:Nat} {t:Tb} (aE:iH ts id off n=(some t,0)):an P 48 [.ptr bs 0, .int .u64 id, .int .i64 off, .int .i64 n] h (.az [.vs (lj (ir fs t off n)) .ao, .int .i64 0]) h:=by
 obtain⟨bo,h',hc,hg,h1,h2,h3⟩:=akV ok S aE
 have aut: ∀(l:List Int),rowsOf (l.map (AV.int .u8)) 0 1 l.length=lj l:=by
  have gen: ∀(l:List Int) (pre:List AV),rowsOf (pre++l.map (AV.int .u8)) pre.length 1 l.length=lj l:=by
   intro l
   induction l with
   |nil=>intro pre;rfl
   |cons x xs ih=>
    intro pre
    simp only[List.length_cons,rowsOf,List.map_cons,List.drop_left]
    have:=ih (pre++[AV.int .u8 x])
    simp only[List.append_assoc,List.singleton_append,List.length_append,List.length_singleton] at this
    rw[this]
    rfl
  intro l
  simpa using gen l []
 have pU:AV.eK bo ((ir fs t off n).map (AV.int .u8)) (.az [.rs bo 0 n 1, .int .i64 0])= .az [.vs (lj (ir fs t off n)) .ao, .int .i64 0]:=by
  have:=aut (ir fs t off n)
  rw[zE] at this
  simp only[AV.eK,AV.qG,if_true]
  rw[if_pos (by simp[zE]),this]
 have gM: ∀p:Nat->Bool,AV.iA p (lj (ir fs t off n))=true:=by
  intro p
  induction ir fs t off n with
  |nil=>rfl
  |cons x xs ih=>simp only[lj,List.map_cons,AV.iA,AV.bX,AV.bB,Bool.and_true,Bool.true_and] at ih ⊢;exact ih
 have fF:=hc.freeze hg h1 (by rw[pU];simp only[AV.bB,AV.bX,gM,Bool.and_self])
 rw[pU] at fF
 refine fF.restore (fun b hb=>?_) (by simp only[AV.bB,AV.bX,gM,Bool.and_self])
 simp only[aa.set]
 rw[if_neg (by omega)]
 exact h3 b hb
theorem al6 (ok:ax P tb) (S:dY h bs bm bl bp fs ts) {id off n e:Int} (aE:iH ts id off n=(none,e)) (he:e≠0):an P 48 [.ptr bs 0, .int .u64 id, .int .i64 off, .int .i64 n] h (.az [.vs [] .full, .int .i64 e]) h:=by
 have kT:=GM ok S id off n
 rw[aE] at kT
 have aM: ∀b,b<h.next-> ¬b=h.next:=fun b hb=>by omega
 refine ok.keeps (rf:=rC) rfl (Nat.le_of_ble_eq_true rfl) rfl ?_
 simp+decide only[st,rC,xW]
 refine lQ 0 rfl rfl (fun _ _ _=>False) (fun l' ρ h hk=>hk) ?_ (fun _ _ _ hf=>hf.elim)
 simp+decide only[st,rC,xW,Ez,Ey,Ex,Ew,Ev,Eu,Et,Es,Er,CX,j7]
 refine aq kT ?_
 simp+decide only[st,ub,uQ,he]
 intro b hb
 simp+decide only[st,aM b hb]
def ua (fs:List Fr) (t:Tb) (a:Nat) (v:Int):List Fr:=qi fs ((t.l[a/16]?.getD 0:Nat):Int) ((a%16:Nat):Int) v
def ju (fs:List Fr) (t:Tb) (off:Nat) (bs:List Int):Nat->List Fr
 |0=>fs
 |i+1=>ua (ju fs t off bs i) t (off+i) (bs[i]?.getD 0)
theorem NA {t:Tb} {off:Nat} {bs:List Int} {i:Nat}:(ju fs t off bs i).length=fs.length:=by
 induction i with
 |zero=>rfl
 |succ i ih=>simp only[ju,ua,X8,ih]
theorem ad1 {t:Tb} {off:Nat} {bs:List Int} {i:Nat} (hl: ∀f∈fs,f.b.length=16): ∀f∈ju fs t off bs i,f.b.length=16:=by
 induction i with
 |zero=>exact hl
 |succ i ih=>exact Zd ih
theorem akN (ok:ax P tb) (S:dY h bs bm bl bp fs ts) {id off e:Int} {xs:List (List AV)} {tl:aH} (aE:iH ts id off xs.length=(none,e)) (he:e≠0):an P 41 [.ptr bs 0, .int .u64 id, .int .i64 off, .vs xs tl] h (.int .i64 e) h:=by
 have kT:=GM ok S id off xs.length
 rw[aE] at kT
 have aM: ∀b,b<h.next-> ¬b=h.next:=fun b hb=>by omega
 refine ok.keeps (rf:=rD) rfl (Nat.le_of_ble_eq_true rfl) rfl ?_
 simp+decide only[st,rD,xX]
 refine lQ 0 rfl rfl (fun _ _ _=>False) (fun l' ρ h hk=>hk) ?_ (fun _ _ _ hf=>hf.elim)
 simp+decide only[st,rD,xX,EI,EH,EG,EF,EE,ED,EC,EB,EA,j7]
 refine aq kT ?_
 simp+decide only[st,ub,uQ,he]
 intro b hb
 simp+decide only[st,aM b hb]
theorem ajZ (ok:ax P tb) (S:dY h bs bm bl bp fs ts) {id:Int} {off:Nat} {t:Tb} {vs:List Int} {tl:aH} (aE:iH ts id off vs.length=(some t,0)): ∃h',an P 41 [.ptr bs 0, .int .u64 id, .int .i64 off, .vs (lj vs) tl] h (.int .i64 0) h'/\
 (dY h' bs bm bl bp (ju fs t off vs vs.length) ts/\h.next<=h'.next/\ ∀b,b<h.next->b≠bl->h'.get b=h.get b):=by
 have kT:=GM ok S id off vs.length
 rw[aE] at kT
 have jz:(lj vs).length=vs.length:=by simp[lj]
 have dD:eG ts id=some t:=by
  unfold iH at aE
  split at aE
  ·cases aE
  ·rename_i t' ht
   split at aE
   ·cases aE
   ·cases aE;exact ht
 have awm:off+vs.length<=t.n:=by
  unfold iH at aE
  rw[dD] at aE
  simp only at aE
  split at aE
  ·cases aE
  ·omega
 have yM:=S.small dD
 have jQ:=S.UU dD
 have lZ:t.enc.cells=[.vs (dU t.l) .ao, .int .i64 t.n]:=rfl
 have aM: ∀b,b<h.next-> ¬b=h.next:=fun b hb=>by omega
 refine ok.dz (rf:=rD) rfl (Nat.le_of_ble_eq_true rfl) ?_
 simp+decide only[st,rD,xX]
 let J:Nat->Env->aa->Prop:=fun m ρ h'=> ∃i,i+m=vs.length/\ρ 0= .ptr bs 0/\ρ 2= .int .i64 off/\ρ 3= .vs (lj vs) tl/\ρ 9= .ptr h.next 0/\ρ 11= .int .i64 i/\
  h.next<h'.next/\h'.get h.next=some (.cells [.vs (dU t.l) .ao, .int .i64 t.n])/\dY h' bs bm bl bp (ju fs t off vs i) ts/\ ∀b,b<h.next->b≠bl->h'.get b=h.get b
 refine lQ 0 rfl rfl J (fun l' ρ h hk=>hk) ?_ ?_
 ·simp+decide only[st,rD,xX,EI,EH,EG,EF,EE,ED,EC,EB,EA,j7,jz]
  refine aq kT ?_
  simp+decide only[st,ub,lZ]
  exact⟨vs.length,0,by omega,by simp+decide only[st],by simp+decide only[st],by simp+decide only[st],by simp+decide only[st],by simp+decide only[st],by simp+decide only[st];omega,by simp+decide only[st],S.bM (by simp+decide only[st];omega) (fun b hb=>(by simp+decide only[st,aM b hb])),fun b hb _=>(by simp+decide only[st,aM b hb])⟩
 ·rintro m ρ h2 ⟨i,pT,r0,r2,r3,r9,eU,aC,cE,Sp,iz⟩
  have hc:=av Sp.top
  by_cases hi:i<vs.length
  ·have hq:((off:Int)+(i:Int)).tdiv 16=(((off+i)/16:Nat):Int):=by rw[Int.tdiv_eq_ediv_of_nonneg (by omega)];omega
   have hm:((off:Int)+(i:Int)).tmod 16=(((off+i)%16:Nat):Int):=by rw[Int.tmod_eq_emod_of_nonneg (by omega)];omega
   have hw:IntKind.wrap .i64 ((off:Int)+(i:Int))=(off:Int)+(i:Int):=bw (by omega) (by omega)
   have sQ:=se (n:=(off+i)/16) (by omega)
   have jh:(off+i)/16<t.l.length:=by omega
   have cw:(dU t.l)[(off+i)/16]? =some [.int .i64 (t.l[(off+i)/16]:Int)]:=by simp[dU,List.getElem?_eq_getElem jh]
   have hv:(lj vs)[i]? =some [.int .u8 vs[i]]:=by simp[lj,List.getElem?_eq_getElem hi]
   have S3:=Sp.clean 17
   have dE:=aj3 ok S3.mem S3.l3 (t.l[(off+i)/16]:Int) (((off+i)%16:Nat):Int) vs[i]
   have hwr:ju fs t off vs (i+1)=qi (ju fs t off vs i) (t.l[(off+i)/16]:Int) (((off+i)%16:Nat):Int) vs[i]:=by
    simp only[ju,ua,List.getElem?_eq_getElem jh,List.getElem?_eq_getElem hi,Option.getD_some]
   have S4:=S3.cu (gs:=ju fs t off vs (i+1)) (by rw[NA,NA]) (ad1 S.mem.len)
   rw[<-hwr] at dE
   have l1:=Sp.l1
   have l3:=Sp.l3
   have mA:((off:Int)+(i:Int)).tmod 16=(((off+i)%16:Nat):Int):=hm
   simp+decide only[st,rD,xX,EI,EH,EG,EF,EE,ED,EC,EB,EA,r0,r2,r3,r9,eU,hi,hw,jz]
   refine Hs rfl ?_
   simp+decide only[st,r0,r2,r3,r9,eU,hc,l1,aC,av cE,hq,sQ,cw,hv,mA,List.length_cons,List.length_nil]
   refine fA dE ((jD l3).2 (by simp+decide only[st])) ?_
   simp+decide only[st,eU,cT (show i<2^61 by omega)]
   refine⟨m-1,by omega,i+1,by omega,by simp+decide only[st,r0],by simp+decide only[st,r2],by simp+decide only[st,r3],by simp+decide only[st,r9],by simp+decide only[st],?_,?_,S4,fun b hb h1=>?_⟩
   ·simp only[gy,aa.set,aa.clean];omega
   ·have:h.next≠bl:=by have:=S.l3;omega
    simp only[gy,aa.set,aa.clean]
    rw[if_neg this,if_pos aC]
    exact cE
   ·simp only[gy,aa.set,aa.clean]
    rw[if_neg h1,if_pos (by omega)]
    exact iz b hb h1
  ·have cP:i=vs.length:=by omega
   subst cP
   simp+decide only[st,rD,xX,EI,EH,EG,EF,EE,ED,EC,EB,EA,r0,r2,r3,r9,eU,hi,jz,kI,kE]
   exact⟨Sp,by omega,iz⟩
end
section
open Go
variable {fs:List Fr} {ts:iV}
def Valid (fs:List Fr) (l:List Nat):Prop:= ∀f∈l,∃x,fs[f]? =some x/\x.taken=true/\x.b.length=16
def xP (fs:List Fr) (f j:Nat):Int:=((fs[f]?).bind fun x=>x.b[j]?).getD 0
theorem w8 {t:Tb} {j:Nat} (hv:Valid fs t.l) (hj:j<16*t.l.length): ∃f,t.l[j/16]? =some f/\my fs t j=xP fs f (j%16):=by
 have aC:j/16<t.l.length:=by omega
 have hg:=List.getElem?_eq_getElem aC
 obtain⟨x,h1,h2,h3⟩:=hv _ (List.getElem_mem aC)
 refine⟨_,hg,?_⟩
 have ha:iT fs (t.l[j/16]:Int)=some t.l[j/16]:=by
  simp only[iT,Int.toNat_natCast,h1,h2]
  rw[if_pos (by omega)]
  simp
 have hb:k8 fs (t.l[j/16]:Int) ((j%16:Nat):Int)=(some (t.l[j/16],j%16),0):=by
  simp only[k8,ha]
  rw[if_neg (by omega),Int.toNat_natCast]
 simp only[my,hg,Option.getD_some,zN,hb,xP]
theorem HS {t:Tb} {a:Nat} {v:Int} (hv:Valid fs t.l) (ha:a<16*t.l.length): ∃f x,t.l[a/16]? =some f/\fs[f]? =some x/\x.taken=true/\x.b.length=16/\ua fs t a v=fs.set f {x with b:=x.b.set (a%16) v}:=by
 have aC:a/16<t.l.length:=by omega
 have hg:=List.getElem?_eq_getElem aC
 obtain⟨x,h1,h2,h3⟩:=hv _ (List.getElem_mem aC)
 refine⟨_,x,hg,h1,h2,h3,?_⟩
 have hA:iT fs (t.l[a/16]:Int)=some t.l[a/16]:=by
  simp only[iT,Int.toNat_natCast,h1,h2]
  rw[if_pos (by omega)]
  simp
 have hb:k8 fs (t.l[a/16]:Int) ((a%16:Nat):Int)=(some (t.l[a/16],a%16),0):=by
  simp only[k8,hA]
  rw[if_neg (by omega),Int.toNat_natCast]
 simp only[ua,hg,Option.getD_some,qi,hb,h1]
theorem alU {l:List Nat} {f:Nat} {x:Fr} {b:List Int} (hv:Valid fs l) (hx:fs[f]? =some x) (ht:x.taken=true) (hb:b.length=16):Valid (fs.set f {x with b:=b}) l:=by
 intro g hg
 obtain⟨y,h1,h2,h3⟩:=hv g hg
 by_cases h:f=g
 ·subst h
  have aC:=(List.getElem?_eq_some_iff.1 hx).1
  exact⟨_,List.getElem?_set_self aC,ht,hb⟩
 ·exact⟨y,by rw[List.getElem?_set_ne h];exact h1,h2,h3⟩
theorem G2 {t:Tb} {a:Nat} {v:Int} (hv:Valid fs t.l) (ha:a<16*t.l.length) {l:List Nat} (hl:Valid fs l):Valid (ua fs t a v) l:=by
 obtain⟨f,x,_,h1,h2,h3,he⟩:=HS (v:=v) hv ha
 rw[he]
 exact alU hl h1 h2 (by simp[h3])
theorem amR {t:Tb} {a:Nat} {v:Int} (hv:Valid fs t.l) (ha:a<16*t.l.length):dQ (ua fs t a v)=dQ fs:=by
 obtain⟨f,x,_,h1,h2,h3,he⟩:=HS (v:=v) hv ha
 obtain⟨aC,Wm⟩:=List.getElem?_eq_some_iff.1 h1
 rw[he]
 unfold dQ
 rw[List.countP_set aC,Wm]
 have:0<List.countP (fun x=>x.taken) fs:=List.countP_pos_iff.2 ⟨x,List.mem_of_getElem? h1,h2⟩
 simp[h2]
 omega
theorem Cm {α:Type} {l:List α} (hn:l.Nodup) {i j:Nat} (hi:i<l.length) (hj:j<l.length) (h:l[i]=l[j]):i=j:=by
 rw[List.nodup_iff_pairwise_ne,List.pairwise_iff_getElem] at hn
 rcases Nat.lt_trichotomy i j with h1|h1|h1
 ·exact absurd h (hn i j hi hj h1)
 ·exact h1
 ·exact absurd h.symm (hn j i hj hi h1)
theorem asN {t:Tb} {a j:Nat} {v:Int} (hv:Valid fs t.l) (hn:t.l.Nodup) (ha:a<16*t.l.length) (hj:j<16*t.l.length):my (ua fs t a v) t j=if j=a then v else my fs t j:=by
 obtain⟨f,x,hf,h1,h2,h3,he⟩:=HS (v:=v) hv ha
 obtain⟨g,hg,e1⟩:=w8 hv hj
 obtain⟨g',cF,e2⟩:=w8 (G2 (v:=v) hv ha hv) hj
 rw[hg] at cF;cases cF
 rw[e1,e2,he]
 have aC:=(List.getElem?_eq_some_iff.1 h1).1
 unfold xP
 by_cases Gk:f=g
 ·subst Gk
  have hdiv:a/16=j/16:=by
   have h5:=(List.getElem?_eq_some_iff.1 hf)
   have h6:=(List.getElem?_eq_some_iff.1 hg)
   exact Cm hn h5.1 h6.1 (h5.2.trans h6.2.symm)
  rw[List.getElem?_set_self aC,h1]
  simp only[Option.bind_some,List.getElem?_set]
  by_cases hja:j=a
  ·subst hja
   rw[if_pos rfl,if_pos rfl,if_pos (by omega)]
   rfl
  ·rw[if_neg hja,if_neg (by omega)]
 ·rw[List.getElem?_set_ne Gk]
  have:j≠a:=by
   intro h
   subst h
   rw[hf] at hg;cases hg;exact Gk rfl
  rw[if_neg this]
theorem aj7 {t t':Tb} {a j:Nat} {v:Int} (hv:Valid fs t.l) (da:Valid fs t'.l) (hd: ∀f∈t.l,f∉t'.l) (ha:a<16*t.l.length) (hj:j<16*t'.l.length):my (ua fs t a v) t' j=my fs t' j:=by
 obtain⟨f,x,hf,h1,h2,h3,he⟩:=HS (v:=v) hv ha
 obtain⟨g,hg,e1⟩:=w8 da hj
 obtain⟨g',cF,e2⟩:=w8 (G2 (v:=v) hv ha da) hj
 rw[hg] at cF;cases cF
 rw[e1,e2,he]
 have Gk:f≠g:=fun h=>hd f (List.mem_of_getElem? hf) (by rw[h];exact List.mem_of_getElem? hg)
 unfold xP
 rw[List.getElem?_set_ne Gk]
section
variable {t:Tb} {off:Nat} {bs:List Int}
theorem Ci (hv:Valid fs t.l) {l:List Nat} (hl:Valid fs l): ∀{i:Nat},off+i<=16*t.l.length->Valid (ju fs t off bs i) t.l/\Valid (ju fs t off bs i) l
 |0,_=>⟨hv,hl⟩
 |i+1,hi=>by
  obtain⟨h1,h2⟩:=Ci hv hl (i:=i) (by omega)
  exact⟨G2 h1 (by omega) h1,G2 h1 (by omega) h2⟩
theorem Zs (hv:Valid fs t.l): ∀{i:Nat},off+i<=16*t.l.length->dQ (ju fs t off bs i)=dQ fs
 |0,_=>rfl
 |i+1,hi=>by
  have h1:=(Ci (bs:=bs) hv hv (i:=i) (off:=off) (by omega)).1
  simp only[ju]
  rw[amR h1 (by omega),Zs hv (by omega)]
theorem aa0 (hv:Valid fs t.l) (hn:t.l.Nodup) {j:Nat} (hj:j<16*t.l.length): ∀{i:Nat},off+i<=16*t.l.length->my (ju fs t off bs i) t j=if off<=j/\j<off+i then bs[j-off]?.getD 0 else my fs t j
 |0,_=>by rw[if_neg (by omega)];rfl
 |i+1,hi=>by
  have h1:=(Ci (bs:=bs) hv hv (i:=i) (off:=off) (by omega)).1
  simp only[ju]
  rw[asN h1 hn (by omega) hj,aa0 hv hn hj (by omega)]
  by_cases h:j=off+i
  ·subst h
   rw[if_pos rfl,if_pos (by omega)]
   congr 2;omega
  ·rw[if_neg h]
   by_cases h2:off<=j/\j<off+i
   ·rw[if_pos h2,if_pos (by omega)]
   ·rw[if_neg h2,if_neg (by omega)]
theorem Xw (hv:Valid fs t.l) {t':Tb} (da:Valid fs t'.l) (hd: ∀f∈t.l,f∉t'.l) {j:Nat} (hj:j<16*t'.l.length): ∀{i:Nat},off+i<=16*t.l.length->my (ju fs t off bs i) t' j=my fs t' j
 |0,_=>rfl
 |i+1,hi=>by
  obtain⟨h1,h2⟩:=Ci (bs:=bs) hv da (i:=i) (off:=off) (by omega)
  simp only[ju]
  rw[aj7 h1 h2 hd (by omega) hj,Xw hv da hd hj (by omega)]
end
theorem Yn (hl: ∀f∈fs,f.b.length=16): ∀{k:Nat},k<=fs.length-dQ fs->Valid (takeN fs k).1 (takeN fs k).2/\(takeN fs k).2.Nodup/\
 (∀f∈(takeN fs k).2,∃x,fs[f]? =some x/\x.taken=false)/\(∀f∈(takeN fs k).2,∀j,xP (takeN fs k).1 f j=0)/\ ∀f,f∉(takeN fs k).2->(takeN fs k).1[f]? =fs[f]?
 |0,_=>⟨fun f hf=>(by cases hf),List.nodup_nil,fun f hf=>(by cases hf),fun f hf=>(by cases hf),fun _ _=>rfl⟩
 |k+1,hk=>by
  obtain⟨h1,h2,h3,h4,h5⟩:=Yn hl (k:=k) (by omega)
  have Br:=MK (fs:=fs) (k:=k) (by omega)
  have uu:=Cj (fs:=fs) (k:=k)
  obtain⟨i,hi,_⟩:=Ms (fs:=(takeN fs k).1) (by omega)
  have aB:=hi
  unfold pn at aB
  rw[List.findIdx?_eq_some_iff_getElem] at aB
  obtain⟨aC,BF,_⟩:=aB
  have BF:(takeN fs k).1[i].taken=false:=by simpa using BF
  have hni:i∉(takeN fs k).2:=fun h=>by
   obtain⟨x,e1,e2,_⟩:=h1 i h
   rw[List.getElem?_eq_getElem aC] at e1;cases e1
   rw[BF] at e2;cases e2
  have hT:iN (takeN fs k).1=(takeN fs k).1.set i ⟨List.replicate 16 0,true⟩:=by simp only[iN,hi]
  have a7: ∀f,f≠i->(iN (takeN fs k).1)[f]? =(takeN fs k).1[f]?:=fun f hf=>by rw[hT,List.getElem?_set_ne (Ne.symm hf)]
  have Jw:(iN (takeN fs k).1)[i]? =some ⟨List.replicate 16 0,true⟩:=by rw[hT,List.getElem?_set_self aC]
  simp only[takeN,hi,Option.getD_some]
  refine⟨?_,?_,?_,?_,?_⟩
  ·intro f hf
   by_cases sX:f=i
   ·subst sX;exact⟨_,Jw,rfl,by simp⟩
   ·have yS:f∈(takeN fs k).2:=by simpa [sX] using hf
    rw[a7 f sX];exact h1 f yS
  ·rw[List.nodup_append]
   refine⟨h2,by simp,fun a ha b hb=>?_⟩
   simp at hb;subst hb
   exact fun h=>hni (h▸ha)
  ·intro f hf
   by_cases sX:f=i
   ·subst sX
    refine⟨_,?_,BF⟩
    rw[<-h5 f hni];exact List.getElem?_eq_getElem aC
   ·exact h3 f (by simpa [sX] using hf)
  ·intro f hf j
   unfold xP
   by_cases sX:f=i
   ·subst sX
    rw[Jw]
    simp only[Option.bind_some,List.getElem?_replicate]
    split<;>rfl
   ·rw[a7 f sX];exact h4 f (by simpa [sX] using hf) j
  ·intro f hf
   have:f≠i/\f∉(takeN fs k).2:=by simpa [not_or,and_comm] using hf
   rw[a7 f this.1];exact h5 f this.2
end
section
open Go
variable {fs:List Fr} {ts:iV}
abbrev Mem:=List (Int×List Int)
def j0 (n:Nat):Nat:=(n+15)/16
def jJ (A:Mem):Nat:=(A.map fun e=>j0 e.2.length).sum
def gN (A:Mem) (id:Int):Option (List Int):=(A.find? fun e=>id==e.1).map (·.2)
def ki (ts:iV):List Nat:=(ts.map (·.2.l)).flatten
def lg (fs:List Fr) (t:Tb):List Int:=ir fs t 0 t.n
structure il (N:Nat) (A:Mem) (fs:List Fr) (ts:iV):Prop where
 len:fs.length=N
 s9:A=ts.map fun e=>(e.1,lg fs e.2)
 tn: ∀e∈ts,e.2.n<=64/\e.2.l.length=(e.2.n+15)/16
 keys:(ts.map (·.1)).Nodup
 valid:Valid fs (ki ts)
 nodup:(ki ts).Nodup
 used:dQ fs=(ki ts).length
 b: ∀f∈fs,f.b.length=16
variable {N:Nat} {A:Mem}
theorem ZO {e:Int×Tb} (he:e∈ts) {f:Nat} (hf:f∈e.2.l):f∈ki ts:=List.mem_flatten.2 ⟨_,List.mem_map.2 ⟨e,he,rfl⟩,hf⟩
theorem il.val (R:il N A fs ts) {e:Int×Tb} (he:e∈ts):Valid fs e.2.l:=fun f hf=>R.valid f (ZO he hf)
theorem aae {g:Int×Tb->List Int} {id:Int}: ∀{ts:iV},gN (ts.map fun e=>(e.1,g e)) id=(ts.find? fun e=>id==e.1).map g
 |[]=>rfl
 |e::ts=>by
  have ih:=aae (g:=g) (id:=id) (ts:=ts)
  simp only[gN,List.map_cons,List.find?_cons] at ih ⊢
  cases id==e.1
  ·exact ih
  ·rfl
theorem il.get (R:il N A fs ts) (id:Int):gN A id=(eG ts id).map (lg fs):=by
 rw[R.s9,aae]
 simp only[eG,Option.map_map]
 rfl
theorem tG {t:Tb}:(lg fs t).length=t.n:=zE
theorem il.jJ (R:il N A fs ts):jJ A=dQ fs:=by
 rw[R.used,R.s9]
 have h:=R.tn
 clear R
 unfold Am.jJ ki
 induction ts with
 |nil=>rfl
 |cons e ts ih=>
  have h1:=(h e (by simp)).2
  simp only[List.map_cons,List.sum_cons,List.flatten_cons,List.length_append,tG,j0,h1]
  have:=ih (fun x hx=>h x (List.mem_cons_of_mem _ hx))
  simp only[j0,tG] at this
  omega
theorem YM {eo:List Fr} {t:Tb} (hv:Valid fs t.l) (hl:t.n<=16*t.l.length) (h: ∀f∈t.l,eo[f]? =fs[f]?):lg eo t=lg fs t:=by
 unfold lg ir
 refine List.map_congr_left (fun j hj=>?_)
 have kW:j<t.n:=by simpa using hj
 rw[Nat.zero_add]
 have da:Valid eo t.l:=fun f hf=>by rw[h f hf];exact hv f hf
 obtain⟨f,h1,h2⟩:=w8 hv (j:=j) (by omega)
 obtain⟨g,h3,h4⟩:=w8 da (j:=j) (by omega)
 rw[h1] at h3;cases h3
 rw[h2,h4]
 unfold xP
 rw[h f (List.mem_of_getElem? h1)]
def xE (N:Nat) (A:Mem) (id n:Int):Int×Mem:=
 if n<0\/64<n then(1,A) else if(gN A id).isSome then(1,A) else if N-jJ A<j0 n.toNat then(9,A) else(0,A++[(id,List.replicate n.toNat 0)])
theorem akR {id:Int} (h:eG ts id=none):id∉ts.map (·.1):=by
 unfold eG at h
 intro hm
 obtain⟨e,he,h2⟩:=List.mem_map.1 hm
 have:=List.find?_eq_none.1 (Option.map_eq_none_iff.1 h) e he
 simp[h2] at this
theorem il.map (R:il N A fs ts) (id n:Int):(mh fs ts id n).1=(xE N A id n).1/\il N (xE N A id n).2 (mh fs ts id n).2.1 (mh fs ts id n).2.2:=by
 unfold mh xE
 by_cases h1:n<0\/64<n
 ·simp only[if_pos h1];exact⟨trivial,R⟩
 rw[if_neg h1,if_neg h1]
 obtain⟨n,rfl⟩: ∃k:Nat,n=k:=⟨n.toNat,by omega⟩
 rw[R.get id,Option.isSome_map]
 cases dD:eG ts id with
 |some t=>simp only[Option.isSome,if_true];exact⟨trivial,R⟩
 |none=>
  simp only[Option.isSome,Bool.false_eq_true,if_false]
  have hn:hP n=j0 n:=by unfold hP j0;omega
  rw[R.jJ,hn,Int.toNat_natCast,<-R.len]
  by_cases h2:fs.length-dQ fs<j0 n
  ·simp only[if_pos h2];exact⟨trivial,R.len▸R⟩
  ·simp only[if_neg h2]
   refine⟨trivial,?_⟩
   obtain⟨g1,g2,g3,g4,g5⟩:=Yn R.b (k:=j0 n) (by omega)
   have uu:=Cj (fs:=fs) (k:=j0 n)
   have yi: ∀f∈ki ts,f∉(takeN fs (j0 n)).2:=fun f hf hf2=>by
    obtain⟨x,e1,e2,_⟩:=R.valid f hf
    obtain⟨y,e3,e4⟩:=g3 f hf2
    rw[e1] at e3;cases e3
    rw[e2] at e4;cases e4
   have gM:ki (ts++[(id,⟨(takeN fs (j0 n)).2,n⟩)])=ki ts++(takeN fs (j0 n)).2:=by simp[ki]
   have pF: ∀e∈ts,lg (takeN fs (j0 n)).1 e.2=lg fs e.2:=fun e he=>
    YM (R.val he) (by have:=(R.tn e he).2;omega) (fun f hf=>g5 f (yi f (ZO he hf)))
   exact
   {len:=uu.1
    s9:=by
     rw[List.map_append,List.map_cons,List.map_nil,R.s9]
     congr 1
     ·exact List.map_congr_left (fun e he=>by rw[pF e he])
     ·congr 2
      refine List.ext_getElem (by rw[tG];simp) (fun j uw pS=>?_)
      have hjn:j<n:=by simpa using uw
      simp only[List.getElem_replicate,lg,ir,List.getElem_map,List.getElem_range,Nat.zero_add]
      obtain⟨f,e1,e2⟩:=w8 (t:=⟨(takeN fs (j0 n)).2,n⟩) g1 (j:=j) (by show j<16*(takeN fs (j0 n)).2.length;rw[uu.2];unfold j0;omega)
      rw[e2,g4 f (List.mem_of_getElem? e1)]
    tn:=fun e he=>by
     rcases List.mem_append.1 he with he|he
     ·exact R.tn e he
     ·simp at he;subst he;exact⟨by show n<=64;omega,uu.2⟩
    keys:=by
     rw[List.map_append,List.nodup_append]
     refine⟨R.keys,by simp,fun a ha b hb=>?_⟩
     simp at hb;subst hb
     exact fun h=>akR dD (h▸ha)
    valid:=by
     rw[gM]
     intro f hf
     rcases List.mem_append.1 hf with hf|hf
     ·rw[g5 f (yi f hf)];exact R.valid f hf
     ·exact g1 f hf
    nodup:=by
     rw[gM,List.nodup_append]
     exact⟨R.nodup,g2,fun a ha b hb h=>yi a ha (h▸hb)⟩
    used:=by
     rw[gM,List.length_append,MK (by omega),R.used,uu.2]
    b:=aok R.b}
def vI (A:Mem) (id:Int) (off:Nat) (vs:List Int):Mem:=A.map fun e=>if id==e.1 then(e.1,e.2.take off++vs++e.2.drop (off+vs.length)) else e
theorem ZX {id off n:Int} {t:Tb} {e:Int} (h:iH ts id off n=(some t,e)):eG ts id=some t/\0<=off/\0<=n/\off+n<=t.n/\e=0:=by
 unfold iH at h
 split at h
 ·cases h
 ·rename_i t' ht
  split at h
  ·cases h
  ·cases h;exact⟨ht,by omega,by omega,by omega,rfl⟩
theorem keys_eq {e e':Int×Tb} (hk:(ts.map (·.1)).Nodup) (he:e∈ts) (dJ:e'∈ts) (h:e.1=e'.1):e=e':=by
 obtain⟨i,hi⟩:=List.mem_iff_getElem.1 he
 obtain⟨j,hj⟩:=List.mem_iff_getElem.1 dJ
 obtain⟨hi,rfl⟩:=hi
 obtain⟨hj,rfl⟩:=hj
 have:=Cm hk (i:=i) (j:=j) (by simpa using hi) (by simpa using hj) (by simpa using h)
 subst this
 rfl
theorem amq {α:Type} {ls:List (List α)} (hn:ls.flatten.Nodup) {i j:Nat} {a b:List α} (oO:i≠j) (ha:ls[i]? =some a) (hb:ls[j]? =some b): ∀x∈a,x∉b:=by
 have hp:ls.Pairwise (fun a b=> ∀x∈a,x∉b):=by
  rw[List.nodup_iff_pairwise_ne,List.pairwise_flatten] at hn
  exact hn.2.imp (fun h x hx oI=>h x hx x oI rfl)
 rw[List.pairwise_iff_getElem] at hp
 obtain⟨hi,rfl⟩:=List.getElem?_eq_some_iff.1 ha
 obtain⟨hj,rfl⟩:=List.getElem?_eq_some_iff.1 hb
 intro x hx oI
 rcases Nat.lt_or_gt_of_ne oO with h|h
 ·exact hp i j hi hj h x hx oI
 ·exact hp j i hj hi h x oI hx
theorem il.dC (R:il N A fs ts) {e e':Int×Tb} (he:e∈ts) (dJ:e'∈ts) (h:e≠e'): ∀f∈e.2.l,f∉e'.2.l:=by
 obtain⟨i,hi⟩:=List.mem_iff_getElem?.1 he
 obtain⟨j,hj⟩:=List.mem_iff_getElem?.1 dJ
 refine amq R.nodup (i:=i) (j:=j) (fun oO=>?_) (by simp[hi]) (by simp[hj])
 subst oO;rw[hi] at hj;cases hj;exact h rfl
theorem il.aa6 (R:il N A fs ts) {e:Int×Tb} (he:e∈ts):e.2.l.Nodup:=by
 have:=R.nodup
 unfold ki at this
 rw[List.nodup_iff_pairwise_ne,List.pairwise_flatten] at this
 exact List.nodup_iff_pairwise_ne.2 (this.1 _ (List.mem_map.2 ⟨e,he,rfl⟩))
theorem il.write (R:il N A fs ts) {id:Int} {off:Nat} {vs:List Int} {t:Tb} {e:Int} (aE:iH ts id off vs.length=(some t,e)):il N (vI A id off vs) (ju fs t off vs vs.length) ts:=by
 obtain⟨dD,_,_,hle,_⟩:=ZX aE
 obtain⟨x,hx,pO,rfl⟩:=G3 dD
 have F6:=R.tn x hx
 have hv:=R.val hx
 have KT:off+vs.length<=16*x.2.l.length:=by omega
 have hvalid: ∀l,Valid fs l->Valid (ju fs x.2 off vs vs.length) l:=fun l hl=>(Ci hv hl KT).2
 exact
 {len:=by rw[NA,R.len]
  s9:=by
   unfold vI
   conv=>lhs;rw[R.s9]
   rw[List.map_map]
   refine List.map_congr_left (fun y hy=>?_)
   simp only[Function.comp]
   by_cases aL:id=y.1
   ·have wh:y=x:=keys_eq R.keys hy hx (by rw[<-aL,pO])
    subst wh
    simp only[aL,beq_self_eq_true,if_true]
    congr 1
    refine List.ext_getElem (by simp[tG];omega) (fun j uw pS=>?_)
    have hjn:j<y.2.n:=by rw[tG] at pS;exact pS
    simp only[lg,ir,List.getElem_map,List.getElem_range,Nat.zero_add]
    rw[aa0 hv (R.aa6 hx) (by omega) KT]
    have yU:(lg fs y.2).length=y.2.n:=tG
    have axs:(List.take off (List.map (fun j=>my fs y.2 (0+j)) (List.range y.2.n))).length=off:=by simp;omega
    by_cases h1:j<off
    ·rw[if_neg (by omega),List.getElem_append_left (by simp;omega),List.getElem_append_left (by simp;omega)]
     simp
    ·by_cases h2:j<off+vs.length
     ·rw[if_pos (by omega),List.getElem_append_left (by simp;omega),List.getElem_append_right (by simp;omega)]
      simp only[List.length_take,List.length_map,List.length_range]
      rw[List.getElem?_eq_getElem (by omega)]
      simp only[Option.getD_some]
      congr 1;omega
     ·rw[if_neg (by omega),List.getElem_append_right (by simp;omega)]
      simp only[List.length_append,List.length_take,List.length_map,List.length_range,List.getElem_drop,List.getElem_map,List.getElem_range,Nat.zero_add]
      congr 1;omega
   ·have hb:(id==y.1)=false:=by simpa using aL
    simp only[hb,Bool.false_eq_true,if_false]
    have aM:x≠y:=fun h=>aL (by rw[<-h,pO])
    congr 1
    unfold lg ir
    refine List.map_congr_left (fun j hj=>?_)
    have hjn:j<y.2.n:=by simpa using hj
    rw[Xw hv (R.val hy) (R.dC hx hy aM) (by have:=(R.tn y hy).2;omega) KT]
  tn:=R.tn
  keys:=R.keys
  valid:=hvalid _ R.valid
  nodup:=R.nodup
  used:=by rw[Zs hv KT,R.used]
  b:=ad1 R.b}
theorem il.read (R:il N A fs ts) {id:Int} {off n:Nat} {t:Tb} {e:Int} (aE:iH ts id off n=(some t,e)):ir fs t off n=((lg fs t).drop off).take n:=by
 obtain⟨dD,_,_,hle,_⟩:=ZX aE
 refine List.ext_getElem (by simp[zE,tG];omega) (fun j h1 h2=>?_)
 simp[ir,lg]
end
section
open Go
variable {fs:List Fr} {ts:iV} {N:Nat} {A:Mem}
def sH (A:Mem) (id:Int):Mem:=A.eraseP fun e=>id==e.1
theorem aam {id:Int}: ∀{ts:iV},vL ts id=ts.eraseP fun e=>id==e.1
 |[]=>rfl
 |e::ts=>by
  have ih:=aam (id:=id) (ts:=ts)
  simp only[vL,sq,List.findIdx?_cons,List.eraseP_cons] at ih ⊢
  cases h:id==e.1
  ·simp only[Bool.false_eq_true,if_false]
   rw[<-ih]
   cases h2:List.findIdx? (fun e=>id==e.1) ts with
   |none=>rfl
   |some i=>simp[h2]
  ·rfl
theorem YH {f g:Nat} (h:g≠f):(jG fs (f:Int))[g]? =fs[g]?:=by
 unfold jG
 split
 ·rfl
 ·rename_i i hi
  obtain⟨x,_,_,e⟩:=Na hi
  have:i=f:=by omega
  subst this
  split
  ·rfl
  ·rw[List.getElem?_set_ne (Ne.symm h)]
theorem X7: ∀{l:List Nat} {fs:List Fr} {g:Nat},g∉l->(lU fs l)[g]? =fs[g]?
 |[],_,_,_=>rfl
 |f::l,fs,g,h=>by
  have h1:=X7 (l:=l) (fs:=jG fs f) (g:=g) (fun hm=>h (List.mem_cons_of_mem _ hm))
  simp only[lU,List.foldl_cons] at h1 ⊢
  rw[h1,YH (fun e=>h (by rw[e];simp))]
theorem akt {f:Nat} {x:Fr} (hx:fs[f]? =some x) (ht:x.taken=true):dQ (jG fs (f:Int))+1=dQ fs:=by
 have ha:iT fs (f:Int)=some f:=by
  simp only[iT,Int.toNat_natCast,hx,ht]
  rw[if_pos (by omega)]
  simp
 obtain⟨aC,Wm⟩:=List.getElem?_eq_some_iff.1 hx
 simp only[jG,ha,hx]
 unfold dQ
 rw[List.countP_set aC,Wm]
 have:0<List.countP (fun x=>x.taken) fs:=List.countP_pos_iff.2 ⟨x,List.mem_of_getElem? hx,ht⟩
 simp[ht]
 omega
theorem Xz: ∀{l:List Nat} {fs:List Fr},l.Nodup->Valid fs l->dQ (lU fs l)+l.length=dQ fs
 |[],_,_,_=>rfl
 |f::l,fs,hn,hv=>by
  obtain⟨x,h1,h2,_⟩:=hv f (by simp)
  have gQ:=List.nodup_cons.1 hn
  have:=Xz (l:=l) (fs:=jG fs f) gQ.2 (fun g hg=>by
   have hgf:g≠f:=fun e=>gQ.1 (by rw[<-e];exact hg)
   rw[YH hgf]
   exact hv g (List.mem_cons_of_mem _ hg))
  have h3:=akt h1 h2
  simp only[lU,List.foldl_cons,List.length_cons] at this ⊢
  omega
def wS (A:Mem) (id:Int):Int×Mem:=match gN A id with
 |none=>(7,A)
 |some _=>(0,sH A id)
theorem eraseP_map {α β:Type} {p:β->Bool} {f:α->β}: ∀{l:List α},(l.map f).eraseP p=(l.eraseP (p∘f)).map f
 |[]=>rfl
 |a::l=>by
  simp only[List.map_cons,List.eraseP_cons,Function.comp]
  cases p (f a)
  ·simp[eraseP_map (l:=l)]
  ·rfl
theorem il.QZ (R:il N A fs ts) (id:Int):(qk fs ts id).1=(wS A id).1/\il N (wS A id).2 (qk fs ts id).2.1 (qk fs ts id).2.2:=by
 unfold qk wS
 rw[R.get id]
 cases dD:eG ts id with
 |none=>exact⟨rfl,R⟩
 |some t=>
  simp only[Option.map_some]
  refine⟨trivial,?_⟩
  obtain⟨x,hx,pO,rfl⟩:=G3 dD
  obtain⟨a,l1,l2,h1,h2,h3,h4⟩:=List.exists_of_eraseP hx (p:=fun e=>id==e.1) (by simp[pO])
  have WL:a=x:=keys_eq R.keys (by rw[h3];simp) hx (by simp at h2;rw[pO,<-h2])
  subst WL
  rw[aam,h4]
  have dg: ∀e∈l1++l2,e∈ts:=fun e he=>by
   rw[h3]
   rcases List.mem_append.1 he with h|h
   ·exact List.mem_append_left _ h
   ·exact List.mem_append_right _ (List.mem_cons_of_mem _ h)
  have iq:=R.keys
  rw[h3,List.map_append,List.map_cons] at iq
  have oM: ∀e∈l1++l2,e≠a:=fun e he h=>by
   subst h
   rw[List.nodup_append,List.nodup_cons] at iq
   rcases List.mem_append.1 he with h|h
   ·exact iq.2.2 _ (List.mem_map.2 ⟨e,h,rfl⟩) _ (by simp) rfl
   ·exact iq.2.1.1 (List.mem_map.2 ⟨e,h,rfl⟩)
  have yi: ∀e∈l1++l2,∀f∈e.2.l,f∉a.2.l:=fun e he=>R.dC (dg e he) hx (oM e he)
  have a7: ∀e∈l1++l2,∀f∈e.2.l,(lU fs a.2.l)[f]? =fs[f]?:=fun e he f hf=>X7 (yi e he f hf)
  have Fj:=R.nodup
  have Br:=R.used
  have hfu:=Xz (R.aa6 hx) (R.val hx)
  have auH:ki ts=ki l1++(a.2.l++ki l2):=by rw[h3];simp[ki]
  have aem:ki (l1++l2)=ki l1++ki l2:=by simp[ki]
  rw[auH] at Fj Br
  exact
  {len:=by rw[X6,R.len]
   s9:=by
    unfold sH
    conv=>lhs;rw[R.s9]
    rw[eraseP_map]
    have:(fun e=>id==e.1)∘(fun e:Int×Tb=>(e.1,lg fs e.2))=fun e=>id==e.1:=rfl
    rw[this,h4]
    refine List.map_congr_left (fun e he=>?_)
    congr 1
    exact(YM (R.val (dg e he)) (by have:=(R.tn e (dg e he)).2;omega) (a7 e he)).symm
   tn:=fun e he=>R.tn e (dg e he)
   keys:=by
    rw[List.map_append]
    rw[List.nodup_append,List.nodup_cons] at iq
    rw[List.nodup_append]
    exact⟨iq.1,iq.2.1.2,fun u hu v hv=>iq.2.2 u hu v (List.mem_cons_of_mem _ hv)⟩
   valid:=fun f hf=>by
    obtain⟨l,hl,bH⟩:=List.mem_flatten.1 hf
    obtain⟨e,he,rfl⟩:=List.mem_map.1 hl
    rw[a7 e he f bH]
    exact R.val (dg e he) f bH
   nodup:=by
    rw[aem]
    rw[List.nodup_append,List.nodup_append] at Fj
    rw[List.nodup_append]
    exact⟨Fj.1,Fj.2.1.2.1,fun u hu v hv=>Fj.2.2 u hu v (List.mem_append_right _ hv)⟩
   used:=by
    rw[aem,List.length_append]
    simp only[List.length_append] at Br
    omega
   b:=Zc R.b}
variable {P:Program} {h:aa} {bs bm bl bp:Nat}
def gT (h:aa) (bs bm bl bp N:Nat) (A:Mem):Prop:= ∃fs ts,dY h bs bm bl bp fs ts/\il N A fs ts
theorem gT.bM (S:gT h bs bm bl bp N A) {h':aa} (hn:h.next<=h'.next) (hk: ∀b,b<h.next->h'.get b=h.get b):gT h' bs bm bl bp N A:=by
 obtain⟨fs,ts,S,R⟩:=S
 exact⟨fs,ts,S.bM hn hk,R⟩
theorem gT.clean (S:gT h bs bm bl bp N A) (n:Nat):gT (h.clean n) bs bm bl bp N A:=by
 obtain⟨fs,ts,S,R⟩:=S
 exact⟨fs,ts,S.clean n,R⟩
theorem gT.lt (S:gT h bs bm bl bp N A):bs<h.next/\bm<h.next/\bl<h.next/\bp<h.next:=by
 obtain⟨fs,ts,S,R⟩:=S
 exact⟨S.l1,S.l2,S.l3,S.l4⟩
theorem avH (ok:ax P tb) (h:aa) (n:Int): ∃bs bm bl bp h',an P 35 [.int .i64 n] h (.ptr bs 0) h'/\gT h' bs bm bl bp (vt n) []/\
 h.next<=bs/\h.next<=bm/\h.next<=bl/\h.next<=bp/\h.next<=h'.next/\ ∀b,b<h.next->h'.get b=h.get b:=by
 obtain⟨bs,bm,bl,bp,h',h1,h2,h3⟩:=apk ok h n
 refine⟨bs,bm,bl,bp,h',h1,⟨_,_,h2,?_⟩,h3⟩
 exact{len:=by simp,s9:=rfl,tn:=fun e he=>(by cases he),keys:=List.nodup_nil,valid:=fun f hf=>(by cases hf),nodup:=List.nodup_nil
       used:=by unfold dQ;rw[List.countP_replicate];rfl
       b:=fun f hf=>by simp[List.mem_replicate] at hf;simp[hf.2,F0]}
theorem avI (ok:ax P tb) (S:gT h bs bm bl bp N A) (id n:Int): ∃h',an P 40 [.ptr bs 0, .int .u64 id, .int .i64 n] h (.int .i64 (xE N A id n).1) h'/\
 (gT h' bs bm bl bp N (xE N A id n).2/\h.next<=h'.next/\ ∀b,b<h.next->b≠bl->b≠bp->h'.get b=h.get b):=by
 obtain⟨fs,ts,S,R⟩:=S
 obtain⟨h',h1,h2,h3⟩:=amf ok S id n
 obtain⟨e1,e2⟩:=R.map id n
 rw[e1] at h1
 exact⟨h',h1,⟨_,_,h2,e2⟩,h3⟩
theorem apg (ok:ax P tb) (S:gT h bs bm bl bp N A) (id:Int): ∃h',an P 149 [.ptr bs 0, .int .u64 id] h (.int .i64 (wS A id).1) h'/\
 (gT h' bs bm bl bp N (wS A id).2/\h.next<=h'.next/\ ∀b,b<h.next->b≠bl->b≠bp->h'.get b=h.get b):=by
 obtain⟨fs,ts,S,R⟩:=S
 obtain⟨h',h1,h2,h3⟩:=aj0 ok S id
 obtain⟨e1,e2⟩:=R.QZ id
 rw[e1] at h1
 exact⟨h',h1,⟨_,_,h2,e2⟩,h3⟩
theorem avJ (ok:ax P tb) (S:gT h bs bm bl bp N A) (id:Int):an P 47 [.ptr bs 0, .int .u64 id] h (match gN A id with|some d=> .az [.int .i64 d.length, .int .i64 0]|none=> .az [.int .i64 0, .int .i64 7]) h:=by
 obtain⟨fs,ts,S,R⟩:=S
 have:=alb ok S id
 rw[R.get id]
 cases dD:eG ts id with
 |none=>rw[dD] at this;exact this
 |some t=>rw[dD] at this;simp only[Option.map_some,tG];exact this
def sl (A:Mem) (id off n:Int):Option (List Int)×Int:=match gN A id with
 |none=>(none,7)
 |some d=>if off<0\/n<0\/(d.length:Int)<off\/(d.length:Int)-off<n then(none,11) else(some d,0)
theorem il.LC (R:il N A fs ts) (id off n:Int):sl A id off n=((iH ts id off n).1.map (lg fs),(iH ts id off n).2):=by
 unfold sl iH
 rw[R.get id]
 cases eG ts id with
 |none=>rfl
 |some t=>
  simp only[Option.map_some,tG]
  split<;>rfl
theorem asF (ok:ax P tb) (S:gT h bs bm bl bp N A) {id:Int} {off n:Nat} {d:List Int} (aE:sl A id off n=(some d,0)):an P 48 [.ptr bs 0, .int .u64 id, .int .i64 off, .int .i64 n] h (.az [.vs (lj ((d.drop off).take n)) .ao, .int .i64 0]) h:=by
 obtain⟨fs,ts,S,R⟩:=S
 rw[R.LC] at aE
 cases hr:iH ts id off n with
 |mk o e=>
  rw[hr] at aE
  cases o with
  |none=>cases aE
  |some t=>
   cases aE
   have:=anf ok S hr
   rw[R.read hr] at this
   exact this
theorem akM (ok:ax P tb) (S:gT h bs bm bl bp N A) {id off n e:Int} (aE:sl A id off n=(none,e)) (he:e≠0):an P 48 [.ptr bs 0, .int .u64 id, .int .i64 off, .int .i64 n] h (.az [.vs [] .full, .int .i64 e]) h:=by
 obtain⟨fs,ts,S,R⟩:=S
 rw[R.LC] at aE
 cases hr:iH ts id off n with
 |mk o e'=>
  rw[hr] at aE
  cases o with
  |none=>cases aE;exact al6 ok S hr he
  |some t=>cases aE
theorem apf (ok:ax P tb) (S:gT h bs bm bl bp N A) {id:Int} {off:Nat} {vs d:List Int} {tl:aH} (aE:sl A id off vs.length=(some d,0)): ∃h',an P 41 [.ptr bs 0, .int .u64 id, .int .i64 off, .vs (lj vs) tl] h (.int .i64 0) h'/\
 (gT h' bs bm bl bp N (vI A id off vs)/\h.next<=h'.next/\ ∀b,b<h.next->b≠bl->h'.get b=h.get b):=by
 obtain⟨fs,ts,S,R⟩:=S
 rw[R.LC] at aE
 cases hr:iH ts id off vs.length with
 |mk o e=>
  rw[hr] at aE
  cases o with
  |none=>cases aE
  |some t=>
   cases aE
   obtain⟨h',h1,h2,h3⟩:=ajZ ok S (tl:=tl) hr
   exact⟨h',h1,⟨_,_,h2,R.write hr⟩,h3⟩
theorem ajY (ok:ax P tb) (S:gT h bs bm bl bp N A) {id off e:Int} {xs:List (List AV)} {tl:aH} (aE:sl A id off xs.length=(none,e)) (he:e≠0):an P 41 [.ptr bs 0, .int .u64 id, .int .i64 off, .vs xs tl] h (.int .i64 e) h:=by
 obtain⟨fs,ts,S,R⟩:=S
 rw[R.LC] at aE
 cases hr:iH ts id off xs.length with
 |mk o e'=>
  rw[hr] at aE
  cases o with
  |none=>cases aE;exact akN ok S hr he
  |some t=>cases aE
end
section
open Go
variable {P:Program}
structure Sl where
 r:Option (Nat×List UInt8)
 cu:Int
def Sl.enc (s:Sl):List AV:=match s.r with
 |some (id,b)=>[.int .u64 id, .vs (BS b) .ao, .bool true, .int .i64 s.cu]
 |none=>[.int .u64 0, .vs [] .full, .bool false, .int .i64 s.cu]
theorem Sl.len {s:Sl}:s.enc.length=4:=by unfold Sl.enc;split<;>rfl
theorem rO {S:List Sl}: ∀r∈S.map Sl.enc,r.length=4:=fun r hr=>by
 obtain⟨s,_,rfl⟩:=List.mem_map.1 hr
 exact s.len
theorem Sl.taken {s:Sl}:s.enc[2]? =some (.bool s.r.isSome):=by unfold Sl.enc;split<;>simp[*]
theorem Sl.trn {s:Sl}:s.enc[3]? =some (.int .i64 s.cu):=by unfold Sl.enc;split<;>rfl
theorem Sl.adY {s:Sl}:s.enc.all AV.one=true:=by unfold Sl.enc;split<;>rfl
def k9 (es:List (Nat×Nat)):List (AV×AV):=es.map fun e=>(.int .u64 e.1, .int .i64 e.2)
def cD (es:List (Nat×Nat)) (id:Nat):Option Nat:=(es.find? fun e=>id==e.1).map (·.2)
def og (es:List (Nat×Nat)) (id:Nat):Option Nat:=es.findIdx? fun e=>id==e.1
theorem an7 {a b:Nat}:((a:Int)==(b:Int))=(a==b):=by
 rw[Bool.eq_iff_iff];simp only[beq_iff_eq];omega
theorem HK {id:Nat}: ∀(es:List (Nat×Nat)) (i:Nat),mM (.int .u64 id) (k9 es) i=some ((og es id).map (· +i))
 |[],i=>rfl
 |e::es,i=>by
  have ih:=HK (id:=id) es (i+1)
  simp only[k9,List.map_cons,mM,if_true,og,List.findIdx?_cons,an7] at ih ⊢
  by_cases h:(id==e.1)=true
  ·simp[h]
  ·have h':(id==e.1)=false:=by simpa using h
   simp only[h',Bool.false_eq_true,if_false,ih,Option.map_map]
   cases List.findIdx? (fun e=>id==e.1) es with
   |none=>rfl
   |some k=>simp only[Option.map_some,Function.comp];congr 2;omega
theorem G8 {id:Nat}: ∀{es:List (Nat×Nat)},cD es id=(og es id).bind fun i=>(es[i]?).map (·.2)
 |[]=>rfl
 |e::es=>by
  have ih:=G8 (id:=id) (es:=es)
  simp only[cD,og,List.find?_cons,List.findIdx?_cons] at ih ⊢
  cases h:id==e.1
  ·simp only[Bool.false_eq_true,if_false,ih]
   cases List.findIdx? (fun e=>id==e.1) es<;>rfl
  ·rfl
theorem aow {id:Nat} {es:List (Nat×Nat)}:u2 (.int .u64 id) (k9 es)=some ((cD es id).map fun i=> .int .i64 i):=by
 unfold u2
 rw[HK,G8]
 cases hq:og es id with
 |none=>rfl
 |some i=>
  have:=(List.findIdx?_eq_some_iff_getElem.1 hq).1
  simp[k9,List.getElem?_eq_getElem this]
theorem NH {h:aa} {mb id:Nat} {es:List (Nat×Nat)} (hm:h.get mb=some (.map (k9 es))) {b:Bool}:pj (.int .i64 0) b h (.map (some mb)) (.int .u64 id)=some (match cD es id with|some i=>if b then .az [.int .i64 i, .bool true] else .int .i64 i|none=>if b then .az [.int .i64 0, .bool false] else .int .i64 0):=by
 simp only[pj,hm,aow,Option.map_some]
 cases cD es id<;>cases b<;>rfl
theorem ans {id i:Nat} {es:List (Nat×Nat)} (hn:cD es id=none):rT (.int .u64 id) (.int .i64 i) (k9 es)=some (k9 (es++[(id,i)])):=by
 have:og es id=none:=by
  unfold cD at hn;unfold og
  rw[Option.map_eq_none_iff,List.find?_eq_none] at hn
  rw[List.findIdx?_eq_none_iff]
  exact fun x hx=>by simpa using hn x hx
 unfold rT
 rw[HK,this]
 simp[k9]
theorem ant {id i:Nat} {es:List (Nat×Nat)} (hn:og es id=some i):rU (.int .u64 id) (k9 es)=some (k9 (es.eraseIdx i)):=by
 unfold rU
 rw[HK,hn]
 simp only[Option.map_some,Nat.add_zero,Option.some.injEq,k9]
 exact M8
structure eh (h:aa) (ab mb lb cA:Nat) (S:List Sl) (es:List (Nat×Nat)):Prop where
 top: ∃lv,h.get ab=some (.cells [.int .u8 cA,lv, .map (some mb)])/\((S=[]/\lv= .vs [] .full)\/(S≠[]/\lv= .rs lb 0 S.length 4/\h.get lb=some (.cells (S.map Sl.enc).flatten)/\lb<h.next/\lb≠ab/\lb≠mb))
 map:h.get mb=some (.map (k9 es))
 l1:ab<h.next
 l2:mb<h.next
 n1:ab≠mb
 small:S.length<2^20
variable {h:aa} {ab mb lb cA:Nat} {S:List Sl} {es:List (Nat×Nat)}
theorem eh.bM (A:eh h ab mb lb cA S es) {h':aa} (hn:h.next<=h'.next) (h1:h'.get ab=h.get ab) (h2:h'.get mb=h.get mb) (h3:S≠[]->h'.get lb=h.get lb):eh h' ab mb lb cA S es:=by
 obtain⟨lv,t1,t2⟩:=A.top
 refine⟨⟨lv,by rw[h1,t1],?_⟩,by rw[h2,A.map],Nat.lt_of_lt_of_le A.l1 hn,Nat.lt_of_lt_of_le A.l2 hn,A.n1,A.small⟩
 rcases t2 with t2|⟨e0,e1,e2,e3,e4,e5⟩
 ·exact .inl t2
 ·exact .inr ⟨e0,e1,by rw[h3 e0,e2],by omega,e4,e5⟩
theorem eh.mX (A:eh h ab mb lb cA S es): ∃lv,h.get ab=some (.cells [.int .u8 cA,lv, .map (some mb)])/\lv.one=true/\lv.cells=[lv]/\ ∀h',h'.get lb=h.get lb->i0 h' lv 4 (S.map Sl.enc):=by
 obtain⟨lv,t1,t2⟩:=A.top
 rcases t2 with⟨rfl,rfl⟩|⟨e0,rfl,e2,e3,e4,e5⟩
 ·exact⟨_,t1,rfl,rfl,fun h' _=>⟨rfl,fun i hi=>by simp at hi⟩⟩
 ·refine⟨_,t1,rfl,rfl,fun h' hl=>?_⟩
  have:=i0.rs (h:=h') (b:=lb) (sz:=4) (rows:=S.map Sl.enc) (cs:=(S.map Sl.enc).flatten) (av (by rw[hl,e2])) (by rw[<-jE rO,List.take_length]) rO
  rwa [List.length_map] at this
theorem aqR (ok:ax P tb) {g:Nat} {dX:List AV} {q:Sl->Bool} {v:AV} (hv:i0 h v 4 (S.map Sl.enc)) (hl:S.length<2^30) (hg:bZ P g=true) (hq: ∀p∈S,an P g (.agg p.enc::dX) h (.bool (q p)) h):
 an P 87 [v, .fn g [] dX] h (.int .i64 (kQ q S)) h:=by
 refine ok.calls (rf:=yW) rfl (Nat.le_of_ble_eq_true rfl) ?_
 have hlen:gI v=some S.length:=by rw[hv.len,List.length_map]
 simp+decide only[st,xv,yW,JK,JJ,hlen]
 let I:Nat->Env->aa->Prop:=fun n ρ h'=>h'=h/\ ∃i:Nat,S.length=i+n/\(∀j,j<i-> ∀hj:j<S.length,q S[j]=false)/\ρ 0=v/\ρ 1= .fn g [] dX/\ρ 7= .int .i64 S.length/\ρ 8= .int .i64 i
 refine dn I ?_ S.length ⟨rfl,0,by omega,by omega,rfl,rfl,rfl,rfl⟩
 rintro n ρ h' ⟨rfl,i,aE,hf,r0,r1,r7,r8⟩
 by_cases hi:i<S.length
 ·have aB:(i:Int)<(S.length:Int):=by omega
  have hw:=cT (show i<2^61 by omega)
  obtain⟨p,g1,g2⟩:=hv.get i (by rw[List.length_map];exact hi)
  rw[List.getElem_map] at g2
  simp+decide only[st,xv,yW,JK,JJ,RN,RM,RL,RK,RJ,RI,r0,r1,r7,r8,aB,g1,g2]
  refine qf hg (hq S[i] (List.getElem_mem hi)) ?_
  by_cases mz:q S[i]=true
  ·simp+decide only[st,xv,mz,r8,HM hi hf mz]
  ·have qW:q S[i]=false:=by simpa using mz
   simp+decide only[st,xv,qW,r8,hw]
   refine⟨n-1,by omega,rfl,i+1,by omega,fun j hj dO=>?_,r0,r1,r7,rfl⟩
   by_cases d7:j=i
   ·subst d7;exact qW
   ·exact hf j (by omega) dO
 ·have aB: ¬(i:Int)<(S.length:Int):=by omega
  have dH:=HL (q:=q) (l:=S) (fun j _ hj=>hf j (by omega) hj)
  simp+decide only[st,xv,yW,JK,JJ,RN,RM,RL,RK,RJ,RI,r7,r8,aB,dH]
  rfl
def xG (S:List Sl):Option Nat:=S.findIdx? fun s=>s.r.isNone
theorem amr {S:List Sl}:kQ (fun s=>!s.r.isSome) S=match xG S with|some i=>(i:Int)|none=> -1:=by
 unfold kQ xG
 cases hq:S.findIdx? (fun s=>s.r.isNone) with
 |none=>
  have:S.findIdx (fun s=>!s.r.isSome)=S.length:=by
   rw[List.findIdx_eq_length]
   rw[List.findIdx?_eq_none_iff] at hq
   intro x hx
   have:=hq x hx
   cases hr:x.r<;>simp_all
  rw[this,if_neg (by omega)]
 |some i=>
  obtain⟨hi,h1,h2⟩:=List.findIdx?_eq_some_iff_getElem.1 hq
  have:S.findIdx (fun s=>!s.r.isSome)=i:=by
   rw[List.findIdx_eq hi]
   refine⟨by cases hr:S[i].r<;>simp_all,fun j hj=>?_⟩
   have:=h2 j hj
   cases hr:S[j].r<;>simp_all
  rw[this,if_pos hi]
theorem auJ (ok:ax P tb) {s:Sl}:an P 88 [.agg s.enc] h (.bool (!s.r.isSome)) h:=by
 refine ok.keeps (rf:=GC) rfl (Nat.le_of_ble_eq_true rfl) rfl ?_
 simp+decide only[st,xv,GC,aeW,aeV,Sl.adY,Sl.taken]
 first|(intro b hb;first|(intros;omega)|(repeat(first|rw[if_neg (by omega)]|rw[if_pos (by omega)]));done)|(refine⟨rfl,?_⟩;intro b hb;first|(intros;omega)|(repeat(first|rw[if_neg (by omega)]|rw[if_pos (by omega)])))
theorem UL (ok:ax P tb) (A:eh h ab mb lb cA S es) {id:Nat}:an P 77 [.ptr ab 0, .int .u64 id] h (match cD es id with|some i=> .az [.int .i64 i, .int .i64 0]|none=> .az [.int .i64 0, .int .i64 7]) h:=by
 refine ok.keeps (rf:=yZ) rfl (Nat.le_of_ble_eq_true rfl) (by cases cD es id<;>rfl) ?_
 obtain⟨lv,t1,t2⟩:=A.top
 have hc:=av t1
 have hl:=NH A.map (id:=id) (b:=true)
 simp+decide only[st,xv,yZ,aff,afe,JQ,hc,hl]
 cases hn:cD es id with
 |none=>
  simp+decide only[st,xv,yZ,JQ,Sa,afd]
 |some i=>
  simp+decide only[st,xv,yZ,JQ,Sa,afc]
theorem axg (ok:ax P tb) (A:eh h ab mb lb cA S es) {id:Nat} (hk: ∀i,cD es id=some i-> ∃rec cu,S[i]? =some ⟨some (id,rec),cu⟩/\rec.length<2^20):
 an P 45 [.ptr ab 0, .int .u64 id] h (match(cD es id).bind fun i=>(S[i]?).bind (·.r) with|some r=> .az [.vs (BS r.2) .ao, .int .i64 0]|none=> .az [.vs [] .ao, .int .i64 7]) h:=by
 refine ok.eM (rf:=wJ) rfl (Nat.le_of_ble_eq_true rfl) (by split<;>simp only[AV.bB,AV.bX,u3]<;>rfl) ?_
 obtain⟨lv,t1,q1,q2,mX⟩:=A.mX
 have hc:=av t1
 simp+decide only[st,xv,wJ,agL,J1]
 refine aq (UL ok A) ?_
 cases hn:cD es id with
 |none=>
  simp+decide only[st,xv,wJ,J1,Ty,agK,bE]
  rfl
 |some i=>
  obtain⟨rec,cu,hs,iJ⟩:=hk i hn
  have hi:i<S.length:=by
   rcases Nat.lt_or_ge i S.length with h|h
   ·exact h
   ·rw[List.getElem?_eq_none h] at hs;cases hs
  have Wq:S[i]=⟨some (id,rec),cu⟩:=by rw[List.getElem?_eq_getElem hi] at hs;exact Option.some.inj hs
  have rows:(S.map Sl.enc)[i]? =some [.int .u64 id, .vs (BS rec) .ao, .bool true, .int .i64 cu]:=by rw[List.getElem?_map,hs];rfl
  obtain⟨lv',je,t2⟩:=A.top
  rw[t1] at je
  injection je with je;injection je with je;injection je with _ je;injection je with je _
  subst je
  rcases t2 with⟨rfl,_⟩|⟨e0,rfl,e2,e3,e4,e5⟩
  ·simp at hi
  have bk:=av e2
  have aB:(i:Int)<(S.length:Int):=by omega
  have g1:=wT (sz:=4) (j:=1) rO rows (by omega)
  simp+decide only[st,xv,wJ,J1,Ty,Tx,hc,bk,aB,hs,g1]
  refine aq (zP ok rfl (l:=rec) (t:= .ao) (by omega)) ?_
  simp+decide only[st,xv,wJ,Tx,bE]
  simp only[AV.strip,AV.bA,jV]
end
end Go.Proofs.YtmffhohcjifllaaGreat.Am
