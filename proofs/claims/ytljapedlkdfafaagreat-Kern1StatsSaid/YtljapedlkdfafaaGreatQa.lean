/- What the functions do. Conditions: none. -/
import Derived.Test.YtljapedlkdfafaaGreatCa
set_option maxRecDepth 100000
set_option maxHeartbeats 8000000
set_option linter.unusedSimpArgs false
set_option linter.unusedVariables false
set_option linter.unnecessarySimpa false
namespace Go.Proofs.YtljapedlkdfafaaGreat.Am
section
open Go
structure Lb where
 d:Nat
 ps:List (Nat×Nat)
 deriving DecidableEq
def Lb.c (l:Lb) (t:aH):List AV:=[.int .u8 l.d, .vs (aw.R l.ps) t]
structure Lb.ok (l:Lb):Prop where
 d:l.d<256
 ps: ∀p∈l.ps,p.1<65536/\p.2<256
 len:l.ps.length<2^20
def ke {α:Type} (q:α->Bool) (l:List α):Int:=if l.findIdx q<l.length then(l.findIdx q:Int) else -1
variable {P:Program}
theorem Yn (ok:ax P tb) {x y:Nat} (hx:x<256) (hy:y<256) (h:aa):an P 159 [.int .u8 x, .int .u8 y] h (.bool (decide (x<=y))) h:=by
 by_cases h5:x<6/\y<6
 ·have:=amY ok (fuel:=300) (f:=159) (k:= .u8) (n:=6) (m:=6) (g:=fun x y=> .bool (Nat.ble x y)) (by decide+kernel) h5.1 h5.2 rfl h
  have e:decide (x<=y)=Nat.ble x y:=by rw[Bool.eq_iff_iff];simp
  rw[e];exact this
 ·refine ok.calls (rf:=Ap) rfl (Nat.le_of_ble_eq_true rfl) ?_
  have e:(x:Int)<=(y:Int)↔x<=y:=by omega
  by_cases hx5:x<6
  ·have h1: ¬(5:Int)<(x:Int):=by omega
   have h2:(5:Int)<(y:Int):=by omega
   simp+decide only[st,Ap,NY,NX,NW,NV,h1,h2,e]
  ·have h1:(5:Int)<(x:Int):=by omega
   simp+decide only[st,Ap,NY,NX,NW,NV,h1,e]
def p3 (x:Nat):Nat:=if x=0 then 5 else x
theorem amA (ok:ax P tb) {x:Nat} (h:aa):an P 178 [.int .u8 x] h (.int .u8 (p3 x)) h:=by
 refine ok.calls (rf:=Ak) rfl (Nat.le_of_ble_eq_true rfl) ?_
 by_cases hx:x=0
 ·subst hx
  simp+decide only[st,Ak,Ny,Nx,Nw,Nv,p3]
  rfl
 ·have h1: ¬(x:Int)=0:=by omega
  simp+decide only[st,Ak,Ny,Nx,Nw,Nv,h1,p3,hx]
theorem anJ (ok:ax P tb) {x:Nat} (h:aa):an P 40 [.int .u8 x] h (.bool (decide (x<=4))) h:=by
 refine ok.calls (rf:=FG) rfl (Nat.le_of_ble_eq_true rfl) ?_
 have e:(x:Int)<=4↔x<=4:=by omega
 simp+decide only[st,FG,afg,aff,e]
theorem GR {α:Type} {q:α->Bool} {l:List α} {i:Nat} (hi:i<l.length) (hf: ∀j,j<i-> ∀hj:j<l.length,q l[j]=false) (hq:q l[i]=true):ke q l=i:=by
 have:l.findIdx q=i:=by
  rw[List.findIdx_eq hi]
  exact⟨hq,fun j hj=>hf j hj (by omega)⟩
 simp[ke,this,hi]
theorem GQ {α:Type} {q:α->Bool} {l:List α} (hf: ∀j,j<l.length-> ∀hj:j<l.length,q l[j]=false):ke q l= -1:=by
 have:l.findIdx q=l.length:=by
  rw[List.findIdx_eq_length]
  intro x hx
  obtain⟨j,hj,rfl⟩:=List.getElem_of_mem hx
  exact hf j hj hj
 simp[ke,this]
theorem ZF (ok:ax P tb) {g:Nat} {d9:List AV} {q:Nat×Nat->Bool} {l:List (Nat×Nat)} {v:AV} {h:aa} (hv:iv h v 2 (aw.R l)) (hl:l.length<2^30) (hg:cj P g=true) (hq: ∀p∈l,an P g (.agg (aw.e p)::d9) h (.bool (q p)) h):
 an P 134 [v, .fn g [] d9] h (.int .i64 (ke q l)) h:=by
 refine ok.calls (rf:=xO) rfl (Nat.le_of_ble_eq_true rfl) ?_
 have hlen:gH v=some l.length:=by rw[hv.len,aw.aS]
 simp+decide only[st,xv,xO,Hq,Hp,hlen]
 let I:Nat->Env->aa->Prop:=fun n ρ h'=>h'=h/\ ∃i:Nat,l.length=i+n/\(∀j,j<i-> ∀hj:j<l.length,q l[j]=false)/\ρ 0=v/\ρ 1= .fn g [] d9/\ρ 7= .int .i64 l.length/\ρ 8= .int .i64 i
 refine dJ I ?_ l.length ⟨rfl,0,by omega,by omega,rfl,rfl,rfl,rfl⟩
 rintro n ρ h' ⟨rfl,i,aE,hf,r0,r1,r7,r8⟩
 by_cases hi:i<l.length
 ·have aA:(i:Int)<(l.length:Int):=by omega
  have hw:=dv (show i<2^61 by omega)
  obtain⟨p,g1,g2⟩:=hv.get i (by rw[aw.aS];exact hi)
  have g3:(aw.R l)[i]'(by rw[aw.aS];exact hi)=aw.e l[i]:=by simp[fh.R]
  rw[g3] at g2
  simp+decide only[st,xv,xO,Hq,Hp,OS,OQ,OP,OO,ON,OM,r0,r1,r7,r8,aA,g1,g2]
  refine pO hg (hq l[i] (List.getElem_mem hi)) ?_
  by_cases lT:q l[i]=true
  ·simp+decide only[st,xv,lT,r8,GR hi hf lT]
  ·have qw:q l[i]=false:=by simpa using lT
   simp+decide only[st,xv,qw,r8,hw]
   refine⟨n-1,by omega,rfl,i+1,by omega,fun j hj dP=>?_,r0,r1,r7,rfl⟩
   by_cases eE:j=i
   ·subst eE;exact qw
   ·exact hf j (by omega) dP
 ·have aA: ¬(i:Int)<(l.length:Int):=by omega
  have dF:=GQ (q:=q) (l:=l) (fun j _ hj=>hf j (by omega) hj)
  simp+decide only[st,xv,xO,Hq,Hp,OS,OQ,OP,OO,ON,OM,r7,r8,aA,dF]
  rfl
theorem aoY (ok:ax P tb) {g:Nat} {d9:List AV} {q:Nat×Nat->Bool} {l:List (Nat×Nat)} {t:aH} {h:aa} (hl:l.length<2^30) (hg:cj P g=true) (hq: ∀p∈l,an P g (.agg (aw.e p)::d9) h (.bool (q p)) h):
 an P 134 [.vs (aw.R l) t, .fn g [] d9] h (.int .i64 (ke q l)) h:=ZF ok (iv.vs aw) hl hg hq
end
section
open Go
variable {P:Program}
def cidx (l:List (Nat×Nat)) (c:Nat):Int:=ke (fun p=>p.1==c) l
theorem atR (ok:ax P tb) {l:List (Nat×Nat)} {v:AV} {c:Nat} {h:aa} (hv: ∀h',(∀x,x<h.next->h'.get x=h.get x)->iv h' v 2 (aw.R l)) (hl:l.length<2^30):an P 158 [v, .int .u16 c] h (.int .i64 (cidx l c)) h:=by
 refine ok.keeps (rf:=EA) rfl (Nat.le_of_ble_eq_true rfl) rfl ?_
 simp+decide only[st,xv,EA,aaX,aaW]
 refine au (ZF ok (hv _ (fun x hx=>by simp[aa.at,show¬x=h.next by omega])) hl (ok.cj _ rfl) (q:=fun p=>p.1==c) (fun p hp=>?_)) ?_
 ·refine ok.keeps (rf:=Ew) rfl (Nat.le_of_ble_eq_true rfl) rfl ?_
  simp+decide only[st,xv,Ew,aaB,aaA,aw,acs]
  first|(intro b hb;first|(intros;omega)|(repeat(first|rw[if_neg (by omega)]|rw[if_pos (by omega)]));done)|(refine⟨rfl,?_⟩;intro b hb;first|(intros;omega)|(repeat(first|rw[if_neg (by omega)]|rw[if_pos (by omega)])))
 ·simp+decide only[st,xv,cidx]
  first|(intro b hb;first|(intros;omega)|(repeat(first|rw[if_neg (by omega)]|rw[if_pos (by omega)]));done)|(refine⟨rfl,?_⟩;intro b hb;first|(intros;omega)|(repeat(first|rw[if_neg (by omega)]|rw[if_pos (by omega)])))
theorem al9 (ok:ax P tb) {l:List (Nat×Nat)} {t:aH} {c:Nat} {h:aa} (hl:l.length<2^30):an P 158 [.vs (aw.R l) t, .int .u16 c] h (.int .i64 (cidx l c)) h:=atR ok (fun _ _=>iv.vs aw) hl
def nH (l:Lb) (c:Nat):Nat:=match l.ps.find? (fun p=>p.1==c) with
 |some p=>p.2
 |none=>l.d
theorem Gl {α:Type} {q:α->Bool}: ∀{l:List α},(ke q l= -1/\l.find? q=none)\/ ∃i,∃hi:i<l.length,ke q l=(i:Int)/\l.find? q=some l[i]:=by
 intro l
 by_cases aD:l.findIdx q<l.length
 ·refine .inr ⟨_,aD,by simp[ke,aD],?_⟩
  have:=List.find?_eq_some_iff_getElem (xs:=l) (p:=q) (b:=l[l.findIdx q])
  rw[this]
  exact⟨List.findIdx_getElem,_,aD,rfl,fun j hj=>by simpa using List.not_of_lt_findIdx hj⟩
 ·refine .inl ⟨by simp[ke,aD],?_⟩
  rw[List.find?_eq_none]
  intro x hx hq
  exact aD (List.findIdx_lt_length_of_exists ⟨x,hx,by simpa using hq⟩)
theorem YJ (ok:ax P tb) {l:Lb} {t:aH} {c:Nat} {h:aa} (hl:l.ps.length<2^30):an P 136 [.agg (l.c t), .int .u16 c] h (.int .u8 (nH l c)) h:=by
 refine ok.keeps (rf:=EE) rfl (Nat.le_of_ble_eq_true rfl) rfl ?_
 simp+decide only[st,xv,EE,abr,abq,Lb.c]
 refine au (al9 ok hl) ?_
 unfold nH cidx
 rcases Gl (q:=fun p:Nat×Nat=>p.1==c) (l:=l.ps) with⟨e1,e2⟩|⟨i,hi,e1,e2⟩
 ·simp+decide only[st,xv,OK,OJ,OI,e1,e2]
  first|(intro b hb;first|(intros;omega)|(repeat(first|rw[if_neg (by omega)]|rw[if_pos (by omega)]));done)|(refine⟨rfl,?_⟩;intro b hb;first|(intros;omega)|(repeat(first|rw[if_neg (by omega)]|rw[if_pos (by omega)])))
 ·have dH:(0:Int)<=i:=by omega
  have cw:(aw.R l.ps)[i]? =some [.int .u16 l.ps[i].1, .int .u8 l.ps[i].2]:=aw.gR hi
  simp+decide only[st,xv,OK,OJ,OI,e1,e2,dH,cw]
  first|(intro b hb;first|(intros;omega)|(repeat(first|rw[if_neg (by omega)]|rw[if_pos (by omega)]));done)|(refine⟨rfl,?_⟩;intro b hb;first|(intros;omega)|(repeat(first|rw[if_neg (by omega)]|rw[if_pos (by omega)])))
def names (l:Lb):Bool:=l.d==2&&!l.ps.any (fun p=>p.2==3)
theorem L2 {α:Type} {q:α->Bool} {l:List α}:decide ((0:Int)<=ke q l)=l.any q:=by
 rcases Gl (q:=q) (l:=l) with⟨e1,e2⟩|⟨i,hi,e1,e2⟩
 ·rw[e1]
  have:l.any q=false:=by rw[List.any_eq_false];exact fun x hx=>by simpa using List.find?_eq_none.1 e2 x hx
  rw[this];rfl
 ·rw[e1]
  have:l.any q=true:=List.any_eq_true.2 ⟨_,List.getElem_mem hi,List.find?_some e2⟩
  rw[this];simp
theorem ata (ok:ax P tb) {g:Nat} {d9:List AV} {q:Nat×Nat->Bool} {l:List (Nat×Nat)} {t:aH} {h:aa} (hl:l.length<2^30) (hg:cj P g=true) (hq: ∀p∈l,an P g (.agg (aw.e p)::d9) h (.bool (q p)) h):
 an P 87 [.vs (aw.R l) t, .fn g [] d9] h (.bool (l.any q)) h:=by
 refine ok.calls (rf:=FC) rfl (Nat.le_of_ble_eq_true rfl) ?_
 simp+decide only[st,xv,FC,adu,adt]
 refine au (aoY ok hl hg hq) ?_
 simp+decide only[st,xv,L2]
theorem yE (ok:ax P tb) {l:Lb} {t:aH} {h:aa} (hl:l.ps.length<2^30):an P 56 [.agg (l.c t)] h (.bool (names l)) h:=by
 refine ok.keeps (rf:=Ba) rfl (Nat.le_of_ble_eq_true rfl) rfl ?_
 by_cases hd:l.d=2
 ·have nR:(l.d:Int)=2:=by omega
  simp+decide only[st,xv,Ba,RF,RE,Lb.c,nR]
  refine au (ata ok hl (ok.cj _ rfl) (q:=fun p=>p.2==3) (fun p hp=>?_)) ?_
  ·refine ok.keeps (rf:=FB) rfl (Nat.le_of_ble_eq_true rfl) rfl ?_
   have e:decide ((p.2:Int)=3)=(p.2==3):=by rw[Bool.eq_iff_iff];simp;omega
   simp+decide only[st,xv,FB,ads,adr,aw,e]
   first|(intro b hb;first|(intros;omega)|(repeat(first|rw[if_neg (by omega)]|rw[if_pos (by omega)]));done)|(refine⟨rfl,?_⟩;intro b hb;first|(intros;omega)|(repeat(first|rw[if_neg (by omega)]|rw[if_pos (by omega)])))
  ·simp+decide only[st,xv,names,hd]
   refine⟨by simp,?_⟩
   first|(intro b hb;first|(intros;omega)|(repeat(first|rw[if_neg (by omega)]|rw[if_pos (by omega)]));done)|(refine⟨rfl,?_⟩;intro b hb;first|(intros;omega)|(repeat(first|rw[if_neg (by omega)]|rw[if_pos (by omega)])))
 ·have nR: ¬(l.d:Int)=2:=by omega
  have e:(l.d==2)=false:=by simpa using hd
  simp+decide only[st,xv,Ba,RF,RE,Lb.c,nR,names,e]
  refine⟨by simp,?_⟩
  first|(intro b hb;first|(intros;omega)|(repeat(first|rw[if_neg (by omega)]|rw[if_pos (by omega)]));done)|(refine⟨rfl,?_⟩;intro b hb;first|(intros;omega)|(repeat(first|rw[if_neg (by omega)]|rw[if_pos (by omega)])))
def dU (l:List (Nat×Nat)):List Nat:=(l.filter (fun p=>p.2==0)).map (·.1)
theorem Xk {l:List (Nat×Nat)}:(dU l).length<=l.length:=by simp[dU];exact List.length_filter_le _ _
theorem Lk (ok:ax P tb) {l:Lb} {t:aH} {h:aa} (hl:l.ps.length<2^30):an P 129 [.agg (l.c t)] h (.vs ((aJ .u16).R (dU l.ps)) .ao) h:=by
 refine ok.eH (rf:=vw) rfl (Nat.le_of_ble_eq_true rfl) (aJ .u16).lj ?_
 simp+decide only[st,xv,vw,CB,CA,OV,Lb.c]
 let I:Nat->Env->aa->Prop:=fun n ρ h'=>Old h h'/\ ∃i:Nat,l.ps.length=i+n/\ρ 7= .vs (aw.R l.ps) t/\ρ 8= .int .i64 l.ps.length/\ρ 9= .int .i64 i/\App h h' (ρ 3) ((aJ .u16).R (dU (l.ps.take i)))
 refine dJ I ?_ l.ps.length ⟨(Old.refl h).at (Nat.le_refl _),0,by omega,rfl,by simp+decide only[st,xv,aw.aS],rfl,(App.nil h h).old ((Old.refl h).at (Nat.le_refl _))⟩
 rintro n ρ h' ⟨ho,i,aE,r7,r8,r9,ha⟩
 by_cases hi:i<l.ps.length
 ·have aA:(i:Int)<(l.ps.length:Int):=by omega
  have dH:(0:Int)<=i:=by omega
  have hw:=dv (show i<2^61 by omega)
  have cw:(aw.R l.ps)[i]? =some [.int .u16 l.ps[i].1, .int .u8 l.ps[i].2]:=aw.gR hi
  have hO:Old h ((h'.at h'.next (.cells [.int .u16 0, .int .u8 0])).set h'.next (some (.cells [.int .u16 l.ps[i].1, .int .u8 l.ps[i].2]))):=(ho.at ho.next).set ho.next
  have hA:App h ((h'.at h'.next (.cells [.int .u16 0, .int .u8 0])).set h'.next (some (.cells [.int .u16 l.ps[i].1, .int .u8 l.ps[i].2]))) (ρ 3) ((aJ .u16).R (dU (l.ps.take i))):=ha.to (by simp[aa.set,aa.at]) (fun k _ h2 h3=>by
   have: ¬k=h'.next:=by omega
   simp[aa.set,aa.at,this,h3])
  have dB:dU (l.ps.take (i+1))=dU (l.ps.take i)++dU [l.ps[i]]:=by
   rw[<-List.take_append_getElem hi];simp only[dU,List.filter_append,List.map_append]
  by_cases hs:l.ps[i].2=0
  ·have iH:(l.ps[i].2:Int)=0:=by omega
   rw[iH] at hO hA
   have qv:=Xk (l:=l.ps.take i)
   have nL:=List.length_take_le i l.ps
   obtain⟨v',h2,a1,a2,a3,a4,a5,a6⟩:=hA.app hO (bytes:=2) (sz:=1) (id:=h'.next+1) (by have:=ho.next;omega) [[.int .u16 l.ps[i].1]] (aJ .u16).lz (by rw[(aJ .u16).aS];simp only[List.length_singleton];omega) (by rw[(aJ .u16).aS];simp only[List.length_singleton];omega)
   simp+decide only[st,xv,vw,CB,CA,Hw,Hv,Hu,Ht,Hs,Hr,r7,r8,r9,aA,dH,hw,Int.toNat_natCast,cw,iH,a1,List.length_cons,List.length_nil]
   exact⟨n-1,by omega,a3,i+1,by omega,r7,r8,rfl,by rw[dB,show dU [l.ps[i]]=[l.ps[i].1] by simp[dU,hs],<-(aJ .u16).oP];exact a2⟩
  ·have iH: ¬(l.ps[i].2:Int)=0:=by omega
   have E7:dU [l.ps[i]]=[]:=by simp[dU,hs]
   simp+decide only[st,xv,vw,CB,CA,Hw,Hv,Hu,Ht,Hs,Hr,r7,r8,r9,aA,dH,hw,Int.toNat_natCast,cw,iH,List.length_cons,List.length_nil]
   exact⟨n-1,by omega,hO,i+1,by omega,r7,r8,rfl,by rw[dB,E7,List.append_nil];exact hA⟩
 ·have aA: ¬(i:Int)<(l.ps.length:Int):=by omega
  have iK:i=l.ps.length:=by omega
  obtain⟨tt,hv,_⟩:=ha
  simp+decide only[st,xv,vw,CB,CA,OV,Hw,Hv,Hu,Ht,Hs,Hr,r8,r9,aA,hv,bB]
  exact⟨by rw[iK,List.take_length,(aJ .u16).kE],ho.get⟩
end
section
open Go
variable {P:Program}
def mg (dx dy:Nat):List (Nat×Nat)->List (Nat×Nat)->List (Nat×Nat×Nat)
 |[],[]=>[]
 |(c,x)::l,[]=>(c,x,dy)::mg dx dy l []
 |[],(c,y)::m=>(c,dx,y)::mg dx dy [] m
 |(c,x)::l,(e,y)::m=>if c<e then(c,x,dy)::mg dx dy l ((e,y)::m) else if e<c then(e,dx,y)::mg dx dy ((c,x)::l) m else(c,x,y)::mg dx dy l m
termination_by l m=>l.length+m.length
theorem CP {dx dy:Nat}:mg dx dy [] []=[]:=by rw[mg]
theorem PE {dx dy c x:Nat} {l:List (Nat×Nat)}:mg dx dy ((c,x)::l) []=(c,x,dy)::mg dx dy l []:=by rw[mg]
theorem H9 {dx dy c x:Nat} {l:List (Nat×Nat)}:mg dx dy [] ((c,x)::l)=(c,dx,x)::mg dx dy [] l:=by rw[mg]
theorem Ia {dx dy c x e y:Nat} {l m:List (Nat×Nat)}:mg dx dy ((c,x)::l) ((e,y)::m)=if c<e then(c,x,dy)::mg dx dy l ((e,y)::m) else if e<c then(e,dx,y)::mg dx dy ((c,x)::l) m else(c,x,y)::mg dx dy l m:=by rw[mg]
def zz (p:Nat×Nat×Nat):List AV:=[.int .u16 p.1, .int .u8 p.2.1, .int .u8 p.2.2]
structure MJ (h:aa) (a b:Lb) (ta eU:aH) (g:Nat) (d9:List AV) (J:List (Nat×Nat×Nat)->aa->Prop) (l m:List (Nat×Nat)) (done:List (Nat×Nat×Nat)) (ρ:Env) (H:aa):Prop where
 l1:l.length<=a.ps.length
 l2:m.length<=b.ps.length
 r2:ρ 2= .fn g [] d9
 r3:ρ 3= .ptr h.next 0
 r4:ρ 4= .ptr (h.next+1) 0
 r6: ∃t,ρ 6= .vs (aw.R l) t
 r7: ∃t,ρ 7= .vs (aw.R m) t
 mg:mg a.d b.d a.ps b.ps=done++mg a.d b.d l m
 j:J done H
 n:h.next+2<=H.next
 ca:H.get h.next=some (.cells (a.c ta))
 cb:H.get (h.next+1)=some (.cells (b.c eU))
theorem Bt {h:aa} {a b:Lb} {ta eU:aH} {g:Nat} {d9:List AV} {J:List (Nat×Nat×Nat)->aa->Prop} {n:Nat} {done:List (Nat×Nat×Nat)} {H H1:aa} {ρ':Env} {K:aP->Env->aa->Prop} {Q:Env->aa->Prop} {l2 m2:List (Nat×Nat)} {p:Nat×Nat×Nat}
 (hQ: ∀ρ2 H2 l2 m2 C3,l2.length+m2.length<n->MJ h a b ta eU g d9 J l2 m2 C3 ρ2 H2->Q ρ2 H2)
 (hg:cj P g=true) (vS: ∀done H H',J done H->Old H H'->J done H')
 (rC: ∀done p rest H,mg a.d b.d a.ps b.ps=done++p::rest->J done H->h.next+2<=H.next-> ∃H',an P g (zz p++d9) H (.ay []) H'/\J (done++[p]) H'/\H.next<=H'.next/\ ∀x,h.next<=x->x<h.next+2->H'.get x=H.get x)
 (hj:J done H) (gZ:h.next+2<=H.next) (ca:H.get h.next=some (.cells (a.c ta))) (cb:H.get (h.next+1)=some (.cells (b.c eU)))
 (q1:H.next<=H1.next) (q2: ∀x,x<H.next->H1.get x=H.get x) (q3:l2.length+m2.length<n) (q4:l2.length<=a.ps.length) (q5:m2.length<=b.ps.length)
 (q6:mg a.d b.d a.ps b.ps=done++p::mg a.d b.d l2 m2) (q7:ρ' 2= .fn g [] d9) (q8:ρ' 3= .ptr h.next 0) (q9:ρ' 4= .ptr (h.next+1) 0) (JZ: ∃t,ρ' 6= .vs (aw.R l2) t) (q11: ∃t,ρ' 7= .vs (aw.R m2) t) (q12:ρ' 12= .int .u16 p.1) (q13:ρ' 8= .int .u8 p.2.1) (q14:ρ' 9= .int .u8 p.2.2):
 WP P (.seq (.af Mj) (.goto 0)) (jW 0 Q K) ρ' H1:=by
 obtain⟨H2,k1,k2,k3,k4⟩:=rC done p _ H1 q6 (vS _ _ _ hj ⟨q1,q2⟩) (by omega)
 simp+decide only[st,xv,Mj,q7,q12,q13,q14]
 refine pO hg k1 ?_
 simp+decide only[st,xv]
 exact hQ _ _ l2 m2 _ q3 ⟨q4,q5,q7,q8,q9,JZ,q11,by rw[q6];simp,k2,by omega,by rw[k4 _ (by omega) (by omega),q2 _ (by omega),ca],by rw[k4 _ (by omega) (by omega),q2 _ (by omega),cb]⟩
theorem zI {α:Type} {E:fh α} {p:α} {m:List α}:List.take ((E.R (p::m)).length-Int.toNat 1) (List.drop (Int.toNat 1) (E.R (p::m)))=E.R m:=by
 rw[List.take_of_length_le (by simp)];rfl
theorem Wl (ok:ax P tb) {a b:Lb} {ta eU:aH} {g:Nat} {d9:List AV} {J:List (Nat×Nat×Nat)->aa->Prop} {h:aa} (hla:a.ps.length<2^30) (lU:b.ps.length<2^30) (hg:cj P g=true)
 (Kx:J [] h) (vS: ∀done H H',J done H->Old H H'->J done H')
 (rC: ∀done p rest H,mg a.d b.d a.ps b.ps=done++p::rest->J done H->h.next+2<=H.next-> ∃H',an P g (zz p++d9) H (.ay []) H'/\J (done++[p]) H'/\H.next<=H'.next/\ ∀x,h.next<=x->x<h.next+2->H'.get x=H.get x):
 ∃H',an P 160 [.agg (a.c ta), .agg (b.c eU), .fn g [] d9] h (.ay []) H'/\J (mg a.d b.d a.ps b.ps) H':=by
 refine ok.dT (rf:=ey) rfl (Nat.le_of_ble_eq_true rfl) ?_
 simp+decide only[st,xv,ey,aaV,Lb.c]
 refine l8 0 rfl rfl (fun n ρ H=> ∃l m done,l.length+m.length=n/\MJ h a b ta eU g d9 J l m done ρ H) (fun l' ρ h hk=>hk) ?_ ?_
 ·simp+decide only[st,xv,j8,List.foldr]
  refine bU 6 rfl rfl ?_
  simp+decide only[st,xv,aaU,Lb.c]
  refine⟨_,a.ps,b.ps,[],rfl,Nat.le_refl _,Nat.le_refl _,rfl,rfl,rfl,⟨_,rfl⟩,⟨_,rfl⟩,rfl,vS _ _ _ Kx ⟨by simp[aa.clean,aa.at];omega,fun x hx=>?_⟩,by simp[aa.clean,aa.at],?_,?_⟩
  ·simp[aa.clean,aa.at,show¬x=h.next+1 by omega,show¬x=h.next by omega,show x<h.next+1+1 by omega]
  ·simp[aa.clean,aa.at,Lb.c];omega
  ·simp[aa.clean,aa.at,Lb.c]
 rintro n ρ H ⟨l,m,done,hn,M⟩
 obtain⟨l1,l2,r2,r3,r4,⟨t,r6⟩,⟨t',r7⟩,jK,hj,gZ,ca,cb⟩:=M
 have hz: ∀k:Nat,¬(((k+1:Nat):Int)=0):=fun k=>by omega
 have kl: ∀k:Nat,(0:Int)<((k+1:Nat):Int):=fun k=>by omega
 have ga:=av ca
 have gb:=av cb
 have n1:h.next<H.next:=by omega
 have n2:h.next+1<H.next:=by omega
 have hZ:((0:Nat):Int)=0:=rfl
 have hQ: ∀ρ2 H2 l2 m2 C3,l2.length+m2.length<n->MJ h a b ta eU g d9 J l2 m2 C3 ρ2 H2-> ∃m,m<n/\ ∃l m_1 done,l.length+m_1.length=m/\MJ h a b ta eU g d9 J l m_1 done ρ2 H2:=fun ρ2 H2 l2 m2 C3 h1 h2=>⟨_,h1,l2,m2,C3,rfl,h2⟩
 have hd: ∀(e y:Nat) (m:List (Nat×Nat)),(aw.R ((e,y)::m))[0]? =some [.int .u16 e, .int .u8 y]:=fun _ _ _=>rfl
 have k1: ∀(p:Nat×Nat) (m:List (Nat×Nat)),dC 2 (aw.R (p::m))=true:=fun p m=>aw.lz
 have k3: ∀(p:Nat×Nat) (m:List (Nat×Nat)),Int.toNat 1<=(aw.R (p::m)).length:=fun p m=>by rw[aw.aS];simp
 rcases l with _|⟨⟨c,x⟩,l⟩
 ·rcases m with _|⟨⟨e,y⟩,m⟩
  ·rw[CP,List.append_nil] at jK
   have h0:IntKind.wrap .i64 ((0:Int)+0)=0:=rfl
   simp+decide only[st,xv,wL,r6,r7,aw.j7,List.length_nil,h0]
   exact⟨rfl,by rw[jK];exact hj⟩
  ·have hw:IntKind.wrap .i64 ((0:Int)+((m.length+1:Nat):Int))=((m.length+1:Nat):Int):=by simp only[List.length_cons] at l2;rw[bH]<;>omega
   rw[H9] at jK
   simp+decide only[st,xv,ey,wL,r6,r7,aw.j7,aw.aS,hw,hz,kl]
   refine bU 6 rfl rfl ?_
   simp+decide only[st,xv,ey,zl,r3,r4,ga,gb,n1,n2,Lb.c]
   refine bU 20 rfl rfl ?_
   simp+decide only[st,xv,ey,zk,r6,r7,aw.j7,aw.aS,hz,kl,hd]
   refine bU 20 rfl rfl ?_
   simp+decide only[st,xv,ey,zj,r6,r7,aw.j7,aw.aS,hz,kl,hd]
   simp+decide only[st,xv,ey,zi,zh]
   refine bU 13 rfl rfl ?_
   simp+decide only[st,xv,ey,Hi,zg,r6,r7,hd,k1,k3,zI]
   exact uE.1 (sV.1 (Bt (l2:=[]) (m2:=m) (p:=(e,a.d,y)) hQ hg vS rC hj gZ ca cb (by simp[aa.clean];omega) (fun x hx=>by simp only[aa.clean];simp[show x<H.next+6 by omega,show x<H.next+6+20 by omega,show x<H.next+6+20+20 by omega,show x<H.next+6+20+20+13 by omega,show x<H.next+6+20+20+13+13 by omega,hx]) (by simp only[List.length_cons,List.length_nil] at hn ⊢;omega) (by simp only[List.length_cons,List.length_nil] at l1 ⊢;omega) (by simp only[List.length_cons,List.length_nil] at l2 ⊢;omega) jK r2 r3 r4 ⟨_,r6⟩ ⟨_,rfl⟩ rfl rfl rfl))
 ·rcases m with _|⟨⟨e,y⟩,m⟩
  ·have hw:IntKind.wrap .i64 (((l.length+1:Nat):Int)+0)=((l.length+1:Nat):Int):=by simp only[List.length_cons] at l1;rw[bH]<;>omega
   rw[PE] at jK
   simp+decide only[st,xv,ey,wL,r6,r7,aw.j7,aw.aS,hw,hz,kl]
   refine bU 6 rfl rfl ?_
   simp+decide only[st,xv,ey,zl,r3,r4,ga,gb,n1,n2,Lb.c]
   refine bU 20 rfl rfl ?_
   simp+decide only[st,xv,ey,zk,r6,r7,aw.j7,aw.aS,hz,kl,hd]
   refine bU 20 rfl rfl ?_
   simp+decide only[st,xv,ey,zj,r6,r7,aw.j7,aw.aS,hz,kl,hd]
   simp+decide only[st,xv,ey,zi,zh,zg]
   refine bU 13 rfl rfl ?_
   simp+decide only[st,xv,ey,GU,r6,r7,hd,k1,k3,zI]
   exact uE.1 (sV.1 (Bt (l2:=l) (m2:=[]) (p:=(c,x,b.d)) hQ hg vS rC hj gZ ca cb (by simp[aa.clean];omega) (fun x hx=>by simp only[aa.clean];simp[show x<H.next+6 by omega,show x<H.next+6+20 by omega,show x<H.next+6+20+20 by omega,show x<H.next+6+20+20+13 by omega,show x<H.next+6+20+20+13+13 by omega,hx]) (by simp only[List.length_cons,List.length_nil] at hn ⊢;omega) (by simp only[List.length_cons,List.length_nil] at l1 ⊢;omega) (by simp only[List.length_cons,List.length_nil] at l2 ⊢;omega) jK r2 r3 r4 ⟨_,rfl⟩ ⟨_,r7⟩ rfl rfl rfl))
  ·have hw:IntKind.wrap .i64 (((l.length+1:Nat):Int)+((m.length+1:Nat):Int))=((l.length+1+(m.length+1):Nat):Int):=by simp only[List.length_cons] at l1 l2;rw[bH]<;>omega
   have UO: ¬((l.length+1+(m.length+1):Nat):Int)=0:=by omega
   rw[Ia] at jK
   by_cases h1:c<e
   ·rw[if_pos h1] at jK
    have f1:(c:Int)<=(e:Int):=by omega
    have f2: ¬(e:Int)<=(c:Int):=by omega
    simp+decide only[st,xv,ey,wL,r6,r7,aw.j7,aw.aS,hw,UO,hz,kl]
    refine bU 6 rfl rfl ?_
    simp+decide only[st,xv,ey,zl,r3,r4,ga,gb,n1,n2,Lb.c]
    refine bU 20 rfl rfl ?_
    simp+decide only[st,xv,ey,zk,r6,r7,aw.j7,aw.aS,hz,kl,hd,f1,f2]
    refine bU 20 rfl rfl ?_
    simp+decide only[st,xv,ey,zj,r6,r7,aw.j7,aw.aS,hz,kl,hd,f1,f2]
    simp+decide only[st,xv,ey,zi,zh,zg]
    refine bU 13 rfl rfl ?_
    simp+decide only[st,xv,ey,GU,r6,r7,hd,k1,k3,zI]
    exact uE.1 (sV.1 (Bt (l2:=l) (m2:=((e,y)::m)) (p:=(c,x,b.d)) hQ hg vS rC hj gZ ca cb (by simp[aa.clean];omega) (fun x hx=>by simp only[aa.clean];simp[show x<H.next+6 by omega,show x<H.next+6+20 by omega,show x<H.next+6+20+20 by omega,show x<H.next+6+20+20+13 by omega,show x<H.next+6+20+20+13+13 by omega,hx]) (by simp only[List.length_cons,List.length_nil] at hn ⊢;omega) (by simp only[List.length_cons,List.length_nil] at l1 ⊢;omega) (by simp only[List.length_cons,List.length_nil] at l2 ⊢;omega) jK r2 r3 r4 ⟨_,rfl⟩ ⟨_,r7⟩ rfl rfl rfl))
   by_cases h2:e<c
   ·rw[if_neg h1,if_pos h2] at jK
    have f1: ¬(c:Int)<=(e:Int):=by omega
    have f2:(e:Int)<=(c:Int):=by omega
    simp+decide only[st,xv,ey,wL,r6,r7,aw.j7,aw.aS,hw,UO,hz,kl]
    refine bU 6 rfl rfl ?_
    simp+decide only[st,xv,ey,zl,r3,r4,ga,gb,n1,n2,Lb.c]
    refine bU 20 rfl rfl ?_
    simp+decide only[st,xv,ey,zk,r6,r7,aw.j7,aw.aS,hz,kl,hd,f1,f2]
    refine bU 20 rfl rfl ?_
    simp+decide only[st,xv,ey,zj,r6,r7,aw.j7,aw.aS,hz,kl,hd,f1,f2]
    simp+decide only[st,xv,ey,zi,zh]
    refine bU 13 rfl rfl ?_
    simp+decide only[st,xv,ey,Hi,zg,r6,r7,hd,k1,k3,zI]
    exact uE.1 (sV.1 (Bt (l2:=((c,x)::l)) (m2:=m) (p:=(e,a.d,y)) hQ hg vS rC hj gZ ca cb (by simp[aa.clean];omega) (fun x hx=>by simp only[aa.clean];simp[show x<H.next+6 by omega,show x<H.next+6+20 by omega,show x<H.next+6+20+20 by omega,show x<H.next+6+20+20+13 by omega,show x<H.next+6+20+20+13+13 by omega,hx]) (by simp only[List.length_cons,List.length_nil] at hn ⊢;omega) (by simp only[List.length_cons,List.length_nil] at l1 ⊢;omega) (by simp only[List.length_cons,List.length_nil] at l2 ⊢;omega) jK r2 r3 r4 ⟨_,r6⟩ ⟨_,rfl⟩ rfl rfl rfl))
   ·rw[if_neg h1,if_neg h2] at jK
    have hce:c=e:=by omega
    subst hce
    have f1:(c:Int)<=(c:Int):=by omega
    simp+decide only[st,xv,ey,wL,r6,r7,aw.j7,aw.aS,hw,UO,hz,kl]
    refine bU 6 rfl rfl ?_
    simp+decide only[st,xv,ey,zl,r3,r4,ga,gb,n1,n2,Lb.c]
    refine bU 20 rfl rfl ?_
    simp+decide only[st,xv,ey,zk,r6,r7,aw.j7,aw.aS,hz,kl,hd,f1]
    refine bU 20 rfl rfl ?_
    simp+decide only[st,xv,ey,zj,r6,r7,aw.j7,aw.aS,hz,kl,hd,f1]
    simp+decide only[st,xv,ey,zi,zh]
    refine bU 13 rfl rfl ?_
    simp+decide only[st,xv,ey,Hi,zg,r6,r7,hd,k1,k3,zI]
    refine bU 13 rfl rfl ?_
    simp+decide only[st,xv,ey,GU,r6,r7,hd,k1,k3,zI]
    exact uE.1 (sV.1 (Bt (l2:=l) (m2:=m) (p:=(c,x,y)) hQ hg vS rC hj gZ ca cb (by simp[aa.clean];omega) (fun x hx=>by simp only[aa.clean];simp[show x<H.next+6 by omega,show x<H.next+6+20 by omega,show x<H.next+6+20+20 by omega,show x<H.next+6+20+20+13 by omega,show x<H.next+6+20+20+13+13 by omega,hx]) (by simp only[List.length_cons,List.length_nil] at hn ⊢;omega) (by simp only[List.length_cons,List.length_nil] at l1 ⊢;omega) (by simp only[List.length_cons,List.length_nil] at l2 ⊢;omega) jK r2 r3 r4 ⟨_,rfl⟩ ⟨_,rfl⟩ rfl rfl rfl))
end
section
open Go
variable {P:Program}
theorem uG {dx dy:Nat} (hx:dx<256) (hy:dy<256): ∀{l m:List (Nat×Nat)},(∀p∈l,p.1<65536/\p.2<256)->(∀p∈m,p.1<65536/\p.2<256)-> ∀p∈mg dx dy l m,p.1<65536/\p.2.1<256/\p.2.2<256
 |[],[],_,_,p,hp=>by rw[CP] at hp;cases hp
 |(c,x)::l,[],h1,h2,p,hp=>by
  rw[PE] at hp
  rcases List.mem_cons.1 hp with rfl|hp
  ·have:=h1 _ (List.mem_cons_self ..);exact⟨this.1,this.2,hy⟩
  ·exact uG hx hy (fun q hq=>h1 q (List.mem_cons_of_mem _ hq)) h2 p hp
 |[],(c,x)::l,h1,h2,p,hp=>by
  rw[H9] at hp
  rcases List.mem_cons.1 hp with rfl|hp
  ·have:=h2 _ (List.mem_cons_self ..);exact⟨this.1,hx,this.2⟩
  ·exact uG hx hy h1 (fun q hq=>h2 q (List.mem_cons_of_mem _ hq)) p hp
 |(c,x)::l,(e,y)::m,h1,h2,p,hp=>by
  rw[Ia] at hp
  have b1:=h1 _ (List.mem_cons_self ..)
  have b2:=h2 _ (List.mem_cons_self ..)
  have t1: ∀p∈l,p.1<65536/\p.2<256:=fun q hq=>h1 q (List.mem_cons_of_mem _ hq)
  have t2: ∀p∈m,p.1<65536/\p.2<256:=fun q hq=>h2 q (List.mem_cons_of_mem _ hq)
  split at hp
  ·rcases List.mem_cons.1 hp with rfl|hp
   ·exact⟨b1.1,b1.2,hy⟩
   ·exact uG hx hy t1 h2 p hp
  ·split at hp
   ·rcases List.mem_cons.1 hp with rfl|hp
    ·exact⟨b2.1,hx,b2.2⟩
    ·exact uG hx hy h1 t2 p hp
   ·rcases List.mem_cons.1 hp with rfl|hp
    ·exact⟨b1.1,b1.2,b2.2⟩
    ·exact uG hx hy t1 t2 p hp
termination_by l m=>l.length+m.length
def tF (p:Nat×Nat×Nat):Bool:=decide (p.2.1<=p.2.2)
def eX (a b:Lb):Bool:=decide (a.d<=b.d)&&(mg a.d b.d a.ps b.ps).all tF
theorem FW (ok:ax P tb) {a b:Lb} {ta eU:aH} {h:aa} (ha:a.ok) (hb:b.ok):an P 137 [.agg (a.c ta), .agg (b.c eU)] h (.bool (eX a b)) h:=by
 refine ok.keeps (rf:=vv) rfl (Nat.le_of_ble_eq_true rfl) rfl ?_
 simp+decide only[st,xv,vv,Cz,Cy,Lb.c]
 refine au (Yn ok ha.d hb.d _) ?_
 simp+decide only[st,xv,vv,Cz,Cy,Ho,Lb.c]
 let J:List (Nat×Nat×Nat)->aa->Prop:=fun done H=>h.next+1+1<H.next/\H.get (h.next+1+1)=some (.cells [.bool (decide (a.d<=b.d)&&done.all tF)])/\ ∀x,x<h.next->H.get x=h.get x
 obtain⟨H',k1,_,k2,k3⟩:=Wl ok (ta:=ta) (eU:=eU) (g:=161) (d9:=[.ptr (h.next+1+1) 0]) (J:=J) (h:=(((h.at h.next (.cells [.int .u8 a.d, .vs (aw.R a.ps) ta])).at (h.next+1) (.cells [.int .u8 b.d, .vs (aw.R b.ps) eU])).at (h.next+1+1) (.cells [.bool false])).set (h.next+1+1) (some (.cells [.bool (decide (a.d<=b.d))]))) (a:=a) (b:=b) (by have:=ha.len;omega) (by have:=hb.len;omega) (ok.cj _ rfl)
  ⟨by simp[aa.set,aa.at],by simp[aa.set],fun x hx=>by simp[aa.set,aa.at,show¬x=h.next+1+1 by omega,show¬x=h.next+1 by omega,show¬x=h.next by omega]⟩
  (fun done H H' hj ho=>⟨by have:=ho.next;have:=hj.1;omega,by rw[ho.get _ hj.1];exact hj.2.1,fun x hxx=>by rw[ho.get _ (by have:=hj.1;omega)];exact hj.2.2 x hxx⟩)
  (fun done p rest H jK hj hn=>by
    have hp:=uG ha.d hb.d ha.ps hb.ps p (by rw[jK];simp)
    have hc:=av hj.2.1
    refine⟨H.set (h.next+1+1) (some (.cells [.bool (decide (a.d<=b.d)&&(done++[p]).all tF)])),?_,⟨hj.1,by simp[aa.set],fun x hx=>by simp[aa.set,show¬x=h.next+1+1 by omega,hj.2.2 x hx]⟩,by simp[aa.set],fun x h1 h2=>?_⟩
    ·refine ok.calls (rf:=Ao) rfl (Nat.le_of_ble_eq_true rfl) ?_
     cases hq:(decide (a.d<=b.d)&&done.all tF) with
     |true=>
      rw[hq] at hc
      simp+decide only[st,xv,Ao,NU,hc,zz]
      refine au (Yn ok hp.2.1 hp.2.2 _) ?_
      have e:(decide (a.d<=b.d)&&(done++[p]).all tF)=decide (p.2.1<=p.2.2):=by
       rw[List.all_append,<-Bool.and_assoc,hq];simp[tF]
      simp+decide only[st,xv,e,hc]
     |false=>
      rw[hq] at hc
      have e:(decide (a.d<=b.d)&&(done++[p]).all tF)=false:=by
       rw[List.all_append,<-Bool.and_assoc,hq];rfl
      simp+decide only[st,xv,Ao,NU,hc,zz,e]
    ·have: ¬x=h.next+1+1:=by simp[aa.set,aa.at] at h1;omega
     simp[aa.set,this])
 simp+decide only[st,xv,vv,Cz,Cy,Ho,OH,Lb.c]
 refine au k1 ?_
 have hc:=av k2
 simp+decide only[st,xv,vv,Cz,Cy,Ho,OH,hc]
 exact⟨rfl,k3⟩
end
section
open Go
variable {P:Program}
def mB (F:Nat->Nat->Nat) (D:Nat) (l:List (Nat×Nat×Nat)):List (Nat×Nat):=l.filterMap fun p=>if F p.2.1 p.2.2=D then none else some (p.1,F p.2.1 p.2.2)
theorem YS {F:Nat->Nat->Nat} {D:Nat} {l:List (Nat×Nat×Nat)}:(mB F D l).length<=l.length:=List.length_filterMap_le _ _
theorem y5 {dx dy:Nat}: ∀{l m:List (Nat×Nat)},(mg dx dy l m).length<=l.length+m.length
 |[],[]=>by rw[CP];simp
 |(c,x)::l,[]=>by rw[PE];have:=y5 (dx:=dx) (dy:=dy) (l:=l) (m:=[]);simp only[List.length_cons,List.length_nil] at this ⊢;omega
 |[],(c,x)::l=>by rw[H9];have:=y5 (dx:=dx) (dy:=dy) (l:=[]) (m:=l);simp only[List.length_cons,List.length_nil] at this ⊢;omega
 |(c,x)::l,(e,y)::m=>by
  rw[Ia]
  have h1:=y5 (dx:=dx) (dy:=dy) (l:=l) (m:=(e,y)::m)
  have h2:=y5 (dx:=dx) (dy:=dy) (l:=(c,x)::l) (m:=m)
  have h3:=y5 (dx:=dx) (dy:=dy) (l:=l) (m:=m)
  split
  ·simp only[List.length_cons] at h1 ⊢;omega
  ·split
   ·simp only[List.length_cons] at h2 ⊢;omega
   ·simp only[List.length_cons] at h3 ⊢;omega
termination_by l m=>l.length+m.length
def Ic (F:Nat->Nat->Nat) (a b:Lb):Lb:=⟨F a.d b.d,mB F (F a.d b.d) (mg a.d b.d a.ps b.ps)⟩
def BJ (h:aa) (g:Nat) (F:Nat->Nat->Nat) (D:Nat) (done:List (Nat×Nat×Nat)) (H:aa):Prop:=
 h.next+1+1+1+1+1<=H.next/\H.get (h.next+1+1)=some (.cells [.fn g [] []])/\H.get (h.next+1+1+1)=some (.cells [.int .u8 0, .vs [] .full])/\(∃v,H.get (h.next+1+1+1+1)=some (.cells [.int .u8 D,v])/\App ⟨h.get,h.next+1+1+1+1+1+2⟩ H v (aw.R (mB F D done)))/\ ∀x,x<h.next->H.get x=h.get x
theorem ajK (ok:ax P tb) {a b:Lb} {ta eU:aH} {h:aa} (ha:a.ok) (hb:b.ok) {g:Nat} {F:Nat->Nat->Nat} (hg:cj P g=true) (hF: ∀x y:Nat,x<256->y<256-> ∀h,an P g [.int .u8 x, .int .u8 y] h (.int .u8 (F x y)) h):
 an P 176 [.agg (a.c ta), .agg (b.c eU), .fn g [] []] h (.agg ((Ic F a b).c .ao)) h:=by
 refine ok.eH (rf:=xJ) rfl (Nat.le_of_ble_eq_true rfl) (by simp only[AV.bD,AV.cf,Lb.c,aw.iB];rfl) ?_
 simp+decide only[st,xv,xJ,NA,Nz,Lb.c]
 refine pO hg (hF _ _ ha.d hb.d _) ?_
 simp+decide only[st,xv,xJ,NA,Nz,aaz,Lb.c]
 have hD:F a.d b.d=(Ic F a b).d:=rfl
 have key: ∀X:aa,X.next=h.next+1+1+1+1+1->X.get (h.next+1+1)=some (.cells [.fn g [] []])->X.get (h.next+1+1+1)=some (.cells [.int .u8 0, .vs [] .full])->X.get (h.next+1+1+1+1)=some (.cells [.int .u8 (F a.d b.d), .vs [] .full])->(∀x,x<h.next->X.get x=h.get x)->
  ∃H',an P 160 [.agg (a.c ta), .agg (b.c eU), .fn 182 [] [.ptr (h.next+1+1) 0, .ptr (h.next+1+1+1+1) 0]] X (.ay []) H'/\BJ h g F (F a.d b.d) (mg a.d b.d a.ps b.ps) H':=by
  intro X x1 x2 x3 x4 x5
  refine Wl ok (J:=BJ h g F (F a.d b.d)) (by have:=ha.len;omega) (by have:=hb.len;omega) (ok.cj _ rfl) ⟨by omega,x2,x3,⟨_,x4,⟨_,rfl, .inl rfl⟩⟩,x5⟩ ?_ ?_
  ·rintro done H H' ⟨j1,j2,j3,⟨v,j4,j5⟩,j6⟩ ho
   have hn:=ho.next
   exact⟨by omega,by rw[ho.get _ (by omega),j2],by rw[ho.get _ (by omega),j3],⟨v,by rw[ho.get _ (by omega),j4],j5.to hn (fun k _ q2 q3=>by rw[ho.get _ q2,q3])⟩,fun x hx=>by rw[ho.get _ (by omega),j6 x hx]⟩
  ·rintro done p rest H jK ⟨j1,j2,j3,⟨v,j4,j5⟩,j6⟩ hn
   have hp:=uG ha.d hb.d ha.ps hb.ps p (by rw[jK];simp)
   have pw:=av j2
   have AP:=av j4
   have hlen:done.length<=a.ps.length+b.ps.length:=by
    have h1:=y5 (dx:=a.d) (dy:=b.d) (l:=a.ps) (m:=b.ps)
    rw[jK] at h1;simp at h1;omega
   have Vi:=ha.len
   have kB:=hb.len
   have qv:=YS (F:=F) (D:=F a.d b.d) (l:=done)
   refine ok.dT (rf:=vl) rfl (Nat.le_of_ble_eq_true rfl) ?_
   by_cases hv:F p.2.1 p.2.2=F a.d b.d
   ·have cT:((F p.2.1 p.2.2:Nat):Int)=((F a.d b.d:Nat):Int):=by omega
    have hs:mB F (F a.d b.d) (done++[p])=mB F (F a.d b.d) done:=by simp[mB,hv]
    simp+decide only[st,xv,vl,Cm,Ck,Cj,pw,AP,zz]
    refine pO hg (hF _ _ hp.2.1 hp.2.2 _) ?_
    simp+decide only[st,xv,vl,Cm,Ck,Cj,pw,AP,hv]
    exact⟨rfl,⟨j1,j2,j3,⟨v,j4,by rw[hs];exact j5⟩,j6⟩,Nat.le_refl _,fun _ _ _=>rfl⟩
   ·have cT: ¬((F p.2.1 p.2.2:Nat):Int)=((F a.d b.d:Nat):Int):=by omega
    have hs:mB F (F a.d b.d) (done++[p])=mB F (F a.d b.d) done++[(p.1,F p.2.1 p.2.2)]:=by simp[mB,hv]
    have j5':App ⟨H.get,h.next+1+1+1+1+1+2⟩ H v (aw.R (mB F (F a.d b.d) done)):=j5
    obtain⟨v',h2,a1,a2,a3,a4,a5,a6⟩:=j5'.app ⟨by rw[<-x1];exact hn,fun _ _=>rfl⟩ (bytes:=4) (sz:=2) (id:=H.next) (by rw[<-x1];exact hn) [[.int .u16 p.1, .int .u8 (F p.2.1 p.2.2)]] aw.lz (by rw[aw.aS];simp only[List.length_singleton];omega) (by rw[aw.aS];simp only[List.length_singleton];omega)
    simp+decide only[st,xv,vl,Cm,Ck,Cj,pw,AP,zz]
    refine pO hg (hF _ _ hp.2.1 hp.2.2 _) ?_
    have avV:cellsOf h2 (h.next+1+1+1+1)=some [.int .u8 (F a.d b.d),v]:=av (by rw[a3.get _ (by simp),j4])
    obtain⟨tt,rfl,ht⟩:=a2
    simp+decide only[st,xv,vl,Cm,Ck,Cj,pw,AP,hv,a1,avV]
    refine⟨rfl,⟨by simp[aa.set];omega,by simp[aa.set,a3.get,j2],by simp[aa.set,a3.get,j3],⟨.vs (aw.R (mB F (F a.d b.d) done)++[[.int .u16 p.1, .int .u8 (F p.2.1 p.2.2)]]) tt,by simp[aa.set],?_⟩,fun x hx=>?_⟩,by simp[aa.set];omega,fun x h1 fT=>?_⟩
    ·rw[hs,<-aw.oP]
     exact App.to (h:=h2) ⟨tt,rfl,ht⟩ (by simp[aa.set]) (fun k q1 q2 q3=>by
      have: ¬k=h.next+1+1+1+1:=by have:h.next+1+1+1+1+1+2<=k:=q1;omega
      simp[aa.set,this,q3])
    ·simp only[aa.set];rw[if_neg (by omega),a3.get x (show x<h.next+1+1+1+1+1+2 by omega),j6 x hx]
    ·simp only[aa.set];rw[if_neg (by omega),a3.get x (show x<h.next+1+1+1+1+1+2 by omega)]
 refine(key _ ?_ ?_ ?_ ?_ ?_).elim (fun H' hk=>au hk.1 ?_)
 ·simp[aa.set,aa.at]
 ·simp[aa.set,aa.at]
 ·simp[aa.set,aa.at]
 ·simp[aa.set,aa.at]
 ·intro x hx
  simp[aa.set,aa.at,show¬x=h.next+1+1+1+1 by omega,show¬x=h.next+1+1+1 by omega,show¬x=h.next+1+1 by omega,show¬x=h.next+1 by omega,show¬x=h.next by omega]
 ·obtain⟨_,j1,j2,j3,⟨v,j4,⟨tt,rfl,_⟩⟩,j6⟩:=hk
  have Kq:=av j3
  have AP:=av j4
  simp+decide only[st,xv,xJ,aay,Kq,AP,bB]
  exact⟨by simp only[AV.strip,AV.bG,aw.ft];rfl,fun x hx=>by rw[if_neg (by omega),j6 x hx]⟩
theorem Me {d:Nat}: ∀{l:List (Nat×Nat)},mg d d l l=l.map fun p=>(p.1,p.2,p.2)
 |[]=>by rw[CP];rfl
 |(c,x)::l=>by rw[Ia,if_neg (by omega),if_neg (by omega),Me];rfl
def BA (l:Lb):Lb:=Ic (fun x _=>p3 x) l l
theorem Yl {x:Nat} (h:x<256):p3 x<256:=by unfold p3;split<;>omega
theorem air {l:Lb} (hl:l.ok):(BA l).ok:=by
 refine⟨Yl hl.d,fun p hp=>?_,?_⟩
 ·simp only[BA,Ic,mB,List.mem_filterMap] at hp
  obtain⟨q,hq,he⟩:=hp
  have:=uG hl.d hl.d hl.ps hl.ps q hq
  split at he
  ·cases he
  ·cases he;exact⟨this.1,Yl this.2.1⟩
 ·have h1:(mB (fun x _=>p3 x) (p3 l.d) (mg l.d l.d l.ps l.ps)).length<=(mg l.d l.d l.ps l.ps).length:=YS
  rw[Me] at h1
  have h2:(BA l).ps=mB (fun x _=>p3 x) (p3 l.d) (mg l.d l.d l.ps l.ps):=rfl
  rw[h2,Me]
  simp only[List.length_map] at h1
  have:=hl.len
  omega
theorem ajS (ok:ax P tb) {l:Lb} {t:aH} {h:aa} (hl:l.ok):an P 164 [.agg (l.c t)] h (.agg ((BA l).c .ao)) h:=by
 refine ok.eH (rf:=Ey) rfl (Nat.le_of_ble_eq_true rfl) (by simp only[AV.bD,AV.cf,Lb.c,aw.iB];rfl) ?_
 simp+decide only[st,xv,Ey,aaR,aaQ,Lb.c]
 refine au (ajK ok hl hl (F:=fun x _=>p3 x) (ok.cj _ rfl) (fun x y hx hy h=>?_)) ?_
 ·refine ok.calls (rf:=Ev) rfl (Nat.le_of_ble_eq_true rfl) ?_
  simp+decide only[st,xv,Ev,aax,aaw]
  refine au (amA ok _) ?_
  simp+decide only[st,xv]
 ·simp+decide only[st,xv,Lb.c,bB]
  refine⟨by simp only[AV.strip,AV.bG,aw.ft];rfl,?_⟩
  first|(intro b hb;first|(intros;omega)|(repeat(first|rw[if_neg (by omega)]|rw[if_pos (by omega)]));done)|(refine⟨rfl,?_⟩;intro b hb;first|(intros;omega)|(repeat(first|rw[if_neg (by omega)]|rw[if_pos (by omega)])))
def eS (t o:Lb):Bool:=eX o (BA t)
theorem ajR (ok:ax P tb) {a b:Lb} {ta eU:aH} {h:aa} (ha:a.ok) (hb:b.ok):an P 141 [.agg (a.c ta), .agg (b.c eU)] h (.bool (eS a b)) h:=by
 refine ok.keeps (rf:=Aq) rfl (Nat.le_of_ble_eq_true rfl) rfl ?_
 simp+decide only[st,xv,Aq,OF,Lb.c]
 refine ur ?_
 simp+decide only[st,xv,Aq,OF,abo,Lb.c]
 refine hP (ajS ok ha) (cO (by simp[aa.at])) ?_
 simp+decide only[st,xv]
 refine hP (FW ok hb (air ha)) (cO (by simp[aa.at])) ?_
 simp+decide only[st,xv]
 first|(intro b hb;first|(intros;omega)|(repeat(first|rw[if_neg (by omega)]|rw[if_pos (by omega)]));done)|(refine⟨rfl,?_⟩;intro b hb;first|(intros;omega)|(repeat(first|rw[if_neg (by omega)]|rw[if_pos (by omega)])))
theorem aiT (ok:ax P tb) {a b:Lb} {ta eU:aH} {h:aa} (ha:a.ok) (hb:b.ok):an P 142 [.agg (a.c ta), .agg (b.c eU)] h (.bool (eX a b)) h:=by
 refine ok.keeps (rf:=ED) rfl (Nat.le_of_ble_eq_true rfl) rfl ?_
 simp+decide only[st,xv,ED,abn,abm,Lb.c]
 refine au (FW ok ha hb) ?_
 simp+decide only[st,xv]
 first|(intro b hb;first|(intros;omega)|(repeat(first|rw[if_neg (by omega)]|rw[if_pos (by omega)]));done)|(refine⟨rfl,?_⟩;intro b hb;first|(intros;omega)|(repeat(first|rw[if_neg (by omega)]|rw[if_pos (by omega)])))
def m8 (t l:Lb):Nat:=if names l=false then 4 else if 0<(dU l.ps).length then 5 else if eX t l=false then 6 else 0
theorem aiV (ok:ax P tb) {a b:Lb} {ta eU:aH} {h:aa} (ha:a.ok) (hb:b.ok):an P 93 [.agg (a.c ta), .agg (b.c eU)] h (.int .i64 (m8 a b)) h:=by
 refine ok.keeps (rf:=qG) rfl (Nat.le_of_ble_eq_true rfl) rfl ?_
 have hl:=hb.len
 simp+decide only[st,xv,qG,uY,uX,uW,uV,uU,uT,uS,uR,Lb.c]
 refine au (yE ok (by omega)) ?_
 unfold m8
 cases hn:names b with
 |false=>
  simp+decide only[st,xv,qG,uY,uX,uW,uV,uU,uT,uS,uR]
  first|(intro b hb;first|(intros;omega)|(repeat(first|rw[if_neg (by omega)]|rw[if_pos (by omega)]));done)|(refine⟨rfl,?_⟩;intro b hb;first|(intros;omega)|(repeat(first|rw[if_neg (by omega)]|rw[if_pos (by omega)])))
 |true=>
  simp+decide only[st,xv,qG,uY,uX,uW,uV,uU,uT,uS,uR,Lb.c]
  refine au (Lk ok (by omega)) ?_
  by_cases hs:0<(dU b.ps).length
  ·have iH:(0:Int)<((dU b.ps).length:Int):=by omega
   simp+decide only[st,xv,qG,uY,uX,uW,uV,uU,uT,uS,uR,(aJ .u16).aS,hs,iH]
   first|(intro b hb;first|(intros;omega)|(repeat(first|rw[if_neg (by omega)]|rw[if_pos (by omega)]));done)|(refine⟨rfl,?_⟩;intro b hb;first|(intros;omega)|(repeat(first|rw[if_neg (by omega)]|rw[if_pos (by omega)])))
  ·have iH: ¬(0:Int)<((dU b.ps).length:Int):=by omega
   simp+decide only[st,xv,qG,uY,uX,uW,uV,uU,uT,uS,uR,Lb.c,(aJ .u16).aS,hs,iH]
   refine au (FW ok ha hb) ?_
   cases hf:eX a b with
   |false=>
    simp+decide only[st,xv,qG,uY,uX,uW,uV,uU,uT,uS,uR]
    first|(intro b hb;first|(intros;omega)|(repeat(first|rw[if_neg (by omega)]|rw[if_pos (by omega)]));done)|(refine⟨rfl,?_⟩;intro b hb;first|(intros;omega)|(repeat(first|rw[if_neg (by omega)]|rw[if_pos (by omega)])))
   |true=>
    simp+decide only[st,xv,qG,uY,uX,uW,uV,uU,uT,uS,uR]
    first|(intro b hb;first|(intros;omega)|(repeat(first|rw[if_neg (by omega)]|rw[if_pos (by omega)]));done)|(refine⟨rfl,?_⟩;intro b hb;first|(intros;omega)|(repeat(first|rw[if_neg (by omega)]|rw[if_pos (by omega)])))
def wB (t l:Lb):Nat:=if names l=false then 4 else if(dU l.ps).any (fun c=>!(nH t c==0)) then 5 else if eX t l=false then 6 else 0
theorem aiU (ok:ax P tb) {a b:Lb} {ta eU:aH} {h:aa} (ha:a.ok) (hb:b.ok):an P 90 [.agg (a.c ta), .agg (b.c eU)] h (.int .i64 (wB a b)) h:=by
 refine ok.keeps (rf:=sB) rfl (Nat.le_of_ble_eq_true rfl) rfl ?_
 have hl:=hb.len
 have hla:=ha.len
 simp+decide only[st,xv,sB,Db,Da,C9,Lb.c]
 refine au (yE ok (by omega)) ?_
 unfold wB
 cases hn:names b with
 |false=>
  simp+decide only[st,xv,sB,Db,Da,C9,IG,IF,P6,P5,P4,P3,P2,MM,ML]
  first|(intro b hb;first|(intros;omega)|(repeat(first|rw[if_neg (by omega)]|rw[if_pos (by omega)]));done)|(refine⟨rfl,?_⟩;intro b hb;first|(intros;omega)|(repeat(first|rw[if_neg (by omega)]|rw[if_pos (by omega)])))
 |true=>
  simp+decide only[st,xv,sB,Db,Da,C9,IG,Lb.c]
  refine au (Lk ok (by omega)) ?_
  simp+decide only[st,xv,sB,Db,Da,C9,IG,Lb.c]
  obtain⟨X,hX⟩: ∃X,X=((h.at h.next (.cells [.int .u8 a.d, .vs (aw.R a.ps) ta])).at (h.next+1) (.cells [.int .u8 b.d, .vs (aw.R b.ps) eU])):=⟨_,rfl⟩
  have g1:cellsOf X h.next=some [.int .u8 a.d, .vs (aw.R a.ps) ta]:=by subst hX;simp+decide only[st,xv]
  have g2:cellsOf X (h.next+1)=some [.int .u8 b.d, .vs (aw.R b.ps) eU]:=by subst hX;simp+decide only[st,xv]
  have g3: ∀x,x<h.next->X.get x=h.get x:=by subst hX;intro x hx;simp[aa.at,show¬x=h.next+1 by omega,show¬x=h.next by omega]
  rw[<-hX]
  have qv:=Xk (l:=b.ps)
  let I:Nat->Env->aa->Prop:=fun n ρ h'=>h'=X/\ ∃i:Nat,(dU b.ps).length=i+n/\(∀j,j<i-> ∀hj:j<(dU b.ps).length,nH a (dU b.ps)[j]=0)/\ρ 2= .ptr h.next 0/\ρ 3= .ptr (h.next+1) 0/\ρ 11= .vs ((aJ .u16).R (dU b.ps)) .ao/\ρ 12= .int .i64 (dU b.ps).length/\ρ 13= .int .i64 i
  refine dJ I ?_ (dU b.ps).length ⟨rfl,0,by omega,by omega,rfl,rfl,rfl,by simp+decide only[st,xv,(aJ .u16).aS],rfl⟩
  rintro n ρ h' ⟨rfl,i,aE,hf,r2,r3,fM,fR,dN⟩
  by_cases hi:i<(dU b.ps).length
  ·have aA:(i:Int)<((dU b.ps).length:Int):=by omega
   have dH:(0:Int)<=i:=by omega
   have hw:=dv (show i<2^61 by omega)
   have cw:((aJ .u16).R (dU b.ps))[i]? =some [.int .u16 (dU b.ps)[i]]:=(aJ .u16).gR hi
   simp+decide only[st,xv,sB,IF,P6,P5,P4,P3,r2,fM,fR,dN,aA,dH,cw,g1]
   refine au (YJ (l:=a) (t:=ta) ok (by omega)) ?_
   by_cases hz:nH a (dU b.ps)[i]=0
   ·simp+decide only[st,xv,hz,dN,hw]
    refine⟨n-1,by omega,rfl,i+1,by omega,fun j hj dP=>?_,r2,r3,fM,fR,rfl⟩
    by_cases eE:j=i
    ·subst eE;exact hz
    ·exact hf j (by omega) dP
   ·have UK: ¬((nH a (dU b.ps)[i]:Nat):Int)=0:=by omega
    have su:(dU b.ps).any (fun c=>!(nH a c==0))=true:=List.any_eq_true.2 ⟨_,List.getElem_mem hi,by simp[hz]⟩
    simp+decide only[st,xv,UK,hz,su]
    exact⟨rfl,g3⟩
  ·have aA: ¬(i:Int)<((dU b.ps).length:Int):=by omega
   have su:(dU b.ps).any (fun c=>!(nH a c==0))=false:=by
    rw[List.any_eq_false]
    intro x hx
    obtain⟨j,hj,rfl⟩:=List.getElem_of_mem hx
    simp[hf j (by omega) hj]
   simp+decide only[st,xv,sB,IF,P2,MM,ML,r2,r3,fR,dN,aA,g1,g2]
   refine au (FW (ta:=ta) (eU:=eU) ok ha hb) ?_
   cases bT:eX a b with
   |false=>
    simp+decide only[st,xv,su]
    exact⟨rfl,g3⟩
   |true=>
    simp+decide only[st,xv,su]
    exact g3
end
section
open Go
variable {P:Program}
def cF (l:List (Nat×Nat)):Prop:=l.Pairwise fun p q=>p.1<q.1
def eM (l:List (Nat×Nat)) (c:Nat):Nat:=l.findIdx fun p=>decide (c<=p.1)
theorem My {l:List (Nat×Nat)} {c:Nat}:eM l c<=l.length:=List.findIdx_le_length
theorem ZE {l:List (Nat×Nat)} {c i:Nat} (hi:i<eM l c) (hl:i<l.length):l[i].1<c:=by
 have:=List.not_of_lt_findIdx hi
 simpa using this
theorem Mz {l:List (Nat×Nat)} (hs:cF l) {c i:Nat} (hi:eM l c<=i) (hl:i<l.length):c<=l[i].1:=by
 have h0:eM l c<l.length:=by omega
 have h1:c<=l[eM l c].1:=by
  have:=List.findIdx_getElem (xs:=l) (p:=fun p=>decide (c<=p.1)) (w:=by exact h0)
  exact of_decide_eq_true this
 by_cases he:eM l c=i
 ·simpa [he] using h1
 ·have:=List.pairwise_iff_getElem.1 hs (eM l c) i h0 hl (by omega)
  omega
theorem akM (ok:ax P tb) {l:List (Nat×Nat)} {v:AV} {c:Nat} {h:aa} (hs:cF l) (hc:c<65536) (hb: ∀p∈l,p.1<65536/\p.2<256) (hv: ∀h',Old h h'->iv h' v 2 (aw.R l)) (hl:l.length<2^30):
 ∃b,an P 169 [v, .int .u16 c, .fn 170 [] []] h (.ay [.int .i64 (eM l c), .bool b]) h:=by
 have cmp: ∀p∈l,∀h',an P 170 [.agg (aw.e p), .int .u16 c] h' (.int .i64 ((p.1:Int)-c)) h':=by
  intro p hp h'
  have:=hb p hp
  refine ok.keeps (rf:=Ex) rfl (Nat.le_of_ble_eq_true rfl) rfl ?_
  have w1:IntKind.wrap .i64 (p.1:Int)=p.1:=ry (by omega)
  have w2:IntKind.wrap .i64 (c:Int)=c:=ry (by omega)
  have w3:IntKind.wrap .i64 ((p.1:Int)-c)=(p.1:Int)-c:=bH (by omega) (by omega)
  simp+decide only[st,xv,Ex,aaD,aaC,aw,w1,w2,w3]
  first|(intro b hb;first|(intros;omega)|(repeat(first|rw[if_neg (by omega)]|rw[if_pos (by omega)]));done)|(refine⟨rfl,?_⟩;intro b hb;first|(intros;omega)|(repeat(first|rw[if_neg (by omega)]|rw[if_pos (by omega)])))
 have hlen:gH v=some l.length:=by rw[(hv h (Old.refl h)).len,aw.aS]
 refine⟨(decide (eM l c<l.length)&&decide ((l.getD (eM l c) (0,0)).1=c)),?_⟩
 refine ok.calls (rf:=rP) rfl (Nat.le_of_ble_eq_true rfl) ?_
 simp+decide only[st,xv,rP,aaK,aaJ,aaI,hlen]
 let I:Nat->Env->aa->Prop:=fun n ρ h'=>h'=h/\ ∃i j:Nat,j-i=n/\i<=eM l c/\eM l c<=j/\j<=l.length/\ρ 0=v/\ρ 1= .int .u16 c/\ρ 2= .fn 170 [] []/\ρ 8= .int .i64 l.length/\ρ 9= .int .i64 i/\ρ 10= .int .i64 j
 refine dJ I ?_ l.length ⟨rfl,0,l.length,by omega,by omega,My,by omega,rfl,rfl,rfl,rfl,rfl,rfl⟩
 rintro n ρ h' ⟨rfl,i,j,hn,hi,hj,dP,r0,r1,r2,r8,r9,gq⟩
 by_cases nP:i<j
 ·have JL:(i:Int)<(j:Int):=by omega
  have w1:IntKind.wrap .i64 ((i:Int)+(j:Int))=((i+j:Nat):Int):=by rw[bH]<;>omega
  have w2:IntKind.wrap .u64 ((i+j:Nat):Int)=((i+j:Nat):Int):=fk (by omega)
  have w3:((i+j:Nat):Int).fdiv (2^min (Int.toNat 1) IntKind.u64.bits)=(((i+j)/2:Nat):Int):=by
   rw[show(2:Int)^min (Int.toNat 1) IntKind.u64.bits=2 by rfl,Int.fdiv_eq_ediv_of_nonneg _ (by omega)];rfl
  have w4:IntKind.wrap .i64 (((i+j)/2:Nat):Int)=(((i+j)/2:Nat):Int):=ry (by omega)
  have h1: ¬(1:Int)<0:=by omega
  have hm:(i+j)/2<l.length:=by omega
  obtain⟨p,g1,g2⟩:=(hv h' (Old.refl h')).get ((i+j)/2) (by rw[aw.aS];exact hm)
  have g3:(aw.R l)[(i+j)/2]'(by rw[aw.aS];exact hm)=aw.e l[(i+j)/2]:=by simp[fh.R]
  rw[g3] at g2
  simp+decide only[st,xv,rP,Hg,aaH,aaG,r0,r1,r2,r9,gq,JL,w1,w2,w3,w4,h1,g1,g2]
  refine pO (ok.cj _ rfl) (cmp _ (List.getElem_mem hm) _) ?_
  by_cases aD:l[(i+j)/2].1<c
  ·have mv:((l[(i+j)/2].1:Int)-(c:Int))<0:=by omega
   have w5:=dv (show(i+j)/2<2^61 by omega)
   have hle:(i+j)/2<eM l c:=by
    by_cases hx:eM l c<=(i+j)/2
    ·have:=Mz hs hx hm;omega
    ·omega
   simp+decide only[st,xv,rP,aaF,mv,w5]
   exact⟨j-((i+j)/2+1),by omega,rfl,(i+j)/2+1,j,rfl,by omega,hj,dP,r0,r1,r2,r8,rfl,gq⟩
  ·have mv: ¬((l[(i+j)/2].1:Int)-(c:Int))<0:=by omega
   have hle:eM l c<=(i+j)/2:=by
    by_cases hx:(i+j)/2<eM l c
    ·have:=ZE hx hm;omega
    ·omega
   simp+decide only[st,xv,rP,aaE,mv]
   exact⟨(i+j)/2-i,by omega,rfl,i,(i+j)/2,rfl,hi,hle,by omega,r0,r1,r2,r8,r9,rfl⟩
 ·have JL: ¬(i:Int)<(j:Int):=by omega
  have iK:i=eM l c:=by omega
  subst iK
  by_cases hm:eM l c<l.length
  ·have Fc:((eM l c:Nat):Int)<(l.length:Int):=by omega
   obtain⟨p,g1,g2⟩:=(hv h' (Old.refl h')).get (eM l c) (by rw[aw.aS];exact hm)
   have g3:(aw.R l)[eM l c]'(by rw[aw.aS];exact hm)=aw.e l[eM l c]:=by simp[fh.R]
   rw[g3] at g2
   simp+decide only[st,xv,rP,Hg,NI,r0,r1,r2,r8,r9,gq,JL,Fc,g1,g2]
   refine pO (ok.cj _ rfl) (cmp _ (List.getElem_mem hm) _) ?_
   have e:decide ((l[eM l c].1:Int)-(c:Int)=0)=decide (l[eM l c].1=c):=by rw[decide_eq_decide];omega
   simp+decide only[st,xv,e,hm]
   simp[hm]
  ·have Fc: ¬((eM l c:Nat):Int)<(l.length:Int):=by omega
   simp+decide only[st,xv,rP,Hg,NI,r0,r1,r2,r8,r9,gq,JL,Fc,hm]
   simp
end
section
open Go
variable {P:Program}
def dl (l:List (Nat×Nat)) (c:Nat):List (Nat×Nat):=if 0<=cidx l c then l.eraseIdx (cidx l c).toNat else l
def ins (l:List (Nat×Nat)) (p:Nat×Nat):List (Nat×Nat):=l.take (eM l p.1)++p::l.drop (eM l p.1)
def nF (d:Nat) (l:List (Nat×Nat)) (p:Nat×Nat):List (Nat×Nat):=if p.2=d then dl l p.1 else ins (dl l p.1) p
def jG (d:Nat) (l:List (Nat×Nat)):List (Nat×Nat):=l.foldl (nF d) []
theorem akK {l:List (Nat×Nat)} {c:Nat} (h: ¬0<=cidx l c): ∀p∈l,p.1≠c:=by
 rcases Gl (q:=fun p:Nat×Nat=>p.1==c) (l:=l) with⟨e1,e2⟩|⟨i,hi,e1,e2⟩
 ·intro p hp
  have:=List.find?_eq_none.1 e2 p hp
  simpa using this
 ·exact(h (by rw[cidx,e1];omega)).elim
theorem XM {l:List (Nat×Nat)} {c:Nat} (h:0<=cidx l c): ∃i,∃hi:i<l.length,cidx l c=i/\l[i].1=c:=by
 rcases Gl (q:=fun p:Nat×Nat=>p.1==c) (l:=l) with⟨e1,e2⟩|⟨i,hi,e1,e2⟩
 ·rw[cidx,e1] at h;omega
 ·refine⟨i,hi,e1,?_⟩
  have:=List.find?_some e2
  simpa using this
theorem uB {l:List (Nat×Nat)} {c:Nat}:(dl l c).Sublist l:=by
 unfold dl
 split
 ·exact List.eraseIdx_sublist ..
 ·exact List.Sublist.refl _
theorem G1 {l:List (Nat×Nat)} (hs:cF l) {c:Nat}:cF (dl l c):=List.Pairwise.sublist uB hs
theorem as6 {l:List (Nat×Nat)} (hs:cF l) {c:Nat}: ∀p∈dl l c,p.1≠c:=by
 unfold dl
 split
 ·rename_i h
  obtain⟨i,hi,e1,e2⟩:=XM h
  rw[e1,Int.toNat_natCast]
  intro p hp
  obtain⟨j,hj,eE,rfl⟩:=List.mem_eraseIdx_iff_getElem.1 hp
  have:=List.pairwise_iff_getElem.1 hs
  rcases Nat.lt_or_gt_of_ne eE with aD|Fi
  ·have:=this j i hj hi aD;omega
  ·have:=this i j hi hj Fi;omega
 ·rename_i h
  exact akK h
theorem amF {l:List (Nat×Nat)} (hs:cF l) {p:Nat×Nat} (hn: ∀q∈l,q.1≠p.1):cF (ins l p):=by
 unfold ins cF
 rw[List.pairwise_append]
 refine⟨List.Pairwise.sublist (List.take_sublist ..) hs,?_,?_⟩
 ·rw[List.pairwise_cons]
  refine⟨fun q hq=>?_,List.Pairwise.sublist (List.drop_sublist ..) hs⟩
  obtain⟨j,hj,rfl⟩:=List.getElem_of_mem hq
  rw[List.getElem_drop]
  have qz:eM l p.1+j<l.length:=by rw[List.length_drop] at hj;omega
  have h1:=Mz hs (c:=p.1) (i:=eM l p.1+j) (by omega) qz
  have h2:=hn _ (List.getElem_mem qz)
  omega
 ·intro q hq r hr
  obtain⟨j,hj,rfl⟩:=List.getElem_of_mem hq
  rw[List.getElem_take]
  have vM:j<eM l p.1:=by rw[List.length_take] at hj;omega
  have qz:j<l.length:=by rw[List.length_take] at hj;omega
  have h1:=ZE vM qz
  rcases List.mem_cons.1 hr with rfl|hr
  ·exact h1
  ·obtain⟨k,hk,rfl⟩:=List.getElem_of_mem hr
   rw[List.getElem_drop]
   have kS:eM l p.1+k<l.length:=by rw[List.length_drop] at hk;omega
   have h3:=Mz hs (c:=p.1) (i:=eM l p.1+k) (by omega) kS
   omega
theorem amx {d:Nat} {l:List (Nat×Nat)} (hs:cF l) {p:Nat×Nat}:cF (nF d l p):=by
 unfold nF
 split
 ·exact G1 hs
 ·exact amF (G1 hs) (as6 hs)
theorem amH {l:List (Nat×Nat)} {p q:Nat×Nat} (h:q∈ins l p):q=p\/q∈l:=by
 unfold ins at h
 rcases List.mem_append.1 h with h|h
 ·exact .inr (List.mem_of_mem_take h)
 ·rcases List.mem_cons.1 h with h|h
  ·exact .inl h
  ·exact .inr (List.mem_of_mem_drop h)
theorem YY {d:Nat} {l:List (Nat×Nat)} {p q:Nat×Nat} (h:q∈nF d l p):q=p\/q∈l:=by
 unfold nF at h
 split at h
 ·exact .inr (uB.subset h)
 ·rcases amH h with h|h
  ·exact .inl h
  ·exact .inr (uB.subset h)
theorem Y3 {l:List (Nat×Nat)} {p:Nat×Nat}:(ins l p).length=l.length+1:=by
 have:=My (l:=l) (c:=p.1)
 simp[ins];omega
theorem YZ {d:Nat} {l:List (Nat×Nat)} {p:Nat×Nat}:(nF d l p).length<=l.length+1:=by
 have:=(uB (l:=l) (c:=p.1)).length_le
 unfold nF
 split
 ·omega
 ·rw[Y3];omega
def PV (m:Nat) (H:aa) (pv:AV) (l:List (Nat×Nat)):Prop:=(l=[]/\pv= .vs [] .full)\/ ∃b,pv= .rs b 0 l.length 2/\H.get b=some (.cells (aw.R l).flatten)/\m<=b/\b<H.next
theorem PV.lO {m:Nat} {H H':aa} {pv:AV} {l:List (Nat×Nat)} (h:PV m H pv l) (ho: ∀x,x<H.next->H'.get x=H.get x):iv H' pv 2 (aw.R l):=by
 rcases h with⟨rfl,rfl⟩|⟨b,rfl,h1,h2,h3⟩
 ·exact iv.vs aw (l:=[])
 ·have:=iv.rs (h:=H') (b:=b) (sz:=2) (rows:=aw.R l) (cs:=(aw.R l).flatten) (av (by rw[ho b h3,h1])) (List.take_of_length_le (by rw[ji (sz:=2) (fun r hr=>by obtain⟨p,_,rfl⟩:=List.mem_map.1 hr;rfl)];exact Nat.le_refl _)) (fun r hr=>by obtain⟨p,_,rfl⟩:=List.mem_map.1 hr;rfl)
  rw[aw.aS] at this
  exact this
theorem PV.to {m:Nat} {H H':aa} {pv:AV} {l:List (Nat×Nat)} (h:PV m H pv l) (hn:H.next<=H'.next) (ho: ∀x,m<=x->x<H.next->H'.get x=H.get x):PV m H' pv l:=by
 rcases h with h|⟨b,h0,h1,h2,h3⟩
 ·exact .inl h
 ·exact .inr ⟨b,h0,by rw[ho b h2 h3,h1],h2,by omega⟩
end
section
open Go
variable {P:Program}
structure MS (h:aa) (d:Nat) (l:List (Nat×Nat)) (pv:AV) (H:aa):Prop where
 n:h.next+2<=H.next
 res:H.get h.next=some (.cells [.int .u8 0, .vs [] .full])
 out:H.get (h.next+1)=some (.cells [.int .u8 d,pv])
 pv:PV (h.next+2) H pv l
 old: ∀x,x<h.next->H.get x=h.get x
theorem MS.to {h H H':aa} {d:Nat} {l:List (Nat×Nat)} {pv:AV} (M:MS h d l pv H) (o:Old H H'):MS h d l pv H' where
 n:=by have:=M.n;have:=o.next;omega
 res:=by rw[o.get _ (by have:=M.n;omega),M.res]
 out:=by rw[o.get _ (by have:=M.n;omega),M.out]
 pv:=M.pv.to o.next (fun x _ h2=>o.get x h2)
 old x hx:=by rw[o.get _ (by have:=M.n;omega),M.old x hx]
theorem W7 {l:List (Nat×Nat)} {i:Nat}:(aw.R l).flatten.take (i*2)=(aw.R (l.take i)).flatten:=by
 induction l generalizing i with
 |nil=>simp[fh.R]
 |cons p l ih=>
  cases i with
  |zero=>simp[fh.R]
  |succ i=>
   rw[List.take_succ_cons,aw.wV,aw.wV,List.flatten_cons,List.flatten_cons,Nat.add_mul,<-ih]
   show List.take (i*2+2) (_::_::_)=_
   rw[List.take_succ_cons,List.take_succ_cons];rfl
theorem W8 {l:List (Nat×Nat)} {i:Nat}:(aw.R l).flatten.drop (i*2)=(aw.R (l.drop i)).flatten:=by
 induction l generalizing i with
 |nil=>simp[fh.R]
 |cons p l ih=>
  cases i with
  |zero=>simp[fh.R]
  |succ i=>
   rw[List.drop_succ_cons,aw.wV,List.flatten_cons,Nat.add_mul,<-ih]
   show List.drop (i*2+2) (_::_::_)=_
   rw[List.drop_succ_cons,List.drop_succ_cons];rfl
theorem FR {l:List (Nat×Nat)}:(aw.R l).flatten.length=l.length*2:=by
 rw[ji (sz:=2) (fun r hr=>by obtain⟨p,_,rfl⟩:=List.mem_map.1 hr;rfl),aw.aS]
theorem Bn {cs ds:List AV} {sz:Nat}: ∀{n off:Nat},off+n*sz<=ds.length->rowsOf (cs++ds) (cs.length+off) sz n=rowsOf ds off sz n
 |0,_,_=>rfl
 |n+1,off,h=>by
  have hh:off+sz+n*sz<=ds.length:=by rw[Nat.add_mul] at h;omega
  simp only[rowsOf]
  rw[Nat.add_assoc,Bn hh]
  congr 1
  rw[List.drop_append,List.drop_of_length_le (by omega),List.nil_append,Nat.add_sub_cancel_left]
theorem Ya: ∀{l:List (Nat×Nat)},rowsOf (aw.R l).flatten 0 2 l.length=aw.R l
 |[]=>rfl
 |p::l=>by
  have ih:=Ya (l:=l)
  rw[aw.wV,List.flatten_cons,List.length_cons,rowsOf]
  rw[show 0+2=(aw.e p).length+0 by rfl,Bn (by rw[FR];omega),ih]
  rfl
theorem akG {l:List (Nat×Nat)} {i:Nat}:qf (aw.R l).flatten i=(aw.R (l.eraseIdx i)).flatten:=by
 rw[qf,W7,W8,<-List.flatten_append,aw.oP,List.eraseIdx_eq_take_drop_succ]
theorem akv {l:List (Nat×Nat)} {i:Nat} {p:Nat×Nat}:jA (aw.R l).flatten (aw.e p) i=(aw.R (l.take i++p::l.drop i)).flatten:=by
 rw[jA,W7,W8,<-aw.oP,List.flatten_append,aw.wV,List.flatten_cons,List.append_assoc]
theorem MS.buf {h H:aa} {d b:Nat} {l l2:List (Nat×Nat)} {pv:AV} (M:MS h d l pv H) (hb:h.next+2<=b):MS h d l2 (.rs (H.next+19) 0 l2.length 2) ((jq H b (aw.R l2).flatten).set (h.next+1) (some (.cells [.int .u8 d, .rs (H.next+19) 0 l2.length 2]))) where
 n:=by have:=M.n;simp only[jq,aa.set,aa.at,aa.clean];omega
 res:=by
  have hn:=M.n
  simp[jq,aa.set,aa.at,aa.clean,show¬h.next=H.next+19 by omega,show h.next<H.next by omega,show¬h.next=b by omega,M.res]
 out:=by simp[aa.set]
 pv:=by
  have hn:=M.n
  exact .inr ⟨_,rfl,by simp[jq,aa.set,aa.at,show¬H.next+19=h.next+1 by omega],by omega,by simp only[jq,aa.set,aa.at,aa.clean];omega⟩
 old x hx:=by
  have hn:=M.n
  simp[jq,aa.set,aa.at,aa.clean,show¬x=H.next+19 by omega,show x<H.next by omega,show¬x=b by omega,show¬x=h.next+1 by omega,M.old x hx]
structure MR (h:aa) (d:Nat) (t:aH) (l:List (Nat×Nat)) (i:Nat) (ρ:Env):Prop where
 r0:ρ 0= .int .u8 d
 r4:ρ 4= .ptr h.next 0
 r5:ρ 5= .ptr (h.next+1) 0
 dN:ρ 13= .vs (aw.R l) t
 fK:ρ 14= .int .i64 l.length
 eL:ρ 15= .int .i64 i
theorem PV.one {m:Nat} {H:aa} {pv:AV} {l:List (Nat×Nat)} (h:PV m H pv l):pv.one=true:=by
 rcases h with⟨_,rfl⟩|⟨b,rfl,_⟩<;>rfl
theorem Xp (ok:ax P tb) {h H H2:aa} {d i:Nat} {t:aH} {l m1:List (Nat×Nat)} {p:Nat×Nat} {Uz:AV} {ρ1:Env} {K:aP->Env->aa->Prop} (R:MR h d t l i ρ1) (r7:ρ1 7= .ptr H.next 0) (M:MS h d m1 Uz H2) (hH:h.next+2<=H.next) (hH2:H.next<H2.next)
 (hp:H2.get H.next=some (.cells [.int .u16 p.1, .int .u8 p.2])) (tN:p.1<65536/\p.2<256) (hs:cF m1) (px: ∀p∈m1,p.1<65536/\p.2<256) (Fe:m1.length<2^29)
 (hK: ∀ρ' H' tD,MR h d t l i ρ'->MS h d (if p.2=d then m1 else ins m1 p) tD H'->K .normal ρ' H'):
 WP P (.seq (.af Hj) (.cond (Am.t 36) (.seq (.af NZ) (.af Ml)) .skip)) K ρ1 H2:=by
 obtain⟨r0,r4,r5,dN,fK,eL⟩:=R
 have g7:=av hp
 have g5:=av M.out
 by_cases hd:p.2=d
 ·have nR:(p.2:Int)=(d:Int):=by omega
  simp+decide only[st,xv,kN,Hj,r0,r7,g7,nR]
  rw[if_pos hd] at hK
  exact hK _ _ Uz ⟨r0,r4,r5,dN,fK,eL⟩ M
 ·have nR: ¬(p.2:Int)=(d:Int):=by omega
  rw[if_neg hd] at hK
  obtain⟨b,k1⟩:=akM ok (h:=H2) (v:=Uz) hs tN.1 px (fun h' ho=>M.pv.lO ho.get) (by omega)
  simp+decide only[st,xv,kN,Hj,NZ,r0,r5,r7,g5,g7,nR]
  refine au k1 ?_
  simp+decide only[st,xv,kN,Ml,r5,r7,g5,g7]
  have lU:=My (l:=m1) (c:=p.1)
  rcases M.pv with⟨rfl,rfl⟩|⟨bb,rfl,q1,q2,q3⟩
  ·have k2:=amG ok (h:=H2) (f:=171) rfl (row:=[.int .u16 p.1, .int .u8 p.2]) (tl:= .full) rfl
   refine au k2 ?_
   have hn:=M.n
   have hg:cellsOf (H2.at H2.next (.cells [.int .u16 p.1, .int .u8 p.2])) (h.next+1)=some [.int .u8 d, .vs [] .full]:=av (by simp[aa.at,show¬h.next+1=H2.next by omega,M.out])
   simp+decide only[st,xv,r5,hg]
   refine hK _ _ (.rs H2.next 0 1 2) ⟨r0,r4,r5,dN,fK,eL⟩ ⟨by simp[aa.at,aa.set];omega,?_,by simp[aa.set], .inr ⟨H2.next,rfl,?_,by omega,by simp[aa.at,aa.set]⟩,fun x hx=>?_⟩
   ·simp[aa.at,aa.set,show¬h.next=H2.next by omega,M.res]
   ·simp[aa.at,aa.set,show¬H2.next=h.next+1 by omega,ins,eM,aw,fh.R]
   ·simp[aa.at,aa.set,show¬x=H2.next by omega,show¬x=h.next+1 by omega,M.old x hx]
  ·have k2:=aku ok (h:=H2) (f:=171) rfl (row:=aw.e p) (tl:= .full) (i:=eM m1 p.1) q3 q1 FR rfl (by omega) lU
   have iK:m1.length+1=(ins m1 p).length:=Y3.symm
   rw[akv,iK] at k2
   refine au k2 ?_
   have hn:=M.n
   have hg:cellsOf (jq H2 bb (aw.R (ins m1 p)).flatten) (h.next+1)=some [.int .u8 d, .rs bb 0 m1.length 2]:=av (by simp[jq,aa.at,aa.set,aa.clean,show¬h.next=H2.next+18 by omega,show h.next+1<H2.next by omega,show¬h.next+1=bb by omega,M.out])
   show exec P _ _ (jq H2 bb (aw.R (ins m1 p)).flatten) _
   simp+decide only[st,xv,r5,hg]
   exact hK _ _ _ ⟨r0,r4,r5,dN,fK,eL⟩ (M.buf q2)
theorem ajU (ok:ax P tb) {d:Nat} {l:List (Nat×Nat)} {t:aH} {h:aa} (hd:d<256) (hb: ∀p∈l,p.1<65536/\p.2<256) (hl:l.length<2^28):an P 157 [.int .u8 d, .vs (aw.R l) t] h (.agg (Lb.c ⟨d,jG d l⟩ .ao)) h:=by
 refine ok.MB (rf:=kN) rfl (Nat.le_of_ble_eq_true rfl) (by simp only[AV.bD,AV.cf,Lb.c,aw.iB];rfl) ?_
 simp+decide only[st,xv,kN,aa2,aa1,aa0]
 let I:Nat->Env->aa->Prop:=fun n ρ H=> ∃i pv,l.length=i+n/\MR h d t l i ρ/\MS h d (jG d (l.take i)) pv H/\cF (jG d (l.take i))/\(∀p∈jG d (l.take i),p.1<65536/\p.2<256)/\(jG d (l.take i)).length<=i
 refine dJ I ?_ l.length ⟨0, .vs [] .full,by omega,⟨rfl,rfl,rfl,rfl,by simp+decide only[st,xv,aw.aS],rfl⟩,⟨by simp[aa.set,aa.at],by simp[aa.set,aa.at],by simp[aa.set,aa.at], .inl ⟨rfl,rfl⟩,fun x hx=>by simp[aa.set,aa.at,show¬x=h.next by omega,show¬x=h.next+1 by omega]⟩,List.Pairwise.nil,(fun p hp=>by simp[jG] at hp),by simp[jG]⟩
 rintro n ρ H ⟨i,pv,aE,⟨r0,r4,r5,dN,fK,eL⟩,M,hs,px,Fe⟩
 by_cases hi:i<l.length
 ·have aA:(i:Int)<(l.length:Int):=by omega
  have dH:(0:Int)<=i:=by omega
  have hw:=dv (show i<2^61 by omega)
  have cw:(aw.R l)[i]? =some [.int .u16 l[i].1, .int .u8 l[i].2]:=aw.gR hi
  have fu:jG d (l.take (i+1))=nF d (jG d (l.take i)) l[i]:=by
   rw[<-List.take_append_getElem hi,jG,List.foldl_append];rfl
  generalize hm:jG d (l.take i)=m at M hs px Fe fu
  generalize hp:l[i]=p at cw fu
  have tN:p.1<65536/\p.2<256:=by rw[<-hp];exact hb _ (List.getElem_mem hi)
  have hMn:=M.n
  simp+decide only[st,xv,kN,N8,aaZ,dN,fK,eL,aA,dH,cw]
  obtain⟨H1,jt⟩: ∃H1,H1=(H.at H.next (.cells [.int .u16 0, .int .u8 0])).set H.next (some (.cells [.int .u16 p.1, .int .u8 p.2])):=⟨_,rfl⟩
  have o1:Old H H1:=by subst jt;exact((Old.refl H).at (Nat.le_refl _)).set (Nat.le_refl _)
  have tO:H1.get H.next=some (.cells [.int .u16 p.1, .int .u8 p.2]):=by subst jt;simp[aa.set]
  have pk:H1.next=H.next+1:=by subst jt;simp[aa.set,aa.at]
  rw[<-jt]
  have M1:=M.to o1
  have g5:=av M1.out
  have g7:=av tO
  simp+decide only[st,xv,kN,aaY,Hk,r5,g5,g7]
  refine au (atR ok (l:=m) (fun h' ho=>M1.pv.lO ho) (by omega)) ?_
  have fin: ∀ρ' H' tD,MR h d t l i ρ'->MS h d (nF d m p) tD H'-> ∃k,k<n/\I k (put (put ρ' (some 52) (.int .i64 ((i+1:Nat):Int))) (some 15) (.int .i64 ((i+1:Nat):Int))) H':=by
   intro ρ' H' tD R' M'
   refine⟨n-1,by omega,i+1,tD,by omega,⟨R'.r0,R'.r4,R'.r5,R'.dN,R'.fK,rfl⟩,by rw[fu];exact M',by rw[fu];exact amx hs,fun q hq=>?_,by rw[fu];have:=YZ (d:=d) (l:=m) (p:=p);omega⟩
   rw[fu] at hq
   rcases YY hq with rfl|hq
   ·exact tN
   ·exact px q hq
  by_cases hc:0<=cidx m p.1
  ·obtain⟨k,hk,e1,e2⟩:=XM hc
   have w1:=dv (show k<2^61 by omega)
   rcases M.pv with⟨rfl,_⟩|⟨bb,rfl,q1,q2,q3⟩
   ·simp at hk
   have k2:=akF ok (h:=H1) (f:=168) rfl (i:=k) (by omega) ((o1.get _ q3).trans q1) FR (by omega) hk
   have yh:dl m p.1=m.eraseIdx k:=by rw[dl,if_pos hc,e1,Int.toNat_natCast]
   have Fl:m.length-1=(dl m p.1).length:=by rw[yh,List.length_eraseIdx];simp[hk]
   rw[akG,<-yh,Fl] at k2
   have U8:(0:Int)<=k:=by omega
   have hg:cellsOf (jq H1 bb (aw.R (dl m p.1)).flatten) (h.next+1)=some [.int .u8 d, .rs bb 0 m.length 2]:=av (by simp[jq,aa.at,aa.set,aa.clean,show¬h.next=H1.next+18 by omega,show h.next+1<H1.next by omega,show¬h.next+1=bb by omega,M1.out])
   simp+decide only[st,xv,kN,Hk,N7,e1,U8,w1,r5,g5]
   refine au k2 ?_
   simp+decide only[st,xv,kN,N7,r5,hg]
   have Mb:=M1.buf (l2:=dl m p.1) q2
   exact uE.1 (sV.1 (Xp ok (H:=H) (p:=p) (m1:=dl m p.1) ⟨r0,r4,r5,dN,fK,eL⟩ rfl Mb (by omega) (by simp only[jq,aa.set,aa.at,aa.clean];omega) (by simp[jq,aa.set,aa.at,aa.clean,show¬H.next=h.next+1 by omega,show¬H.next=H1.next+19 by omega,show H.next<H1.next by omega,show¬H.next=bb by omega,tO]) tN (G1 hs) (fun q hq=>px q (uB.subset hq)) (by have:=(uB (l:=m) (c:=p.1)).length_le;omega) (fun ρ' H' tD R' M'=>by
    have Tf:=R'.eL
    simp+decide only[st,xv,kN,Mk,Tf,hw]
    exact fin _ _ tD R' M')))
  ·have yh:dl m p.1=m:=by rw[dl,if_neg hc]
   simp+decide only[st,xv,kN,Hk,hc]
   exact uE.1 (sV.1 (Xp ok (H:=H) (p:=p) (m1:=dl m p.1) ⟨r0,r4,r5,dN,fK,eL⟩ rfl (by rw[yh];exact M1) (by omega) (by omega) tO tN (G1 hs) (fun q hq=>px q (uB.subset hq)) (by have:=(uB (l:=m) (c:=p.1)).length_le;omega) (fun ρ' H' tD R' M'=>by
    have Tf:=R'.eL
    simp+decide only[st,xv,kN,Mk,Tf,hw]
    exact fin _ _ tD R' M')))
 ·have aA: ¬(i:Int)<(l.length:Int):=by omega
  have iK:l.take i=l:=List.take_of_length_le (by omega)
  rw[iK] at M
  have g1:=av M.out
  have g2:=av M.res
  have cS:=M.pv.one
  simp+decide only[st,xv,kN,N8,Y8,fK,eL,r4,r5,aA,g1,g2,cS]
  have hMn:=M.n
  rw[iK] at Fe
  rcases M.pv with⟨e,rfl⟩|⟨b,rfl,q1,q2,q3⟩
  ·refine Gj.2 ⟨.agg [.int .u8 d, .vs [] .full],h.next,[.int .u8 d, .vs [] .full],by simp+decide only[st,xv,r4],by simp[aa.set],Nat.le_refl _,rfl,by rw[e];rfl,fun x hx=>?_⟩
   simp[aa.set,show¬x=h.next by omega,M.old x hx]
  ·have pq:AV.dQ b (aw.R (jG d l)).flatten (.agg [.int .u8 d, .rs b 0 (jG d l).length 2])= .agg [.int .u8 d, .vs (aw.R (jG d l)) .ao]:=by
    simp only[AV.dQ,AV.qe,if_true]
    rw[if_pos (by rw[FR];omega),Ya]
   refine Gj.2 ⟨.agg [.int .u8 d, .rs b 0 (jG d l).length 2],b,(aw.R (jG d l)).flatten,by simp+decide only[st,xv,r4],by simp[aa.set,show¬b=h.next by omega,q1],by omega,?_,?_,fun x hx=>?_⟩
   ·rw[pq];simp only[AV.bD,AV.cf,aw.iB];rfl
   ·rw[pq];simp only[AV.strip,AV.bG,aw.ft];rfl
   ·simp[aa.set,show¬x=h.next by omega,M.old x hx]
end
section
open Go
variable {P:Program}
def xA (l:Lb) (c kj:Nat):Lb:=⟨l.d,jG l.d (l.ps++[(c,kj)])⟩
theorem akT (ok:ax P tb) {l:Lb} {t:aH} {c kj:Nat} {h:aa} (hl:l.ok) (hc:c<65536) (avL:kj<256):an P 135 [.agg (l.c t), .int .u16 c, .int .u8 kj] h (.agg ((xA l c kj).c .ao)) h:=by
 refine ok.eH (rf:=xN) rfl (Nat.le_of_ble_eq_true rfl) (by simp only[AV.bD,AV.cf,Lb.c,aw.iB];rfl) ?_
 have ku:=hl.len
 simp+decide only[st,xv,xN,abt,Lb.c]
 obtain⟨X,hX⟩: ∃X,X=((h.at h.next (.cells [.int .u8 l.d, .vs (aw.R l.ps) t])).at (h.next+1) (.cells [.int .u8 0, .vs [] .full])):=⟨_,rfl⟩
 have xn:X.next=h.next+2:=by subst hX;simp[aa.at]
 have xo: ∀x,x<h.next->X.get x=h.get x:=by subst hX;intro x hx;simp[aa.at,show¬x=h.next by omega,show¬x=h.next+1 by omega]
 have x1:cellsOf X h.next=some [.int .u8 l.d, .vs (aw.R l.ps) t]:=by subst hX;simp+decide only[st,xv]
 have x2:X.get (h.next+1)=some (.cells [.int .u8 0, .vs [] .full]):=by subst hX;simp[aa.at]
 rw[<-hX]
 refine qT 11 12 rfl (by omega) rfl ?_
 have xl:h.next<X.next:=by omega
 simp+decide only[st,xv,xN,OL,x1,xl,List.take_succ_cons,List.take_zero]
 obtain⟨v,h1,k1,⟨tt,rfl,k2⟩,k3,k4,k5⟩:=ZT aw ok (f:=41) (z:=[.int .u16 0, .int .u8 0]) (iY:=4) rfl (l:=l.ps) (t:=t) (h:=X.clean 12) (by omega) (by omega)
 have uM: ∀j,j<12->h1.get (X.next+j)=none:=by
  intro j hj
  rcases k5 with rfl|rfl
  ·simp only[aa.clean];rw[if_neg (by omega)]
  ·have js: ¬X.next+j=X.next+12:=by omega
   simp only[aa.clean,aa.at,js,if_false];rw[if_neg (by omega)]
 have pk:X.next+12<=h1.next:=k3.next
 have ho1:Old X h1:=⟨by omega,fun x hx=>by rw[k3.get x (by simp[aa.clean];omega)];simp[aa.clean,hx]⟩
 refine⟨_,h1,k1,fun j _ hj=>uM j hj,fun x hx=>k3.get x (by simp[aa.clean];omega),?_⟩
 have ha:App X h1 (.vs (aw.R l.ps) tt) (aw.R l.ps):=⟨tt,rfl,k2.imp id (fun⟨k,q1,q2,q3,q4⟩=>⟨k,q1,by have:X.next+12<=k:=q2;omega,q3,q4⟩)⟩
 obtain⟨v',h2,a1,⟨t2,rfl,_⟩,a3,a4,a5⟩:=ha.vy ho1 (bytes:=4) (sz:=2) (base:=X.next) (n:=12) (i:=9) (Nat.le_refl _) (fun j hj=> .inl (uM j hj)) [[.int .u16 c, .int .u8 kj]] aw.lz (by rw[aw.aS];simp only[List.length_singleton];omega) (by rw[aw.aS];simp only[List.length_singleton];omega)
 simp+decide only[st,xv]
 refine⟨_,h2,a1,a5,fun x hx=>by rw[a3.get x hx,ho1.get x hx],?_⟩
 simp+decide only[st,xv]
 have hap:aw.R l.ps++[[.int .u16 c, .int .u8 kj]]=aw.R (l.ps++[(c,kj)]):=by rw[<-aw.oP];rfl
 rw[hap]
 refine⟨_,h2,ajU ok hl.d (fun p hp=>?_) (by simp;omega),fun j hj hn=>a5 j (by omega) hn,fun _ _=>rfl,?_⟩
 ·rcases List.mem_append.1 hp with hp|hp
  ·exact hl.ps p hp
  ·simp at hp;subst hp;exact⟨hc,avL⟩
 have x3:cellsOf h2 (h.next+1)=some [.int .u8 0, .vs [] .full]:=av (by rw[a3.get _ (by omega),x2])
 simp+decide only[st,xv,xN,OL,Lb.c,x3,bB,List.drop_succ_cons,List.drop_zero]
 refine⟨fun j hj hn=>?_,by simp only[AV.strip,AV.bG,aw.ft];rfl,fun x hx=>?_⟩
 ·omega
 ·rw[if_neg (by omega),a3.get x (by omega),xo x hx]
def oQ (d:Nat) (l:List (Nat×Nat)) (i:Nat):Bool:=decide ((l.getD i (0,0)).2<=4)&&!((l.getD i (0,0)).2==d)&&(i==0||decide ((l.getD (i-1) (0,0)).1<(l.getD i (0,0)).1))
def d8 (l:Lb):Bool:=decide (1<=l.d)&&decide (l.d<=4)&&decide (l.ps.length<=16)&&(List.range l.ps.length).all (oQ l.d l.ps)
theorem LM (ok:ax P tb) {l:Lb} {t:aH} {h:aa} (hl:l.ok):an P 28 [.agg (l.c t)] h (.bool (d8 l)) h:=by
 refine ok.keeps (rf:=k7) rfl (Nat.le_of_ble_eq_true rfl) rfl ?_
 have ku:=hl.len
 by_cases h1:1<=l.d
 case neg=>
  have cV:(l.d:Int)<1:=by omega
  have e:d8 l=false:=by simp[d8,h1]
  simp+decide only[st,xv,k7,D6,D5,Jh,Lb.c,cV,e]
  first|(intro b hb;first|(intros;omega)|(repeat(first|rw[if_neg (by omega)]|rw[if_pos (by omega)]));done)|(refine⟨rfl,?_⟩;intro b hb;first|(intros;omega)|(repeat(first|rw[if_neg (by omega)]|rw[if_pos (by omega)])))
 have cV: ¬(l.d:Int)<1:=by omega
 by_cases h2:l.d<=4
 case neg=>
  have fT:(4:Int)<(l.d:Int):=by omega
  have e:d8 l=false:=by simp[d8,h2]
  simp+decide only[st,xv,k7,D6,D5,Jh,Lb.c,cV,fT,e]
  first|(intro b hb;first|(intros;omega)|(repeat(first|rw[if_neg (by omega)]|rw[if_pos (by omega)]));done)|(refine⟨rfl,?_⟩;intro b hb;first|(intros;omega)|(repeat(first|rw[if_neg (by omega)]|rw[if_pos (by omega)])))
 have fT: ¬(4:Int)<(l.d:Int):=by omega
 by_cases h3:l.ps.length<=16
 case neg=>
  have mL:(16:Int)<(l.ps.length:Int):=by omega
  have e:d8 l=false:=by simp[d8,h3]
  simp+decide only[st,xv,k7,D6,D5,Jh,Lb.c,cV,fT,mL,aw.aS,e]
  first|(intro b hb;first|(intros;omega)|(repeat(first|rw[if_neg (by omega)]|rw[if_pos (by omega)]));done)|(refine⟨rfl,?_⟩;intro b hb;first|(intros;omega)|(repeat(first|rw[if_neg (by omega)]|rw[if_pos (by omega)])))
 have mL: ¬(16:Int)<(l.ps.length:Int):=by omega
 simp+decide only[st,xv,k7,D6,D5,afW,Lb.c,cV,fT,mL,aw.aS]
 obtain⟨X,hX⟩: ∃X,X=h.at h.next (.cells [.int .u8 l.d, .vs (aw.R l.ps) t]):=⟨_,rfl⟩
 have xo:Old h X:=by subst hX;exact(Old.refl h).at (Nat.le_refl _)
 have x1:X.get h.next=some (.cells [.int .u8 l.d, .vs (aw.R l.ps) t]):=by subst hX;simp[aa.at]
 have xn:X.next=h.next+1:=by subst hX;simp[aa.at]
 rw[<-hX]
 let I:Nat->Env->aa->Prop:=fun n ρ H=>Old X H/\ ∃i:Nat,l.ps.length=i+n/\(∀j,j<i->oQ l.d l.ps j=true)/\ρ 1= .ptr h.next 0/\ρ 20= .vs (aw.R l.ps) t/\ρ 21= .int .i64 l.ps.length/\ρ 22= .int .i64 i
 refine dJ I ?_ l.ps.length ⟨Old.refl X,0,by omega,by omega,rfl,rfl,rfl,rfl⟩
 rintro n ρ H ⟨ho,i,aE,hf,r1,ql,pe,EK⟩
 by_cases hi:i<l.ps.length
 ·have aA:(i:Int)<(l.ps.length:Int):=by omega
  have dH:(0:Int)<=i:=by omega
  have hw:=dv (show i<2^61 by omega)
  have cw:(aw.R l.ps)[i]? =some [.int .u16 l.ps[i].1, .int .u8 l.ps[i].2]:=aw.gR hi
  have kA:l.ps.getD i (0,0)=l.ps[i]:=by simp[hi]
  simp+decide only[st,xv,k7,So,afV,ql,pe,EK,aA,dH,cw]
  obtain⟨H1,jt⟩: ∃H1,H1=(H.at H.next (.cells [.int .u16 0, .int .u8 0])).set H.next (some (.cells [.int .u16 l.ps[i].1, .int .u8 l.ps[i].2])):=⟨_,rfl⟩
  have o1:Old H H1:=by subst jt;exact((Old.refl H).at (Nat.le_refl _)).set (Nat.le_refl _)
  have pk:H1.next=H.next+1:=by subst jt;simp[aa.set,aa.at]
  have g4:cellsOf H1 H.next=some [.int .u16 l.ps[i].1, .int .u8 l.ps[i].2]:=by subst jt;exact av (by simp[aa.set])
  have U1:=ho.next
  have g1:cellsOf H1 h.next=some [.int .u8 l.d, .vs (aw.R l.ps) t]:=av (by rw[o1.get _ (by omega),ho.get _ (by omega),x1])
  have l1:h.next<H1.next:=by omega
  have l2:H.next<H1.next:=by omega
  rw[<-jt]
  refine bU 27 rfl rfl ?_
  simp+decide only[st,xv,k7,xt,g4,l2]
  refine fj (anJ ok _) (cO (Nat.le_refl _)) ?_
  have hO: ∀k,Old X (H1.clean k):=fun k=>(ho.trans o1).clean
  have qd:oQ l.d l.ps i=false->d8 l=false:=fun hb=>by
   unfold d8
   have:(List.range l.ps.length).all (oQ l.d l.ps)=false:=by
    rw[List.all_eq_false];exact⟨i,List.mem_range.2 hi,by simp[hb]⟩
   rw[this,Bool.and_false]
  have Fo: ∀b,b<h.next->(H1.clean 27).get b=h.get b:=fun b hb=>by rw[(hO 27).get b (by omega),xo.get b hb]
  have TB: ∀b,b<h.next->(if b<H1.next then H1.get b else none)=h.get b:=Fo
  have ahg:oQ l.d l.ps i=true-> ∀ρ',ρ' 1= .ptr h.next 0->ρ' 20= .vs (aw.R l.ps) t->ρ' 21= .int .i64 l.ps.length->ρ' 22= .int .i64 ((i+1:Nat):Int)-> ∃m,m<n/\I m ρ' (H1.clean 27):=fun hg ρ' q1 q2 q3 q4=>
   ⟨n-1,by omega,hO 27,i+1,by omega,fun j hj=>by
     by_cases eE:j=i
     ·subst eE;exact hg
     ·exact hf j (by omega),q1,q2,q3,q4⟩
  by_cases h4:l.ps[i].2<=4
  case neg=>
   have e:=qd (by simp only[oQ,kA];simp[h4])
   simp+decide only[st,xv,k7,xt,z7,h4,e]
   exact TB
  by_cases h5:l.ps[i].2=l.d
  ·have e:=qd (by simp only[oQ,kA];simp[h5])
   simp+decide only[st,xv,k7,xt,z7,h4,h5,h2,g1,g4,l1,l2,r1,e]
   exact TB
  ·have Vt: ¬(l.ps[i].2:Int)=(l.d:Int):=by omega
   by_cases h6:i=0
   ·have iC: ¬(0:Int)<(i:Int):=by omega
    have e:oQ l.d l.ps i=true:=by
     simp only[oQ,kA,h4,decide_true,Bool.true_and]
     rw[beq_eq_false_iff_ne.2 h5]
     simp[h6]
    simp+decide only[st,xv,k7,xt,z7,Sn,h4,h5,Vt,g1,g4,l1,l2,r1,EK,iC,hw]
    exact ahg e _ r1 ql pe rfl
   ·have iC:(0:Int)<(i:Int):=by omega
    have w1:IntKind.wrap .i64 ((i:Int)-1)=((i-1:Nat):Int):=by rw[bH]<;>omega
    have Kl:i-1<l.ps.length:=by omega
    have Fj:(aw.R l.ps)[i-1]? =some [.int .u16 l.ps[i-1].1, .int .u8 l.ps[i-1].2]:=aw.gR Kl
    have ahc:l.ps.getD (i-1) (0,0)=l.ps[i-1]:=by simp[Kl]
    have ag4:(0:Int)<=((i-1:Nat):Int):=by omega
    by_cases h7:l.ps[i].1<=l.ps[i-1].1
    ·have Vs:(l.ps[i].1:Int)<=(l.ps[i-1].1:Int):=by omega
     have e:=qd (by simp only[oQ,kA,ahc];simp[h6];omega)
     simp+decide only[st,xv,k7,xt,z7,h4,h5,Vt,g1,g4,l1,l2,r1,EK,iC,w1,Fj,ag4,h7,Vs,e]
     exact TB
    ·have Vs: ¬(l.ps[i].1:Int)<=(l.ps[i-1].1:Int):=by omega
     have e:oQ l.d l.ps i=true:=by simp only[oQ,kA,ahc];simp[h4,h5];omega
     simp+decide only[st,xv,k7,xt,z7,Sn,h4,h5,Vt,g1,g4,l1,l2,r1,EK,iC,w1,Fj,ag4,h7,Vs,hw]
     exact ahg e _ r1 ql pe rfl
 ·have aA: ¬(i:Int)<(l.ps.length:Int):=by omega
  have e:d8 l=true:=by
   unfold d8
   simp only[h1,h2,h3,decide_true,Bool.true_and,List.all_eq_true,List.mem_range]
   exact fun j hj=>hf j (by omega)
  simp+decide only[st,xv,k7,So,afU,pe,EK,aA,e]
  exact fun b hb=>by rw[ho.get b (by omega),xo.get b hb]
end
section
open Go
variable {P:Program}
def pL (v i:Nat):UInt8:=UInt8.ofNat (v/2^(8*i)%256)
def be (v:Nat):Nat->List UInt8
 |0=>[]
 |n+1=>pL v n::be v n
theorem bO {v:Nat}: ∀{n:Nat},(be v n).length=n
 |0=>rfl
 |n+1=>by simp[be,bO (n:=n)]
def de (l:List UInt8):Nat:=l.foldl (fun v b=>v*256+b.toNat) 0
theorem ZP {l:List UInt8} {b:UInt8}:de (l++[b])=de l*256+b.toNat:=by simp[de]
theorem uP: ∀(l:List UInt8),de l<256^l.length:=by
 intro l
 rcases List.eq_nil_or_concat l with rfl|⟨m,b,rfl⟩
 ·simp[de]
 ·have ih:=uP m
  have hb:=b.toNat_lt
  rw[List.concat_eq_append,ZP,List.length_append,List.length_singleton,Nat.pow_succ]
  omega
termination_by l=>l.length
decreasing_by simp_all
theorem BP {v i:Nat}:(pL v i).toNat=v/2^(8*i)%256:=by
 rw[pL,UInt8.toNat_ofNat']
 omega
theorem Yw {v:Nat}: ∀{n a:Nat},(be v n).foldl (fun v b=>v*256+b.toNat) a=a*256^n+v%256^n
 |0,a=>by simp[be];omega
 |n+1,a=>by
  rw[be,List.foldl_cons,Yw,BP]
  have h1:v%256^(n+1)=256^n*(v/256^n%256)+v%256^n:=by rw[Nat.pow_succ,Nat.mod_mul];omega
  have h2:(2:Nat)^(8*n)=256^n:=by rw[Nat.pow_mul]
  rw[h1,h2,Nat.pow_succ,Nat.add_mul,Nat.mul_assoc,Nat.mul_comm 256 (256^n),Nat.mul_comm (v/256^n%256)]
  omega
theorem as7 {v n:Nat}:de (be v n)=v%256^n:=by rw[de,Yw];omega
theorem mW (ok:ax P tb) {b:List UInt8} {t:aH} {v n:Nat} {h:aa} (hv:v<2^64) (hn:n<=8) (hb:b.length<2^30):an P 50 [.vs (BS b) t, .int .u64 v, .int .i64 n] h (.vs (BS (b++be v n)) .ao) h:=by
 refine ok.eH (rf:=t8) rfl (Nat.le_of_ble_eq_true rfl) gJ.lj ?_
 obtain⟨c0,h0,k1,k2,k3,k4,_⟩:=ZT gJ ok (f:=55) (z:=[.int .u8 0]) (iY:=1) rfl (l:=b) (t:=t) (h:=h) (by omega) (by omega)
 have n0: ¬(n:Int)<0:=by omega
 have n8: ¬(8:Int)<(n:Int):=by omega
 simp+decide only[st,xv,t8,z4,zZ,zY,zX,zW,n0,n8]
 let J:Nat->Env->aa->Prop:=fun m ρ H=>Old h H/\ ∃pre,be v n=pre++be v m/\m<=n/\pre.length+m=n/\ρ 1= .int .u64 v/\ρ 8= .int .i64 m/\App h H (ρ 7) (BS (b++pre))
 refine l8 0 rfl rfl J (fun l' ρ h hk=>hk) ?_ ?_
 ·simp+decide only[st,xv,t8,z4,zZ,zY,zX,zW,j8,List.foldr,n0,n8]
  refine au k1 ?_
  simp+decide only[st,xv,t8,z4,zZ,zY,zX,zW,n0,n8]
  exact⟨n,k3,[],rfl,Nat.le_refl _,by simp,rfl,rfl,by rw[List.append_nil];exact k2⟩
 rintro m ρ H ⟨ho,pre,El,sl,ir,r1,r8,ha⟩
 cases m with
 |zero=>
  obtain⟨tt,J8,_⟩:=ha
  simp+decide only[st,xv,t8,z4,zZ,zY,zX,zW,RR,RQ,RP,ae6,r8,J8,bB]
  exact⟨by rw[El,be,List.append_nil];exact gJ.kE,ho.get⟩
 |succ m=>
  have m0:(0:Int)<((m+1:Nat):Int):=by omega
  have w1:IntKind.wrap .i64 (((m+1:Nat):Int)-1)=(m:Int):=by rw[bH]<;>omega
  have w2:IntKind.wrap .i64 (8*(m:Int))=((8*m:Nat):Int):=by rw[bH]<;>omega
  have w3:IntKind.wrap .u64 ((8*m:Nat):Int)=((8*m:Nat):Int):=fk (by omega)
  have w4: ¬((8*m:Nat):Int)<0:=by omega
  have w5:min (8*m) (IntKind.u64.bits)=8*m:=Nat.min_eq_left (by show 8*m<=64;omega)
  have w6:IntKind.wrap .u8 ((v:Int).fdiv (2^(8*m)))=((pL v m).toNat:Int):=by
   have p2:(2:Int)^(8*m)=((2^(8*m):Nat):Int):=by rw[Int.natCast_pow];rfl
   have e1:(v:Int).fdiv (2^(8*m))=((v/2^(8*m):Nat):Int):=by rw[p2,Int.fdiv_eq_ediv_of_nonneg _ (Int.natCast_nonneg _)];rfl
   rw[e1,BP]
   simp[IntKind.wrap,IntKind.signed,IntKind.bits]
  obtain⟨v',h2,a1,a2,a3,a4,a5,a6⟩:=ha.app ho (bytes:=1) (sz:=1) (id:=H.next) ho.next [[.int .u8 (pL v m).toNat]] gJ.lz (by rw[bM];simp only[List.length_singleton,List.length_append];omega) (by rw[bM];simp only[List.length_singleton,List.length_append];omega)
  simp+decide only[st,xv,t8,z4,zZ,zY,zX,zW,RR,RQ,RP,r1,r8,m0,w1,w2,w3,w4,w5,w6,a1,List.length_cons,List.length_nil]
  exact⟨m,by omega,a3,pre++[pL v m],by rw[El,be];simp,by omega,by simp only[List.length_append,List.length_singleton];omega,r1,rfl,by rw[<-List.append_assoc,<-CM];exact a2⟩
theorem yI (ok:ax P tb) {b:List UInt8} {t:aH} {n:Nat} {h:aa} (hn:n<=8) (hb:b.length<2^30):an P 155 [.vs (BS b) t, .int .i64 n] h (if b.length<n then .ay [.int .u64 0, .int .i64 3] else .ay [.int .u64 (de (b.take n)), .int .i64 0]) h:=by
 have n0: ¬(n:Int)<0:=by omega
 have n8: ¬(8:Int)<(n:Int):=by omega
 refine ok.keeps (rf:=rQ) rfl (Nat.le_of_ble_eq_true rfl) (by split<;>rfl) ?_
 by_cases hs:b.length<n
 ·rw[if_pos hs]
  have iH:(b.length:Int)<(n:Int):=by omega
  simp+decide only[st,xv,rQ,wQ,wP,wO,wN,wM,n0,n8,bM,iH]
  refine l8 0 rfl rfl (fun m ρ H=>False) (fun l' ρ h hk=>hk) ?_ (fun _ _ _ h=>h.elim)
  simp+decide only[st,xv,rQ,wQ,wP,wO,wN,wM,j8,List.foldr,n0,n8,bM,iH]
 rw[if_neg hs]
 have iH: ¬(b.length:Int)<(n:Int):=by omega
 simp+decide only[st,xv,rQ,wQ,wP,wO,wN,wM,n0,n8,bM,iH]
 let J:Nat->Env->aa->Prop:=fun m ρ H=>H=h/\ ∃i,i+m=n/\ρ 0= .vs (BS b) t/\ρ 1= .int .i64 n/\ρ 4= .int .u64 (de (b.take i))/\ρ 6= .int .i64 i
 refine l8 0 rfl rfl J (fun l' ρ h hk=>hk) ?_ ?_
 ·simp+decide only[st,xv,rQ,wQ,wP,wO,wN,wM,Hn,j8,List.foldr,n0,n8,bM,iH]
  exact⟨n,rfl,0,by omega,rfl,rfl,rfl,rfl⟩
 rintro m ρ H ⟨rfl,i,qA,r0,r1,r4,r6⟩
 cases m with
 |zero=>
  have aE:i=n:=by omega
  subst aE
  have dF: ¬(i:Int)<(i:Int):=by omega
  simp+decide only[st,xv,rQ,wQ,wP,wO,wN,wM,Hn,Oi,Oh,Og,aa3,r0,r1,r4,r6,dF]
 |succ m=>
  have hi:(i:Int)<(n:Int):=by omega
  have lV:i<b.length:=by omega
  have dH:(0:Int)<=i:=by omega
  have hw:=dv (show i<2^61 by omega)
  have hg:(BS b)[i]? =some [.int .u8 b[i].toNat]:=gJ.gR lV
  have aD:=uP (b.take i)
  have hle:(b.take i).length=i:=by rw[List.length_take];omega
  rw[hle] at aD
  have axq:(256:Nat)^i*256<=2^64:=by
   have:(256:Nat)^i*256=256^(i+1):=(Nat.pow_succ ..).symm
   rw[this]
   have:(256:Nat)^(i+1)<=256^8:=Nat.pow_le_pow_right (by omega) (by omega)
   omega
  have e8:min 8 (IntKind.u64.bits)=8:=rfl
  have e9:Int.toNat 8=8:=rfl
  have w1:IntKind.wrap .u64 ((de (b.take i):Int)*2^8)=((de (b.take i)*256:Nat):Int):=by
   rw[show(de (b.take i):Int)*2^8=((de (b.take i)*256:Nat):Int) by omega]
   exact fk (by omega)
  have hb8:=b[i].toNat_lt
  have w2:IntKind.wrap .u64 (b[i].toNat:Int)=(b[i].toNat:Int):=fk (by omega)
  have w3:oO .or .u64 ((de (b.take i)*256:Nat):Int) (b[i].toNat:Int)=some ((de (b.take (i+1)):Nat):Int):=by
   rw[Mv (by omega) (by omega),<-List.take_append_getElem lV,ZP]
   have:=Nat.shiftLeft_add_eq_or_of_lt (i:=8) hb8 (de (b.take i))
   rw[Nat.shiftLeft_eq] at this
   rw[show(256:Nat)=2^8 by rfl,this]
  have h8: ¬(8:Int)<0:=by omega
  simp+decide only[st,xv,rQ,wQ,wP,wO,wN,wM,Hn,Oi,Oh,Og,r0,r1,r4,r6,hi,dH,hw,Int.toNat_natCast,hg,e8,e9,w1,w2,w3,h8,List.length_cons,List.length_nil]
  exact⟨m,by omega,rfl,i+1,by omega,r0,r1,rfl,rfl⟩
end
section
open Go
variable {P:Program}
def i4 (p:Nat×Nat):List UInt8:=be p.1 2++be p.2 1
def b9 (l:Lb):List UInt8:=be l.d 1++be l.ps.length 1++l.ps.flatMap i4
theorem Lx {l:List (Nat×Nat)}:(l.flatMap i4).length=3*l.length:=by
 induction l with
 |nil=>rfl
 |cons p l ih=>simp only[List.flatMap_cons,List.length_append,ih,i4,bO,List.length_cons];omega
theorem By {l:Lb}:(b9 l).length=2+3*l.ps.length:=by simp only[b9,List.length_append,bO,Lx]
theorem F5 (ok:ax P tb) {b:List UInt8} {l:Lb} {t t':aH} {h:aa} (hl:l.ok) (hb:b.length<2^20):an P 37 [.vs (BS b) t, .agg (l.c t')] h (.vs (BS (b++b9 l)) .ao) h:=by
 refine ok.eH (rf:=qM) rfl (Nat.le_of_ble_eq_true rfl) gJ.lj ?_
 have hd:=hl.d
 have ku:=hl.len
 have w1:IntKind.wrap .u64 (l.d:Int)=l.d:=fk (by omega)
 have w2:IntKind.wrap .u64 (l.ps.length:Int)=l.ps.length:=fk (by omega)
 simp+decide only[st,xv,qM,afr,Lb.c]
 obtain⟨X,hX⟩: ∃X,X=h.at h.next (.cells [.int .u8 l.d, .vs (aw.R l.ps) t']):=⟨_,rfl⟩
 have xo:Old h X:=by subst hX;exact(Old.refl h).at (Nat.le_refl _)
 have x1:cellsOf X h.next=some [.int .u8 l.d, .vs (aw.R l.ps) t']:=by subst hX;simp+decide only[st,xv]
 have xn:h.next<X.next:=by subst hX;simp[aa.at]
 rw[<-hX]
 refine ur ?_
 simp+decide only[st,xv,qM,afq,x1,xn,w1]
 refine hP (mW ok (v:=l.d) (n:=1) (by omega) (by omega) (by omega)) (cO (Nat.le_refl _)) ?_
 simp+decide only[st,xv,x1,xn,aw.aS,w2]
 refine hP (mW ok (v:=l.ps.length) (n:=1) (by omega) (by omega) (by simp only[List.length_append,bO];omega)) (cO (Nat.le_refl _)) ?_
 have x2: ∀k,cellsOf (X.clean k) h.next=some [.int .u8 l.d, .vs (aw.R l.ps) t']:=fun k=>by simp+decide only[st,xv,x1,xn]
 have xo2: ∀k,Old X (X.clean k):=fun k=>(Old.refl X).clean
 simp+decide only[st,xv,qM,afp,x1,xn]
 let I:Nat->Env->aa->Prop:=fun n ρ H=>Old X H/\ ∃i:Nat,l.ps.length=i+n/\ρ 19= .vs (aw.R l.ps) t'/\ρ 20= .int .i64 l.ps.length/\ρ 21= .int .i64 i/\ρ 5= .vs (BS (b++be l.d 1++be l.ps.length 1++(l.ps.take i).flatMap i4)) .ao
 refine dJ I ?_ l.ps.length ⟨xo2 _,0,by omega,rfl,by simp+decide only[st,xv,aw.aS],rfl,by simp only[List.take_zero,List.flatMap_nil,List.append_nil];rfl⟩
 rintro n ρ H ⟨ho,i,aE,Az,ql,pe,r5⟩
 by_cases hi:i<l.ps.length
 ·have aA:(i:Int)<(l.ps.length:Int):=by omega
  have dH:(0:Int)<=i:=by omega
  have hw:=dv (show i<2^61 by omega)
  have cw:(aw.R l.ps)[i]? =some [.int .u16 l.ps[i].1, .int .u8 l.ps[i].2]:=aw.gR hi
  have tN:=hl.ps _ (List.getElem_mem hi)
  have w3:IntKind.wrap .u64 (l.ps[i].1:Int)=l.ps[i].1:=fk (by omega)
  have w4:IntKind.wrap .u64 (l.ps[i].2:Int)=l.ps[i].2:=fk (by omega)
  simp+decide only[st,xv,qM,R4,afo,Az,ql,pe,aA,dH,cw]
  obtain⟨H1,jt⟩: ∃H1,H1=(H.at H.next (.cells [.int .u16 0, .int .u8 0])).set H.next (some (.cells [.int .u16 l.ps[i].1, .int .u8 l.ps[i].2])):=⟨_,rfl⟩
  have o1:Old H H1:=by subst jt;exact((Old.refl H).at (Nat.le_refl _)).set (Nat.le_refl _)
  have pk:H.next<H1.next:=by subst jt;simp[aa.set,aa.at]
  have g7:cellsOf H1 H.next=some [.int .u16 l.ps[i].1, .int .u8 l.ps[i].2]:=by subst jt;exact av (by simp[aa.set])
  rw[<-jt]
  have ir:=Lx (l:=l.ps.take i)
  have sh:=List.length_take_le i l.ps
  refine ur ?_
  simp+decide only[st,xv,qM,afn,r5,g7,pk,w3]
  refine hP (mW ok (v:=l.ps[i].1) (n:=2) (by omega) (by omega) (by simp only[List.length_append,bO];omega)) (cO (Nat.le_refl _)) ?_
  simp+decide only[st,xv,g7,pk,w4]
  refine hP (mW ok (v:=l.ps[i].2) (n:=1) (by omega) (by omega) (by simp only[List.length_append,bO];omega)) (cO (Nat.le_refl _)) ?_
  simp+decide only[st,xv,qM,afm,pe,hw]
  refine⟨n-1,by omega,(ho.trans o1).clean,i+1,by omega,Az,ql,rfl,?_⟩
  show AV.vs (BS _) .ao=_
  rw[<-List.take_append_getElem hi]
  simp only[List.flatMap_append,List.flatMap_cons,List.flatMap_nil,List.append_nil,i4,List.append_assoc]
 ·have aA: ¬(i:Int)<(l.ps.length:Int):=by omega
  simp+decide only[st,xv,qM,R4,afl,ql,pe,r5,aA,bB]
  refine⟨?_,fun x hx=>by rw[ho.get x (by omega),xo.get x hx]⟩
  rw[List.take_of_length_le (by omega)]
  simp only[b9,List.append_assoc]
  exact gJ.kE
end
section
open Go
variable {P:Program}
def jb (b:List UInt8) (k:Nat):List (Nat×Nat):=(List.range k).map fun i=>(de ((b.drop (2+3*i)).take 2),(b.getD (4+3*i) 0).toNat)
def p6 (b:List UInt8):Lb×Nat×Nat:=
 if b.length<2 then(⟨0,[]⟩,0,3)
 else if b.length<2+3*(b.getD 1 0).toNat then(⟨0,[]⟩,0,3)
 else if d8 ⟨(b.getD 0 0).toNat,jb b (b.getD 1 0).toNat⟩ then(⟨(b.getD 0 0).toNat,jb b (b.getD 1 0).toNat⟩,2+3*(b.getD 1 0).toNat,0)
 else(⟨0,[]⟩,0,2)
theorem GD {b:List UInt8} {k:Nat}:(jb b k).length=k:=by simp[jb]
theorem ak6 {b:List UInt8} {k:Nat}:jb b (k+1)=jb b k++[(de ((b.drop (2+3*k)).take 2),(b.getD (4+3*k) 0).toNat)]:=by simp[jb,List.range_succ]
def PD (r:Lb×Nat×Nat):AV:= .ay [.agg (r.1.c .ao), .int .i64 r.2.1, .int .i64 r.2.2]
theorem ais (ok:ax P tb) {b:List UInt8} {t:aH} {h:aa} (hb:b.length<2^20):an P 123 [.vs (BS b) t] h (PD (p6 b)) h:=by
 refine ok.eH (rf:=mz) rfl (Nat.le_of_ble_eq_true rfl) (by simp only[PD,Lb.c,AV.bD,AV.cf,aw.iB];rfl) ?_
 simp+decide only[st,xv,mz,ab5]
 by_cases h1:b.length<2
 ·have cV:(b.length:Int)<2:=by omega
  have e:p6 b=(⟨0,[]⟩,0,3):=by simp[p6,h1]
  refine l8 0 rfl rfl (fun _ _ _=>False) (fun l' ρ h hk=>hk) ?_ (fun _ _ _ h=>h.elim)
  simp+decide only[st,xv,mz,O7,ab4,j8,List.foldr,cV,bM,bB]
  rw[e]
  refine⟨rfl,fun x hx=>?_⟩
  have: ¬x=h.next:=by omega
  simp[aa.at,aa.set,this]
 have cV: ¬(b.length:Int)<2:=by omega
 have Fj:(BS b)[Int.toNat 0]? =some [.int .u8 (b.getD 0 0).toNat]:=by
  rw[show Int.toNat 0=0 by rfl,HT,List.getElem?_eq_getElem (show 0<b.length by omega),List.getD_eq_getElem?_getD,List.getElem?_eq_getElem (show 0<b.length by omega)];rfl
 have cw:(BS b)[Int.toNat 1]? =some [.int .u8 (b.getD 1 0).toNat]:=by
  rw[show Int.toNat 1=1 by rfl,HT,List.getElem?_eq_getElem (show 1<b.length by omega),List.getD_eq_getElem?_getD,List.getElem?_eq_getElem (show 1<b.length by omega)];rfl
 have hd:=(b.getD 0 0).toNat_lt
 have hk:=(b.getD 1 0).toNat_lt
 generalize hD:(b.getD 0 0).toNat=D at*
 generalize hK:(b.getD 1 0).toNat=K at*
 have w1:IntKind.wrap .i64 (K:Int)=K:=ry (by omega)
 have avP:(BS b)[0]? =some [.int .u8 D]:=Fj
 let J:Nat->Env->aa->Prop:=fun m ρ H=> ∃i v,K=i+m/\2+3*i<=b.length/\ρ 0= .vs (BS b) t/\ρ 2= .ptr h.next 0/\ρ 3= .int .i64 ((2+3*i:Nat):Int)/\ρ 5= .int .i64 m/\h.next<H.next/\H.get h.next=some (.cells [.int .u8 D,v])/\App ⟨h.get,h.next+1⟩ H v (aw.R (jb b i))/\ ∀x,x<h.next->H.get x=h.get x
 refine l8 0 rfl rfl J (fun l' ρ h hk=>hk) ?_ ?_
 ·simp+decide only[st,xv,mz,O7,ab3,ab2,j8,List.foldr,cV,bM,avP,Fj,cw,w1]
  refine⟨K,0, .vs [] .full,by omega,by omega,rfl,rfl,rfl,rfl,by simp[aa.at,aa.set],by simp[aa.set],⟨_,rfl, .inl rfl⟩,fun x hx=>?_⟩
  simp[aa.at,aa.set,show¬x=h.next by omega]
 rintro m ρ H ⟨i,v,hKi,hle,r0,r2,r3,r5,hn,hc,ha,hold⟩
 have g2:=av hc
 cases m with
 |zero=>
  have avZ:K=i:=by omega
  subst avZ
  obtain⟨tt,rfl,_⟩:=ha
  have ba:(⟨D,jb b K⟩:Lb).ok:=by
   refine⟨hd,fun p hp=>?_,by rw[GD];omega⟩
   simp only[jb,List.mem_map] at hp
   obtain⟨j,_,rfl⟩:=hp
   refine⟨?_,(b.getD (4+3*j) 0).toNat_lt⟩
   have h1:=uP ((b.drop (2+3*j)).take 2)
   have h2:((b.drop (2+3*j)).take 2).length<=2:=List.length_take_le ..
   have h3:(256:Nat)^((b.drop (2+3*j)).take 2).length<=256^2:=Nat.pow_le_pow_right (by omega) h2
   show de _<65536
   omega
  simp+decide only[st,xv,mz,HE,Zl,r2,r5,g2]
  refine au (LM (l:=⟨D,jb b K⟩) (t:=tt) ok ba) ?_
  cases hm:d8 ⟨D,jb b K⟩ with
  |false=>
   simp+decide only[st,xv,mz,Zk,r2,g2,bB]
   have e:p6 b=(⟨0,[]⟩,0,2):=by simp only[p6,hD,hK];rw[if_neg h1,if_neg (by omega),hm];rfl
   rw[e]
   exact⟨rfl,fun x hx=>by rw[if_neg (by omega),hold x hx]⟩
  |true=>
   simp+decide only[st,xv,mz,Zj,r2,r3,g2,bB]
   have e:p6 b=(⟨D,jb b K⟩,2+3*K,0):=by simp only[p6,hD,hK];rw[if_neg h1,if_neg (by omega),hm];rfl
   rw[e]
   exact⟨by simp only[AV.strip,AV.bG,aw.ft];rfl,fun x hx=>by rw[if_neg (by omega),hold x hx]⟩
 |succ m=>
  have hm0:(0:Int)<((m+1:Nat):Int):=by omega
  have w2:IntKind.wrap .i64 ((b.length:Int)-((2+3*i:Nat):Int))=((b.length-(2+3*i):Nat):Int):=by rw[bH]<;>omega
  by_cases hs:b.length-(2+3*i)<3
  ·have iH:((b.length-(2+3*i):Nat):Int)<3:=by omega
   simp+decide only[st,xv,mz,HE,O6,ab1,r0,r2,r3,r5,hm0,bM,w2,iH,g2,bB]
   have e:p6 b=(⟨0,[]⟩,0,3):=by simp only[p6,hD,hK];rw[if_neg h1,if_pos (by omega)]
   rw[e]
   exact⟨rfl,fun x hx=>by rw[if_neg (by omega),hold x hx]⟩
  have iH: ¬((b.length-(2+3*i):Nat):Int)<3:=by omega
  have k1:2+3*i<=b.length:=hle
  have k2:dC 1 (BS b)=true:=jT
  have k3:(BS b).drop (2+3*i)=BS (b.drop (2+3*i)):=wt
  have k4:List.take (b.length-(2+3*i)) (BS (b.drop (2+3*i)))=BS (b.drop (2+3*i)):=List.take_of_length_le (by rw[bM,List.length_drop];omega)
  have ht:=yI ok (b:=b.drop (2+3*i)) (t:=oq t b.length (2+3*i) b.length) (n:=2) (h:=H) (by omega) (by rw[List.length_drop];omega)
  rw[if_neg (by rw[List.length_drop];omega)] at ht
  simp+decide only[st,xv,mz,HE,O6,ab0,r0,r2,r3,r5,hm0,bM,w2,iH,k1,k2,k3,k4]
  refine au ht ?_
  generalize hV:de ((b.drop (2+3*i)).take 2)=V
  have hV2:V<65536:=by
   have h1:=uP ((b.drop (2+3*i)).take 2)
   have h2:((b.drop (2+3*i)).take 2).length<=2:=List.length_take_le ..
   have h3:(256:Nat)^((b.drop (2+3*i)).take 2).length<=256^2:=Nat.pow_le_pow_right (by omega) h2
   omega
  have w3:IntKind.wrap .u16 (V:Int)=V:=by simp[IntKind.wrap,IntKind.signed,IntKind.bits];omega
  have w4:IntKind.wrap .i64 (((2+3*i:Nat):Int)+3)=((2+3*(i+1):Nat):Int):=by rw[bH]<;>omega
  have w5:IntKind.wrap .i64 (((2+3*(i+1):Nat):Int)-1)=((4+3*i:Nat):Int):=by rw[bH]<;>omega
  have w6:IntKind.wrap .i64 (((m+1:Nat):Int)-1)=(m:Int):=by rw[bH]<;>omega
  have h4:4+3*i<b.length:=by omega
  have hg4:(BS b)[4+3*i]? =some [.int .u8 (b.getD (4+3*i) 0).toNat]:=by
   rw[HT,List.getElem?_eq_getElem h4,List.getD_eq_getElem?_getD,List.getElem?_eq_getElem h4];rfl
  have U1:(0:Int)<=((4+3*i:Nat):Int):=by omega
  have hxn:h.next<H.next:=hn
  have ss:App ⟨h.get,h.next+1⟩ (H.clean 15) v (aw.R (jb b i)):=ha.to (by simp[aa.clean]) (fun k _ q2 q3=>by simp[aa.clean,q2,q3])
  obtain⟨v',h2,a1,⟨tt,rfl,at2⟩,a3,a4,a5⟩:=App.vy (h0:=⟨(H.clean 15).get,h.next+1⟩) ss ⟨by simp[aa.clean];omega,fun _ _=>rfl⟩ (bytes:=4) (sz:=2) (base:=H.next) (n:=15) (i:=12) (by show h.next+1<=_;omega) (fun j hj=> .inl (by simp only[aa.clean];rw[if_neg (by omega)])) [[.int .u16 V, .int .u8 (b.getD (4+3*i) 0).toNat]] aw.lz (by rw[aw.aS,GD];simp only[List.length_singleton];omega) (by rw[aw.aS,GD];simp only[List.length_singleton];omega)
  have a1':mA 4 2 (H.next+(1+1+1+1+1+1+1+1+1+1+1+1)) (H.clean 15) v (some [[.int .u16 V, .int .u8 (b.getD (4+3*i) 0).toNat]])=some (.vs (aw.R (jb b i)++[[.int .u16 V, .int .u8 (b.getD (4+3*i) 0).toNat]]) tt,h2):=a1
  have a9:cellsOf h2 h.next=some [.int .u8 D,v]:=av (by rw[a3.get _ (by simp)];simp[aa.clean,hxn,hc])
  simp+decide only[st,xv]
  refine bU 15 rfl rfl ?_
  simp+decide only[st,xv,mz,abZ,r0,r2,r3,g2,hxn,w3,w4,w5,hg4,U1,a1',a9]
  refine⟨a5,fun j hj _=>by omega,?_⟩
  simp+decide only[st,xv,mz,Zn,Zm,r3,r5,w4,w6]
  have qt:aw.R (jb b i)++[[.int .u16 V, .int .u8 (b.getD (4+3*i) 0).toNat]]=aw.R (jb b (i+1)):=by rw[ak6,hV,<-aw.oP];rfl
  rw[qt]
  refine⟨m,by omega,i+1, .vs (aw.R (jb b (i+1))) tt,by omega,by omega,r0,r2,rfl,rfl,by simp only[aa.set,aa.clean] at a4 ⊢;omega,by simp[aa.set],?_,fun x hx=>?_⟩
  ·refine App.to (h:=h2) ⟨tt,rfl,at2⟩ (by simp[aa.set]) (fun k q1 q2 q3=>?_)
   have: ¬k=h.next:=by have:h.next+1<=k:=q1;omega
   simp[aa.set,this,q3]
  ·simp only[aa.set]
   rw[if_neg (by omega),a3.get x (show x<h.next+1 by omega)]
   simp only[aa.clean]
   rw[if_pos (by omega),hold x hx]
end
section
open Go
variable {P:Program}
def w9 {α:Type} (q:α->Bool) (l:List α):Int:=if l.findIdx q<l.length then(l.findIdx q:Int) else -1
def gi:Nat->Nat->Option (List Nat)
 |0,id=>if id=1 then some [] else none
 |k+1,id=>if id=1 then some [] else if 1<id/\0<id%64 then(gi k (id/64)).map (id%64:: ·) else none
def gx (id:Nat):Option (List Nat):=gi 6 id
def dM (id:Nat):Bool:=(gx id).isSome
def sY (id:Nat):AV:=match gx id with
 |some l=> .ay [.vs ((aJ .i64).R l) .ao, .bool true]
 |none=> .ay [.vs [] .ao, .bool false]
theorem LV {k:Nat}:gi k 1=some []:=by cases k<;>simp[gi]
theorem we: ∀{k id:Nat} {l:List Nat},gi k id=some l->l.length<=k
 |0,id,l,h=>by
  simp only[gi] at h
  split at h
  ·cases h;simp
  ·cases h
 |k+1,id,l,h=>by
  simp only[gi] at h
  split at h
  ·cases h;simp
  ·split at h
   ·obtain⟨m,hm,rfl⟩:=Option.map_eq_some_iff.1 h
    have:=we hm
    simp;omega
   ·cases h
theorem FP (ok:ax P tb) {id:Nat} {h:aa} (aL:id<2^64):an P 128 [.int .u64 id] h (sY id) h:=by
 refine ok.eH (rf:=qh) rfl (Nat.le_of_ble_eq_true rfl) (by unfold sY;split<;>simp only[AV.bD,AV.cf,(aJ .i64).iB]<;>rfl) ?_
 simp+decide only[st,xv,qh,abN]
 let J:Nat->Env->aa->Prop:=fun m ρ H=>Old h H/\ ∃i pre:_,i<2^64/\List.length pre+m=6/\gx id=(gi m i).map (pre++ ·)/\ρ 0= .int .u64 i/\App h H (ρ 4) ((aJ .i64).R pre)
 refine l8 0 rfl rfl J (fun l' ρ h hk=>hk) ?_ ?_
 ·simp+decide only[st,xv,qh,abM,j8,List.foldr]
  exact⟨6,Old.refl h,id,[],aL,rfl,by simp[gx],rfl,App.nil h h⟩
 rintro m ρ H ⟨ho,i,pre,hi,hpm,mH,r0,ha⟩
 obtain⟨tt,E3,ht⟩:=ha
 by_cases h1:i=1
 ·subst h1
  have cV:((1:Nat):Int)=1:=rfl
  simp+decide only[st,xv,qh,zm,abL,r0,cV,E3,bB]
  rw[LV] at mH
  refine⟨?_,ho.get⟩
  simp only[sY,mH,Option.map_some,List.append_nil,AV.strip,AV.bG,(aJ .i64).ft]
 have cV: ¬(i:Int)=1:=by omega
 have w1:oO .and .u64 (i:Int) 63=some ((i%64:Nat):Int):=by
  rw[show(63:Int)=((63:Nat):Int) by rfl,ank hi (by omega)]
  rw[show(63:Nat)=2^6-1 by rfl,Nat.and_two_pow_sub_one_eq_mod]
 have w2:IntKind.wrap .i64 ((i%64:Nat):Int)=((i%64:Nat):Int):=ry (by omega)
 have w3:(i:Int).fdiv (2^min (Int.toNat 6) IntKind.u64.bits)=((i/64:Nat):Int):=by
  rw[show(2:Int)^min (Int.toNat 6) IntKind.u64.bits=64 by rfl,Int.fdiv_eq_ediv_of_nonneg _ (by omega)];rfl
 have h6: ¬(6:Int)<0:=by omega
 by_cases hg:1<i/\0<i%64/\0<m
 ·obtain⟨g1,g2,g3⟩:=hg
  obtain⟨m,rfl⟩: ∃k,m=k+1:=⟨m-1,by omega⟩
  have AU:(1:Int)<(i:Int):=by omega
  have Ft:(0:Int)<((i%64:Nat):Int):=by omega
  have Vv:(pre.length:Int)<6:=by omega
  obtain⟨v',h2,a1,a2,a3,a4,a5,a6⟩:=App.app (h0:=h) (rows:=(aJ .i64).R pre) ⟨tt,rfl,ht⟩ ho (bytes:=8) (sz:=1) (id:=H.next) ho.next [[.int .i64 (i%64:Nat)]] (aJ .i64).lz (by rw[(aJ .i64).aS];simp only[List.length_singleton];omega) (by rw[(aJ .i64).aS];simp only[List.length_singleton];omega)
  simp+decide only[st,xv,qh,zm,CD,CC,abK,r0,cV,w1,w2,w3,h6,E3,(aJ .i64).aS,AU,Ft,Vv,a1]
  refine⟨m,by omega,a3,i/64,pre++[i%64],by omega,by simp;omega,?_,rfl,by rw[<-(aJ .i64).oP];exact a2⟩
  rw[mH,gi,if_neg h1,if_pos ⟨g1,g2⟩,Option.map_map]
  congr 1
  funext l
  simp
 ·have e:gx id=none:=by
   rw[mH]
   cases m with
   |zero=>simp[gi,h1]
   |succ m=>rw[gi,if_neg h1,if_neg (by omega)];rfl
  have eA:sY id= .ay [.vs [] .ao, .bool false]:=by simp only[sY,e]
  rw[eA]
  by_cases g1:1<i
  ·have AU:(1:Int)<(i:Int):=by omega
   by_cases g2:0<i%64
   ·have Ft:(0:Int)<((i%64:Nat):Int):=by omega
    have Vv: ¬(pre.length:Int)<6:=by omega
    simp+decide only[st,xv,qh,zm,CD,CC,Hx,r0,cV,w1,w2,E3,(aJ .i64).aS,AU,Ft,Vv,bB]
    exact⟨rfl,ho.get⟩
   ·have Ft: ¬(0:Int)<((i%64:Nat):Int):=by omega
    simp+decide only[st,xv,qh,zm,CD,CC,Hx,r0,cV,w1,w2,E3,(aJ .i64).aS,AU,Ft,bB]
    exact⟨rfl,ho.get⟩
  ·have AU: ¬(1:Int)<(i:Int):=by omega
   simp+decide only[st,xv,qh,zm,CD,CC,Hx,r0,cV,w1,w2,E3,(aJ .i64).aS,AU,bB]
   exact⟨rfl,ho.get⟩
theorem F4 (ok:ax P tb) {id:Nat} {h:aa} (aL:id<2^64):an P 80 [.int .u64 id] h (.bool (dM id)) h:=by
 refine ok.keeps (rf:=vW) rfl (Nat.le_of_ble_eq_true rfl) rfl ?_
 have hc:=FP ok (h:=h) aL
 unfold sY at hc
 unfold dM
 cases hn:gx id with
 |none=>
  rw[hn] at hc
  simp+decide only[st,xv,vW,Dg,Df,De]
  refine au hc ?_
  simp+decide only[st,xv,vW,Dg,Df,De]
  rfl
 |some l=>
  rw[hn] at hc
  simp+decide only[st,xv,vW,Dg,Df,De]
  refine au hc ?_
  simp+decide only[st,xv,vW,Dg,Df,De]
  rfl
def lI (id:Nat):Nat:=((gx id).getD []).length
def fH (id:Nat):Nat:=if lI id=0 then 0 else id/64
theorem ahL (ok:ax P tb) {id:Nat} {h:aa} (aL:id<2^64):an P 102 [.int .u64 id] h (.int .u64 (fH id)) h:=by
 refine ok.keeps (rf:=tq) rfl (Nat.le_of_ble_eq_true rfl) rfl ?_
 have hc:=FP ok (h:=h) aL
 unfold sY at hc
 unfold fH lI
 have w3:(id:Int).fdiv (2^min (Int.toNat 6) IntKind.u64.bits)=((id/64:Nat):Int):=by
  rw[show(2:Int)^min (Int.toNat 6) IntKind.u64.bits=64 by rfl,Int.fdiv_eq_ediv_of_nonneg _ (by omega)];rfl
 have h6: ¬(6:Int)<0:=by omega
 cases hn:gx id with
 |none=>
  rw[hn] at hc
  simp+decide only[st,xv,tq,zy,zx,zw,zv,zu]
  refine au hc ?_
  simp+decide only[st,xv,tq,zy,zx,zw,zv,zu]
 |some l=>
  rw[hn] at hc
  simp+decide only[st,xv,tq,zy,zx,zw,zv,zu]
  refine au hc ?_
  by_cases hl:l.length=0
  ·have br:(l.length:Int)=0:=by omega
   simp+decide only[st,xv,tq,zy,zx,zw,zv,zu,(aJ .i64).aS,br,hl,Option.getD_some]
  ·have br: ¬(l.length:Int)=0:=by omega
   simp+decide only[st,xv,tq,zy,zx,zw,zv,zu,(aJ .i64).aS,br,hl,Option.getD_some,w3,h6]
theorem ahT (ok:ax P tb) {id:Nat} {h:aa} (aL:id<2^64):an P 139 [.int .u64 id] h (.int .i64 (lI id)) h:=by
 refine ok.keeps (rf:=vu) rfl (Nat.le_of_ble_eq_true rfl) rfl ?_
 have hc:=FP ok (h:=h) aL
 unfold sY at hc
 unfold lI
 cases hn:gx id with
 |none=>
  rw[hn] at hc
  simp+decide only[st,xv,vu,Cx,Cw,Cv]
  refine au hc ?_
  simp+decide only[st,xv,vu,Cx,Cw,Cv]
  rfl
 |some l=>
  rw[hn] at hc
  simp+decide only[st,xv,vu,Cx,Cw,Cv]
  refine au hc ?_
  simp+decide only[st,xv,vu,Cx,Cw,Cv,(aJ .i64).aS,Option.getD_some]
def eC (box:Nat) (n:Int):Nat×Nat:=if dM box=false\/n<1\/63<n then(0,1) else if lI box=6 then(0,13) else(box*64+n.toNat,0)
theorem Ma: ∀{k id:Nat} {l:List Nat},gi k id=some l->id<2^(1+6*l.length)
 |0,id,l,h=>by
  simp only[gi] at h
  split at h
  ·cases h;simp;omega
  ·cases h
 |k+1,id,l,h=>by
  simp only[gi] at h
  split at h
  ·cases h;simp;omega
  ·split at h
   ·obtain⟨m,hm,rfl⟩:=Option.map_eq_some_iff.1 h
    have:=Ma hm
    rw[List.length_cons,show 1+6*(m.length+1)=(1+6*m.length)+6 by omega,Nat.pow_add]
    omega
   ·cases h
theorem akg (ok:ax P tb) {box:Nat} {n:Int} {h:aa} (hb:box<2^64):an P 95 [.int .u64 box, .int .i64 n] h (.ay [.int .u64 (eC box n).1, .int .i64 (eC box n).2]) h:=by
 refine ok.keeps (rf:=qF) rfl (Nat.le_of_ble_eq_true rfl) rfl ?_
 simp+decide only[st,xv,qF,ac7,ac6]
 refine au (F4 ok hb) ?_
 unfold eC
 cases hm:dM box with
 |false=>
  simp+decide only[st,xv,qF,IC]
  simp
 |true=>
  by_cases h1:n<1
  ·simp+decide only[st,xv,qF,IC,h1]
   simp
  by_cases h2:63<n
  ·simp+decide only[st,xv,qF,IC,h1,h2]
  simp+decide only[st,xv,qF,ac5,h1,h2]
  refine au (ahT ok hb) ?_
  by_cases h3:lI box=6
  ·have mL:(lI box:Int)=6:=by omega
   simp+decide only[st,xv,qF,ac4,mL,h3,h1,h2]
   simp
  ·have mL: ¬(lI box:Int)=6:=by omega
   obtain⟨l,hl⟩: ∃l,gx box=some l:=Option.isSome_iff_exists.1 hm
   have aD:=Ma hl
   have hlen:=we hl
   have hd:lI box=l.length:=by simp[lI,hl]
   have kB:box<2^31:=Nat.lt_of_lt_of_le aD (Nat.pow_le_pow_right (by omega) (by omega))
   obtain⟨k,rfl⟩: ∃k:Nat,n=k:=⟨n.toNat,by omega⟩
   have w1:IntKind.wrap .u64 ((box:Int)*2^min (Int.toNat 6) IntKind.u64.bits)=((box*64:Nat):Int):=by
    rw[show(2:Int)^min (Int.toNat 6) IntKind.u64.bits=64 by rfl,show(box:Int)*64=((box*64:Nat):Int) by omega]
    exact fk (by omega)
   have w2:IntKind.wrap .u64 (k:Int)=k:=fk (by omega)
   have w3:oO .or .u64 ((box*64:Nat):Int) (k:Int)=some ((box*64+k:Nat):Int):=by
    rw[Mv (by omega) (by omega)]
    have:=Nat.shiftLeft_add_eq_or_of_lt (i:=6) (b:=k) (by omega) box
    rw[Nat.shiftLeft_eq] at this
    rw[show(64:Nat)=2^6 by rfl,this]
   have h6: ¬(6:Int)<0:=by omega
   simp+decide only[st,xv,qF,ac3,mL,h3,h1,h2,w1,w2,w3,h6]
def fD (id:Nat):List Nat:=match gx id with
 |some l=>(List.range (l.length+1)).map fun j=>id/64^(l.length-j)
 |none=>[]
theorem GI: ∀{k id:Nat} {l:List Nat},gi k id=some l->id/64^l.length=1/\ ∀i (hi:i<l.length),l[i]=id/64^i%64
 |0,id,l,h=>by
  simp only[gi] at h
  split at h
  ·cases h;rename_i h;subst h;exact⟨rfl,fun i hi=>by simp at hi⟩
  ·cases h
 |k+1,id,l,h=>by
  simp only[gi] at h
  split at h
  ·cases h;rename_i h;subst h;exact⟨rfl,fun i hi=>by simp at hi⟩
  ·split at h
   ·obtain⟨m,hm,rfl⟩:=Option.map_eq_some_iff.1 h
    obtain⟨e1,e2⟩:=GI hm
    refine⟨by rw[List.length_cons,Nat.pow_succ,Nat.mul_comm,<-Nat.div_div_eq_div_mul,e1],fun i hi=>?_⟩
    cases i with
    |zero=>simp
    |succ i=>rw[List.getElem_cons_succ,e2 i (by simpa using hi),Nat.pow_succ,Nat.mul_comm,<-Nat.div_div_eq_div_mul]
   ·cases h
theorem Wk (ok:ax P tb) {id:Nat} {h:aa} (aL:id<2^64):an P 143 [.int .u64 id] h (.vs ((aJ .u64).R (fD id)) .ao) h:=by
 refine ok.eH (rf:=oT) rfl (Nat.le_of_ble_eq_true rfl) (aJ .u64).lj ?_
 have hc:=FP ok (h:=h) aL
 unfold sY at hc
 unfold fD
 cases hn:gx id with
 |none=>
  rw[hn] at hc
  simp+decide only[st,xv,oT,OE,OD]
  refine au hc ?_
  simp+decide only[st,xv,oT,OC,abl,bB]
  rfl
 |some l=>
  rw[hn] at hc
  obtain⟨cS,lZ⟩:=GI hn
  have hlen:=we hn
  simp+decide only[st,xv,oT,OE,OD]
  refine au hc ?_
  have w1:IntKind.wrap .i64 ((l.length:Int)-1)=(l.length:Int)-1:=bH (by omega) (by omega)
  simp+decide only[st,xv,oT,OC,abk,abj,(aJ .i64).aS,w1]
  let I:Nat->Env->aa->Prop:=fun m ρ H=>Old h H/\m<=l.length/\ρ 3= .vs ((aJ .i64).R l) .ao/\ρ 6= .int .i64 ((m:Int)-1)/\App h H (ρ 5) ((aJ .u64).R ((List.range (l.length-m+1)).map fun j=>id/64^(l.length-j)))
  have h0:(aJ .u64).R ((List.range (l.length-l.length+1)).map fun j=>id/64^(l.length-j))=[[.int .u64 1]]:=by rw[Nat.sub_self];simp[cS,aJ,fh.R]
  refine dJ I ?_ l.length ⟨Old.refl h,Nat.le_refl _,rfl,rfl,⟨.full,by rw[h0];rfl, .inl rfl⟩⟩
  clear h0
  rintro m ρ H ⟨ho,hm,r3,r6,ha⟩
  obtain⟨tt,hv5,ht⟩:=ha
  have gN:((List.range (l.length-m+1)).map fun j=>id/64^(l.length-j)).length=l.length-m+1:=by simp
  cases m with
  |zero=>
   have h0: ¬(0:Int)<=((0:Nat):Int)-1:=by omega
   simp+decide only[st,xv,oT,OB,abg,r6,h0,hv5,bB]
   exact⟨(aJ .u64).kE,ho.get⟩
  |succ k=>
   have h0:(0:Int)<=((k+1:Nat):Int)-1:=by omega
   have hk:k<l.length:=by omega
   have pn:((k+1:Nat):Int)-1=(k:Int):=by omega
   have U8:(0:Int)<=(k:Int):=by omega
   have w2:IntKind.wrap .i64 (((l.length-(k+1)+1:Nat):Int)-1)=((l.length-(k+1):Nat):Int):=by rw[bH]<;>omega
   have hp0:(0:Int)<=((l.length-(k+1):Nat):Int):=by omega
   have cw:((aJ .u64).R ((List.range (l.length-(k+1)+1)).map fun j=>id/64^(l.length-j)))[l.length-(k+1)]? =some [.int .u64 (id/64^(k+1):Nat)]:=by
    rw[(aJ .u64).agU,List.getElem?_map,List.getElem?_range (by omega)]
    simp only[Option.map_some,aJ]
    rw[show l.length-(l.length-(k+1))=k+1 by omega]
   have nQ:((aJ .i64).R l)[k]? =some [.int .i64 l[k]]:=(aJ .i64).gR hk
   have tS:=lZ k hk
   generalize hq:id/64^k=q at tS
   have hq1:id/64^(k+1)=q/64:=by rw[Nat.pow_succ,<-Nat.div_div_eq_div_mul,hq]
   have vI:q<2^64:=by rw[<-hq];exact Nat.lt_of_le_of_lt (Nat.div_le_self ..) aL
   rw[hq1] at cw
   rw[tS] at nQ
   have w3:IntKind.wrap .u64 (((q/64:Nat):Int)*2^min (Int.toNat 6) IntKind.u64.bits)=((q/64*64:Nat):Int):=by
    rw[show(2:Int)^min (Int.toNat 6) IntKind.u64.bits=64 by rfl,show((q/64:Nat):Int)*64=((q/64*64:Nat):Int) by omega]
    exact fk (by omega)
   have w4:IntKind.wrap .u64 ((q%64:Nat):Int)=((q%64:Nat):Int):=fk (by omega)
   have w5:oO .or .u64 ((q/64*64:Nat):Int) ((q%64:Nat):Int)=some (q:Int):=by
    rw[Mv (by omega) (by omega)]
    have:=Nat.shiftLeft_add_eq_or_of_lt (i:=6) (b:=q%64) (by omega) (q/64)
    rw[Nat.shiftLeft_eq] at this
    rw[<-show(2:Nat)^6=64 by rfl] at*
    rw[<-this]
    congr 2
    omega
   have h6: ¬(6:Int)<0:=by omega
   have ss:App h (H.clean 17) (.vs ((aJ .u64).R ((List.range (l.length-(k+1)+1)).map fun j=>id/64^(l.length-j))) tt) ((aJ .u64).R ((List.range (l.length-(k+1)+1)).map fun j=>id/64^(l.length-j))):=App.to (h:=H) ⟨tt,rfl,ht⟩ (by simp[aa.clean]) (fun k _ q2 q3=>by simp[aa.clean,q2,q3])
   obtain⟨v',h2,a1,a2,a3,a4,a5⟩:=ss.vy ho.clean (bytes:=8) (sz:=1) (base:=H.next) (n:=17) (i:=15) ho.next (fun j hj=> .inl (by simp only[aa.clean];rw[if_neg (by omega)])) [[.int .u64 q]] (aJ .u64).lz (by rw[(aJ .u64).aS,gN];simp only[List.length_singleton];omega) (by rw[(aJ .u64).aS,gN];simp only[List.length_singleton];omega)
   simp+decide only[st,xv,oT,OB,r6,h0]
   refine bU 17 rfl rfl ?_
   simp+decide only[st,xv,oT,abi,r3,r6,hv5,pn,U8,(aJ .u64).aS,gN,w2,hp0,cw,nQ,w3,w4,w5,h6]
   refine⟨v',h2,a1,a5,?_⟩
   have w6:IntKind.wrap .i64 ((k:Int)-1)=(k:Int)-1:=bH (by omega) (by omega)
   simp+decide only[st,xv,oT,abh,r6,pn,w6]
   refine⟨k,by omega,a3,by omega,r3,rfl,?_⟩
   have hr:(aJ .u64).R ((List.range (l.length-k+1)).map fun j=>id/64^(l.length-j))=(aJ .u64).R ((List.range (l.length-(k+1)+1)).map fun j=>id/64^(l.length-j))++[[.int .u64 q]]:=by
    rw[show l.length-k+1=(l.length-(k+1)+1)+1 by omega,List.range_succ,List.map_append,<-(aJ .u64).oP]
    congr 1
    simp only[List.map_cons,List.map_nil,(aJ .u64).auP]
    rw[show l.length-(l.length-(k+1)+1)=k by omega,hq]
    rfl
   rw[hr]
   exact a2
theorem ah3 (ok:ax P tb) {l:List Nat} {t:aH} {c:Nat} {h:aa} (hl:l.length<2^30):an P 165 [.vs ((aJ .u64).R l) t, .int .u64 c] h (.int .i64 (w9 (fun x=>x==c) l)) h:=by
 refine ok.calls (rf:=vm) rfl (Nat.le_of_ble_eq_true rfl) ?_
 simp+decide only[st,xv,vm,aaP,aaO,(aJ .u64).aS]
 let I:Nat->Env->aa->Prop:=fun n ρ h'=>h'=h/\ ∃i:Nat,l.length=i+n/\(∀j,j<i-> ∀hj:j<l.length,¬l[j]=c)/\ρ 0= .vs ((aJ .u64).R l) t/\ρ 1= .int .u64 c/\ρ 7= .int .i64 l.length/\ρ 8= .int .i64 i
 refine dJ I ?_ l.length ⟨rfl,0,by omega,by omega,rfl,rfl,rfl,rfl⟩
 rintro n ρ h' ⟨rfl,i,aE,hf,r0,r1,r7,r8⟩
 by_cases hi:i<l.length
 ·have aA:(i:Int)<(l.length:Int):=by omega
  have dH:(0:Int)<=i:=by omega
  have hw:=dv (show i<2^61 by omega)
  have cw:((aJ .u64).R l)[i]? =some [.int .u64 l[i]]:=(aJ .u64).gR hi
  by_cases hq:l[i]=c
  ·have tM:(c:Int)=(l[i]:Int):=by omega
   have e:w9 (fun x=>x==c) l=i:=by
    have:l.findIdx (fun x=>x==c)=i:=by
     rw[List.findIdx_eq hi]
     exact⟨by simpa using hq,fun j hj=>by simpa using hf j hj (by omega)⟩
    simp[w9,this,hi]
   simp+decide only[st,xv,vm,Hh,NR,NQ,aaN,r0,r1,r7,r8,aA,dH,cw,tM,e]
  ·have tM: ¬c=l[i]:=fun e=>hq e.symm
   simp+decide only[st,xv,vm,Hh,NR,NQ,aaM,r0,r1,r7,r8,aA,dH,cw,tM,hw]
   refine⟨n-1,by omega,rfl,i+1,by omega,fun j hj dP=>?_,r0,r1,r7,rfl⟩
   by_cases eE:j=i
   ·subst eE;exact hq
   ·exact hf j (by omega) dP
 ·have aA: ¬(i:Int)<(l.length:Int):=by omega
  have e:w9 (fun x=>x==c) l= -1:=by
   have:l.findIdx (fun x=>x==c)=l.length:=by
    rw[List.findIdx_eq_length]
    intro x hx
    obtain⟨j,hj,rfl⟩:=List.getElem_of_mem hx
    simpa using hf j (by omega) hj
   simp[w9,this]
  simp+decide only[st,xv,vm,Hh,aaL,r7,r8,aA,e]
  rfl
def jR (id box:Nat):Bool:=(fD id).contains box
theorem ake {id:Nat}:(fD id).length<=7:=by
 unfold fD
 cases h:gx id with
 |none=>simp
 |some l=>have:=we h;simp;omega
theorem ahK (ok:ax P tb) {id box:Nat} {h:aa} (aL:id<2^64):an P 103 [.int .u64 id, .int .u64 box] h (.bool (jR id box)) h:=by
 have hl:=ake (id:=id)
 refine ok.calls (rf:=xR) rfl (Nat.le_of_ble_eq_true rfl) ?_
 simp+decide only[st,xv,xR,HN,HM]
 refine au (Wk ok aL) ?_
 simp+decide only[st,xv,xR,HN,HM]
 have hc:an P 144 [.vs ((aJ .u64).R (fD id)) .ao, .int .u64 box] h (.bool (jR id box)) h:=by
  refine ok.calls (rf:=EC) rfl (Nat.le_of_ble_eq_true rfl) ?_
  simp+decide only[st,xv,EC,abf,abe]
  refine au (ah3 ok (by omega)) ?_
  have e:decide ((0:Int)<=w9 (fun x=>x==box) (fD id))=jR id box:=by
   unfold w9 jR
   by_cases aD:(fD id).findIdx (fun x=>x==box)<(fD id).length
   ·have:=List.findIdx_lt_length.1 aD
    obtain⟨x,hx,hb⟩:=this
    have tI:x=box:=by simpa using hb
    subst tI
    rw[if_pos aD]
    simp[hx]
   ·rw[if_neg aD]
    have:box∉fD id:=fun hm=>aD (List.findIdx_lt_length_of_exists ⟨box,hm,by simp⟩)
    simp[this]
  simp+decide only[st,xv,e]
 refine au hc ?_
 simp+decide only[st,xv,xR,HN,HM]
end
section
open Go
variable {P:Program}
structure St where
 s:List Nat
 i:List Nat
 o:List Nat
 deriving DecidableEq
def qk:St:=⟨[],[],[]⟩
def St.c (s:St) (t:Nat->aH):List AV:=[.vs ((aJ .u16).R s.s) (t 1), .vs ((aJ .u16).R s.i) (t 2), .vs ((aJ .u16).R s.o) (t 3)]
structure Ob where
 id:Nat
 kind:Int
 ak:Lb
 bd:Int
 used:Int
 next:Int
 data:List UInt8
 bX:List Nat
 ring:List (List UInt8)
 st:St
 deriving DecidableEq
def bf:Ob:=⟨0,0,⟨0,[]⟩,0,0,0,[],[],[],qk⟩
def Ob.c (o:Ob) (t:Nat->aH):List AV:=[.int .u64 o.id, .int .i64 o.kind, .int .u8 o.ak.d, .vs (aw.R o.ak.ps) (t 0), .vs ((aJ .u16).R o.st.s) (t 1), .vs ((aJ .u16).R o.st.i) (t 2), .vs ((aJ .u16).R o.st.o) (t 3), .int .i64 o.bd, .int .i64 o.used, .int .i64 o.next, .vs (BS o.data) (t 4), .vs ((aJ .u16).R o.bX) (t 5), .vs (bg.R o.ring) (t 6)]
def aK:Nat->aH:=fun _=> .ao
theorem yO {o:Ob} {t:Nat->aH}:AV.bG (o.c t)=o.c aK:=by
 simp only[Ob.c,AV.bG,AV.strip,aw.ft,jQ,(aJ .u16).ft,bg.ft,aK]<;>rfl
theorem ux {o:Ob} {p:Nat->Bool}:AV.cf p (o.c aK)=true:=by
 simp only[Ob.c,AV.cf,AV.bD,aw.iB,uw,(aJ .u16).iB,bg.iB,aK]<;>rfl
theorem Mw {o:Ob} {t:Nat->aH}:(AV.agg (o.c t)).strip= .agg (o.c aK):=by simp only[AV.strip,yO]
def cost (o:Ob):Int:=if o.kind=1 then 1+o.bd else if o.kind=2 then 1+o.data.length else if o.kind=3 then 2 else if o.kind=4 then 8 else 0
theorem Xg (ok:ax P tb) {o:Ob} {t:Nat->aH} {h:aa} (hq: -(2^61)<=o.bd/\o.bd<2^61) (hd:o.data.length<2^30):an P 98 [.agg (o.c t)] h (.int .i64 (cost o)) h:=by
 refine ok.keeps (rf:=tY) rfl (Nat.le_of_ble_eq_true rfl) rfl ?_
 unfold cost
 have w1:IntKind.wrap .i64 (1+o.bd)=1+o.bd:=bH (by omega) (by omega)
 have w2:IntKind.wrap .i64 (1+(o.data.length:Int))=1+(o.data.length:Int):=bH (by omega) (by omega)
 by_cases h1:o.kind=1
 ·simp+decide only[st,xv,tY,zT,zS,zR,zQ,zP,zO,zN,zM,zL,zK,ze,Ob.c,h1,w1]
  first|(intro b hb;first|(intros;omega)|(repeat(first|rw[if_neg (by omega)]|rw[if_pos (by omega)]));done)|(refine⟨rfl,?_⟩;intro b hb;first|(intros;omega)|(repeat(first|rw[if_neg (by omega)]|rw[if_pos (by omega)])))
 by_cases h2:o.kind=2
 ·simp+decide only[st,xv,tY,zT,zS,zR,zQ,zP,zO,zN,zM,zL,zK,ze,Ob.c,h2,bM,w2]
  first|(intro b hb;first|(intros;omega)|(repeat(first|rw[if_neg (by omega)]|rw[if_pos (by omega)]));done)|(refine⟨rfl,?_⟩;intro b hb;first|(intros;omega)|(repeat(first|rw[if_neg (by omega)]|rw[if_pos (by omega)])))
 by_cases h3:o.kind=3
 ·simp+decide only[st,xv,tY,zT,zS,zR,zQ,zP,zO,zN,zM,zL,zK,ze,Ob.c,h3]
  first|(intro b hb;first|(intros;omega)|(repeat(first|rw[if_neg (by omega)]|rw[if_pos (by omega)]));done)|(refine⟨rfl,?_⟩;intro b hb;first|(intros;omega)|(repeat(first|rw[if_neg (by omega)]|rw[if_pos (by omega)])))
 by_cases h4:o.kind=4
 ·simp+decide only[st,xv,tY,zT,zS,zR,zQ,zP,zO,zN,zM,zL,zK,ze,Ob.c,h4]
  first|(intro b hb;first|(intros;omega)|(repeat(first|rw[if_neg (by omega)]|rw[if_pos (by omega)]));done)|(refine⟨rfl,?_⟩;intro b hb;first|(intros;omega)|(repeat(first|rw[if_neg (by omega)]|rw[if_pos (by omega)])))
 simp+decide only[st,xv,tY,zT,zS,zR,zQ,zP,zO,zN,zM,zL,zK,ze,Ob.c,h1,h2,h3,h4]
 first|(intro b hb;first|(intros;omega)|(repeat(first|rw[if_neg (by omega)]|rw[if_pos (by omega)]));done)|(refine⟨rfl,?_⟩;intro b hb;first|(intros;omega)|(repeat(first|rw[if_neg (by omega)]|rw[if_pos (by omega)])))
def jo (o:Ob) (c:Int):Ob×Nat:=if c<0 then(bf,1) else if o.bd-o.used<c then(bf,10) else({o with used:=o.used+c},0)
theorem akW (ok:ax P tb) {o:Ob} {t:Nat->aH} {c:Int} {h:aa} (hq: -(2^60)<=o.bd/\o.bd<2^60) (hu: -(2^60)<=o.used/\o.used<2^60) (hc:c<2^60):an P 97 [.agg (o.c t), .int .i64 c] h (.ay [.agg ((jo o c).1.c aK), .int .i64 (jo o c).2]) h:=by
 refine ok.eH (rf:=yk) rfl (Nat.le_of_ble_eq_true rfl) (by simp only[AV.bD,AV.cf,ux];rfl) ?_
 unfold jo
 have w1:IntKind.wrap .i64 (o.bd-o.used)=o.bd-o.used:=bH (by omega) (by omega)
 by_cases h1:c<0
 ·simp+decide only[st,xv,yk,IA,Iz,Iy,Ix,Iw,Iv,Iu,Ob.c,h1,bB]
  refine⟨rfl,?_⟩
  first|(intro b hb;first|(intros;omega)|(repeat(first|rw[if_neg (by omega)]|rw[if_pos (by omega)]));done)|(refine⟨rfl,?_⟩;intro b hb;first|(intros;omega)|(repeat(first|rw[if_neg (by omega)]|rw[if_pos (by omega)])))
 by_cases h2:o.bd-o.used<c
 ·simp+decide only[st,xv,yk,IA,Iz,Iy,Ix,Iw,Iv,Iu,Ob.c,h1,h2,w1,bB]
  refine⟨rfl,?_⟩
  first|(intro b hb;first|(intros;omega)|(repeat(first|rw[if_neg (by omega)]|rw[if_pos (by omega)]));done)|(refine⟨rfl,?_⟩;intro b hb;first|(intros;omega)|(repeat(first|rw[if_neg (by omega)]|rw[if_pos (by omega)])))
 have w2:IntKind.wrap .i64 (o.used+c)=o.used+c:=bH (by omega) (by omega)
 simp+decide only[st,xv,yk,IA,Iz,Iy,Ix,Iw,Iv,Iu,Ob.c,h1,h2,w1,w2,bB]
 refine⟨by simp only[AV.strip,AV.bG,aw.ft,jQ,(aJ .u16).ft,bg.ft,aK]<;>rfl,?_⟩
 first|(intro b hb;first|(intros;omega)|(repeat(first|rw[if_neg (by omega)]|rw[if_pos (by omega)]));done)|(refine⟨rfl,?_⟩;intro b hb;first|(intros;omega)|(repeat(first|rw[if_neg (by omega)]|rw[if_pos (by omega)])))
def p8 (o:Ob) (c:Int):Ob:=if 0<c then{o with used:=max (o.used-c) 0} else o
theorem akS (ok:ax P tb) {o:Ob} {t:Nat->aH} {c:Int} {h:aa} (hu: -(2^60)<=o.used/\o.used<2^60) (hc:c<2^60):an P 105 [.agg (o.c t), .int .i64 c] h (.agg ((p8 o c).c aK)) h:=by
 refine ok.eH (rf:=Av) rfl (Nat.le_of_ble_eq_true rfl) (by simp only[AV.bD,ux]) ?_
 unfold p8
 by_cases h1:0<c
 ·have w1:IntKind.wrap .i64 (o.used-c)=o.used-c:=bH (by omega) (by omega)
  simp+decide only[st,xv,Av,Pv,Pu,Pt,Ps,Ob.c,h1,w1,bB]
  refine⟨by simp only[AV.strip,AV.bG,aw.ft,jQ,(aJ .u16).ft,bg.ft,aK]<;>rfl,?_⟩
  first|(intro b hb;first|(intros;omega)|(repeat(first|rw[if_neg (by omega)]|rw[if_pos (by omega)]));done)|(refine⟨rfl,?_⟩;intro b hb;first|(intros;omega)|(repeat(first|rw[if_neg (by omega)]|rw[if_pos (by omega)])))
 ·simp+decide only[st,xv,Av,Pv,Pu,Pt,Ps,Ob.c,h1,bB]
  refine⟨by simp only[AV.strip,AV.bG,aw.ft,jQ,(aJ .u16).ft,bg.ft,aK]<;>rfl,?_⟩
  first|(intro b hb;first|(intros;omega)|(repeat(first|rw[if_neg (by omega)]|rw[if_pos (by omega)]));done)|(refine⟨rfl,?_⟩;intro b hb;first|(intros;omega)|(repeat(first|rw[if_neg (by omega)]|rw[if_pos (by omega)])))
end
section
open Go
variable {P:Program}
def yZ (l:List Nat):Bool:=(List.range (l.length-1)).all fun i=>decide (l.getD i 0<l.getD (i+1) 0)
theorem aii (ok:ax P tb) {l:List Nat} {t:aH} {h:aa} (hl:l.length<2^30):an P 130 [.vs ((aJ .u16).R l) t] h (.bool (yZ l)) h:=by
 refine ok.keeps (rf:=rR) rfl (Nat.le_of_ble_eq_true rfl) rfl ?_
 simp+decide only[st,xv,rR,abJ]
 let J:Nat->Env->aa->Prop:=fun m ρ H=>Old h H/\ ∃i:Nat,1<=i/\l.length+1-i=m/\(∀j,j+1<i->l.getD j 0<l.getD (j+1) 0)/\ρ 0= .vs ((aJ .u16).R l) t/\ρ 3= .int .i64 i
 refine l8 0 rfl rfl J (fun l' ρ h hk=>hk) ?_ ?_
 ·simp+decide only[st,xv,rR,abI,j8,List.foldr]
  exact⟨l.length,Old.refl h,1,by omega,by omega,fun j hj=>by omega,rfl,rfl⟩
 rintro m ρ H ⟨ho,i,Kl,qA,hf,r0,r3⟩
 by_cases hi:i<l.length
 ·have aA: ¬(l.length:Int)<=(i:Int):=by omega
  have w1:IntKind.wrap .i64 ((i:Int)-1)=((i-1:Nat):Int):=by rw[bH]<;>omega
  have hw:=dv (show i<2^61 by omega)
  have p0:(0:Int)<=((i-1:Nat):Int):=by omega
  have p1:(0:Int)<=(i:Int):=by omega
  have g0:((aJ .u16).R l)[i-1]? =some [.int .u16 l[i-1]]:=(aJ .u16).gR (by omega)
  have g1:((aJ .u16).R l)[i]? =some [.int .u16 l[i]]:=(aJ .u16).gR hi
  have d0:l.getD (i-1) 0=l[i-1]:=by rw[List.getD_eq_getElem?_getD,List.getElem?_eq_getElem (show i-1<l.length by omega)];rfl
  have d1:l.getD i 0=l[i]:=by rw[List.getD_eq_getElem?_getD,List.getElem?_eq_getElem hi];rfl
  simp+decide only[st,xv,rR,OU,r0,r3,(aJ .u16).aS,aA]
  refine bU 10 rfl rfl ?_
  by_cases aD:l[i]<=l[i-1]
  ·have e:yZ l=false:=by
    unfold yZ
    rw[List.all_eq_false]
    refine⟨i-1,List.mem_range.2 (by omega),?_⟩
    rw[show i-1+1=i by omega,d0,d1]
    simp;omega
   simp+decide only[st,xv,rR,OT,abG,r0,r3,w1,p0,p1,g0,g1,aD,e]
   intro b hb
   have:=ho.next
   rw[if_pos (by omega),ho.get b hb]
  ·have mv: ¬(l[i]:Int)<=(l[i-1]:Int):=by omega
   simp+decide only[st,xv,rR,OT,abF,r0,r3,w1,p0,p1,g0,g1,aD,hw]
   refine⟨m-1,by omega,ho.clean,i+1,by omega,by omega,fun j hj=>?_,r0,rfl⟩
   by_cases eE:j+1=i
   ·rw[show j=i-1 by omega,show i-1+1=i by omega,d0,d1];omega
   ·exact hf j (by omega)
 ·have aA:(l.length:Int)<=(i:Int):=by omega
  have e:yZ l=true:=by
   unfold yZ
   rw[List.all_eq_true]
   intro j hj
   have:=List.mem_range.1 hj
   simpa using hf j (by omega)
  simp+decide only[st,xv,rR,OU,abH,r0,r3,(aJ .u16).aS,aA,e]
  exact ho.get
def jY (l:List Nat):Bool:=decide (l.length<=16)&&yZ l
theorem Xe (ok:ax P tb) {l:List Nat} {t:aH} {h:aa} (hl:l.length<2^30):an P 82 [.vs ((aJ .u16).R l) t] h (.bool (jY l)) h:=by
 refine ok.calls (rf:=yp) rfl (Nat.le_of_ble_eq_true rfl) ?_
 unfold jY
 by_cases h1:l.length<=16
 ·have cV:(l.length:Int)<=16:=by omega
  simp+decide only[st,xv,yp,IN,IM,(aJ .u16).aS,cV]
  refine au (aii ok hl) ?_
  simp+decide only[st,xv,yp,IN,IM,h1]
  all_goals simp
 ·have cV: ¬(l.length:Int)<=16:=by omega
  simp+decide only[st,xv,yp,IN,IM,(aJ .u16).aS,cV,h1]
  all_goals simp
def jx (l:List Nat):List UInt8:=be l.length 1++l.flatMap fun c=>be c 2
theorem ajF (ok:ax P tb) {b:List UInt8} {l:List Nat} {t t':aH} {h:aa} (hc: ∀c∈l,c<65536) (hl:l.length<2^20) (hb:b.length<2^20):an P 52 [.vs (BS b) t, .vs ((aJ .u16).R l) t'] h (.vs (BS (b++jx l)) .ao) h:=by
 refine ok.eH (rf:=t7) rfl (Nat.le_of_ble_eq_true rfl) gJ.lj ?_
 have w2:IntKind.wrap .u64 (l.length:Int)=l.length:=fk (by omega)
 simp+decide only[st,xv,t7,ae5,RL,(aJ .u16).aS,w2]
 refine au (mW ok (v:=l.length) (n:=1) (by omega) (by omega) (by omega)) ?_
 simp+decide only[st,xv,t7,RL,ae4]
 let I:Nat->Env->aa->Prop:=fun n ρ H=>H=h/\ ∃i:Nat,l.length=i+n/\ρ 13= .vs ((aJ .u16).R l) t'/\ρ 14= .int .i64 l.length/\ρ 15= .int .i64 i/\ρ 5= .vs (BS (b++be l.length 1++(l.take i).flatMap fun c=>be c 2)) .ao
 refine dJ I ?_ l.length ⟨rfl,0,by omega,rfl,by simp+decide only[st,xv,(aJ .u16).aS],rfl,by simp only[List.take_zero,List.flatMap_nil,List.append_nil];rfl⟩
 rintro n ρ H ⟨rfl,i,aE,dN,fK,eL,r5⟩
 by_cases hi:i<l.length
 ·have aA:(i:Int)<(l.length:Int):=by omega
  have dH:(0:Int)<=i:=by omega
  have hw:=dv (show i<2^61 by omega)
  have cw:((aJ .u16).R l)[i]? =some [.int .u16 l[i]]:=(aJ .u16).gR hi
  have tN:=hc _ (List.getElem_mem hi)
  have w3:IntKind.wrap .u64 (l[i]:Int)=l[i]:=fk (by omega)
  have bT:((l.take i).flatMap fun c=>be c 2).length=2*i:=by
   have: ∀(m:List Nat),(m.flatMap fun c=>be c 2).length=2*m.length:=by
    intro m
    induction m with
    |nil=>rfl
    |cons c m ih=>simp only[List.flatMap_cons,List.length_append,ih,bO,List.length_cons];omega
   rw[this,List.length_take];omega
  simp+decide only[st,xv,t7,RK,ae3,ae2,dN,fK,eL,r5,aA,dH,cw,w3]
  refine au (mW ok (v:=l[i]) (n:=2) (by omega) (by omega) (by simp only[List.length_append,bO,bT];omega)) ?_
  simp+decide only[st,xv,t7,ae1,eL,hw]
  refine⟨n-1,by omega,rfl,i+1,by omega,dN,fK,rfl,?_⟩
  show AV.vs (BS _) .ao=_
  rw[<-List.take_append_getElem hi]
  simp only[List.flatMap_append,List.flatMap_cons,List.flatMap_nil,List.append_nil,List.append_assoc]
 ·have aA: ¬(i:Int)<(l.length:Int):=by omega
  simp+decide only[st,xv,t7,RK,ae0,fK,eL,r5,aA,bB]
  rw[List.take_of_length_le (by omega)]
  simp only[jx,List.append_assoc]
  first|exact gJ.kE|exact⟨gJ.kE,fun x hx=>rfl⟩
end
section
open Go
variable {P:Program}
theorem V5 (ok:ax P tb) {l:List (List UInt8)} {t:aH} {h:aa} (hl:l.length<2^20) (hb: ∀b∈l,b.length<2^20): ∃v h',an P 147 [.vs (bg.R l) t] h v h'/\App h h' v (bg.R l)/\Old h h':=by
 refine ok.sT (rf:=vt) rfl (Nat.le_of_ble_eq_true rfl) ?_
 simp+decide only[st,xv,vt,abb,aba,aa9]
 let I:Nat->Env->aa->Prop:=fun n ρ H=>Old h H/\ ∃i:Nat,l.length=i+n/\ρ 6= .vs (bg.R l) t/\ρ 7= .int .i64 l.length/\ρ 8= .int .i64 i/\App h H (ρ 3) (bg.R (l.take i))
 refine dJ I ?_ l.length ⟨Old.refl h,0,by omega,rfl,by simp+decide only[st,xv,bg.aS],rfl,App.nil h h⟩
 rintro n ρ H ⟨ho,i,aE,r6,r7,r8,ha⟩
 by_cases hi:i<l.length
 ·have aA:(i:Int)<(l.length:Int):=by omega
  have dH:(0:Int)<=i:=by omega
  have hw:=dv (show i<2^61 by omega)
  have cw:(bg.R l)[i]? =some [.vs (BS l[i]) .ao]:=bg.gR hi
  have bP:=hb _ (List.getElem_mem hi)
  obtain⟨v',h2,a1,a2,a3,a4,a5,a6⟩:=ha.app ho (bytes:=24) (sz:=1) (id:=H.next) ho.next [[.vs (BS l[i]) .ao]] bg.lz (by rw[bg.aS,List.length_take];simp only[List.length_singleton];omega) (by rw[bg.aS,List.length_take];simp only[List.length_singleton];omega)
  simp+decide only[st,xv,vt,Ok,aa8,Oj,r6,r7,r8,aA,dH,cw]
  refine au (zd ok (z:=[.int .u8 0]) (f:=55) rfl (by omega)) ?_
  simp+decide only[st,xv,vt,Oj,aa7,r8,a1,hw]
  refine⟨n-1,by omega,a3,i+1,by omega,r6,r7,rfl,?_⟩
  rw[<-List.take_append_getElem hi,<-bg.oP]
  exact a2
 ·have aA: ¬(i:Int)<(l.length:Int):=by omega
  simp+decide only[st,xv,vt,Ok,aa6,r7,r8,aA,ot]
  rw[List.take_of_length_le (by omega)] at ha
  exact⟨ha,ho⟩
theorem aiJ (ok:ax P tb) {l:List (List UInt8)} {t:aH} {h:aa} (hl:l.length<2^20) (hb: ∀b∈l,b.length<2^20):an P 147 [.vs (bg.R l) t] h (.vs (bg.R l) .ao) h:=by
 obtain⟨v,h',h1,⟨tt,rfl,_⟩,ho⟩:=V5 ok (t:=t) (h:=h) hl hb
 have:=h1.strip
 rw[bg.kE] at this
 exact this.restore (fun x hx=>ho.get x hx) bg.lj
def rz (l:List (List UInt8)) (b:List UInt8):List (List UInt8)×Nat:=if 16<b.length then([],12) else if 4<=l.length then([],9) else(l++[b],0)
theorem ajT (ok:ax P tb) {l:List (List UInt8)} {b:List UInt8} {t t':aH} {h:aa} (hl:l.length<2^20) (hb: ∀b∈l,b.length<2^20) (kB:b.length<2^30):an P 106 [.vs (bg.R l) t, .vs (BS b) t'] h (.ay [.vs (bg.R (rz l b).1) .ao, .int .i64 (rz l b).2]) h:=by
 refine ok.eH (rf:=tp) rfl (Nat.le_of_ble_eq_true rfl) (by simp only[AV.bD,AV.cf,bg.iB];rfl) ?_
 unfold rz
 by_cases h1:16<b.length
 ·have cV:(16:Int)<(b.length:Int):=by omega
  simp+decide only[st,xv,tp,HL,HK,Pr,HI,Pq,zt,bM,cV,h1,bB]
  first|rfl|exact⟨rfl,fun _ _=>rfl⟩
 have cV: ¬(16:Int)<(b.length:Int):=by omega
 by_cases h2:4<=l.length
 ·have fT:(4:Int)<=(l.length:Int):=by omega
  simp+decide only[st,xv,tp,HL,HK,Pr,HI,Pq,zt,bM,bg.aS,cV,h1,fT,h2,bB]
  first|rfl|exact⟨rfl,fun _ _=>rfl⟩
 have fT: ¬(4:Int)<=(l.length:Int):=by omega
 obtain⟨v,h',k1,k2,k3⟩:=V5 ok (t:=t) (h:=h) hl hb
 obtain⟨v',h2b,a1,⟨tt,rfl,at2⟩,a3,a4,a5,a6⟩:=k2.app k3 (bytes:=24) (sz:=1) (id:=h'.next) k3.next [[.vs (BS b) .ao]] bg.lz (by rw[bg.aS];simp only[List.length_singleton];omega) (by rw[bg.aS];simp only[List.length_singleton];omega)
 simp+decide only[st,xv,tp,HL,HK,HI,zt,bM,bg.aS,cV,fT]
 refine au k1 ?_
 simp+decide only[st,xv,tp,zt]
 refine au (zd ok (z:=[.int .u8 0]) (f:=55) rfl (by omega)) ?_
 simp+decide only[st,xv,tp,zt,a1,h1,h2,bB]
 refine⟨?_,a3.get⟩
 have e:bg.R l++[[.vs (BS b) .ao]]=bg.R (l++[b]):=by rw[<-bg.oP];rfl
 rw[e]
 simp only[AV.strip,AV.bG,bg.ft]
theorem akU (ok:ax P tb) {l:List (List UInt8)} {t:aH} {h:aa} (hl:l.length<2^20) (hb: ∀b∈l,b.length<2^20):an P 107 [.vs (bg.R l) t] h (match l with|[]=> .ay [.vs [] .ao, .vs [] .ao, .bool false]|b::m=> .ay [.vs (BS b) .ao, .vs (bg.R m) .ao, .bool true]) h:=by
 refine ok.eH (rf:=xP) rfl (Nat.le_of_ble_eq_true rfl) (by split<;>simp only[AV.bD,AV.cf,bg.iB,uw]<;>rfl) ?_
 cases l with
 |nil=>
  simp+decide only[st,xv,xP,Pp,Po,acf,Pn,bg.j7,bB]
  first|rfl|exact⟨rfl,fun _ _=>rfl⟩
 |cons b m=>
  have hz: ¬(((m.length+1:Nat):Int)=0):=by omega
  have hg:(bg.R (b::m))[0]? =some [.vs (BS b) .ao]:=rfl
  have k1:dC 1 (bg.R (b::m))=true:=bg.lz
  have k3:Int.toNat 1<=(bg.R (b::m)).length:=by rw[bg.aS];simp
  have k4:List.take ((bg.R (b::m)).length-Int.toNat 1) (List.drop (Int.toNat 1) (bg.R (b::m)))=bg.R m:=by rw[List.take_of_length_le (by simp)];rfl
  have kU:=hb b (List.mem_cons_self ..)
  simp+decide only[st,xv,xP,Pp,Po,bg.aS,hz]
  refine bU 10 rfl rfl ?_
  simp+decide only[st,xv,xP,Pn,hg]
  refine fj (zd ok (z:=[.int .u8 0]) (f:=55) rfl (by omega)) (cO (Nat.le_refl _)) ?_
  simp+decide only[st,xv,k1,k3,k4]
  refine fj (aiJ ok (by simp only[List.length_cons] at hl;omega) (fun x hx=>hb x (List.mem_cons_of_mem _ hx))) (cO (Nat.le_refl _)) ?_
  simp+decide only[st,xv,bB]
  refine⟨?_,fun x hx=>?_⟩
  ·simp only[AV.strip,AV.bG,bg.ft,jQ]
  ·rw[if_pos (by omega)]
end
section
open Go
variable {P:Program}
theorem ajV (ok:ax P tb) {n:Nat} {h:aa} (h0:0<n) (hn:n<2^30):an P 133 [.bA, .int .i64 n] h (.rs h.next 0 0 1) (h.at h.next (.cells (List.replicate n [AV.int .u8 0]).flatten)):=by
 refine ok.calls (rf:=EF) rfl (Nat.le_of_ble_eq_true rfl) ?_
 have h1: ¬(n:Int)<0:=by omega
 have h2:(0:Int)<(n:Int):=by omega
 have w0:IntKind.wrap .i64 ((0:Int)-0)=0:=rfl
 have w1:IntKind.wrap .i64 ((n:Int)-0)=n:=by rw[bH]<;>omega
 have a1: ∀id,u2 1 [.int .u8 0] id h .bA (.int .i64 n)=some (.rs id 0 n 1,h.at id (.cells (List.replicate n [AV.int .u8 0]).flatten)):=fun id=>by
  simp only[u2]
  rw[if_pos (by omega),if_pos (by rw[Int.toNat_natCast];omega),Int.toNat_natCast];rfl
 have s1: ∀ρ:Env,ρ 19= .int .i64 0->iO ρ 1 .bA none (some (Am.t 19)) none=some .bA:=fun ρ hr=>by simp[iO,cJ,Am.t,aq.ev,hr]
 have s2: ∀(ρ:Env) (b:Nat),ρ 24= .int .i64 0->iO ρ 1 (.rs b 0 n 1) none (some (Am.t 24)) none=some (.rs b 0 0 1):=fun ρ b hr=>by simp[iO,cJ,Am.t,aq.ev,hr]
 simp+decide only[st,xv,EF,abA,abz,aby,abx,abw,abv,abu,h1,h2,w0,w1,a1,s1,s2]
theorem CL {l:List UInt8}:(BS l).flatten=l.map fun b=>AV.int .u8 b.toNat:=by
 induction l with
 |nil=>rfl
 |cons b l ih=>simp only[BS,List.map_cons,List.flatten_cons] at ih ⊢;rw[ih];rfl
theorem Xm: ∀{l:List UInt8},rowsOf (BS l).flatten 0 1 l.length=BS l
 |[]=>rfl
 |b::l=>by
  have ih:=Xm (l:=l)
  have hc:BS (b::l)=[.int .u8 b.toNat]::BS l:=rfl
  rw[hc,List.flatten_cons,List.length_cons,rowsOf]
  rw[show 0+1=([AV.int .u8 b.toNat]).length+0 by rfl,Bn (by rw[CL,List.length_map];omega),ih]
  rfl
theorem VW: ∀{n off m:Nat} {cs:List AV},off+n<=m->rowsOf cs off 1 n=rowsOf (cs.take m) off 1 n
 |0,_,_,_,_=>rfl
 |n+1,off,m,cs,h=>by
  simp only[rowsOf]
  rw[VW (n:=n) (off:=off+1) (m:=m) (by omega),List.drop_take,List.take_take,Nat.min_eq_left (by omega)]
theorem aih {n:Nat} {cs:List AV}:rowsOf cs 0 1 n=rowsOf (cs.take n) 0 1 n:=VW (by omega)
theorem ah9 (ok:ax P tb) {l:List (List UInt8)} {t:aH} {h:aa} (h0:0<l.flatten.length) (hl:l.length<2^20) (hs:l.flatten.length<2^30):an P 84 [.vs (bg.R l) t] h (.vs (BS l.flatten) .ao) h:=by
 refine ok.MB (rf:=qI) rfl (Nat.le_of_ble_eq_true rfl) gJ.lj ?_
 have ag3: ∀i,(l.take i).flatten.length<=l.flatten.length:=fun i=>by
  have:=congrArg List.length (congrArg List.flatten (List.take_append_drop i l))
  rw[List.flatten_append,List.length_append] at this
  omega
 have Ij: ∀i (hi:i<l.length),(l.take (i+1)).flatten=(l.take i).flatten++l[i]:=fun i hi=>by
  rw[<-List.take_append_getElem hi,List.flatten_append];simp
 simp+decide only[st,xv,qI,adE,adD,adC]
 let I:Nat->Env->aa->Prop:=fun n ρ H=>H=h/\ ∃i:Nat,l.length=i+n/\ρ 0= .vs (bg.R l) t/\ρ 9= .vs (bg.R l) t/\ρ 10= .int .i64 l.length/\ρ 11= .int .i64 i/\ρ 3= .int .i64 (l.take i).flatten.length
 refine dJ I ?_ l.length ⟨rfl,0,by omega,rfl,rfl,by simp+decide only[st,xv,bg.aS],rfl,rfl⟩
 rintro n ρ H ⟨rfl,i,aE,r0,r9,gq,fM,r3⟩
 by_cases hi:i<l.length
 ·have aA:(i:Int)<(l.length:Int):=by omega
  have dH:(0:Int)<=i:=by omega
  have hw:=dv (show i<2^61 by omega)
  have cw:(bg.R l)[i]? =some [.vs (BS l[i]) .ao]:=bg.gR hi
  have h1:=ag3 (i+1)
  have h2:=congrArg List.length (Ij i hi)
  rw[List.length_append] at h2
  have w1:IntKind.wrap .i64 (((l.take i).flatten.length:Int)+(l[i].length:Int))=((l.take (i+1)).flatten.length:Int):=by rw[bH]<;>omega
  have w2: ¬((l.take (i+1)).flatten.length:Int)<0:=by omega
  simp+decide only[st,xv,qI,Qf,adB,adA,adz,ady,r3,r9,gq,fM,aA,dH,cw,bM,w1,w2,hw]
  exact⟨n-1,by omega,rfl,i+1,by omega,r0,r9,gq,rfl,rfl⟩
 have aA: ¬(i:Int)<(l.length:Int):=by omega
 rw[List.take_of_length_le (by omega)] at r3
 simp+decide only[st,xv,qI,Qf,adx,r3,gq,fM,aA]
 refine au (ajV ok h0 hs) ?_
 simp+decide only[st,xv,qI,ZX,r0]
 let I2:Nat->Env->aa->Prop:=fun n ρ X=>(∀x,x<H.next->X.get x=H.get x)/\ ∃i b cs:_,l.length=i+n/\ρ 25= .vs (bg.R l) t/\ρ 26= .int .i64 l.length/\ρ 27= .int .i64 (i:Nat)/\ρ 6= .rs b 0 (l.take i).flatten.length 1/\X.get b=some (.cells cs)/\cs.take (l.take i).flatten.length=(BS (l.take i).flatten).flatten/\H.next<=b/\b<X.next
 refine dJ I2 ?_ l.length ⟨fun x hx=>by simp[aa.at,show¬x=H.next by omega],0,H.next,_,by omega,rfl,by simp+decide only[st,xv,bg.aS],rfl,rfl,by simp[aa.at];rfl,by simp[BS],Nat.le_refl _,by simp[aa.at]⟩
 rintro n ρ X ⟨ho,i,b,cs,aE,JY,tC,xW,r6,hb,eN,eo,ch⟩
 by_cases hi:i<l.length
 ·have aA:(i:Int)<(l.length:Int):=by omega
  have dH:(0:Int)<=(i:Int):=by omega
  have hw:=dv (show i<2^61 by omega)
  have cw:(bg.R l)[i]? =some [.vs (BS l[i]) .ao]:=bg.gR hi
  have cE:cQ 1 X (.vs (BS l[i]) .ao)=some (BS l[i]):=Zv
  have h1:=ag3 (i+1)
  have h2:=congrArg List.length (Ij i hi)
  rw[List.length_append] at h2
  have dp:(l.take i).flatten.length<=cs.length:=by
   have:=congrArg List.length eN
   rw[List.length_take,CL,List.length_map] at this
   omega
  have hc:=av hb
  by_cases hz:l[i]=[]
  ·have ha:fF 1 1 X.next X (.rs b 0 (l.take i).flatten.length 1) (some (BS l[i]))=some (.rs b 0 (l.take i).flatten.length 1,X):=by simp[fF,hz,BS]
   have he:(l.take (i+1)).flatten=(l.take i).flatten:=by rw[Ij i hi,hz,List.append_nil]
   simp+decide only[st,xv,qI,G3,MP,MO,MN,r6,JY,tC,xW,aA,dH,cw,cE,ha,hw]
   exact⟨n-1,by omega,ho,i+1,b,cs,by omega,JY,tC,rfl,by rw[he];rfl,hb,by rw[he];exact eN,eo,ch⟩
  ·have aM:BS l[i]≠[]:=by simp[BS,hz]
   have ha:fF 1 1 X.next X (.rs b 0 (l.take i).flatten.length 1) (some (BS l[i]))=some (.rs X.next 0 ((l.take i).flatten.length+l[i].length) 1,(X.set b none).at X.next (.cells (cs.take (l.take i).flatten.length++(BS l[i]).flatten))):=by
    simp only[fF,hc,Option.bind_some,bM,Nat.mul_one]
    rw[if_neg aM,if_pos ⟨trivial,trivial,dp,by omega,by omega⟩]
   simp+decide only[st,xv,qI,G3,MP,MO,MN,r6,JY,tC,xW,aA,dH,cw,cE,ha,hw]
   refine⟨n-1,by omega,fun x hx=>?_,i+1,X.next,cs.take (l.take i).flatten.length++(BS l[i]).flatten,by omega,JY,tC,rfl,by rw[h2];rfl,by simp only[aa.at,if_true],?_,by omega,by simp[aa.at,aa.set]⟩
   ·simp[aa.at,aa.set,show¬x=X.next by omega,show¬x=b by omega,ho x hx]
   ·rw[eN,Ij i hi,<-CM,List.flatten_append]
    exact List.take_of_length_le (by rw[List.length_append,CL,CL,List.length_map,List.length_map,List.length_append];omega)
 ·have aA: ¬(i:Int)<(l.length:Int):=by omega
  have iK:l.take i=l:=List.take_of_length_le (by omega)
  rw[iK] at r6 eN
  simp+decide only[st,xv,qI,G3,ZW,r6,tC,xW,aA]
  have dp:l.flatten.length<=cs.length:=by
   have:=congrArg List.length eN
   rw[List.length_take,CL,List.length_map] at this
   omega
  have AG:rowsOf cs 0 1 l.flatten.length=BS l.flatten:=by
   have h1:rowsOf cs 0 1 l.flatten.length=rowsOf (BS l.flatten).flatten 0 1 l.flatten.length:=by
    rw[<-eN]
    exact aih
   rw[h1,Xm]
  have pq:AV.dQ b cs (.rs b 0 l.flatten.length 1)= .vs (BS l.flatten) .ao:=by
   simp only[AV.dQ,if_true]
   rw[if_pos (by omega),AG]
  refine Gj.2 ⟨.rs b 0 l.flatten.length 1,b,cs,by simp+decide only[st,xv],hb,eo,?_,?_,ho⟩
  ·rw[pq];exact gJ.lj
  ·rw[pq];exact gJ.kE
end
section
open Go
variable {P:Program}
def cP (s:List UInt8):List UInt8:=be s.length 2++s
theorem KW (ok:ax P tb) {b s:List UInt8} {t t':aH} {h:aa} (hb:b.length<2^28) (hs:s.length<2^28):an P 51 [.vs (BS b) t, .vs (BS s) t'] h (.vs (BS (b++cP s)) .ao) h:=by
 refine ok.calls (rf:=Bb) rfl (Nat.le_of_ble_eq_true rfl) ?_
 have w1:IntKind.wrap .u64 (s.length:Int)=s.length:=fk (by omega)
 have hc:=ah9 ok (l:=[b++be s.length 2,s]) (t:= .ao) (h:=h) (by simp[bO];omega) (by simp) (by simp[bO];omega)
 have a9:=hc.D9 (D8:=[.vs [[.vs (BS (b++be s.length 2)) .ao],[.vs (BS s) t']] .full]) rfl (fun i x y hx hy=>by
  match i with
  |0=>
   cases hx;cases hy
   refine .inr (.inr (.inr ?_))
   simp only[AV.strip,AV.f0,AV.bG,jQ];rfl
  |i+1=>simp at hx)
 simp+decide only[st,xv,Bb,RN,RM,bM,w1]
 refine au (mW ok (v:=s.length) (n:=2) (by omega) (by omega) (by omega)) ?_
 simp+decide only[st,xv,Bb,RN,RM]
 refine au a9 ?_
 have e:[b++be s.length 2,s].flatten=b++cP s:=by simp[cP]
 simp+decide only[st,xv,e]
def oD (b:List UInt8):List UInt8×Nat×Nat:=if b.length<2 then([],0,3) else if b.length-2<de (b.take 2) then([],0,3) else((b.drop 2).take (de (b.take 2)),2+de (b.take 2),0)
def GG (r:List UInt8×Nat×Nat):AV:= .ay [.vs (BS r.1) .ao, .int .i64 r.2.1, .int .i64 r.2.2]
theorem YB {l:List UInt8} {n m:Nat} {t:aH}:(AV.ay [.vs (BS l) t, .int .i64 n, .int .i64 m]).strip= .ay [.vs (BS l) .ao, .int .i64 n, .int .i64 m]:=by simp only[AV.strip,AV.bG,jQ]
theorem VJ (ok:ax P tb) {b:List UInt8} {t:aH} {h:aa} (hb:b.length<2^28):an P 125 [.vs (BS b) t] h (GG (oD b)) h:=by
 refine ok.eH (rf:=qi) rfl (Nat.le_of_ble_eq_true rfl) (by simp only[GG,AV.bD,AV.cf,uw];rfl) ?_
 have ht:=yI ok (b:=b) (t:=t) (n:=2) (h:=h) (by omega) (by omega)
 unfold oD
 by_cases h1:b.length<2
 ·rw[if_pos h1] at ht
  simp+decide only[st,xv,qi,zr,wS,zq,CG,zp,CF,zn]
  refine au ht ?_
  simp+decide only[st,xv,qi,zr,wS,zq,CG,zp,CF,zn,bB,h1]
  first|rfl|exact⟨rfl,fun _ _=>rfl⟩
 rw[if_neg h1] at ht
 have hv:=uP (b.take 2)
 have hle:(b.take 2).length<=2:=List.length_take_le ..
 have h3:(256:Nat)^(b.take 2).length<=256^2:=Nat.pow_le_pow_right (by omega) hle
 generalize hV:de (b.take 2)=V at*
 have w1:IntKind.wrap .i64 ((b.length:Int)-2)=((b.length-2:Nat):Int):=by rw[bH]<;>omega
 have w2:IntKind.wrap .i64 (V:Int)=V:=ry (by omega)
 by_cases h2:b.length-2<V
 ·have fT:((b.length-2:Nat):Int)<(V:Int):=by omega
  simp+decide only[st,xv,qi,zr,wS,zq,CG,zp,CF,zn]
  refine au ht ?_
  simp+decide only[st,xv,qi,zr,wS,zq,CG,zp,CF,zn,bB,bM,h1,h2,fT,w1,w2]
  first|rfl|exact⟨rfl,fun _ _=>rfl⟩
 have fT: ¬((b.length-2:Nat):Int)<(V:Int):=by omega
 have w3:IntKind.wrap .i64 (2+(V:Int))=((2+V:Nat):Int):=by rw[bH]<;>omega
 have k1:Int.toNat 2<=2+V/\2+V<=(BS b).length/\dC 1 (BS b)=true:=⟨by show 2<=_;omega,by rw[bM];omega,jT⟩
 have k2:List.take (2+V-Int.toNat 2) (List.drop (Int.toNat 2) (BS b))=BS ((b.drop 2).take V):=by
  rw[show 2+V-Int.toNat 2=V by show 2+V-2=_;omega,<-Zu,<-wt];rfl
 have dp:=zd ok (z:=[.int .u8 0]) (f:=55) rfl (l:=(b.drop 2).take V) (t:=oq t (BS b).length (Int.toNat 2) (2+V)) (h:=h) (by rw[List.length_take];omega)
 simp+decide only[st,xv,qi,zr,wS]
 refine au ht ?_
 simp+decide only[st,xv,qi,wS,zq,zp,bM,fT,w1,w2]
 simp+decide only[st,xv,qi,zn,w2,w3,k1.1,k1.2.1,k1.2.2,k2]
 refine au dp ?_
 simp+decide only[st,xv,w2,w3,bB,h1,h2]
 first|rfl|exact⟨YB,fun _ _=>rfl⟩|exact YB
end
section
open Go
variable {P:Program}
def iZ (l:List (List UInt8)):List UInt8:=be l.length 1++l.flatMap cP
theorem ai6 (ok:ax P tb) {b:List UInt8} {l:List (List UInt8)} {t t':aH} {h:aa} (hs: ∀x∈l,x.length<2^10) (hl:l.length<2^10) (hb:b.length<2^20):an P 53 [.vs (BS b) t, .vs (bg.R l) t'] h (.vs (BS (b++iZ l)) .ao) h:=by
 refine ok.eH (rf:=t5) rfl (Nat.le_of_ble_eq_true rfl) gJ.lj ?_
 have w2:IntKind.wrap .u64 (l.length:Int)=l.length:=fk (by omega)
 have bT: ∀(m:List (List UInt8)),(∀x∈m,x.length<2^10)->(m.flatMap cP).length<=1026*m.length:=by
  intro m
  induction m with
  |nil=>intro _;simp
  |cons c m ih=>
   intro hm
   have h1:=ih (fun x hx=>hm x (List.mem_cons_of_mem _ hx))
   have h2:=hm c (List.mem_cons_self ..)
   simp only[List.flatMap_cons,List.length_append,cP,bO,List.length_cons] at h1 ⊢;omega
 simp+decide only[st,xv,t5,aeZ,RJ,bg.aS,w2]
 refine au (mW ok (v:=l.length) (n:=1) (by omega) (by omega) (by omega)) ?_
 simp+decide only[st,xv,t5,RJ,aeY]
 let I:Nat->Env->aa->Prop:=fun n ρ H=>H=h/\ ∃i:Nat,l.length=i+n/\ρ 13= .vs (bg.R l) t'/\ρ 14= .int .i64 l.length/\ρ 15= .int .i64 i/\ρ 5= .vs (BS (b++be l.length 1++(l.take i).flatMap cP)) .ao
 refine dJ I ?_ l.length ⟨rfl,0,by omega,rfl,by simp+decide only[st,xv,bg.aS],rfl,by simp only[List.take_zero,List.flatMap_nil,List.append_nil];rfl⟩
 rintro n ρ H ⟨rfl,i,aE,dN,fK,eL,r5⟩
 by_cases hi:i<l.length
 ·have aA:(i:Int)<(l.length:Int):=by omega
  have dH:(0:Int)<=i:=by omega
  have hw:=dv (show i<2^61 by omega)
  have cw:(bg.R l)[i]? =some [.vs (BS l[i]) .ao]:=bg.gR hi
  have si:=hs _ (List.getElem_mem hi)
  have h1:=bT (l.take i) (fun x hx=>hs x (List.mem_of_mem_take hx))
  have h2:=List.length_take_le i l
  simp+decide only[st,xv,t5,RI,aeX,aeW,dN,fK,eL,r5,aA,dH,cw]
  refine au (KW ok (by simp only[List.length_append,bO];omega) (by omega)) ?_
  simp+decide only[st,xv,t5,aeV,eL,hw]
  refine⟨n-1,by omega,rfl,i+1,by omega,dN,fK,rfl,?_⟩
  show AV.vs (BS _) .ao=_
  rw[<-List.take_append_getElem hi]
  simp only[List.flatMap_append,List.flatMap_cons,List.flatMap_nil,List.append_nil,List.append_assoc]
 ·have aA: ¬(i:Int)<(l.length:Int):=by omega
  simp+decide only[st,xv,t5,RI,aeU,fK,eL,r5,aA,bB]
  rw[List.take_of_length_le (by omega)]
  simp only[iZ,List.append_assoc]
  first|exact gJ.kE|exact⟨gJ.kE,fun x hx=>rfl⟩
end
section
open Go
variable {P:Program}
theorem aoZ (ok:ax P tb) {g:Nat} {d9:List AV} {q:List UInt8->Bool} {l:List (List UInt8)} {t:aH} {h:aa} (hl:l.length<2^30) (hg:cj P g=true) (hq: ∀p∈l,an P g (.vs (BS p) .ao::d9) h (.bool (q p)) h):
 an P 156 [.vs (bg.R l) t, .fn g [] d9] h (.int .i64 (ke q l)) h:=by
 refine ok.calls (rf:=xL) rfl (Nat.le_of_ble_eq_true rfl) ?_
 simp+decide only[st,xv,xL,Hm,Hl,bg.aS]
 let I:Nat->Env->aa->Prop:=fun n ρ h'=>h'=h/\ ∃i:Nat,l.length=i+n/\(∀j,j<i-> ∀hj:j<l.length,q l[j]=false)/\ρ 0= .vs (bg.R l) t/\ρ 1= .fn g [] d9/\ρ 7= .int .i64 l.length/\ρ 8= .int .i64 i
 refine dJ I ?_ l.length ⟨rfl,0,by omega,by omega,rfl,rfl,rfl,rfl⟩
 rintro n ρ h' ⟨rfl,i,aE,hf,r0,r1,r7,r8⟩
 by_cases hi:i<l.length
 ·have aA:(i:Int)<(l.length:Int):=by omega
  have dH:(0:Int)<=i:=by omega
  have hw:=dv (show i<2^61 by omega)
  have cw:(bg.R l)[i]? =some [.vs (BS l[i]) .ao]:=bg.gR hi
  simp+decide only[st,xv,xL,Hm,Hl,Of,Oe,Od,Oc,Oa,N9,r0,r1,r7,r8,aA,dH,cw]
  refine pO hg (hq l[i] (List.getElem_mem hi)) ?_
  by_cases lT:q l[i]=true
  ·simp+decide only[st,xv,lT,r8,GR hi hf lT]
  ·have qw:q l[i]=false:=by simpa using lT
   simp+decide only[st,xv,qw,r8,hw]
   refine⟨n-1,by omega,rfl,i+1,by omega,fun j hj dP=>?_,r0,r1,r7,rfl⟩
   by_cases eE:j=i
   ·subst eE;exact qw
   ·exact hf j (by omega) dP
 ·have aA: ¬(i:Int)<(l.length:Int):=by omega
  have dF:=GQ (q:=q) (l:=l) (fun j _ hj=>hf j (by omega) hj)
  simp+decide only[st,xv,xL,Hm,Hl,Of,Oe,Od,Oc,Oa,N9,r7,r8,aA,dF]
  rfl
def jz (l:List (List UInt8)):Bool:=decide (l.length<=4)&&!l.any (fun b=>decide (16<b.length))
theorem WR (ok:ax P tb) {l:List (List UInt8)} {t:aH} {h:aa} (hl:l.length<2^30):an P 83 [.vs (bg.R l) t] h (.bool (jz l)) h:=by
 refine ok.calls (rf:=ym) rfl (Nat.le_of_ble_eq_true rfl) ?_
 unfold jz
 have hc:an P 131 [.vs (bg.R l) t, .fn 132 [] []] h (.bool (l.any (fun b=>decide (16<b.length)))) h:=by
  refine ok.calls (rf:=EH) rfl (Nat.le_of_ble_eq_true rfl) ?_
  simp+decide only[st,xv,EH,abE,abD]
  refine au (aoZ ok hl (ok.cj _ rfl) (q:=fun b=>decide (16<b.length)) (fun p hp=>?_)) ?_
  ·refine ok.calls (rf:=EG) rfl (Nat.le_of_ble_eq_true rfl) ?_
   have e:decide ((16:Int)<(p.length:Int))=decide (16<p.length):=by rw[decide_eq_decide];omega
   simp+decide only[st,xv,EG,abC,abB,bM,e]
  ·simp+decide only[st,xv,L2]
 by_cases h1:l.length<=4
 ·have cV:(l.length:Int)<=4:=by omega
  simp+decide only[st,xv,ym,IL,IK,bg.aS,cV]
  refine au hc ?_
  simp+decide only[st,xv,ym,IL,IK,h1]
  all_goals simp
 ·have cV: ¬(l.length:Int)<=4:=by omega
  simp+decide only[st,xv,ym,IL,IK,bg.aS,cV,h1]
  all_goals simp
end
section
open Go
variable {P:Program}
def pc (b:List UInt8) (k:Nat):List Nat:=(List.range k).map fun i=>de ((b.drop (1+2*i)).take 2)
theorem GF {b:List UInt8} {k:Nat}:(pc b k).length=k:=by simp[pc]
theorem ak9 {b:List UInt8} {k:Nat}:pc b (k+1)=pc b k++[de ((b.drop (1+2*k)).take 2)]:=by simp[pc,List.range_succ]
def HX (b:List UInt8):List Nat×Nat×Nat:=
 if b.length<1 then([],0,3) else if b.length<1+2*de (b.take 1) then([],0,3) else if jY (pc b (de (b.take 1))) then(pc b (de (b.take 1)),1+2*de (b.take 1),0) else([],0,2)
def Mt (r:List Nat×Nat×Nat):AV:= .ay [.vs ((aJ .u16).R r.1) .ao, .int .i64 r.2.1, .int .i64 r.2.2]
theorem aiK (ok:ax P tb) {b:List UInt8} {t:aH} {h:aa} (hb:b.length<2^20):an P 126 [.vs (BS b) t] h (Mt (HX b)) h:=by
 refine ok.eH (rf:=lM) rfl (Nat.le_of_ble_eq_true rfl) (by simp only[Mt,AV.bD,AV.cf,(aJ .u16).iB];rfl) ?_
 have ht:=yI ok (b:=b) (t:=t) (n:=1) (h:=h) (by omega) (by omega)
 unfold HX
 by_cases h1:b.length<1
 ·rw[if_pos h1] at ht
  simp+decide only[st,xv,lM,HA,wR]
  refine au ht ?_
  simp+decide only[st,xv,lM,wR,Hz,abV,bB,h1]
  first|rfl|exact⟨rfl,fun _ _=>rfl⟩
 rw[if_neg h1] at ht
 have hv:=uP (b.take 1)
 have hle:(b.take 1).length<=1:=List.length_take_le ..
 have h3:(256:Nat)^(b.take 1).length<=256^1:=Nat.pow_le_pow_right (by omega) hle
 generalize hV:de (b.take 1)=V at*
 have w1:IntKind.wrap .i64 (V:Int)=V:=ry (by omega)
 have w2:IntKind.wrap .i64 (2*(V:Int))=((2*V:Nat):Int):=by rw[bH]<;>omega
 have w3:IntKind.wrap .i64 (1+((2*V:Nat):Int))=((1+2*V:Nat):Int):=by rw[bH]<;>omega
 by_cases h2:b.length<1+2*V
 ·have fT:(b.length:Int)<((1+2*V:Nat):Int):=by omega
  simp+decide only[st,xv,lM,HA,wR]
  refine au ht ?_
  simp+decide only[st,xv,lM,wR,Hz,O2,O1,abU,bB,bM,h1,h2,fT,w1,w2,w3]
  first|rfl|exact⟨rfl,fun _ _=>rfl⟩
 have fT: ¬(b.length:Int)<((1+2*V:Nat):Int):=by omega
 simp+decide only[st,xv,lM,HA,wR]
 refine au ht ?_
 simp+decide only[st,xv,lM,wR,Hz,O2,O1,abT,bM,h1,h2,fT,w1,w2,w3]
 let I:Nat->Env->aa->Prop:=fun n ρ H=>Old h H/\ ∃i:Nat,V=i+n/\ρ 0= .vs (BS b) t/\ρ 3= .int .i64 ((1+2*V:Nat):Int)/\ρ 26= .int .i64 V/\ρ 27= .int .i64 i/\App h H (ρ 2) ((aJ .u16).R (pc b i))
 refine dJ I ?_ V ⟨Old.refl h,0,by omega,rfl,rfl,rfl,rfl,App.nil h h⟩
 rintro n ρ H ⟨ho,i,aE,r0,r3,tC,xW,ha⟩
 by_cases hi:i<V
 ·have aA:(i:Int)<(V:Int):=by omega
  have hw:=dv (show i<2^61 by omega)
  have q1:IntKind.wrap .i64 (2*(i:Int))=((2*i:Nat):Int):=by rw[bH]<;>omega
  have q2:IntKind.wrap .i64 (1+((2*i:Nat):Int))=((1+2*i:Nat):Int):=by rw[bH]<;>omega
  have k1:1+2*i<=b.length:=by omega
  have k2:dC 1 (BS b)=true:=jT
  have k3:(BS b).drop (1+2*i)=BS (b.drop (1+2*i)):=wt
  have k4:List.take (b.length-(1+2*i)) (BS (b.drop (1+2*i)))=BS (b.drop (1+2*i)):=List.take_of_length_le (by rw[bM,List.length_drop];omega)
  have ht2:=yI ok (b:=b.drop (1+2*i)) (t:=oq t b.length (1+2*i) b.length) (n:=2) (h:=H) (by omega) (by rw[List.length_drop];omega)
  rw[if_neg (by rw[List.length_drop];omega)] at ht2
  have qt:=ak9 (b:=b) (k:=i)
  have hW2:de ((b.drop (1+2*i)).take 2)<65536:=by
   have h1:=uP ((b.drop (1+2*i)).take 2)
   have h2:((b.drop (1+2*i)).take 2).length<=2:=List.length_take_le ..
   have h3:(256:Nat)^((b.drop (1+2*i)).take 2).length<=256^2:=Nat.pow_le_pow_right (by omega) h2
   omega
  generalize hW:de ((b.drop (1+2*i)).take 2)=W at*
  have q3:IntKind.wrap .u16 (W:Int)=W:=by simp[IntKind.wrap,IntKind.signed,IntKind.bits];omega
  obtain⟨v',h2b,a1,a2,a3,a4,a5,a6⟩:=ha.app ho (bytes:=2) (sz:=1) (id:=H.next) ho.next [[.int .u16 W]] (aJ .u16).lz (by rw[(aJ .u16).aS,GF];simp only[List.length_singleton];omega) (by rw[(aJ .u16).aS,GF];simp only[List.length_singleton];omega)
  simp+decide only[st,xv,lM,O0,abS,Mn,r0,tC,xW,aA,q1,q2,bM,k1,k2,k3,k4]
  refine au ht2 ?_
  simp+decide only[st,xv,lM,Mn,Zi,Zh,xW,q3,a1,hw]
  exact⟨n-1,by omega,a3,i+1,by omega,r0,r3,tC,rfl,by rw[qt,<-(aJ .u16).oP];exact a2⟩
 ·have aA: ¬(i:Int)<(V:Int):=by omega
  have hiV:i=V:=by omega
  subst hiV
  obtain⟨tt,jr,_⟩:=ha
  have hm:=Xe ok (l:=pc b i) (t:=tt) (h:=H) (by rw[GF];omega)
  simp+decide only[st,xv,lM,O0,Zg,tC,xW,aA,jr]
  refine au hm ?_
  cases g9:jY (pc b i) with
  |false=>
   simp+decide only[st,xv,lM,Zf,bB,h1,h2,g9]
   exact⟨rfl,ho.get⟩
  |true=>
   simp+decide only[st,xv,lM,Ze,bB,h1,h2,g9,jr,r3]
   exact⟨by simp only[AV.strip,AV.bG,(aJ .u16).ft];rfl,ho.get⟩
end
section
open Go
variable {P:Program}
def rX (b:List UInt8):Nat->Nat->List (List UInt8)->List (List UInt8)×Nat×Nat
 |0,n,acc=>if jz acc then(acc,n,0) else([],0,2)
 |k+1,n,acc=>if(oD (b.drop n)).2.2=0 then rX b k (n+(oD (b.drop n)).2.1) (acc++[(oD (b.drop n)).1]) else([],0,(oD (b.drop n)).2.2)
def HW (b:List UInt8):List (List UInt8)×Nat×Nat:=if b.length<1 then([],0,3) else rX b (de (b.take 1)) 1 []
def Mr (r:List (List UInt8)×Nat×Nat):AV:= .ay [.vs (bg.R r.1) .ao, .int .i64 r.2.1, .int .i64 r.2.2]
theorem aj3 {b:List UInt8}:(oD b).2.1<=b.length:=by
 unfold oD
 split
 ·simp
 ·split
  ·simp
  ·show 2+_<=_;omega
theorem aik (ok:ax P tb) {b:List UInt8} {t:aH} {h:aa} (hb:b.length<2^20):an P 127 [.vs (BS b) t] h (Mr (HW b)) h:=by
 refine ok.eH (rf:=my) rfl (Nat.le_of_ble_eq_true rfl) (by simp only[Mr,AV.bD,AV.cf,bg.iB];rfl) ?_
 have ht:=yI ok (b:=b) (t:=t) (n:=1) (h:=h) (by omega) (by omega)
 unfold HW
 by_cases h1:b.length<1
 ·rw[if_pos h1] at ht
  simp+decide only[st,xv,my,OZ,CE]
  refine au ht ?_
  simp+decide only[st,xv,my,CE,OY,abR,bB,h1]
  first|rfl|exact⟨rfl,fun _ _=>rfl⟩
 rw[if_neg h1] at ht
 rw[if_neg h1]
 have hv:=uP (b.take 1)
 have hle:(b.take 1).length<=1:=List.length_take_le ..
 have h3:(256:Nat)^(b.take 1).length<=256^1:=Nat.pow_le_pow_right (by omega) hle
 generalize hV:de (b.take 1)=V at*
 simp+decide only[st,xv,my,OZ,CE]
 refine au ht ?_
 simp+decide only[st,xv,my,CE,OY,abQ,abP]
 let I:Nat->Env->aa->Prop:=fun m ρ H=>Old h H/\ ∃i n acc,V=i+m/\n<=b.length/\List.length acc=i/\rX b V 1 []=rX b m n acc/\ρ 0= .vs (BS b) t/\ρ 3= .int .i64 (n:Nat)/\ρ 17= .int .u64 V/\ρ 18= .int .u64 (i:Nat)/\App h H (ρ 2) (bg.R acc)
 refine dJ I ?_ V ⟨Old.refl h,0,1,[],by omega,by omega,rfl,rfl,rfl,rfl,rfl,rfl,App.nil h h⟩
 rintro m ρ H ⟨ho,i,n,acc,aE,hnb,JO,heq,r0,r3,pf,Uw,ha⟩
 cases m with
 |zero=>
  have aA: ¬(i:Int)<(V:Int):=by omega
  obtain⟨tt,jr,_⟩:=ha
  have hm:=WR ok (l:=acc) (t:=tt) (h:=H) (by omega)
  rw[heq,rX]
  simp+decide only[st,xv,my,OX,Zb,pf,Uw,aA,jr]
  refine au hm ?_
  cases g9:jz acc with
  |false=>
   simp+decide only[st,xv,my,Za,bB]
   exact⟨rfl,ho.get⟩
  |true=>
   simp+decide only[st,xv,my,Y9,bB,jr,r3]
   exact⟨by simp only[AV.strip,AV.bG,bg.ft];rfl,ho.get⟩
 |succ m=>
  have aA:(i:Int)<(V:Int):=by omega
  have k2:dC 1 (BS b)=true:=jT
  have k3:(BS b).drop n=BS (b.drop n):=wt
  have k4:List.take (b.length-n) (BS (b.drop n))=BS (b.drop n):=List.take_of_length_le (by rw[bM,List.length_drop];omega)
  have E6:=VJ ok (b:=b.drop n) (t:=oq t b.length n b.length) (h:=H) (by rw[List.length_drop];omega)
  have kB:=aj3 (b:=b.drop n)
  rw[List.length_drop] at kB
  unfold GG at E6
  rw[heq,rX]
  generalize hR:oD (b.drop n)=R at*
  obtain⟨s,k,e⟩:=R
  simp only at kB E6 ⊢
  have hw:IntKind.wrap .u64 ((i:Int)+1)=((i+1:Nat):Int):=by
   rw[show(i:Int)+1=((i+1:Nat):Int) by omega];exact fk (by omega)
  have hwn:IntKind.wrap .i64 ((n:Int)+(k:Int))=((n+k:Nat):Int):=by rw[bH]<;>omega
  simp+decide only[st,xv,my,OX,Hy,r0,r3,pf,Uw,aA,bM,hnb,k2,k3,k4]
  refine au E6 ?_
  by_cases he:e=0
  ·subst he
   obtain⟨v',h2b,a1,a2,a3,a4,a5,a6⟩:=ha.app ho (bytes:=24) (sz:=1) (id:=H.next) ho.next [[.vs (BS s) .ao]] bg.lz (by rw[bg.aS];simp only[List.length_singleton];omega) (by rw[bg.aS];simp only[List.length_singleton];omega)
   simp+decide only[st,xv,my,Hy,OW,Zd,Zc,r3,Uw,a1,hw,hwn]
   exact⟨m,by omega,a3,i+1,n+k,acc++[s],by omega,by omega,by simp[JO],by rw[heq,rX,hR];rfl,r0,rfl,pf,rfl,by rw[<-bg.oP];exact a2⟩
  ·have dI: ¬(e:Int)=0:=by omega
   simp+decide only[st,xv,my,Hy,OW,abO,bB,dI,he]
   exact⟨rfl,ho.get⟩
end
section
open Go
variable {P:Program}
def p9 (o:Ob):Bool:=d8 o.ak&&(dU o.ak.ps).length==0
theorem ai9 (ok:ax P tb) {o:Ob} {t:Nat->aH} {h:aa} (hl:o.ak.ok):an P 81 [.agg (o.c t)] h (.bool (p9 o)) h:=by
 refine ok.keeps (rf:=vV) rfl (Nat.le_of_ble_eq_true rfl) rfl ?_
 have ku:=hl.len
 simp+decide only[st,xv,vV,Dd,Dc,Ob.c]
 refine au (LM (l:=o.ak) (t:=t 0) ok hl) ?_
 unfold p9
 cases hm:d8 o.ak with
 |false=>
  simp+decide only[st,xv,vV,Dd,Dc]
  first|(intro b hb;first|(intros;omega)|(repeat(first|rw[if_neg (by omega)]|rw[if_pos (by omega)]));done)|(refine⟨rfl,?_⟩;intro b hb;first|(intros;omega)|(repeat(first|rw[if_neg (by omega)]|rw[if_pos (by omega)])))
 |true=>
  simp+decide only[st,xv,vV,Dd,Dc]
  refine au (Lk (l:=o.ak) (t:=t 0) ok (by omega)) ?_
  have e:decide (((dU o.ak.ps).length:Int)=0)=((dU o.ak.ps).length==0):=by rw[Bool.eq_iff_iff];simp
  simp+decide only[st,xv,vV,Dd,Dc,(aJ .u16).aS,e]
  first|(intro b hb;first|(intros;omega)|(repeat(first|rw[if_neg (by omega)]|rw[if_pos (by omega)]));done)|(refine⟨rfl,?_⟩;intro b hb;first|(intros;omega)|(repeat(first|rw[if_neg (by omega)]|rw[if_pos (by omega)])))
def m7 (o:Ob):Bool:=if o.kind=1 then decide (0<=o.used)&&decide (o.used<=o.bd)&&decide (o.bd<=400)&&decide (1<=o.next)&&decide (o.next<=64) else if o.kind=2 then decide (o.data.length<=64) else if o.kind=3 then jY o.bX else if o.kind=4 then jz o.ring else false
def fv (o:Ob):Bool:=dM o.id&&p9 o&&m7 o
theorem WW (ok:ax P tb) {o:Ob} {t:Nat->aH} {h:aa} (hl:o.ak.ok) (aL:o.id<2^64) (hc:o.bX.length<2^30) (hr:o.ring.length<2^30):an P 49 [.agg (o.c t)] h (.bool (fv o)) h:=by
 refine ok.keeps (rf:=je) rfl (Nat.le_of_ble_eq_true rfl) rfl ?_
 simp+decide only[st,xv,je,uZ,jZ,Ob.c]
 refine au (F4 ok aL) ?_
 unfold fv
 cases hm:dM o.id with
 |false=>
  simp+decide only[st,xv,je,jZ,s8]
  first|(intro b hb;first|(intros;omega)|(repeat(first|rw[if_neg (by omega)]|rw[if_pos (by omega)]));done)|(refine⟨rfl,?_⟩;intro b hb;first|(intros;omega)|(repeat(first|rw[if_neg (by omega)]|rw[if_pos (by omega)])))
 |true=>
  simp+decide only[st,xv,je,jZ]
  refine au (ai9 (t:=t) ok hl) ?_
  cases lU:p9 o with
  |false=>
   simp+decide only[st,xv,je,jZ,s8]
   first|(intro b hb;first|(intros;omega)|(repeat(first|rw[if_neg (by omega)]|rw[if_pos (by omega)]));done)|(refine⟨rfl,?_⟩;intro b hb;first|(intros;omega)|(repeat(first|rw[if_neg (by omega)]|rw[if_pos (by omega)])))
  |true=>
   unfold m7
   by_cases h1:o.kind=1
   ·by_cases a1:0<=o.used
    case neg=>
     simp+decide only[st,xv,je,jZ,nj,ni,ng,h1,a1]
     first|(intro b hb;first|(intros;omega)|(repeat(first|rw[if_neg (by omega)]|rw[if_pos (by omega)]));done)|(refine⟨rfl,?_⟩;intro b hb;first|(intros;omega)|(repeat(first|rw[if_neg (by omega)]|rw[if_pos (by omega)])))
    by_cases a2:o.used<=o.bd
    case neg=>
     simp+decide only[st,xv,je,jZ,nj,ni,ng,h1,a1,a2]
     first|(intro b hb;first|(intros;omega)|(repeat(first|rw[if_neg (by omega)]|rw[if_pos (by omega)]));done)|(refine⟨rfl,?_⟩;intro b hb;first|(intros;omega)|(repeat(first|rw[if_neg (by omega)]|rw[if_pos (by omega)])))
    by_cases a3:o.bd<=400
    case neg=>
     simp+decide only[st,xv,je,jZ,nj,ni,ng,h1,a1,a2,a3]
     first|(intro b hb;first|(intros;omega)|(repeat(first|rw[if_neg (by omega)]|rw[if_pos (by omega)]));done)|(refine⟨rfl,?_⟩;intro b hb;first|(intros;omega)|(repeat(first|rw[if_neg (by omega)]|rw[if_pos (by omega)])))
    by_cases a4:1<=o.next
    case neg=>
     simp+decide only[st,xv,je,jZ,nj,ni,ng,h1,a1,a2,a3,a4]
     first|(intro b hb;first|(intros;omega)|(repeat(first|rw[if_neg (by omega)]|rw[if_pos (by omega)]));done)|(refine⟨rfl,?_⟩;intro b hb;first|(intros;omega)|(repeat(first|rw[if_neg (by omega)]|rw[if_pos (by omega)])))
    by_cases a5:o.next<=64
    case neg=>
     simp+decide only[st,xv,je,jZ,nj,ni,ng,h1,a1,a2,a3,a4,a5]
     first|(intro b hb;first|(intros;omega)|(repeat(first|rw[if_neg (by omega)]|rw[if_pos (by omega)]));done)|(refine⟨rfl,?_⟩;intro b hb;first|(intros;omega)|(repeat(first|rw[if_neg (by omega)]|rw[if_pos (by omega)])))
    simp+decide only[st,xv,je,jZ,nj,ni,ng,h1,a1,a2,a3,a4,a5]
    first|(intro b hb;first|(intros;omega)|(repeat(first|rw[if_neg (by omega)]|rw[if_pos (by omega)]));done)|(refine⟨rfl,?_⟩;intro b hb;first|(intros;omega)|(repeat(first|rw[if_neg (by omega)]|rw[if_pos (by omega)])))
   by_cases h2:o.kind=2
   ·have e:decide ((o.data.length:Int)<=64)=decide (o.data.length<=64):=by rw[decide_eq_decide];omega
    simp+decide only[st,xv,je,uZ,jZ,s8,nj,ni,ng,xk,xj,xh,xg,wI,wH,wG,h2,bM,e]
    first|(intro b hb;first|(intros;omega)|(repeat(first|rw[if_neg (by omega)]|rw[if_pos (by omega)]));done)|(refine⟨rfl,?_⟩;intro b hb;first|(intros;omega)|(repeat(first|rw[if_neg (by omega)]|rw[if_pos (by omega)])))
   by_cases h3:o.kind=3
   ·simp+decide only[st,xv,je,uZ,jZ,s8,nj,ni,ng,xk,xj,xh,xg,wI,wH,wG,h3]
    refine au (Xe ok hc) ?_
    simp+decide only[st,xv,je,uZ,jZ,s8,nj,ni,ng,xk,xj,xh,xg,wI,wH,wG]
    first|(intro b hb;first|(intros;omega)|(repeat(first|rw[if_neg (by omega)]|rw[if_pos (by omega)]));done)|(refine⟨rfl,?_⟩;intro b hb;first|(intros;omega)|(repeat(first|rw[if_neg (by omega)]|rw[if_pos (by omega)])))
   by_cases h4:o.kind=4
   ·simp+decide only[st,xv,je,uZ,jZ,s8,nj,ni,ng,xk,xj,xh,xg,wI,wH,wG,h4]
    refine au (WR ok hr) ?_
    simp+decide only[st,xv,je,uZ,jZ,s8,nj,ni,ng,xk,xj,xh,xg,wI,wH,wG]
    first|(intro b hb;first|(intros;omega)|(repeat(first|rw[if_neg (by omega)]|rw[if_pos (by omega)]));done)|(refine⟨rfl,?_⟩;intro b hb;first|(intros;omega)|(repeat(first|rw[if_neg (by omega)]|rw[if_pos (by omega)])))
   simp+decide only[st,xv,je,uZ,jZ,s8,nj,ni,ng,xk,xj,xh,xg,wI,wH,wG,h1,h2,h3,h4]
   first|(intro b hb;first|(intros;omega)|(repeat(first|rw[if_neg (by omega)]|rw[if_pos (by omega)]));done)|(refine⟨rfl,?_⟩;intro b hb;first|(intros;omega)|(repeat(first|rw[if_neg (by omega)]|rw[if_pos (by omega)])))
end
section
open Go
variable {P:Program}
theorem yJ {c:aW} {K:aP->Env->aa->Prop} {ρ:Env} {h:aa} (hw:WP P c (jl (fun ρ' h'=>WP P (.loop c) K ρ' h') K) ρ h):WP P (.loop c) K ρ h:=by
 obtain⟨e,ρ',h',hb,hk⟩:=hw
 cases e with
 |normal=>
  obtain⟨e2,ρ2,h2,ch,kS⟩:=hk
  exact⟨_,_,_, .loop hb ch,kS⟩
 |exit id=>exact⟨_,_,_, .rA hb (by simp),hk⟩
 |goto l=>exact⟨_,_,_, .rA hb (by simp),hk⟩
 |ret=>exact⟨_,_,_, .rA hb (by simp),hk⟩
theorem amJ {k:Nat->Option (Env->aa->Prop)} {K:aP->Env->aa->Prop} {ρ:Env} {h:aa}:qo k K .ret ρ h=K .ret ρ h:=rfl
theorem ajr {k:Nat->Option (Env->aa->Prop)} {K:aP->Env->aa->Prop} {ρ:Env} {h:aa}:qo k K .normal ρ h=K .normal ρ h:=rfl
theorem alH {k:Nat->Option (Env->aa->Prop)} {K:aP->Env->aa->Prop} {ρ:Env} {h:aa} {i:Nat}:qo k K (.exit i) ρ h=K (.exit i) ρ h:=rfl
set_option linter.defProp false in
def xi:=And.intro @amJ<|And.intro @ajr @alH
theorem alG {body rest:aW} {K:aP->Env->aa->Prop} {ρ:Env} {h:aa} {l:Nat} (hf:fZ body l=some rest) (hw:WP P (.inScope body rest) K ρ h):qo (fun l=>(fZ body l).map fun rest=>WP P (.inScope body rest) K) K (.goto l) ρ h:=by
 show(match(fZ body l).map fun rest=>WP P (.inScope body rest) K with|some k=>k ρ h|none=>K (.goto l) ρ h)
 rw[hf];exact hw
theorem an.ao {f:Nat} {args:List AV} {h h':aa} {r:AV} (hc:an P f (AV.bG args) h r h'):an P f args h r h':=by
 refine hc.D9 Bm fun i a b ha hb=>?_
 obtain⟨u,hu,rfl⟩:=yF ha
 rw[hb] at hu;cases hu
 exact .inr (.inr (.inr rfl))
theorem aq3 {α:Type} {a v:α} {l:List α}:(a::l).set 0 v=v::l:=rfl
theorem aq2 {α:Type} {a v:α} {l:List α} {n:Nat}:(a::l).set (n+1) v=a::l.set n v:=rfl
theorem au0 {α:Type} {z:α}:List.replicate 3 z=[z,z,z]:=rfl
theorem auZ {α:Type} {z:α}:List.replicate 4 z=[z,z,z,z]:=rfl
theorem wr1:IntKind.wrap .i64 (0+1)=1:=rfl
theorem wr2:IntKind.wrap .i64 (1+1)=2:=rfl
theorem wr3:IntKind.wrap .i64 (2+1)=3:=rfl
theorem tn1:Int.toNat 1=1:=rfl
theorem tn2:Int.toNat 2=2:=rfl
theorem au9 {n:Nat}:(1<=n+1)=True:=eq_true (by omega)
theorem asL {h:aa} {b:Nat} {x y:Option cI}:(h.set b x).set b y=h.set b y:=by
 unfold aa.set;congr 1;funext i;by_cases e:i=b<;>simp[e]
theorem nz1 {n:Nat}:(((n+1:Nat):Int)=0)=False:=eq_false (by omega)
set_option linter.defProp false in
def xr:=And.intro @aq3<|And.intro @aq2<|And.intro @au0<|And.intro @auZ<|And.intro wr1<|And.intro wr2<|And.intro wr3<|And.intro tn1<|And.intro tn2<|And.intro @au9<|And.intro @asL @nz1
theorem akV {l:List UInt8} {t:aH}:(AV.vs (BS l) t).strip= .vs (BS l) .ao:=gJ.kE
theorem Un {α:Type} {f:α->List UInt8} {k:Nat} (hf: ∀a,(f a).length=k) {r:List UInt8}: ∀{l:List α} {i:Nat} (hi:i<l.length),(l.flatMap f++r).drop (k*i)=f l[i]++((l.drop (i+1)).flatMap f++r)
 |[],i,hi=>by simp at hi
 |a::l,0,hi=>by simp
 |a::l,i+1,hi=>by
  have ih:=Un hf (r:=r) (l:=l) (i:=i) (by simpa using hi)
  rw[List.flatMap_cons,List.append_assoc,List.drop_append,List.drop_of_length_le (by rw[hf,Nat.mul_add];omega),List.nil_append,hf,show k*(i+1)-k=k*i by rw[Nat.mul_add];omega,ih];rfl
theorem wE {v n:Nat} (h:v<256^n):de (be v n)=v:=by rw[as7,Nat.mod_eq_of_lt h]
theorem ou {α:Type} {l m:List α} {n:Nat} (h:l.length=n):(l++m).take n=l:=by rw[List.take_append_of_le_length (by omega),List.take_of_length_le (by omega)]
theorem sN {α:Type} {l m:List α} {n:Nat} (h:l.length=n):(l++m).drop n=m:=by rw[List.drop_append,List.drop_of_length_le (by omega),h,Nat.sub_self];simp
theorem PC {v:Nat} (h:v<256):(UInt8.ofNat v).toNat=v:=by simp;omega
theorem de1 {b:UInt8}:de [b]=b.toNat:=by simp[de]
theorem ak7 {l:Lb} {r:List UInt8} (hp: ∀p∈l.ps,p.1<65536/\p.2<256):jb (b9 l++r) l.ps.length=l.ps:=by
 refine List.ext_getElem (by simp[GD]) fun i h1 h2=>?_
 have hb:=hp _ (List.getElem_mem h2)
 have e:(b9 l++r).drop (2+3*i)=i4 l.ps[i]++((l.ps.drop (i+1)).flatMap i4++r):=by
  rw[<-List.drop_drop]
  have:(b9 l++r).drop 2=l.ps.flatMap i4++r:=by unfold b9;rw[List.append_assoc];exact sN (by simp[bO])
  rw[this]
  exact Un (fun a=>by simp[i4,bO]) h2
 have e2:(b9 l++r).getD (4+3*i) 0=UInt8.ofNat l.ps[i].2:=by
  have h3:(b9 l++r).getD (4+3*i) 0=((b9 l++r).drop (2+3*i)).getD 2 0:=by
   rw[List.getD_eq_getElem?_getD,List.getD_eq_getElem?_getD,List.getElem?_drop,show 2+3*i+2=4+3*i by omega]
  rw[h3,e]
  simp[i4,be,pL,Nat.mod_eq_of_lt hb.2]
 simp only[jb,List.getElem_map,List.getElem_range,e,e2]
 refine Prod.ext ?_ (PC hb.2)
 show de _=_
 unfold i4
 rw[List.append_assoc,ou bO,wE (by omega)]
theorem aj1 {l:Lb} {r:List UInt8} (hm:d8 l=true) (hp: ∀p∈l.ps,p.1<65536/\p.2<256):p6 (b9 l++r)=(l,(b9 l).length,0):=by
 have hl:l.d<=4/\l.ps.length<=16:=by
  unfold d8 at hm;simp only[Bool.and_eq_true,decide_eq_true_eq] at hm;omega
 have h0:(b9 l++r).getD 0 0=UInt8.ofNat l.d:=by
  simp[b9,be,pL,Nat.mod_eq_of_lt (show l.d<256 by omega)]
 have h1:(b9 l++r).getD 1 0=UInt8.ofNat l.ps.length:=by
  simp[b9,be,pL,Nat.mod_eq_of_lt (show l.ps.length<256 by omega)]
 have hlen:=By (l:=l)
 unfold p6
 rw[h0,h1,PC (show l.d<256 by omega),PC (show l.ps.length<256 by omega),if_neg (by rw[List.length_append];omega),if_neg (by rw[List.length_append];omega),ak7 hp]
 rw[if_pos hm,hlen]
theorem VL {s r:List UInt8} (hs:s.length<65536):oD (cP s++r)=(s,(cP s).length,0):=by
 have h0:(cP s++r).take 2=be s.length 2:=by unfold cP;rw[List.append_assoc];exact ou bO
 have h1:(cP s++r).drop 2=s++r:=by unfold cP;rw[List.append_assoc];exact sN bO
 have hl:(cP s++r).length=2+s.length+r.length:=by simp[cP,bO,Nat.add_assoc]
 unfold oD
 rw[h0,h1,hl,wE (by omega),if_neg (by omega),if_neg (by omega),ou rfl]
 simp[cP,bO]
theorem aj2 {l:List Nat} {r:List UInt8} (hc: ∀c∈l,c<65536):pc (jx l++r) l.length=l:=by
 refine List.ext_getElem (by simp[GF]) fun i h1 h2=>?_
 have hb:=hc _ (List.getElem_mem h2)
 have e:(jx l++r).drop (1+2*i)=be l[i] 2++((l.drop (i+1)).flatMap (fun c=>be c 2)++r):=by
  rw[<-List.drop_drop]
  have:(jx l++r).drop 1=l.flatMap (fun c=>be c 2)++r:=by unfold jx;rw[List.append_assoc];exact sN bO
  rw[this]
  exact Un (fun a=>bO) h2
 simp only[pc,List.getElem_map,List.getElem_range,e]
 rw[ou bO,wE (by omega)]
theorem ZM {α:Type} {f:α->List UInt8} {k:Nat} (hf: ∀a,(f a).length=k): ∀{l:List α},(l.flatMap f).length=k*l.length
 |[]=>by simp
 |a::l=>by rw[List.flatMap_cons,List.length_append,hf,ZM hf,List.length_cons,Nat.mul_add];omega
theorem Br {l:List Nat}:(jx l).length=1+2*l.length:=by
 unfold jx
 rw[List.length_append,bO,ZM (k:=2) (fun a=>bO)]
theorem aie {l:List Nat} {r:List UInt8} (hm:jY l=true) (hc: ∀c∈l,c<65536):HX (jx l++r)=(l,(jx l).length,0):=by
 have hl:l.length<=16:=by unfold jY at hm;simp only[Bool.and_eq_true,decide_eq_true_eq] at hm;omega
 have h0:(jx l++r).take 1=be l.length 1:=by unfold jx;rw[List.append_assoc];exact ou bO
 have h1:(jx l++r).length=1+2*l.length+r.length:=by rw[List.length_append,Br]
 unfold HX
 rw[h0,h1,wE (by omega),if_neg (by omega),if_neg (by omega),aj2 hc,if_pos hm,Br]
theorem Xi {r:List UInt8}: ∀{m done:List (List UInt8)} {b:List UInt8} {n:Nat},b.drop n=m.flatMap cP++r->(∀x∈m,x.length<65536)->jz (done++m)=true->rX b m.length n done=(done++m,n+(m.flatMap cP).length,0)
 |[],done,b,n,hb,_,hm=>by simp only[List.append_nil] at hm;simp[rX,hm]
 |x::m,done,b,n,hb,hx,hm=>by
  have UN:=hx x (List.mem_cons_self ..)
  have ht:oD (b.drop n)=(x,(cP x).length,0):=by rw[hb,List.flatMap_cons,List.append_assoc];exact VL UN
  have:=Xi (r:=r) (m:=m) (done:=done++[x]) (b:=b) (n:=n+(cP x).length) (by rw[<-List.drop_drop,hb,List.flatMap_cons,List.append_assoc,sN rfl]) (fun y hy=>hx y (List.mem_cons_of_mem _ hy)) (by simpa using hm)
  rw[List.length_cons,rX,ht]
  simp only[if_true]
  rw[this];simp[Nat.add_assoc]
theorem aid {l:List (List UInt8)} {r:List UInt8} (hm:jz l=true) (hs: ∀x∈l,x.length<65536):HW (iZ l++r)=(l,(iZ l).length,0):=by
 have hl:l.length<=4:=by unfold jz at hm;simp only[Bool.and_eq_true,decide_eq_true_eq] at hm;exact hm.1
 have h0:(iZ l++r).take 1=be l.length 1:=by unfold iZ;rw[List.append_assoc];exact ou bO
 have h1:(iZ l++r).drop 1=l.flatMap cP++r:=by unfold iZ;rw[List.append_assoc];exact sN bO
 have h2: ¬(iZ l++r).length<1:=by simp[iZ,bO]
 unfold HW
 rw[if_neg h2,h0,wE (by omega),Xi (r:=r) h1 hs (by simpa using hm)]
 simp[iZ,bO]
end
section
open Go
variable {P:Program}
def jV (o:Ob):List UInt8:=if o.kind=1 then be o.bd.toNat 2++be o.used.toNat 2++be o.next.toNat 2 else if o.kind=2 then cP o.data else if o.kind=3 then jx o.bX else iZ o.ring
def gG (o:Ob):List UInt8:=[1,UInt8.ofNat o.kind.toNat]++be o.id 8++b9 o.ak++jV o
theorem uh {o:Ob} (h:fv o=true):o.kind=1\/o.kind=2\/o.kind=3\/o.kind=4:=by
 unfold fv m7 at h
 by_cases h1:o.kind=1
 ·exact .inl h1
 by_cases h2:o.kind=2
 ·exact .inr (.inl h2)
 by_cases h3:o.kind=3
 ·exact .inr (.inr (.inl h3))
 by_cases h4:o.kind=4
 ·exact .inr (.inr (.inr h4))
 simp[h1,h2,h3,h4] at h
theorem LS {o:Ob} (h:fv o=true):d8 o.ak=true/\dU o.ak.ps=[]/\dM o.id=true:=by
 unfold fv p9 at h
 simp only[Bool.and_eq_true,beq_iff_eq,List.length_eq_zero_iff] at h
 exact⟨h.1.2.1,h.1.2.2,h.1.1⟩
theorem Gv {l:Lb} (h:d8 l=true):l.ps.length<=16:=by
 unfold d8 at h;simp only[Bool.and_eq_true,decide_eq_true_eq] at h;omega
theorem uk {o:Ob} (h:fv o=true) (h1:o.kind=1):0<=o.used/\o.used<=o.bd/\o.bd<=400/\1<=o.next/\o.next<=64:=by
 unfold fv m7 at h
 rw[if_pos h1] at h
 simp only[Bool.and_eq_true,decide_eq_true_eq] at h
 obtain⟨_,⟨⟨⟨a,b⟩,c⟩,d⟩,e⟩:=h
 exact⟨a,b,c,d,e⟩
theorem sM {o:Ob} (h:fv o=true) (h1:o.kind=2):o.data.length<=64:=by
 unfold fv m7 at h
 rw[if_neg (by omega),if_pos h1] at h
 simp only[Bool.and_eq_true,decide_eq_true_eq] at h
 exact h.2
theorem Ge {o:Ob} (h:fv o=true) (h1:o.kind=3):jY o.bX=true:=by
 unfold fv m7 at h
 rw[if_neg (by omega),if_neg (by omega),if_pos h1] at h
 simp only[Bool.and_eq_true,decide_eq_true_eq] at h
 exact h.2
theorem yM {o:Ob} (h:fv o=true) (h1:o.kind=4):jz o.ring=true:=by
 unfold fv m7 at h
 rw[if_neg (by omega),if_neg (by omega),if_neg (by omega),if_pos h1] at h
 simp only[Bool.and_eq_true,decide_eq_true_eq] at h
 exact h.2
theorem Gy {l:List Nat} (h:jY l=true):l.length<=16:=by
 unfold jY at h;simp only[Bool.and_eq_true,decide_eq_true_eq] at h;exact h.1
theorem wb {l:List (List UInt8)} (h:jz l=true):l.length<=4/\ ∀x∈l,x.length<=16:=by
 unfold jz at h;simp only[Bool.and_eq_true,decide_eq_true_eq,Bool.not_eq_true',List.any_eq_false] at h
 exact⟨h.1,fun x hx=>by have:=h.2 x hx;omega⟩
structure JS (o:Ob):Prop where
 ak:o.ak.ok
 id:o.id<2^64
 bX:o.bX.length<2^20
 ring:o.ring.length<2^20
 cat: ∀c∈o.bX,c<65536
def wX (o:Ob):AV:= .ay (if fv o then [.vs (BS (gG o)) .ao, .int .i64 0] else [.vs [] .ao, .int .i64 1])
theorem WX (ok:ax P tb) {o:Ob} {t:Nat->aH} {h:aa} (k:JS o):an P 34 [.agg (o.c t)] h (wX o) h:=by
 refine an.ao ?_
 rw[show AV.bG [.agg (o.c t)]=[.agg (o.c aK)] by simp only[AV.bG,Mw]]
 refine ok.eH (rf:=gP) rfl (Nat.le_of_ble_eq_true rfl) (by unfold wX;split<;>simp only[AV.bD,AV.cf,uw]<;>rfl) ?_
 simp+decide only[st,xv,gP,afF,Ob.c]
 obtain⟨X,hX⟩: ∃X,X=h.at h.next (.cells (o.c aK)):=⟨_,rfl⟩
 have xo:Old h X:=by subst hX;exact(Old.refl h).at (Nat.le_refl _)
 have x1:cellsOf X h.next=some (o.c aK):=by subst hX;exact av (by simp[aa.at])
 have xn:h.next<X.next:=by subst hX;simp[aa.at]
 have hX':=hX
 simp only[Ob.c] at hX' x1
 rw[<-hX']
 simp+decide only[st,xv,gP,Je,x1]
 refine au (WW (o:=o) (t:=aK) ok k.ak k.id (by have:=k.bX;omega) (by have:=k.ring;omega)) ?_
 unfold wX
 cases hm:fv o with
 |false=>
  simp+decide only[st,xv,gP,Je,afE,bB]
  exact⟨rfl,xo.get⟩
 |true=>
  obtain⟨kk,hk,vL,AK⟩: ∃kk:UInt8,o.kind=kk.toNat/\1<=kk.toNat/\kk.toNat<=4:=by
   rcases uh hm with h|h|h|h<;>rw[h]
   ·exact⟨1,rfl,by decide⟩
   ·exact⟨2,rfl,by decide⟩
   ·exact⟨3,rfl,by decide⟩
   ·exact⟨4,rfl,by decide⟩
  obtain⟨m1,m2,m3⟩:=LS hm
  have ku:=Gv m1
  have ir:=By (l:=o.ak)
  have w1:IntKind.wrap .u8 o.kind=kk.toNat:=by rw[hk,wrap_u8];unfold vB;simp;omega
  have x2: ∀k,cellsOf (X.clean k) h.next=some (o.c aK):=fun k=>by simp only[Ob.c];simp+decide only[st,xv,x1,xn]
  simp only[Ob.c] at x2
  simp+decide only[st,xv,gP,Je]
  refine ur ?_
  simp+decide only[st,xv,gP,afD,x1,xn,w1]
  refine hP (mW ok (b:=[1,kk]) (v:=o.id) (n:=8) k.id (by omega) (by simp)) (cO (Nat.le_refl _)) ?_
  simp+decide only[st,xv,x1,xn]
  refine hP (F5 ok (b:=[1,kk]++be o.id 8) (l:=o.ak) (t':= .ao) k.ak (by simp[bO])) (cO (Nat.le_refl _)) ?_
  simp+decide only[st,xv,x1,xn]
  generalize hρ:put _ _ _=ρ1
  have r1:ρ1 1= .ptr h.next 0:=by rw[<-hρ];rfl
  obtain⟨B0,Vr⟩: ∃B0,B0=[1,kk]++be o.id 8++b9 o.ak:=⟨_,rfl⟩
  have r4:ρ1 4= .vs (BS B0) .ao:=by rw[<-hρ,Vr];rfl
  have pn:UInt8.ofNat o.kind.toNat=kk:=by rw[hk];simp
  have hhl:B0.length<=70:=by rw[Vr];simp only[List.length_append,bO,List.length_cons,List.length_nil];omega
  have fin: ∀{ρ:Env} {H:aa} {tl:List UInt8},Old h H->ρ 4= .vs (BS (B0++tl)) .ao->jV o=tl->exec P Nl ρ H (jl (WP P .ret (uJ [.tmp 2, .tmp 3] (.ay [.vs (BS (gG o)) .ao, .int .i64 0]) h)) (uJ [.tmp 2, .tmp 3] (.ay [.vs (BS (gG o)) .ao, .int .i64 0]) h) .normal):=by
   intro ρ H tl ho h4 ht
   simp+decide only[st,xv,gP,Nl,h4,bB]
   rw[show gG o=B0++tl by rw[Vr,<-ht,<-pn];rfl]
   exact⟨by simp only[AV.strip,AV.bG,jQ],ho.get⟩
  simp+decide only[st,xv,gP,z5,x2,r1]
  by_cases h1:o.kind=1
  ·obtain⟨b1,b2,b3,b4,b5⟩:=uk hm h1
   obtain⟨q,hq⟩:=Int.eq_ofNat_of_zero_le (show 0<=o.bd by omega)
   obtain⟨u,hu⟩:=Int.eq_ofNat_of_zero_le (show 0<=o.used by omega)
   obtain⟨n,hn⟩:=Int.eq_ofNat_of_zero_le (show 0<=o.next by omega)
   have w2:IntKind.wrap .u64 o.bd=q:=by rw[hq];exact fk (by omega)
   have w3:IntKind.wrap .u64 o.used=u:=by rw[hu];exact fk (by omega)
   have w4:IntKind.wrap .u64 o.next=n:=by rw[hn];exact fk (by omega)
   simp+decide only[st,xv,gP,z5,D4,afC,x2,r1,h1,xr]
   refine yJ ?_
   simp+decide only[st,xv,gP,D3,Jd,xq,wK,r4,w2,xr]
   refine au (mW ok (v:=q) (n:=2) (by omega) (by omega) (by omega)) ?_
   simp+decide only[st,xv,gP,xq,wK,xr]
   refine yJ ?_
   simp+decide only[st,xv,gP,D3,Jd,xq,wK,r4,w3,xr]
   refine au (mW ok (b:=B0++be q 2) (v:=u) (n:=2) (by omega) (by omega) (by simp[bO];omega)) ?_
   simp+decide only[st,xv,gP,xq,wK,xr]
   refine yJ ?_
   simp+decide only[st,xv,gP,D3,Jd,xq,wK,r4,w4,xr]
   refine au (mW ok (b:=B0++be q 2++be u 2) (v:=n) (n:=2) (by omega) (by omega) (by simp[bO];omega)) ?_
   simp+decide only[st,xv,gP,xq,wK,xr]
   refine yJ ?_
   simp+decide only[st,xv,gP,D3,xr]
   refine fin (tl:=jV o) ?_ ?_ rfl
   ·exact xo.clean
   ·unfold jV
    rw[if_pos h1,hq,hu,hn]
    show AV.vs (BS (B0++be q 2++be u 2++be n 2)) .ao=_
    simp
  by_cases h2:o.kind=2
  ·have hd:=sM hm h2
   simp+decide only[st,xv,gP,z5,D4,Hc,Np,x2,r1,r4,h2]
   refine au (KW ok (by omega) (by omega)) ?_
   simp+decide only[st,xv,gP,Np]
   refine fin (tl:=jV o) xo.clean ?_ rfl
   unfold jV
   rw[if_neg h1,if_pos h2];rfl
  by_cases h3:o.kind=3
  ·simp+decide only[st,xv,gP,z5,D4,Hc,No,Nn,x2,r1,r4,h3]
   refine au (ajF ok k.cat (by have:=k.bX;omega) (by omega)) ?_
   simp+decide only[st,xv,gP,Nn]
   refine fin (tl:=jV o) xo.clean ?_ rfl
   unfold jV
   rw[if_neg h1,if_neg h2,if_pos h3];rfl
  have h4:o.kind=4:=by rcases uh hm with h|h|h|h<;>first|exact absurd h ‹_› |exact h
  have hr:=wb (yM hm h4)
  simp+decide only[st,xv,gP,z5,D4,Hc,No,Nm,x2,r1,r4,h4]
  refine au (ai6 ok (fun x hx=>by have:=hr.2 x hx;omega) (by omega) (by omega)) ?_
  simp+decide only[st,xv,gP,Nm]
  refine fin (tl:=jV o) xo.clean ?_ rfl
  unfold jV
  rw[if_neg h1,if_neg h2,if_neg h3];rfl
end
section
open Go
variable {P:Program}
theorem auQ {b:List UInt8} {n:Nat}:List.take (b.length-n) (BS (b.drop n))=BS (b.drop n):=List.take_of_length_le (by rw[bM,List.length_drop];omega)
theorem Jz (ok:ax P tb) {rb n:Nat} {b:List UInt8} {os:List AV} {h:aa} (hg:cellsOf h rb=some (.vs (BS b) .ao::os)) (hn:n<=8) (hl:n<=b.length) (hb:b.length<2^20):
 an P 122 [.ptr rb 0, .int .i64 n] h (.ay [.int .u64 (de (b.take n)), .int .i64 0]) (h.set rb (some (.cells (.vs (BS (b.drop n)) .ao::os)))):=by
 refine ok.calls (rf:=As) rfl (Nat.le_of_ble_eq_true rfl) ?_
 have ht:=yI ok (b:=b) (t:= .ao) (n:=n) (h:=h) hn (by omega)
 rw[if_neg (by omega)] at ht
 have k2:dC 1 (BS b)=true:=jT
 simp+decide only[st,xv,As,O9,O8,hg]
 refine au ht ?_
 simp+decide only[st,xv,As,O9,O8,ab9,ab8,ab7,ab6,hg,bM,hl,k2,wt,auQ,xr]
structure fC (rb:Nat) (h h':aa) (cs:List AV):Prop where
 cell:cellsOf h' rb=some cs
 next:h.next<=h'.next
 old: ∀x,x<h.next->x≠rb->h'.get x=h.get x
theorem fC.set {rb:Nat} {h:aa} {cs:List AV}:fC rb h (h.set rb (some (.cells cs))) cs:=⟨av (by simp[aa.set]),Nat.le_refl _,fun x _ hx=>by simp[aa.set,hx]⟩
theorem fC.trans {rb:Nat} {h h1 h2:aa} {cs ds:List AV} (a:fC rb h h1 cs) (b:fC rb h1 h2 ds):fC rb h h2 ds:=⟨b.cell,Nat.le_trans a.next b.next,fun x h1 h2=>by rw[b.old x (Nat.lt_of_lt_of_le h1 a.next) h2,a.old x h1 h2]⟩
theorem fC.clean {rb:Nat} {h h1:aa} {cs:List AV} {n:Nat} (a:fC rb h h1 cs) (hr:rb<h.next):fC rb h (h1.clean n) cs:=⟨by have:=a.cell;have:=a.next;simp+decide only[st,xv,a.cell,show rb<h1.next by omega],Nat.le_trans a.next (by simp[aa.clean]),fun x h1 h2=>by have:=a.next;simp only[aa.clean];rw[if_pos (by omega)];exact a.old x h1 h2⟩
def gj (a b c d:aH):Nat->aH:=fun i=>if i=0 then a else if i=4 then b else if i=5 then c else if i=6 then d else .full
theorem aq5 (ok:ax P tb) {rb id:Nat} {k:UInt8} {l:Lb} {r:List UInt8} {h:aa} (hg:cellsOf h rb=some (.vs (BS ([1,k]++be id 8++b9 l++r)) .ao::bf.c (gj .full .full .full .full)))
 (aL:id<2^64) (hk:1<=k.toNat/\k.toNat<=4) (hm:d8 l=true) (hl:l.ok) (hr:r.length<2^18):
 ∃h',an P 76 [.ptr rb 0] h (.int .i64 0) h'/\fC rb h h' (.vs (BS r) .ao::Ob.c {bf with id:=id,kind:=k.toNat,ak:=l} (gj .ao .full .full .full)):=by
 refine ok.dT (rf:=t4) rfl (Nat.le_of_ble_eq_true rfl) ?_
 have ku:=Gv hm
 have ir:=By (l:=l)
 have hlen:([1,k]++be id 8++b9 l++r).length=12+3*l.ps.length+r.length:=by simp[bO,ir];omega
 generalize vP:[1,k]++be id 8++b9 l++r=b0 at hg hlen
 have e0:b0=1::(k::(be id 8++(b9 l++r))):=by rw[<-vP];simp
 simp+decide only[st,xv,t4,adR,adQ,adP,QG]
 refine au (Jz ok hg (n:=1) (by omega) (by omega) (by omega)) ?_
 have d1:de (b0.take 1)=1:=by rw[e0];rfl
 have d2:b0.drop 1=k::(be id 8++(b9 l++r)):=by rw[e0];rfl
 simp+decide only[st,xv,t4,QG,adO,adN,QF,d1,d2]
 refine au (Jz ok (rb:=rb) (b:=k::(be id 8++(b9 l++r))) (os:=bf.c (gj .full .full .full .full)) (av (by simp[aa.set])) (n:=1) (by omega) (by simp) (by rw[e0,List.length_cons] at hlen;omega)) ?_
 have d3:de [k]=k.toNat:=de1
 have w1:IntKind.wrap .i64 (k.toNat:Int)=k.toNat:=bH (by omega) (by omega)
 have k1: ¬((k.toNat:Int)<1):=by omega
 have k4: ¬((4:Int)<k.toNat):=by omega
 simp+decide only[st,xv,t4,QF,adM,Z5,Z4,MT,d3,w1,k1,k4,bf,Ob.c,gj,qk,xr]
 refine au (Jz ok (rb:=rb) (b:=be id 8++(b9 l++r)) (os:=Ob.c {bf with kind:=k.toNat} (gj .full .full .full .full)) (av (by simp[aa.set];rfl)) (n:=8) (by omega) (by simp[bO]) (by simp[bO,ir];omega)) ?_
 rw[ou bO,sN bO,wE (by omega)]
 simp+decide only[st,xv,t4,MT,Z3,MQ,bf,Ob.c,gj,qk,xr]
 refine au (ais ok (b:=b9 l++r) (t:= .ao) (by simp[ir];omega)) ?_
 rw[aj1 hm hl.ps]
 have k2:dC 1 (BS (b9 l++r))=true:=jT
 have k3:(BS (b9 l++r)).drop (b9 l).length=BS r:=by rw[wt,sN rfl]
 have k5:(b9 l).length<=(b9 l++r).length:=by simp
 have k6:List.take ((b9 l++r).length-(b9 l).length) (BS r)=BS r:=List.take_of_length_le (by simp[bM])
 simp+decide only[st,xv,t4,MQ,Z0,ZZ,ZY,PD,Lb.c,bf,Ob.c,gj,qk,xr,bM,k2,k3,k5,k6]
 exact⟨rfl,fC.set⟩
def ub (q u n:Nat) (o:Ob):Nat->List UInt8×Ob
 |0=>([],{o with bd:=q,used:=u,next:=n})
 |1=>(be n 2,{o with bd:=q,used:=u})
 |2=>(be u 2++be n 2,{o with bd:=q})
 |_=>(be q 2++(be u 2++be n 2),o)
def bxP (rb:Nat):Nat->List (List AV)
 |0=>[]
 |1=>[[.ptr rb 10]]
 |2=>[[.ptr rb 9],[.ptr rb 10]]
 |_=>[[.ptr rb 8],[.ptr rb 9],[.ptr rb 10]]
theorem au1 (ok:ax P tb) {rb q u n:Nat} {o:Ob} {t:Nat->aH} {h:aa} (hg:cellsOf h rb=some (.vs (BS (be q 2++(be u 2++be n 2))) .ao::o.c t)) (Kc:rb<h.next) (hq:q<2^16) (hu:u<2^16) (hn:n<2^16):
 ∃h',an P 124 [.ptr rb 0] h (.int .i64 0) h'/\fC rb h h' (.vs (BS []) .ao::Ob.c {o with bd:=q,used:=u,next:=n} t):=by
 refine ok.dT (rf:=rS) rfl (Nat.le_of_ble_eq_true rfl) ?_
 have w1:IntKind.wrap .i64 (q:Int)=q:=bH (by omega) (by omega)
 have w2:IntKind.wrap .i64 (u:Int)=u:=bH (by omega) (by omega)
 have w3:IntKind.wrap .i64 (n:Int)=n:=bH (by omega) (by omega)
 simp+decide only[st,xv,rS,abY]
 let J:Nat->Env->aa->Prop:=fun m ρ H=>m<=3/\ρ 0= .ptr rb 0/\(∃t',ρ 3= .vs (bxP rb m) t')/\fC rb h H (.vs (BS (ub q u n o m).1) .ao::(ub q u n o m).2.c t)
 refine l8 0 rfl rfl J (fun l' ρ h hk=>hk) ?_ ?_
 ·simp+decide only[st,xv,j8,List.foldr]
  refine bU 14 rfl rfl ?_
  simp+decide only[st,xv,rS,abX,xr]
  exact⟨3,Nat.le_refl _,rfl,⟨_,rfl⟩,fC.clean ⟨hg,Nat.le_refl _,fun _ _ _=>rfl⟩ Kc⟩
 have step: ∀{x:Nat} {bs:List UInt8} {rest:List (List AV)} {off:Nat} {t':aH} {ρ:Env} {H:aa} {cs ds:List AV} {K:aP->Env->aa->Prop},x<2^16->ρ 0= .ptr rb 0->ρ 3= .vs ([.ptr rb (off+1)]::rest) t'->dC 1 rest=true->fC rb h H (.vs (BS (be x 2++bs)) .ao::cs)->bs.length<2^10->off+1<=cs.length->List.take off cs++[.int .i64 x]++List.drop (off+1) cs=ds->
  (∀ρ' H',ρ' 0= .ptr rb 0->(∃t',ρ' 3= .vs rest t')->fC rb h H' (.vs (BS bs) .ao::ds)->K (.goto 0) ρ' H')->WP P (.seq (.seq (.af HD) (.cond (Am.t 21) (.seq (.af O5) .ret) .skip)) (.seq (.af HC) (.seq (.seq (.af O4) (.cond (Am.t 28) (.seq (.af abW) .ret) .skip)) (.seq (.aY O3 [[],[],[],[],[],[],[],[],[],[]]) (.goto 0))))) K ρ H:=by
  intro x bs rest off t' ρ H cs ds K hx r0 r3 hh ha Ks eN lK hK
  have hw:IntKind.wrap .i64 (x:Int)=x:=bH (by omega) (by omega)
  simp+decide only[st,xv,rS,HD,HC,r0,r3,xr]
  refine au (Jz ok ha.cell (n:=2) (by omega) (by simp[bO]) (by simp[bO];omega)) ?_
  rw[ou bO,sN bO,wE (by omega)]
  simp+decide only[st,xv,rS,HC,O4,r0]
  refine bU 10 rfl rfl ?_
  have ch:=fC.clean (n:=10) (ha.trans (fC.set (cs:= .vs (BS bs) .ao::cs))) Kc
  have hc:=ch.cell
  have hh1:dC 1 ([.ptr rb (off+1)]::rest)=true:=rfl
  have k1:List.take (rest.length+1-1) rest=rest:=List.take_of_length_le (by omega)
  have hle:off+1+1<=cs.length+1:=by omega
  have hrH:rb<H.next:=by have:=ha.next;omega
  simp+decide only[st,xv,rS,O3,r0,r3,hc,hw,k1,hle,lK,xr]
  refine⟨fun j hj hn=>?_,?_⟩
  ·simp only[aa.set,aa.clean]
   rw[if_neg (by omega)]
   exact if_neg (by omega)
  refine hK _ _ r0 ⟨_,rfl⟩ (ch.trans fC.set)
 rintro m ρ H ⟨hm3,r0,⟨t',r3⟩,ha⟩
 match m,hm3 with
 |0,_=>
  simp+decide only[st,xv,rS,HD,O5,r0,r3,bxP]
  exact⟨rfl,ha⟩
 |1,_=>exact step (rest:=[]) (off:=9) (bs:=[]) (cs:=(ub q u n o 1).2.c t) (ds:=(ub q u n o 0).2.c t) hn r0 r3 rfl (by simpa only[ub,List.append_nil] using ha) (by simp) (by simp[Ob.c]) rfl (fun ρ' H' h0 h3 h4=>⟨0,by omega,by omega,h0,h3,h4⟩)
 |2,_=>exact step (rest:=[[.ptr rb 10]]) (off:=8) (bs:=be n 2) (cs:=(ub q u n o 2).2.c t) (ds:=(ub q u n o 1).2.c t) hu r0 r3 rfl ha (by simp[bO]) (by simp[Ob.c]) rfl (fun ρ' H' h0 h3 h4=>⟨1,by omega,by omega,h0,h3,h4⟩)
 |3,_=>exact step (rest:=[[.ptr rb 9],[.ptr rb 10]]) (off:=7) (bs:=be u 2++be n 2) (cs:=(ub q u n o 3).2.c t) (ds:=(ub q u n o 2).2.c t) hq r0 r3 rfl ha (by simp[bO]) (by simp[Ob.c]) rfl (fun ρ' H' h0 h3 h4=>⟨2,by omega,by omega,h0,h3,h4⟩)
def i5 (o:Ob):Ob:=if o.kind=1 then{o with data:=[],bX:=[],ring:=[],st:=qk} else if o.kind=2 then{bf with id:=o.id,kind:=o.kind,ak:=o.ak,data:=o.data} else if o.kind=3 then{bf with id:=o.id,kind:=o.kind,ak:=o.ak,bX:=o.bX} else{bf with id:=o.id,kind:=o.kind,ak:=o.ak,ring:=o.ring}
theorem aq4 (ok:ax P tb) {rb:Nat} {o:Ob} {h:aa} (k:JS o) (hm:fv o=true) (hg:cellsOf h rb=some (.vs (BS (jV o)) .ao::Ob.c {bf with id:=o.id,kind:=o.kind,ak:=o.ak} (gj .ao .full .full .full))) (Kc:rb<h.next):
 ∃h',an P 77 [.ptr rb 0] h (.int .i64 0) h'/\ ∃t,fC rb h h' (.vs (BS []) .ao::(i5 o).c t):=by
 refine ok.dT (rf:=pC) rfl (Nat.le_of_ble_eq_true rfl) ?_
 simp only[Ob.c] at hg
 unfold jV at hg
 by_cases h1:o.kind=1
 ·obtain⟨b1,b2,b3,b4,b5⟩:=uk hm h1
  rw[if_pos h1] at hg
  obtain⟨h',hc,ha⟩:=au1 ok (o:={bf with id:=o.id,kind:=o.kind,ak:=o.ak}) (t:=gj .ao .full .full .full) (by rw[hg,List.append_assoc];rfl) Kc (show o.bd.toNat<2^16 by omega) (show o.used.toNat<2^16 by omega) (show o.next.toNat<2^16 by omega)
  simp+decide only[st,xv,pC,Dk,Dj,Di,Dh,QE,hg,h1]
  refine au hc ?_
  simp+decide only[st,xv,pC,QE]
  refine⟨rfl,gj .ao .full .full .full,?_⟩
  have:i5 o={bf with id:=o.id,kind:=o.kind,ak:=o.ak,bd:=o.bd.toNat,used:=o.used.toNat,next:=o.next.toNat}:=by
   unfold i5
   rw[if_pos h1,Int.toNat_of_nonneg (by omega),Int.toNat_of_nonneg (by omega),Int.toNat_of_nonneg (by omega)];rfl
  rw[this];exact ha
 rw[if_neg h1] at hg
 by_cases h2:o.kind=2
 ·have hd:=sM hm h2
  rw[if_pos h2] at hg
  have e:i5 o={bf with id:=o.id,kind:=o.kind,ak:=o.ak,data:=o.data}:=by unfold i5;rw[if_neg h1,if_pos h2]
  have ht:=VJ ok (b:=cP o.data) (t:= .ao) (h:=h) (by simp[cP,bO];omega)
  have hp:=VL (s:=o.data) (r:=[]) (by omega)
  rw[List.append_nil] at hp
  rw[hp] at ht
  have k2:dC 1 (BS (cP o.data))=true:=jT
  have k3:(BS (cP o.data)).drop (cP o.data).length=[]:=List.drop_of_length_le (by rw[bM];omega)
  simp+decide only[st,xv,pC,Dk,Dj,Di,Dh,IT,QD,hg,h2]
  refine au ht ?_
  simp+decide only[st,xv,pC,QD,G5,G4,hg,GG,xr,k2,k3,bM,List.take_nil]
  refine⟨rfl,gj .ao .ao .full .full,?_⟩
  rw[e];exact fC.set
 rw[if_neg h2] at hg
 by_cases h3:o.kind=3
 ·have hc:=Ge hm h3
  have dp:=Gy hc
  rw[if_pos h3] at hg
  have e:i5 o={bf with id:=o.id,kind:=o.kind,ak:=o.ak,bX:=o.bX}:=by unfold i5;rw[if_neg h1,if_neg h2,if_pos h3]
  have ht:=aiK ok (b:=jx o.bX) (t:= .ao) (h:=h) (by rw[Br];omega)
  have hp:=aie (l:=o.bX) (r:=[]) hc k.cat
  rw[List.append_nil] at hp
  rw[hp] at ht
  have k2:dC 1 (BS (jx o.bX))=true:=jT
  have k3:(BS (jx o.bX)).drop (jx o.bX).length=[]:=List.drop_of_length_le (by rw[bM];omega)
  simp+decide only[st,xv,pC,Dk,Dj,Di,Dh,IT,QC,QB,hg,h3]
  refine au ht ?_
  simp+decide only[st,xv,pC,QB,G5,G4,hg,Mt,xr,k2,k3,bM,List.take_nil]
  refine⟨rfl,gj .ao .full .ao .full,?_⟩
  rw[e];exact fC.set
 rw[if_neg h3] at hg
 have h4:o.kind=4:=by rcases uh hm with h|h|h|h<;>first|exact absurd h ‹_› |exact h
 have hr:=yM hm h4
 have gN:=wb hr
 have e:i5 o={bf with id:=o.id,kind:=o.kind,ak:=o.ak,ring:=o.ring}:=by unfold i5;rw[if_neg h1,if_neg h2,if_neg h3]
 have hp:=aid (l:=o.ring) (r:=[]) hr (fun x hx=>by have:=gN.2 x hx;omega)
 rw[List.append_nil] at hp
 have tR:(iZ o.ring).length<2^20:=by
  have bT: ∀(m:List (List UInt8)),(∀x∈m,x.length<=16)->(m.flatMap cP).length<=18*m.length:=by
   intro m
   induction m with
   |nil=>intro _;simp
   |cons c m ih=>
    intro hm
    have h1:=ih (fun x hx=>hm x (List.mem_cons_of_mem _ hx))
    have h2:=hm c (List.mem_cons_self ..)
    simp only[List.flatMap_cons,List.length_append,cP,bO,List.length_cons] at h1 ⊢;omega
  have:=bT o.ring gN.2
  unfold iZ
  rw[List.length_append,bO];omega
 have ht:=aik ok (b:=iZ o.ring) (t:= .ao) (h:=h) tR
 rw[hp] at ht
 have k2:dC 1 (BS (iZ o.ring))=true:=jT
 have k3:(BS (iZ o.ring)).drop (iZ o.ring).length=[]:=List.drop_of_length_le (by rw[bM];omega)
 simp+decide only[st,xv,pC,Dk,Dj,Di,Dh,IT,QC,QA,hg,h4]
 refine au ht ?_
 simp+decide only[st,xv,pC,QA,G5,G4,hg,Mr,xr,k2,k3,bM,List.take_nil]
 refine⟨rfl,gj .ao .full .full .ao,?_⟩
 rw[e];exact fC.set
theorem aim (ok:ax P tb) {o:Ob} {t:aH} {h:aa} (k:JS o) (hm:fv o=true) (hn:i5 o=o):an P 46 [.vs (BS (gG o)) t] h (.ay [.agg (o.c aK), .int .i64 0]) h:=by
 refine an.ao ?_
 rw[show AV.bG [.vs (BS (gG o)) t]=[.vs (BS (gG o)) .ao] by simp only[AV.bG,akV]]
 refine ok.eH (rf:=t9) rfl (Nat.le_of_ble_eq_true rfl) (by simp only[AV.bD,AV.cf,ux];rfl) ?_
 simp+decide only[st,xv,t9,afb]
 refine Lv (HV ?_)
 simp+decide only[st,xv,t9,afa,RX]
 generalize hX:aa.at _ _ _=X
 have xo:Old h X:=by rw[<-hX];exact((Old.refl h).at (Nat.le_refl _)).at (by omega)
 have x0:cellsOf X h.next=some (bf.c (gj .full .full .full .full)):=by rw[<-hX];exact av (by simp[aa.at];rfl)
 have x1:cellsOf X (h.next+1)=some (.vs (BS (gG o)) .ao::bf.c (gj .full .full .full .full)):=by rw[<-hX];exact av (by simp[aa.at];rfl)
 have xn:X.next=h.next+2:=by rw[<-hX];simp[aa.at]
 obtain⟨kk,hk,vL,AK⟩: ∃kk:UInt8,o.kind=kk.toNat/\1<=kk.toNat/\kk.toNat<=4:=by
  rcases uh hm with h|h|h|h<;>rw[h]
  ·exact⟨1,rfl,by decide⟩
  ·exact⟨2,rfl,by decide⟩
  ·exact⟨3,rfl,by decide⟩
  ·exact⟨4,rfl,by decide⟩
 have pn:UInt8.ofNat o.kind.toNat=kk:=by rw[hk];simp
 have hpt:(jV o).length<2^18:=by
  unfold jV
  split
  ·simp[bO]
  split
  ·rename_i h2;have:=sM hm h2;simp[cP,bO];omega
  split
  ·rename_i h3;have:=Gy (Ge hm h3);rw[Br];omega
  ·rename_i h1 h2 h3
   have h4:o.kind=4:=by rcases uh hm with h|h|h|h<;>first|exact absurd h ‹_› |exact h
   have gN:=wb (yM hm h4)
   have bT: ∀(m:List (List UInt8)),(∀x∈m,x.length<=16)->(m.flatMap cP).length<=18*m.length:=by
    intro m
    induction m with
    |nil=>intro _;simp
    |cons c m ih=>
     intro hm
     have h1:=ih (fun x hx=>hm x (List.mem_cons_of_mem _ hx))
     have h2:=hm c (List.mem_cons_self ..)
     simp only[List.flatMap_cons,List.length_append,cP,bO,List.length_cons] at h1 ⊢;omega
   have:=bT o.ring gN.2
   unfold iZ
   rw[List.length_append,bO];omega
 obtain⟨H1,bj,a1⟩:=aq5 ok (rb:=h.next+1) (h:=X) (r:=jV o) (id:=o.id) (k:=kk) (l:=o.ak) (by rw[x1];unfold gG;rw[pn]) k.id ⟨vL,AK⟩ (LS hm).1 k.ak hpt
 rw[<-hk] at a1
 refine au bj ?_
 simp+decide only[st,xv,t9,RX,ae9,RW]
 obtain⟨H2,a9,t2,a2⟩:=aq4 ok k hm a1.cell (by have:=a1.next;omega)
 rw[hn] at a2
 refine au a9 ?_
 have a3:=a1.trans a2
 have c3:=a3.cell
 have z3:cellsOf H2 h.next=some (bf.c (gj .full .full .full .full)):=by rw[<-x0];unfold cellsOf;rw[a3.old _ (by omega) (by omega)]
 simp only[Ob.c] at c3 z3
 simp+decide only[st,xv,t9,RW,ae8,RV,c3]
 refine au (WW (o:=o) (t:=t2) ok k.ak k.id (by have:=k.bX;omega) (by have:=k.ring;omega)) ?_
 rw[hm]
 simp+decide only[st,xv,t9,RV,ae7,c3,z3,xr,xi,bB,bf,qk]
 refine⟨?_,fun b hb=>?_⟩
 ·show(AV.ay [.agg (o.c t2), .int .i64 0]).strip=_
  simp only[AV.strip,AV.bG,yO]
 ·rw[if_neg (by omega),a3.old _ (by omega) (by omega)]
  exact xo.get b hb
end
section
open Go
variable {P:Program} {h:aa} {bm bl:Nat} {fs:List Fr}
def iE (fs:List Fr) (f:Int):Option Nat:=if 0<=f then(match fs[f.toNat]? with|some x=>if x.taken then some f.toNat else none|none=>none) else none
def oN:Option Nat->Nat->AV
 |some i,bl=> .ay [.ptr bl (i*17), .int .i64 0]
 |none,_=> .ay [.nil, .int .i64 7]
theorem W5 (ok:ax P tb) (M:fl h bm bl fs) (hb:bl<h.next) (f:Int):an P 148 [.ptr bm 0, .int .i64 f] h (oN (iE fs f) bl) h:=by
 have h1:=M.top
 have h2:=M.row
 refine ok.keeps (rf:=vn) rfl (Nat.le_of_ble_eq_true rfl) ?_ ?_
 ·unfold oN;split<;>simp[AV.bD,AV.cf,hb]
 have hc:=av h1
 have a9:=av h2
 by_cases h0:f<0
 ·have:iE fs f=none:=by simp[iE];omega
  rw[this]
  simp+decide only[st,vn,Ct,Cs,Cq,Cp,Co,Cn,oN,h0]
 ·obtain⟨n,rfl⟩:=Int.eq_ofNat_of_zero_le (show 0<=f by omega)
  by_cases hn:n<fs.length
  ·have hf:fs[n]? =some fs[n]:=List.getElem?_eq_getElem hn
   have ht:=M.taken hf
   have hle: ¬fs.length<=n:=by omega
   cases hk:fs[n].taken
   ·have:iE fs n=none:=by simp[iE,hf,hk]
    rw[this]
    rw[hk] at ht
    simp+decide only[st,vn,Ct,Cs,Cq,Cp,Co,Cn,oN,hc,a9,hn,hle,ht]
   ·have:iE fs n=some n:=by simp[iE,hf,hk]
    rw[this]
    rw[hk] at ht
    simp+decide only[st,vn,Ct,Cs,Cq,Cp,Co,Cn,oN,hc,a9,hn,hle,ht]
  ·have:iE fs n=none:=by simp[iE,List.getElem?_eq_none (show fs.length<=n by omega)]
   rw[this]
   have hle:fs.length<=n:=by omega
   simp+decide only[st,vn,Ct,Cs,Cq,Cp,Co,Cn,oN,hc,a9,hn,hle]
def kI (fs:List Fr) (f off:Int):Option (Nat×Nat)×Int:=match iE fs f with
 |none=>(none,7)
 |some i=>if off<0\/16<=off then(none,11) else(some (i,off.toNat),0)
def qV (bl:Nat):Option (Nat×Nat)->AV
 |none=> .nil
 |some (i,j)=> .ptr bl (i*17+j)
theorem LG {f:Int} {i:Nat} (e:iE fs f=some i): ∃x,fs[i]? =some x/\x.taken=true/\f=i:=by
 unfold iE at e
 split at e
 ·split at e
  ·rename_i x hx
   split at e
   ·rename_i h1 h2;cases e;exact⟨x,hx,h2,by omega⟩
   ·cases e
  ·cases e
 ·cases e
theorem Xf (ok:ax P tb) (M:fl h bm bl fs) (hb:bl<h.next) (f off:Int):
 an P 110 [.ptr bm 0, .int .i64 f, .int .i64 off] h (.ay [qV bl (kI fs f off).1, .int .i64 (kI fs f off).2]) h:=by
 have lZ:=W5 ok M hb f
 have hc:=av M.top
 refine ok.keeps (rf:=Au) rfl (Nat.le_of_ble_eq_true rfl) ?_ ?_
 ·unfold qV;split<;>simp[AV.bD,AV.cf,hb]
 unfold kI
 cases e:iE fs f with
 |none=>
  rw[e] at lZ
  simp+decide only[st,Au,Pm,Pl,Pk,Pj,Ph,Pg,Pf]
  refine au lZ ?_
  simp+decide only[st,oN,qV]
 |some i=>
  rw[e] at lZ
  simp+decide only[st,Au,Pm,Pl,Pk,Pj,Ph,Pg,Pf]
  refine au lZ ?_
  by_cases h0:off<0
  ·simp+decide only[st,oN,qV,h0,true_or]
  ·by_cases h1:16<=off
   ·simp+decide only[st,oN,qV,h0,h1,or_true]
   ·obtain⟨j,rfl⟩:=Int.eq_ofNat_of_zero_le (show 0<=off by omega)
    have h2:(j:Int)<(16:Nat):=by omega
    simp+decide only[st,oN,qV,h0,h1,or_self,h2,Nat.mul_one]
theorem fl.byte (M:fl h bm bl fs) {i j:Nat} {x:Fr} (hi:fs[i]? =some x) (hj:j<16):(fs.map Fr.enc).flatten[i*17+j]? =(x.b[j]?).map (.int .u8):=by
 have hx:=M.len x (List.mem_of_getElem? hi)
 rw[uv M.rows (row:=x.enc) (by simp[hi]) (by omega)]
 simp[Fr.enc,List.getElem?_append_left (show j<(x.b.map (AV.int .u8)).length by simp[hx];omega)]
theorem Wv {f off:Int} {i j:Nat} {e:Int} (hb:kI fs f off=(some (i,j),e)):e=0/\j<16/\f=i/\off=j/\ ∃x,fs[i]? =some x/\x.taken=true:=by
 unfold kI at hb
 split at hb
 ·cases hb
 ·rename_i k hk
  obtain⟨x,h1,h2,h3⟩:=LG hk
  split at hb
  ·cases hb
  ·cases hb
   exact⟨rfl,by omega,h3,by omega,x,h1,h2⟩
theorem Ww {f off:Int} {e:Int} (hb:kI fs f off=(none,e)):e≠0:=by
 unfold kI at hb
 split at hb
 ·cases hb;decide
 ·split at hb
  ·cases hb;decide
  ·cases hb
def y8 (fs:List Fr) (f off:Int):Int×Int:=match kI fs f off with
 |(none,e)=>(0,e)
 |(some (i,j),e)=>(((fs[i]?).bind fun x=>x.b[j]?).getD 0,e)
theorem ajh (ok:ax P tb) (M:fl h bm bl fs) (hb:bl<h.next) (f off:Int):
 an P 79 [.ptr bm 0, .int .i64 f, .int .i64 off] h (.ay [.int .u8 (y8 fs f off).1, .int .i64 (y8 fs f off).2]) h:=by
 have tV:=Xf ok M hb f off
 have a9:=av M.row
 refine ok.keeps (rf:=A6) rfl (Nat.le_of_ble_eq_true rfl) rfl ?_
 unfold y8
 rcases hq:kI fs f off with⟨_|⟨i,j⟩,e⟩
 ·have he:=Ww hq
  rw[hq] at tV
  simp+decide only[st,A6,Qs,Qr,Qq,Qp,Qo]
  refine au tV ?_
  simp+decide only[st,qV,he]
 ·obtain⟨rfl,hj,rfl,rfl,x,hx,_⟩:=Wv hq
  have mE:=M.len x (List.mem_of_getElem? hx)
  have bt:=M.byte hx hj
  rw[List.getElem?_eq_getElem (show j<x.b.length by omega)] at bt
  rw[hq] at tV
  simp+decide only[st,A6,Qs,Qr,Qq,Qp,Qo]
  refine au tV ?_
  simp+decide only[st,qV,a9,bt,hx,List.getElem?_eq_getElem (show j<x.b.length by omega),Option.getD_some]
def gy (h:aa) (bl:Nat) (fs:List Fr):aa:=h.set bl (some (.cells (fs.map Fr.enc).flatten))
theorem fl.kP (M:fl h bm bl fs) {gs:List Fr} (h1:gs.length=fs.length) (h2: ∀f∈gs,f.b.length=16):fl (gy h bl gs) bm bl gs where
 top:=by simp[gy,aa.set,M.ne,M.top,h1]
 row:=by simp[gy,aa.set]
 ne:=M.ne
 len:=h2
 small:=by rw[h1];exact M.small
theorem fl.same (M:fl h bm bl fs):gy h bl fs=h:=aa.gv M.row
def pR (fs:List Fr) (f off b:Int):List Fr:=match kI fs f off with
 |(none,_)=>fs
 |(some (i,j),_)=>match fs[i]? with
  |none=>fs
  |some x=>fs.set i {x with b:=x.b.set j b}
theorem VM {α:Type} {l:List α} {j:Nat} {v:α} (hj:j<l.length):l.take j++[v]++l.drop (j+1)=l.set j v:=by
 rw[List.set_eq_take_append_cons_drop];simp[hj]
theorem aif (ok:ax P tb) (M:fl h bm bl fs) (hb:bl<h.next) (f off b:Int):
 an P 72 [.ptr bm 0, .int .i64 f, .int .i64 off, .int .u8 b] h (.int .i64 (kI fs f off).2) (gy h bl (pR fs f off b)):=by
 have tV:=Xf ok M hb f off
 have a9:=av M.row
 refine ok.calls (rf:=A8) rfl (Nat.le_of_ble_eq_true rfl) ?_
 unfold pR
 rcases hq:kI fs f off with⟨_|⟨i,j⟩,e⟩
 ·have he:=Ww hq
  rw[hq] at tV
  simp+decide only[st,A8,QN,QM,QL,QK,QJ]
  refine au tV ?_
  simp+decide only[st,qV,he,M.same]
 ·obtain⟨rfl,hj,rfl,rfl,x,hx,_⟩:=Wv hq
  have mE:=M.len x (List.mem_of_getElem? hx)
  rw[hq] at tV
  have qc:=BF (v:=[AV.int .u8 b]) M.rows (i:=i) (j:=j) (row:=x.enc) (by simp[hx]) (by simp;omega)
  have hlen:=yQ M.rows
  have hi:=(List.getElem?_eq_some_iff.1 hx).1
  have hle:i*17+j+1<=(fs.map Fr.enc).flatten.length:=by rw[hlen];simp;omega
  have cE:x.enc.take j++[AV.int .u8 b]++x.enc.drop (j+1)=Fr.enc {x with b:=x.b.set j b}:=by
   rw[VM (by rw[Fr.BK mE];omega)]
   simp[Fr.enc,List.set_append,mE,hj]
  simp only[List.length_singleton] at qc
  rw[cE] at qc
  simp+decide only[st,A8,QN,QM,QL,QK,QJ]
  refine au tV ?_
  simp only[List.map_set,hx,gy]
  rw[<-qc]
  simp+decide only[st,qV,a9,hle,List.append_assoc]
def jk (fs:List Fr) (f:Int):List Fr:=match iE fs f with
 |none=>fs
 |some i=>match fs[i]? with
  |none=>fs
  |some x=>fs.set i {x with taken:=false}
theorem ajv (ok:ax P tb) (M:fl h bm bl fs) (hb:bl<h.next) (f:Int):
 an P 166 [.ptr bm 0, .int .i64 f] h (.int .i64 (if(iE fs f).isSome then 0 else 7)) (gy h bl (jk fs f)):=by
 have lZ:=W5 ok M hb f
 have a9:=av M.row
 refine ok.calls (rf:=Al) rfl (Nat.le_of_ble_eq_true rfl) ?_
 unfold jk
 cases e:iE fs f with
 |none=>
  rw[e] at lZ
  simp+decide only[st,Al,NO,NN,NM,NL,NJ]
  refine au lZ ?_
  simp+decide only[st,oN,M.same,Option.isSome]
 |some i=>
  obtain⟨x,hx,_,rfl⟩:=LG e
  have mE:=M.len x (List.mem_of_getElem? hx)
  rw[e] at lZ
  have qc:=BF (v:=[AV.bool false]) M.rows (i:=i) (j:=16) (row:=x.enc) (by simp[hx]) (by simp)
  have hlen:=yQ M.rows
  have hi:=(List.getElem?_eq_some_iff.1 hx).1
  have hle:i*17+16+1<=(fs.map Fr.enc).flatten.length:=by rw[hlen];simp;omega
  have cE:x.enc.take 16++[AV.bool false]++x.enc.drop (16+1)=Fr.enc {x with taken:=false}:=by
   rw[VM (by rw[Fr.BK mE];omega)]
   simp[Fr.enc,List.set_append,mE]
  simp only[List.length_singleton] at qc
  rw[cE] at qc
  simp+decide only[st,Al,NO,NN,NM,NL,NJ]
  refine au lZ ?_
  simp only[List.map_set,hx,gy]
  rw[<-qc]
  simp+decide only[st,oN,a9,hle,List.append_assoc,Option.isSome]
def oz (fs:List Fr):Option Nat:=fs.findIdx? fun f=>!f.taken
def ix (fs:List Fr):List Fr:=match oz fs with
 |none=>fs
 |some i=>fs.set i ⟨List.replicate 16 0,true⟩
theorem akk (ok:ax P tb) (M:fl h bm bl fs):an P 108 [.ptr bm 0] h (.int .i64 fs.length) h:=by
 have hc:=av M.top
 refine ok.keeps (rf:=EI) rfl (Nat.le_of_ble_eq_true rfl) rfl ?_
 simp+decide only[st,EI,ace,acd,acb,aca,hc]
theorem ai2 (ok:ax P tb) (M:fl h bm bl fs):
 an P 70 [.ptr bm 0] h (match oz fs with|some i=> .ay [.int .i64 i, .int .i64 0]|none=> .ay [.int .i64 0, .int .i64 9]) (gy h bl (ix fs)):=by
 have hc:=av M.top
 have a9:=av M.row
 have x9:=M.small
 refine ok.calls (rf:=vX) rfl (Nat.le_of_ble_eq_true rfl) ?_
 simp+decide only[st,vX,Dy,Dw,Dv,Du,Dt,Ds,Dq,Dp,Dm,Dl,B6,hc]
 let I:Nat->Env->aa->Prop:=fun n ρ h'=>h'=h/\ ∃i:Nat,fs.length=i+n/\ρ 0= .ptr bm 0/\ρ 11= .int .i64 fs.length/\ρ 12= .int .i64 i/\ ∀j,j<i-> ∀x,fs[j]? =some x->x.taken=true
 refine dJ I ?_ fs.length ⟨rfl,0,by omega,rfl,rfl,rfl,fun j hj=>by omega⟩
 rintro n ρ h' ⟨rfl,i,aE,r0,fM,fR,gI⟩
 by_cases hi:i<fs.length
 ·have hx:fs[i]? =some fs[i]:=List.getElem?_eq_getElem hi
  have bt:=M.taken hx
  have mE:=M.len _ (List.mem_of_getElem? hx)
  cases nL:fs[i].taken
  ·have hl:oz fs=some i:=by
    unfold oz
    rw[List.findIdx?_eq_some_iff_getElem]
    exact⟨hi,by simp[nL],fun j hj=>by simpa using gI j hj _ (List.getElem?_eq_getElem (by omega))⟩
   rw[nL] at bt
   have qc:=BF (v:=Fr.enc ⟨List.replicate 16 0,true⟩) M.rows (i:=i) (j:=0) (row:=fs[i].enc) (by simp[hx]) (by simp[Fr.enc])
   have hlen:=yQ M.rows
   have hle:i*17+17<=(fs.map Fr.enc).flatten.length:=by rw[hlen];simp;omega
   have cE:fs[i].enc.take 0++Fr.enc ⟨List.replicate 16 0,true⟩++fs[i].enc.drop (0+(Fr.enc ⟨List.replicate 16 0,true⟩).length)=Fr.enc ⟨List.replicate 16 0,true⟩:=by
    rw[List.drop_of_length_le (by rw[Fr.BK mE];simp[Fr.enc])];simp
   rw[cE] at qc
   simp only[Fr.enc,List.replicate,List.map,List.cons_append,List.nil_append,List.length,Nat.add_zero,Nat.reduceAdd] at qc
   simp+decide only[st,vX,Dy,Dw,Dv,Du,Dt,Ds,Dq,Dp,Dm,Dl,B6,r0,fM,fR,hi,hc,a9,bt,hl,hle,Nat.reduceAdd]
   simp only[ix,hl,gy,List.map_set,Fr.enc,List.replicate,List.map,List.cons_append,List.nil_append]
   rw[<-qc]
  ·rw[nL] at bt
   have hw:IntKind.wrap .i64 ((i:Int)+1)=((i+1:Nat):Int):=by rw[bH]<;>omega
   simp+decide only[st,vX,Dy,Dw,Dv,Du,Dt,Ds,Dq,Dp,Dm,Dl,B6,r0,fM,fR,hi,hc,a9,bt,hw]
   refine⟨n-1,by omega,rfl,i+1,by omega,?_,?_,?_,fun j hj x Fg=>?_⟩
   ·simp+decide only[st,r0]
   ·simp+decide only[st,fM]
   ·simp+decide only[st]
   ·by_cases eE:j=i
    ·subst eE;rw[hx] at Fg;cases Fg;exact nL
    ·exact gI j (by omega) x Fg
 ·have cN:i=fs.length:=by omega
  have hl:oz fs=none:=by
   unfold oz
   rw[List.findIdx?_eq_none_iff]
   intro x hx
   obtain⟨j,hj⟩:=List.mem_iff_getElem?.1 hx
   have:=gI j (by rw[cN];exact(List.getElem?_eq_some_iff.1 hj).1) x hj
   simp[this]
  simp+decide only[st,vX,Dy,Dw,Dv,Du,Dt,Ds,Dq,Dp,Dm,Dl,B6,r0,fM,fR,hi,hl]
  simp only[ix,hl,M.same]
theorem ami (ok:ax P tb) (M:fl h bm bl fs) (aD:bm<h.next/\bl<h.next):an P 109 [.ptr bm 0] h (.int .i64 (dR fs)) h:=aiZ ok rfl M aD
def uN (n:Int):Nat:=(max 0 (min n 512)).toNat
theorem akf (ok:ax P tb) (n:Int):an P 68 [.int .i64 n] h (.ptr (h.next+1) 0)
 ((h.at h.next (.cells (List.replicate (uN n) (Fr.enc ⟨List.replicate 16 0,false⟩)).flatten)).at (h.next+1) (.cells [.rs h.next 0 (uN n) 17])):=by
 refine ok.calls (rf:=FF) rfl (Nat.le_of_ble_eq_true rfl) ?_
 have hm:kG 17 (.int .i64 (max 0 (min n 512))) (.int .i64 (max 0 (min n 512)))=some (uN n):=by
  unfold kG uN
  simp only[]
  rw[if_pos ⟨by omega,trivial,by omega,by omega⟩]
 simp+decide only[st,FF,ad5,ad4,hm,Nat.reduceAdd]
 simp[Fr.enc,List.replicate]
def F0:Fr:=⟨List.replicate 16 0,false⟩
theorem amw (ok:ax P tb) (h:aa) (n:Int): ∃bm bl h',an P 68 [.int .i64 n] h (.ptr bm 0) h'/\fl h' bm bl (List.replicate (uN n) F0)/\h.next<=bm/\h.next<=bl/\bm<h'.next/\bl<h'.next/\h.next<=h'.next/\ ∀b,b<h.next->h'.get b=h.get b:=by
 refine⟨h.next+1,h.next,_,akf ok n,⟨?_,?_,?_,?_,?_⟩,by omega,by omega,?_,?_,?_,?_⟩
 ·simp[aa.at]
 ·simp[aa.at,F0]
 ·omega
 ·intro f hf;simp[List.mem_replicate] at hf;simp[hf.2,F0]
 ·simp[uN];omega
 ·simp[aa.at]
 ·simp[aa.at];omega
 ·simp[aa.at];omega
 ·intro b hb;simp[aa.at,show b≠h.next by omega,show b≠h.next+1 by omega]
theorem Ls:(ix fs).length=fs.length:=by unfold ix;split<;>simp
theorem LZ (hl: ∀f∈fs,f.b.length=16): ∀f∈ix fs,f.b.length=16:=by
 unfold ix
 split
 ·exact hl
 ·intro f hf
  rcases List.mem_or_eq_of_mem_set hf with hf|rfl
  ·exact hl f hf
  ·simp
theorem Wu {f off b:Int}:(pR fs f off b).length=fs.length:=by unfold pR;split<;>first|rfl|(split<;>simp)
theorem XA {f off b:Int} (hl: ∀f∈fs,f.b.length=16): ∀x∈pR fs f off b,x.b.length=16:=by
 unfold pR
 split
 ·exact hl
 ·split
  ·exact hl
  ·rename_i x hx
   intro y hy
   rcases List.mem_or_eq_of_mem_set hy with hy|rfl
   ·exact hl y hy
   ·simp[hl x (List.mem_of_getElem? hx)]
theorem Lt {f:Int}:(jk fs f).length=fs.length:=by unfold jk;split<;>first|rfl|(split<;>simp)
theorem L1 {f:Int} (hl: ∀f∈fs,f.b.length=16): ∀x∈jk fs f,x.b.length=16:=by
 unfold jk
 split
 ·exact hl
 ·split
  ·exact hl
  ·rename_i x hx
   intro y hy
   rcases List.mem_or_eq_of_mem_set hy with hy|rfl
   ·exact hl y hy
   ·simp[hl x (List.mem_of_getElem? hx)]
theorem fl.take (M:fl h bm bl fs):fl (gy h bl (ix fs)) bm bl (ix fs):=M.kP Ls (LZ M.len)
theorem fl.store (M:fl h bm bl fs) (f off b:Int):fl (gy h bl (pR fs f off b)) bm bl (pR fs f off b):=M.kP Wu (XA M.len)
theorem fl.free (M:fl h bm bl fs) (f:Int):fl (gy h bl (jk fs f)) bm bl (jk fs f):=M.kP Lt (L1 M.len)
end
section
open Go
structure Tb where
 l:List Nat
 n:Nat
def dW (l:List Nat):List (List AV):=l.map fun(f:Nat)=>[AV.int .i64 f]
def Tb.enc (t:Tb):AV:= .agg [.vs (dW t.l) .ao, .int .i64 t.n]
def uc:AV:= .agg [.vs [] .ao, .int .i64 0]
abbrev iF:=List (Int×Tb)
def mY (ts:iF):List (AV×AV):=ts.map fun e=>(.int .u64 e.1,e.2.enc)
def eP (ts:iF) (id:Int):Option Tb:=(ts.find? fun e=>id==e.1).map (·.2)
def rG (ts:iF) (id:Int):Option Nat:=ts.findIdx? fun e=>id==e.1
theorem F9 {id:Int}: ∀(ts:iF) (i:Nat),mh (.int .u64 id) (mY ts) i=some ((rG ts id).map (· +i))
 |[],i=>rfl
 |e::ts,i=>by
  have ih:=F9 (id:=id) ts (i+1)
  simp only[mY,List.map_cons,mh,if_true,rG,List.findIdx?_cons] at ih ⊢
  by_cases h:(id==e.1)=true
  ·simp[h]
  ·have h':(id==e.1)=false:=by simpa using h
   simp only[h',if_false,Bool.false_eq_true]
   rw[ih]
   simp only[Option.map_map]
   congr 2
   funext x
   simp[Nat.add_comm,Nat.add_left_comm]
theorem Le {id:Int} {ts:iF}:uu (.int .u64 id) (mY ts)=some ((eP ts id).map Tb.enc):=by
 unfold uu
 rw[F9]
 simp only[Option.map_some,Option.some.injEq]
 unfold rG eP
 induction ts with
 |nil=>rfl
 |cons e ts ih=>
  simp only[List.findIdx?_cons,List.find?_cons]
  by_cases h:(id==e.1)=true
  ·simp[h,mY]
  ·have h':(id==e.1)=false:=by simpa using h
   simp only[h',if_false,Bool.false_eq_true]
   rw[<-ih]
   cases ts.findIdx? (fun e=>id==e.1)<;>simp[mY]
structure ec (h:aa) (bs bm bl bp:Nat) (fs:List Fr) (ts:iF):Prop where
 top:h.get bs=some (.cells [.ptr bm 0, .map (some bp)])
 mem:fl h bm bl fs
 map:h.get bp=some (.map (mY ts))
 n1:bs≠bm
 n2:bs≠bl
 n3:bs≠bp
 n4:bp≠bm
 n5:bp≠bl
 l1:bs<h.next
 l2:bm<h.next
 l3:bl<h.next
 l4:bp<h.next
 tn: ∀e∈ts,e.2.n<=64/\e.2.l.length=(e.2.n+15)/16
variable {P:Program} {h:aa} {bs bm bl bp:Nat} {fs:List Fr} {ts:iF}
theorem ec.look (S:ec h bs bm bl bp fs ts) (id:Int) (h':aa) (hh:h'.get bp=h.get bp):mZ (.agg [.vs [] .full, .int .i64 0]) true h' (.map (some bp)) (.int .u64 id)=
 some (match eP ts id with|some t=> .ay [t.enc, .bool true]|none=> .ay [.agg [.vs [] .full, .int .i64 0], .bool false]):=by
 unfold mZ
 simp only[hh,S.map,Le,Option.map_some]
 cases eP ts id<;>rfl
def pZ:Option Tb->AV
 |some t=> .ay [t.enc, .int .i64 0]
 |none=> .ay [uc, .int .i64 7]
theorem F8: ∀(l:List Nat),AV.f0 (dW l)=dW l
 |[]=>rfl
 |x::xs=>by
  have:=F8 xs
  simp only[dW,List.map_cons,AV.f0,AV.bG,AV.strip] at this ⊢
  rw[this]
theorem Xy {p:Nat->Bool}: ∀(l:List Nat),AV.ic p (dW l)=true
 |[]=>rfl
 |x::xs=>by
  have:=Xy (p:=p) xs
  simp only[dW,List.map_cons,AV.ic,AV.cf,AV.bD,Bool.and_true,Bool.true_and] at this ⊢
  exact this
theorem Tb.YA {p:Nat->Bool} {t:Tb}:t.enc.bD p=true:=by simp only[Tb.enc,AV.bD,AV.cf,Xy,Bool.and_self]
theorem aja {p:Nat->Bool} {o:Option Tb}:(pZ o).bD p=true:=by
 cases o
 ·rfl
 ·simp only[pZ,AV.bD,AV.cf,Tb.YA,Bool.and_self]
theorem LU (ok:ax P tb) (S:ec h bs bm bl bp fs ts) (id:Int):an P 78 [.ptr bs 0, .int .u64 id] h (pZ (eP ts id)) h:=by
 have hc:=av S.top
 have hk:=fun h' hh=>S.look id h' hh
 have l1:=S.l1
 have l4:=S.l4
 have n1: ¬bs=h.next:=by omega
 have n4: ¬bp=h.next:=by omega
 have aM: ∀b,b<h.next-> ¬b=h.next:=fun b hb=>by omega
 have nw: ∀b,b<h.next-> ¬b=h.next+1:=fun b hb=>by omega
 have e1: ¬h.next=h.next+1:=by omega
 have e2: ¬h.next+1=h.next:=by omega
 refine ok.eH (rf:=A7) rfl (Nat.le_of_ble_eq_true rfl) aja ?_
 cases dz:eP ts id with
 |none=>
  simp only[dz] at hk
  simp+decide only[st,A7,Qz,Qy,Qx,Qw,Qv,Qu,Qt,hc,n1,n4,hk,e1,e2,bB,AV.strip,AV.bG,AV.f0,pZ,uc]
  intro b hb
  simp+decide only[st,aM b hb,nw b hb]
 |some t=>
  simp only[dz] at hk
  have lp:t.enc.cells=[.vs (dW t.l) .ao, .int .i64 t.n]:=rfl
  have Fo:AV.agg [.vs (dW t.l) .ao, .int .i64 t.n]=t.enc:=rfl
  simp+decide only[st,A7,Qz,Qy,Qx,Qw,Qv,Qu,Qt,hc,n1,n4,hk,e1,e2,bB,lp,AV.strip,AV.bG,AV.f0,F8,pZ,Tb.enc]
  intro b hb
  simp+decide only[st,aM b hb,nw b hb]
theorem Gb {id:Int} {t:Tb} (e:eP ts id=some t): ∃x∈ts,x.1=id/\x.2=t:=by
 unfold eP at e
 obtain⟨x,h1,h2⟩:=Option.map_eq_some_iff.1 e
 exact⟨x,List.mem_of_find?_eq_some h1,by have:=List.find?_some h1;simp at this;exact this.symm,h2⟩
theorem ec.small (S:ec h bs bm bl bp fs ts) {id:Int} {t:Tb} (e:eP ts id=some t):t.n<=64:=by
 obtain⟨x,h1,_,rfl⟩:=Gb e
 exact(S.tn x h1).1
theorem ec.Tj (S:ec h bs bm bl bp fs ts) {id:Int} {t:Tb} (e:eP ts id=some t):t.l.length=(t.n+15)/16:=by
 obtain⟨x,h1,_,rfl⟩:=Gb e
 exact(S.tn x h1).2
def il (ts:iF) (id off n:Int):Option Tb×Int:=match eP ts id with
 |none=>(none,7)
 |some t=>if off<0\/n<0\/(t.n:Int)<off\/(t.n:Int)-off<n then(none,11) else(some t,0)
def tB:Option Tb->AV
 |none=>uc
 |some t=>t.enc
theorem alb {p:Nat->Bool} {o:Option Tb}:(tB o).bD p=true:=by
 cases o
 ·rfl
 ·exact Tb.YA
theorem FQ (ok:ax P tb) (S:ec h bs bm bl bp fs ts) (id off n:Int):an P 71 [.ptr bs 0, .int .u64 id, .int .i64 off, .int .i64 n] h (.ay [tB (il ts id off n).1, .int .i64 (il ts id off n).2]) h:=by
 have mG:=fun h' (S':ec h' bs bm bl bp fs ts)=>LU ok S' id
 have aM: ∀b,b<h.next-> ¬b=h.next:=fun b hb=>by omega
 have nw: ∀b,b<h.next-> ¬b=h.next+1:=fun b hb=>by omega
 have e1: ¬h.next=h.next+1:=by omega
 have e2: ¬h.next+1=h.next:=by omega
 have S1:ec (h.at h.next (.cells [.vs [] .full, .int .i64 0])) bs bm bl bp fs ts:=
  {S with top:=by rw[aa.HQ,if_neg (aM _ S.l1)];exact S.top
          mem:={S.mem with top:=by rw[aa.HQ,if_neg (aM _ S.l2)];exact S.mem.top,row:=by rw[aa.HQ,if_neg (aM _ S.l3)];exact S.mem.row}
          map:=by rw[aa.HQ,if_neg (aM _ S.l4)];exact S.map
          l1:=by rw[aa.GV];have:=S.l1;omega
          l2:=by rw[aa.GV];have:=S.l2;omega
          l3:=by rw[aa.GV];have:=S.l3;omega
          l4:=by rw[aa.GV];have:=S.l4;omega}
 refine ok.eH (rf:=A9) rfl (Nat.le_of_ble_eq_true rfl) (by simp only[AV.bD,AV.cf,alb,Bool.and_self]) ?_
 unfold il
 cases dz:eP ts id with
 |none=>
  simp only[dz,pZ] at mG
  simp+decide only[st,A9,QT,QS,QR,QQ,zV,QP,QO]
  refine au (mG _ S1) ?_
  simp+decide only[st,e1,e2,uc,bB,AV.strip,AV.bG,AV.f0,tB]
  intro b hb
  simp+decide only[st,aM b hb,nw b hb]
 |some t=>
  have x9:=S.small dz
  simp only[dz,pZ] at mG
  have lp:t.enc.cells=[.vs (dW t.l) .ao, .int .i64 t.n]:=rfl
  simp+decide only[st,A9,QT,QS,QR,QQ,QP,QO]
  refine au (mG _ S1) ?_
  simp+decide only[st,e1,e2,lp]
  refine BG (Q:=fun ρ'=>ρ' 8= .ptr h.next 0/\ρ' 10= .ptr (h.next+1) 0/\ρ' 23= .bool (decide (off<0\/n<0\/(t.n:Int)<off\/(t.n:Int)-off<n))) ?_ ?_
  ·by_cases h1:off<0
   ·simp+decide only[st,zV,e1,e2,h1,true_or]
   ·by_cases h2:n<0
    ·simp+decide only[st,zV,e1,e2,h1,h2,true_or,or_true]
    ·by_cases h3:(t.n:Int)<off
     ·simp+decide only[st,zV,e1,e2,h1,h2,h3,true_or,or_true]
     ·have tJ:IntKind.wrap .i64 ((t.n:Int)-off)=(t.n:Int)-off:=bH (by omega) (by omega)
      simp+decide only[st,zV,e1,e2,h1,h2,h3,false_or,tJ]
  ·rintro ρ' ⟨q8,JZ,q23⟩
   by_cases hc:off<0\/n<0\/(t.n:Int)<off\/(t.n:Int)-off<n
   ·simp+decide only[st,q8,JZ,q23,hc,e1,e2,uc,bB,AV.strip,AV.bG,AV.f0,tB]
    intro b hb
    simp+decide only[st,aM b hb,nw b hb]
   ·simp+decide only[st,q8,JZ,q23,hc,e1,e2,bB,AV.strip,AV.bG,AV.f0,F8,tB,Tb.enc]
    intro b hb
    simp+decide only[st,aM b hb,nw b hb]
theorem ajk (ok:ax P tb) (S:ec h bs bm bl bp fs ts) (id:Int):an P 47 [.ptr bs 0, .int .u64 id] h (match eP ts id with|some t=> .ay [.int .i64 t.n, .int .i64 0]|none=> .ay [.int .i64 0, .int .i64 7]) h:=by
 have mG:=LU ok S id
 have aM: ∀b,b<h.next-> ¬b=h.next:=fun b hb=>by omega
 refine ok.keeps (rf:=Bc) rfl (Nat.le_of_ble_eq_true rfl) (by split<;>rfl) ?_
 cases dz:eP ts id with
 |none=>
  simp only[dz,pZ] at mG
  simp+decide only[st,Bc,RU,RT,RS]
  refine au mG ?_
  simp+decide only[st,uc]
  intro b hb
  simp+decide only[st,aM b hb]
 |some t=>
  simp only[dz,pZ] at mG
  have lp:t.enc.cells=[.vs (dW t.l) .ao, .int .i64 t.n]:=rfl
  simp+decide only[st,Bc,RU,RT,RS]
  refine au mG ?_
  simp+decide only[st,lp]
  intro b hb
  simp+decide only[st,aM b hb]
theorem ec.clean (S:ec h bs bm bl bp fs ts) (n:Nat):ec (h.clean n) bs bm bl bp fs ts:=
 {S with top:=by simp only[aa.clean];rw[if_pos S.l1];exact S.top
         mem:={S.mem with top:=by simp only[aa.clean];rw[if_pos S.l2];exact S.mem.top,row:=by simp only[aa.clean];rw[if_pos S.l3];exact S.mem.row}
         map:=by simp only[aa.clean];rw[if_pos S.l4];exact S.map
         l1:=Nat.lt_of_lt_of_le S.l1 (Nat.le_add_right _ _)
         l2:=Nat.lt_of_lt_of_le S.l2 (Nat.le_add_right _ _)
         l3:=Nat.lt_of_lt_of_le S.l3 (Nat.le_add_right _ _)
         l4:=Nat.lt_of_lt_of_le S.l4 (Nat.le_add_right _ _)}
theorem amj {fs:List Fr}:dR fs<=fs.length:=List.countP_le_length
theorem ahP (ok:ax P tb) (S:ec h bs bm bl bp fs ts):an P 69 [.ptr bs 0] h (.int .i64 ((fs.length-dR fs:Nat):Int)) h:=by
 have S1:=S.clean 12
 have hc:=av S1.top
 have x9:=S.mem.small
 have hul:=amj (fs:=fs)
 have hlen:=akk ok S1.mem
 have AE:=ami ok S1.mem ⟨S1.l2,S1.l3⟩
 have hw:IntKind.wrap .i64 ((fs.length:Int)-(dR fs:Int))=((fs.length-dR fs:Nat):Int):=by rw[bH]<;>omega
 refine ok.keeps (rf:=FE) rfl (Nat.le_of_ble_eq_true rfl) rfl ?_
 simp+decide only[st,FE,ad3,ad2,ad1,ad0]
 refine ur ?_
 simp only[List.length_cons,List.length_nil,Nat.zero_add,Nat.reduceAdd]
 simp+decide only[st,hc]
 refine hP hlen (by simp+decide only[st]) ?_
 simp+decide only[st,hc,S.l1]
 refine hP AE (by simp+decide only[st]) ?_
 simp+decide only[st,hw]
 intro b hb
 simp+decide only[st,hb]
theorem ec.bN (S:ec h bs bm bl bp fs ts) {h':aa} (hn:h.next<=h'.next) (hk: ∀b,b<h.next->h'.get b=h.get b):ec h' bs bm bl bp fs ts:=
 {S with top:=by rw[hk _ S.l1];exact S.top
         mem:={S.mem with top:=by rw[hk _ S.l2];exact S.mem.top,row:=by rw[hk _ S.l3];exact S.mem.row}
         map:=by rw[hk _ S.l4];exact S.map
         l1:=Nat.lt_of_lt_of_le S.l1 hn
         l2:=Nat.lt_of_lt_of_le S.l2 hn
         l3:=Nat.lt_of_lt_of_le S.l3 hn
         l4:=Nat.lt_of_lt_of_le S.l4 hn}
theorem ec.bQ (S:ec h bs bm bl bp fs ts) {gs:List Fr} (h1:gs.length=fs.length) (h2: ∀f∈gs,f.b.length=16):ec (gy h bl gs) bs bm bl bp gs ts:=
 {S with top:=by simp only[gy,aa.set];rw[if_neg S.n2];exact S.top
         mem:=S.mem.kP h1 h2
         map:=by simp only[gy,aa.set];rw[if_neg S.n5];exact S.map}
theorem anx (ok:ax P tb) (h:aa) (n:Int): ∃bs bm bl bp h',an P 39 [.int .i64 n] h (.ptr bs 0) h'/\ec h' bs bm bl bp (List.replicate (uN n) F0) []/\
 h.next<=bs/\h.next<=bm/\h.next<=bl/\h.next<=bp/\h.next<=h'.next/\ ∀b,b<h.next->h'.get b=h.get b:=by
 obtain⟨bm,bl,h1,gl,M,g1,g2,g3,g4,g5,g6⟩:=amw ok h n
 refine⟨h1.next+1,bm,bl,h1.next,(h1.at h1.next (.map [])).at (h1.next+1) (.cells [.ptr bm 0, .map (some h1.next)]),?_,⟨?_,⟨?_,?_,M.ne,M.len,M.small⟩,?_,?_,?_,?_,?_,?_,?_,?_,?_,?_,?_⟩,?_,g1,g2,?_,?_,?_⟩
 ·refine ok.calls (rf:=FH) rfl (Nat.le_of_ble_eq_true rfl) ?_
  simp+decide only[st,FH,afi,afh]
  refine au gl ?_
  simp+decide only[st]
 ·simp[aa.at]
 ·simp only[aa.at];rw[if_neg (by omega),if_neg (by omega)];exact M.top
 ·simp only[aa.at];rw[if_neg (by omega),if_neg (by omega)];exact M.row
 ·simp[aa.at,mY]
 ·omega
 ·omega
 ·omega
 ·omega
 ·omega
 ·simp[aa.at]
 ·simp[aa.at];omega
 ·simp[aa.at];omega
 ·simp[aa.at];omega
 ·simp
 ·omega
 ·omega
 ·simp[aa.at];omega
 ·intro b hb
  simp only[aa.at]
  rw[if_neg (by omega),if_neg (by omega)]
  exact g6 b hb
def takeN (fs:List Fr):Nat->List Fr×List Nat
 |0=>(fs,[])
 |k+1=>(ix (takeN fs k).1,(takeN fs k).2++[(oz (takeN fs k).1).getD 0])
theorem Bq {k:Nat}:(takeN fs k).1.length=fs.length/\(takeN fs k).2.length=k:=by
 induction k with
 |zero=>exact⟨rfl,rfl⟩
 |succ k ih=>
  simp only[takeN,Ls,List.length_append,List.length_singleton]
  omega
theorem amm (hl: ∀f∈fs,f.b.length=16) {k:Nat}: ∀f∈(takeN fs k).1,f.b.length=16:=by
 induction k with
 |zero=>exact hl
 |succ k ih=>exact LZ ih
theorem KZ (h:dR fs<fs.length): ∃i,oz fs=some i/\dR (ix fs)=dR fs+1:=by
 cases hl:oz fs with
 |none=>
  unfold oz at hl
  rw[List.findIdx?_eq_none_iff] at hl
  have:dR fs=fs.length:=by
   unfold dR
   rw[List.countP_eq_length]
   intro x hx
   have:=hl x hx
   simpa using this
  omega
 |some i=>
  refine⟨i,rfl,?_⟩
  simp only[ix,hl]
  unfold oz at hl
  rw[List.findIdx?_eq_some_iff_getElem] at hl
  obtain⟨hi,h1,_⟩:=hl
  have AN:fs[i].taken=false:=by simpa using h1
  unfold dR
  rw[List.countP_set hi,AN]
  simp
theorem Ll {k:Nat} (hk:k<=fs.length-dR fs):dR (takeN fs k).1=dR fs+k:=by
 induction k with
 |zero=>rfl
 |succ k ih=>
  have ih:=ih (by omega)
  have hl:=(Bq (fs:=fs) (k:=k)).1
  obtain⟨i,h1,h2⟩:=KZ (fs:=(takeN fs k).1) (by omega)
  simp only[takeN]
  rw[h2,ih]
  omega
def gS (n:Int):Nat:=((n+15)/16).toNat
def lJ (fs:List Fr) (ts:iF) (id n:Int):Int×List Fr×iF:=
 if n<0\/64<n then(1,fs,ts)
 else if(eP ts id).isSome then(1,fs,ts)
 else if fs.length-dR fs<gS n then(9,fs,ts)
 else(0,(takeN fs (gS n)).1,ts++[(id,⟨(takeN fs (gS n)).2,n.toNat⟩)])
theorem ajf {id:Int} {v:AV} (hn:eP ts id=none):qY (.int .u64 id) v (mY ts)=some (mY ts++[(.int .u64 id,v)]):=by
 unfold qY
 rw[F9]
 have:rG ts id=none:=by
  unfold eP at hn
  unfold rG
  rw[List.findIdx?_eq_none_iff]
  intro x hx
  have:=List.find?_eq_none.1 (Option.map_eq_none_iff.1 hn) x hx
  simpa using this
 rw[this]
 rfl
theorem Gi {ρ:Env} {h:aa} {n id:Int} (q0:ρ 0= .ptr bs 0) (q1:ρ 1= .int .u64 id) (q2:ρ 2= .int .i64 n):
 exec P Ja ρ h (fun ρ' h'=>(ρ' 0= .ptr bs 0/\ρ' 1= .int .u64 id/\ρ' 2= .int .i64 n/\ρ' 22= .bool (decide (n<0\/64<n)))/\h'=h):=by
 by_cases h1:n<0
 ·simp+decide only[st,Ja,q0,q1,q2,h1,true_or]
 ·simp+decide only[st,Ja,q0,q1,q2,h1,false_or]
theorem aki (ok:ax P tb) (S:ec h bs bm bl bp fs ts) (id n:Int): ∃h',an P 42 [.ptr bs 0, .int .u64 id, .int .i64 n] h (.int .i64 (lJ fs ts id n).1) h'/\
 (ec h' bs bm bl bp (lJ fs ts id n).2.1 (lJ fs ts id n).2.2/\h.next<=h'.next/\ ∀b,b<h.next->b≠bl->b≠bp->h'.get b=h.get b):=by
 have hc:=av S.top
 have Ts:=LY S.map
 have aM: ∀b,b<h.next-> ¬b=h.next:=fun b hb=>by omega
 have nw: ∀b,b<h.next-> ¬b=h.next+1:=fun b hb=>by omega
 have e1: ¬h.next=h.next+1:=by omega
 have n1: ¬bs=h.next:=by have:=S.l1;omega
 have n4: ¬bp=h.next:=by have:=S.l4;omega
 by_cases hn:n<0\/64<n
 ·have hR:lJ fs ts id n=(1,fs,ts):=by simp[lJ,hn]
  rw[hR]
  refine ok.dT (rf:=qL) rfl (Nat.le_of_ble_eq_true rfl) ?_
  simp+decide only[st,qL,D2,D1,D0,DZ,DY,DX,DW,DV,Ch,Cg,Ce,Cd,Cc,Cb,Ca,B9,B8]
  refine BG _ (Gi (bs:=bs) (id:=id) (n:=n) (by simp+decide only[st]) (by simp+decide only[st]) (by simp+decide only[st])) ?_
  rintro ρ1 ⟨q0,q1,q2,qm⟩
  rw[decide_eq_true hn] at qm
  simp+decide only[st,qm,jO]
  exact S
 obtain⟨n,rfl⟩: ∃k:Nat,n=k:=⟨n.toNat,by omega⟩
 have avK:n<=64:=by omega
 cases dz:eP ts id with
 |some t=>
  have hR:lJ fs ts id n=(1,fs,ts):=by simp only[lJ,if_neg hn,dz,Option.isSome,if_true]
  have tS:=Le (ts:=ts) (id:=id)
  rw[dz] at tS
  have lp:t.enc.cells=[.vs (dW t.l) .ao, .int .i64 t.n]:=rfl
  rw[hR]
  refine ok.dT (rf:=qL) rfl (Nat.le_of_ble_eq_true rfl) ?_
  simp+decide only[st,qL,D2,D1,I9,D0,DZ,DY,DX,DW,DV,Ch,Cg,Ce,Cd,Cc,Cb,Ca,B9,B8]
  refine BG _ (Gi (bs:=bs) (id:=id) (n:=n) (by simp+decide only[st]) (by simp+decide only[st]) (by simp+decide only[st])) ?_
  rintro ρ1 ⟨q0,q1,q2,qm⟩
  rw[decide_eq_false hn] at qm
  simp+decide only[st,q0,q1,q2,qm,hc,Ts,tS,K7,HU,lp,jO]
  refine⟨S.bN (by simp+decide only[st];omega) (fun b hb=>by simp+decide only[st,aM b hb]),by omega,fun b hb _ _=>?_⟩
  simp+decide only[st,aM b hb]
 |none=>
  have tS:=Le (ts:=ts) (id:=id)
  rw[dz] at tS
  have awZ:gS n<=4:=by unfold gS;omega
  have aw9:gS n<2^40:=by omega
  have qp:IntKind.wrap .i64 ((n:Int)+16)=(n:Int)+16:=bH (by omega) (by omega)
  have sf:IntKind.wrap .i64 ((n:Int)+16-1)=(n:Int)+15:=by rw[bH (by omega) (by omega)];omega
  have hq:((n:Int)+15).tdiv 16=(gS n:Int):=by rw[Int.tdiv_eq_ediv_of_nonneg (by omega)];unfold gS;omega
  have tJ:=ry (n:=gS n) (by omega)
  let h1:aa:=(h.at h.next (.cells [.vs [] .full, .int .i64 0])).set h.next (some (.cells [.vs [] .full, .int .i64 0]))
  have S1:ec h1 bs bm bl bp fs ts:=S.bN (by simp[h1,aa.at,aa.set]) (fun b hb=>by simp[h1,aa.at,aa.set,aM b hb])
  have fb:=ahP ok S1
  by_cases eY:fs.length-dR fs<gS n
  ·have hR:lJ fs ts id n=(9,fs,ts):=by simp only[lJ,if_neg hn,dz,Option.isSome,eY,if_true,Bool.false_eq_true,if_false]
   rw[hR]
   refine ok.dT (rf:=qL) rfl (Nat.le_of_ble_eq_true rfl) ?_
   simp+decide only[st,qL,D2,D1,I9,D0,DZ,DY,DX,DW,DV,Ch,Cg,Ce,Cd,Cc,Cb,Ca,B9,B8]
   refine BG _ (Gi (bs:=bs) (id:=id) (n:=n) (by simp+decide only[st]) (by simp+decide only[st]) (by simp+decide only[st])) ?_
   rintro ρ1 ⟨q0,q1,q2,qm⟩
   rw[decide_eq_false hn] at qm
   simp+decide only[st,q0,q1,q2,qm,hc,Ts,tS,K7,HU,qp,sf,hq,tJ,n1,n4,Option.map_none]
   refine au fb ?_
   simp+decide only[st,eY,jO]
   refine⟨S1,by simp[h1,aa.at,aa.set],fun b hb _ _=>by simp[h1,aa.at,aa.set,aM b hb]⟩
  ·have hR:lJ fs ts id n=(0,(takeN fs (gS n)).1,ts++[(id,⟨(takeN fs (gS n)).2,n⟩)]):=by simp only[lJ,if_neg hn,dz,Option.isSome,eY,Bool.false_eq_true,if_false,Int.toNat_natCast]
   rw[hR]
   refine ok.dT (rf:=qL) rfl (Nat.le_of_ble_eq_true rfl) ?_
   simp+decide only[st,qL,D2,D1,I9,D0,DZ,DY,DX,DW,DV,Ch,Cg,Ce,Cd,Cc,Cb,Ca,B9,B8]
   refine BG _ (Gi (bs:=bs) (id:=id) (n:=n) (by simp+decide only[st]) (by simp+decide only[st]) (by simp+decide only[st])) ?_
   rintro ρ1 ⟨q0,q1,q2,qm⟩
   rw[decide_eq_false hn] at qm
   simp+decide only[st,q0,q1,q2,qm,hc,Ts,tS,K7,HU,qp,sf,hq,tJ,n1,n4,Option.map_none]
   refine au fb ?_
   simp+decide only[st,q0,q1,q2,eY]
   have TD:h1.next=h.next+1:=by simp only[h1,aa.at,aa.set];omega
   have cw: ∀b,b<h.next->h1.get b=h.get b:=fun b hb=>by simp[h1,aa.at,aa.set,aM b hb]
   rw[TD]
   let I:Nat->Env->aa->Prop:=fun m ρ h'=> ∃i,i+m=gS n/\ρ 0= .ptr bs 0/\ρ 1= .int .u64 id/\ρ 10= .ptr (h.next+1) 0/\ρ 43= .int .i64 (gS n)/\ρ 44= .int .i64 i/\
    ec h' bs bm bl bp (takeN fs i).1 ts/\h.next+1<h'.next/\(∃a,h'.get (h.next+1)=some (.cells [a, .int .i64 n])/\p5 h.next h' a (dW (takeN fs i).2))/\ ∀b,b<h.next->b≠bl->h'.get b=h.get b
   refine dJ I ?_ (gS n) ⟨0,by omega,by simp+decide only[st,q0],by simp+decide only[st,q1],by simp+decide only[st],by simp+decide only[st],by simp+decide only[st],S1.bN (by simp+decide only[st,TD];omega) (fun b hb=>(by
    have: ¬b=h.next+1:=by omega
    simp+decide only[st,this])),by simp+decide only[st,TD];omega,⟨.vs [] .full,by simp+decide only[st], .nil⟩,fun b hb _=>(by
    simp+decide only[st,nw b hb,cw b hb])⟩
   rintro m ρ h2 ⟨i,qA,r0,r1,gq,JX,Ut,Sp,aD,⟨a,hga,JO⟩,hU⟩
   obtain⟨tl,rfl⟩:=JO.vs
   have cR:=av Sp.top
   by_cases hi:i<gS n
   ·have AE:=Ll (fs:=fs) (k:=i) (by omega)
    have tR:=Bq (fs:=fs) (k:=i)
    obtain⟨f,hf1,hf2⟩:=KZ (fs:=(takeN fs i).1) (by omega)
    have gZ:takeN fs (i+1)=(ix (takeN fs i).1,(takeN fs i).2++[f]):=by simp only[takeN,hf1,Option.getD_some]
    have ht:=ai2 ok Sp.mem
    rw[hf1] at ht
    have og:=Sp.bQ (gs:=ix (takeN fs i).1) Ls (LZ Sp.mem.len)
    have vJ:(gy h2 bl (ix (takeN fs i).1)).next=h2.next:=rfl
    have nQ: ∀b,b≠bl->(gy h2 bl (ix (takeN fs i).1)).get b=h2.get b:=fun b hb=>by simp only[gy,aa.set];rw[if_neg hb]
    have hgl:(gy h2 bl (ix (takeN fs i).1)).get bl≠some .tail:=by simp[gy,aa.set]
    generalize gy h2 bl (ix (takeN fs i).1)=h3 at*
    have kB: ∀x,h.next<=x->x≠bl:=fun x hx=>by have:=S.l3;omega
    have Tw:h3.get (h.next+1)=some (.cells [.vs (dW (takeN fs i).2) tl, .int .i64 n]):=by rw[nQ _ (kB _ (by omega))];exact hga
    have asY:p5 h.next h3 (.vs (dW (takeN fs i).2) tl) (dW (takeN fs i).2):=by
     rcases JO with⟨h5,h6⟩|⟨t0,h5,h6,h7,h8⟩
     ·exact .inl ⟨h5,h6⟩
     ·exact .inr ⟨t0,h5,by rw[nQ _ (kB _ h7)];exact h6,h7,by omega⟩
    have gN:(dW (takeN fs i).2).length=i:=by simp[dW,tR.2]
    have hhd:dC 1 (dW (takeN fs i).2)=true:=by
     cases(takeN fs i).2<;>simp[dW,dC]
    obtain⟨a4,h4,ha4,PQ,U2,AK,ag9⟩:=ajQ (bytes:=8) (sz:=1) (id:=h3.next) (ys:=[[.int .i64 f]]) asY (Nat.le_refl _) (by omega) (by simp) hhd (by simp only[gN,List.length_singleton];omega) (by simp only[gN,List.length_singleton];omega)
    have cE:dW (takeN fs i).2++[[.int .i64 (f:Int)]]=dW (takeN fs (i+1)).2:=by rw[gZ];simp[dW]
    rw[cE] at PQ
    obtain⟨tl4,rfl⟩:=PQ.vs
    have ahd:h4.get (h.next+1)=some (.cells [.vs (dW (takeN fs i).2) tl, .int .i64 n]):=by rw[AK _ (by omega) (by rw[Tw];simp)];exact Tw
    have sr:=av ahd
    simp+decide only[st,r0,gq,JX,Ut,hi,cR]
    refine au ht ?_
    simp+decide only[st,r0,gq,JX,Ut,cR,av Tw,List.replicate,List.set,ha4,sr,dv (show i<2^61 by omega)]
    have sI:ec h4 bs bm bl bp (takeN fs (i+1)).1 ts:=by
     rw[gZ]
     have Kj: ∀b,b<h2.next->b<h.next\/h3.get b≠some .tail->h4.get b=h3.get b:=fun b hb hor=>by
      rcases hor with h|h
      ·exact ag9 b h
      ·exact AK b (by omega) h
     exact{og with
      top:=by rw[Kj _ Sp.l1 (.inl S.l1)];exact og.top
      mem:={og.mem with top:=by rw[Kj _ Sp.l2 (.inl S.l2)];exact og.mem.top,row:=by rw[Kj _ Sp.l3 (.inl S.l3)];exact og.mem.row}
      map:=by rw[Kj _ Sp.l4 (.inl S.l4)];exact og.map
      l1:=by have:=og.l1;omega
      l2:=by have:=og.l2;omega
      l3:=by have:=og.l3;omega
      l4:=by have:=og.l4;omega}
    have hold: ∀b,b<h.next-> ¬b=h.next+1:=fun b hb=>by omega
    refine⟨m-1,by omega,i+1,by omega,by simp+decide only[st,r0],by simp+decide only[st,r1],by simp+decide only[st,gq],by simp+decide only[st,JX],by simp+decide only[st],?_,by simp+decide only[st];omega,⟨.vs (dW (takeN fs (i+1)).2) tl4,by simp+decide only[st],PQ.of (by simp+decide only[st]) (fun t0 UQ=>?_)⟩,fun b hb ch=>?_⟩
    ·exact{sI with
      top:=by simp+decide only[st,hold _ S.l1];exact sI.top
      mem:={sI.mem with top:=by simp+decide only[st,hold _ S.l2];exact sI.mem.top,row:=by simp+decide only[st,hold _ S.l3];exact sI.mem.row}
      map:=by simp+decide only[st,hold _ S.l4];exact sI.map
      l1:=sI.l1,l2:=sI.l2,l3:=sI.l3,l4:=sI.l4}
    ·have: ¬t0=h.next+1:=fun e=>by rw[e,ahd] at UQ;cases UQ
     simp+decide only[st,this]
     exact UQ
    ·simp+decide only[st,hold b hb]
     rw[ag9 b hb,nQ b ch]
     exact hU b hb ch
   ·have cN:i=gS n:=by omega
    subst cN
    have avu:AV.strip (.agg [.vs (dW (takeN fs (gS n)).2) tl, .int .i64 n])=(⟨(takeN fs (gS n)).2,n⟩:Tb).enc:=by simp only[AV.strip,AV.bG,F8,Tb.enc]
    have lK:=ajf (ts:=ts) (v:=(⟨(takeN fs (gS n)).2,n⟩:Tb).enc) dz
    simp+decide only[st,r0,gq,JX,Ut,hi,cR]
    refine GA rfl ?_
    have l1':=Sp.l1
    have l4':=Sp.l4
    simp+decide only[st,r0,r1,gq,cR,l1',aD,av hga,LY Sp.map,l4',avu,lK]
    refine⟨(jw l4').2 (by simp+decide only[st]),?_⟩
    simp+decide only[st,jO]
    refine⟨?_,?_,fun b hb eo ch=>?_⟩
    ·have Sc:=Sp.clean 7
     exact{Sc with
      top:=by simp+decide only[st,S.n3,l1'];exact Sp.top
      mem:={Sc.mem with top:=by simp+decide only[st,S.n4.symm,Sp.l2];exact Sp.mem.top,row:=by simp+decide only[st,S.n5.symm,Sp.l3];exact Sp.mem.row}
      map:=by simp+decide only[st,mY,List.map_append,List.map_cons,List.map_nil]
      l1:=Sc.l1,l2:=Sc.l2,l3:=Sc.l3,l4:=Sc.l4
      tn:=fun e he=>by
       rcases List.mem_append.1 he with he|he
       ·exact S.tn e he
       ·simp at he;subst he;exact⟨avK,by show(takeN fs (gS n)).2.length=(n+15)/16;rw[Bq.2];unfold gS;omega⟩}
    ·omega
    ·have:b<h2.next:=by omega
     simp+decide only[st,ch,this]
     exact hU b hb eo
end
section
open Go
variable {P:Program} {h:aa} {bs bm bl bp:Nat} {fs:List Fr} {ts:iF}
def lh (fs:List Fr) (l:List Nat):List Fr:=l.foldl (fun fs (f:Nat)=>jk fs f) fs
def vc (ts:iF) (id:Int):iF:=match rG ts id with
 |some i=>ts.eraseIdx i
 |none=>ts
theorem Ws: ∀{l:List Nat} {fs:List Fr},(lh fs l).length=fs.length
 |[],_=>rfl
 |f::l,fs=>by
  have:=Ws (l:=l) (fs:=jk fs f)
  simp only[lh,List.foldl_cons,Lt] at this ⊢
  exact this
theorem Xz: ∀{l:List Nat} {fs:List Fr},(∀f∈fs,f.b.length=16)-> ∀f∈lh fs l,f.b.length=16
 |[],_,h=>h
 |f::l,fs,h=>Xz (l:=l) (fs:=jk fs f) (L1 h)
theorem LB {α β:Type} {f:α->β}: ∀{l:List α} {i:Nat},(l.map f).eraseIdx i=(l.eraseIdx i).map f
 |[],i=>by simp
 |a::l,0=>by simp
 |a::l,i+1=>by simp[LB (l:=l) (i:=i)]
def pS (fs:List Fr) (ts:iF) (id:Int):Int×List Fr×iF:=match eP ts id with
 |none=>(7,fs,ts)
 |some t=>(0,lh fs t.l,vc ts id)
theorem aip {id:Int} {t:Tb} (hf:eP ts id=some t):qZ (.int .u64 id) (mY ts)=some (mY (vc ts id)):=by
 unfold qZ
 rw[F9]
 have: ∃i,rG ts id=some i:=by
  cases ht:rG ts id with
  |some i=>exact⟨i,rfl⟩
  |none=>
   unfold rG at ht
   unfold eP at hf
   rw[List.findIdx?_eq_none_iff] at ht
   obtain⟨x,h1,_⟩:=Option.map_eq_some_iff.1 hf
   have h2:=List.find?_some h1
   have h3:=ht x (List.mem_of_find?_eq_some h1)
   rw[h2] at h3;cases h3
 obtain⟨i,hi⟩:=this
 simp only[vc,hi,Option.map_some,Nat.add_zero,mY,Option.some.injEq]
 rw[LB]
theorem ak8 {id:Int} {e:Int×Tb} (he:e∈vc ts id):e∈ts:=by
 unfold vc at he
 split at he
 ·exact List.mem_of_mem_eraseIdx he
 ·exact he
theorem aic (ok:ax P tb) (S:ec h bs bm bl bp fs ts) (id:Int): ∃h',an P 146 [.ptr bs 0, .int .u64 id] h (.int .i64 (pS fs ts id).1) h'/\
 (ec h' bs bm bl bp (pS fs ts id).2.1 (pS fs ts id).2.2/\h.next<=h'.next/\ ∀b,b<h.next->b≠bl->b≠bp->h'.get b=h.get b):=by
 have mG:=LU ok S id
 have aM: ∀b,b<h.next-> ¬b=h.next:=fun b hb=>by omega
 cases dz:eP ts id with
 |none=>
  have hR:pS fs ts id=(7,fs,ts):=by simp only[pS,dz]
  rw[dz] at mG
  rw[hR]
  refine ok.dT (rf:=xM) rfl (Nat.le_of_ble_eq_true rfl) ?_
  simp+decide only[st,xM,Ox,Ow,Ov,Ou,Ot,Oq,Oo,On,Om,Ol,Mm]
  refine au mG ?_
  simp+decide only[st,pZ,uc,jO]
  refine⟨S.bN (by simp+decide only[st];omega) (fun b hb=>by simp+decide only[st,aM b hb]),by omega,fun b hb _ _=>?_⟩
  simp+decide only[st,aM b hb]
 |some t=>
  have hR:pS fs ts id=(0,lh fs t.l,vc ts id):=by simp only[pS,dz]
  rw[dz] at mG
  rw[hR]
  have lp:t.enc.cells=[.vs (dW t.l) .ao, .int .i64 t.n]:=rfl
  have gN:(dW t.l).length=t.l.length:=by simp[dW]
  have ku:=S.Tj dz
  have x9:=S.small dz
  refine ok.dT (rf:=xM) rfl (Nat.le_of_ble_eq_true rfl) ?_
  simp+decide only[st,xM,Ox,Ow,Ov,Ou,Ot,Oq,Oo,On,Om,Ol,Mm]
  refine au mG ?_
  simp+decide only[st,pZ,lp,gN]
  let I:Nat->Env->aa->Prop:=fun m ρ h'=> ∃i,i+m=t.l.length/\ρ 0= .ptr bs 0/\ρ 1= .int .u64 id/\ρ 19= .vs (dW t.l) .ao/\ρ 20= .int .i64 t.l.length/\ρ 21= .int .i64 i/\
   ec h' bs bm bl bp (lh fs (t.l.take i)) ts/\h.next<=h'.next/\ ∀b,b<h.next->b≠bl->b≠bp->h'.get b=h.get b
  refine dJ I ?_ t.l.length ⟨0,by omega,by simp+decide only[st],by simp+decide only[st],by simp+decide only[st],by simp+decide only[st],by simp+decide only[st],S.bN (by simp+decide only[st];omega) (fun b hb=>(by simp+decide only[st,aM b hb])),by simp+decide only[st];omega,fun b hb _ _=>(by simp+decide only[st,aM b hb])⟩
  rintro m ρ h2 ⟨i,qA,r0,r1,Az,ql,pe,Sp,gZ,hU⟩
  have hc:=av Sp.top
  by_cases hi:i<t.l.length
  ·have hg:(dW t.l)[i]? =some [.int .i64 (t.l[i]:Int)]:=by simp[dW,List.getElem?_eq_getElem hi]
   have fb:=ajv ok Sp.mem Sp.l3 (t.l[i]:Int)
   have hfa:lh fs (t.l.take (i+1))=jk (lh fs (t.l.take i)) (t.l[i]:Int):=by
    rw[<-List.take_append_getElem hi];simp only[lh,List.foldl_append,List.foldl_cons,List.foldl_nil]
   have og:=Sp.bQ (gs:=jk (lh fs (t.l.take i)) (t.l[i]:Int)) Lt (L1 Sp.mem.len)
   rw[<-hfa] at og fb
   simp+decide only[st,r0,r1,Az,ql,pe,hi,hg,hc]
   refine au fb ?_
   simp+decide only[st,pe,dv (show i<2^61 by omega)]
   ·refine⟨m-1,by omega,i+1,by omega,by simp+decide only[st,r0],by simp+decide only[st,r1],by simp+decide only[st,Az],by simp+decide only[st,ql],by simp+decide only[st],og,gZ,fun b hb h1 h2=>?_⟩
    simp only[gy,aa.set]
    rw[if_neg h1]
    exact hU b hb h1 h2
  ·have cN:i=t.l.length:=by omega
   subst cN
   rw[List.take_length] at Sp
   simp+decide only[st,r0,r1,Az,ql,pe,hi,hc,LY Sp.map,aip dz,jO]
   refine⟨{Sp with
    top:=by simp+decide only[st,Sp.n3];exact Sp.top
    mem:={Sp.mem with top:=by simp+decide only[st,Sp.n4.symm];exact Sp.mem.top,row:=by simp+decide only[st,Sp.n5.symm];exact Sp.mem.row}
    map:=by simp+decide only[st]
    l1:=Sp.l1,l2:=Sp.l2,l3:=Sp.l3,l4:=Sp.l4
    tn:=fun e he=>S.tn e (ak8 he)},gZ,fun b hb h1 h2=>?_⟩
   simp+decide only[st,h2]
   exact hU b hb h1 h2
def lP (fs:List Fr) (t:Tb) (j:Nat):Int:=(y8 fs ((t.l[j/16]?.getD 0:Nat):Int) ((j%16:Nat):Int)).1
def gY (fs:List Fr) (t:Tb) (off n:Nat):List Int:=(List.range n).map fun j=>lP fs t (off+j)
def kO (l:List Int):List (List AV):=l.map fun b=>[AV.int .u8 b]
theorem yU {t:Tb} {off n:Nat}:(gY fs t off n).length=n:=by simp[gY]
theorem ai5 (ok:ax P tb) (S:ec h bs bm bl bp fs ts) {id:Int} {off n:Nat} {t:Tb} (aE:il ts id off n=(some t,0)): ∃bo h',an P 48 [.ptr bs 0, .int .u64 id, .int .i64 off, .int .i64 n] h (.ay [.rs bo 0 n 1, .int .i64 0]) h'/\
 (h'.get bo=some (.cells ((gY fs t off n).map (.int .u8)))/\h.next<=bo/\bo<h'.next/\ ∀b,b<h.next->h'.get b=h.get b):=by
 have lR:=FQ ok S id off n
 rw[aE] at lR
 have dz:eP ts id=some t:=by
  unfold il at aE
  split at aE
  ·cases aE
  ·rename_i t' ht
   split at aE
   ·cases aE
   ·cases aE;exact ht
 have avx:off+n<=t.n:=by
  unfold il at aE
  rw[dz] at aE
  simp only at aE
  split at aE
  ·cases aE
  ·omega
 have x9:=S.small dz
 have ku:=S.Tj dz
 have lp:t.enc.cells=[.vs (dW t.l) .ao, .int .i64 t.n]:=rfl
 have tQ:kG 1 (.int .i64 n) (.int .i64 n)=some n:=by
  unfold kG
  simp only[]
  rw[if_pos ⟨by omega,trivial,by omega,by omega⟩]
  simp
 have aM: ∀b,b<h.next-> ¬b=h.next:=fun b hb=>by omega
 have nw: ∀b,b<h.next-> ¬b=h.next+1:=fun b hb=>by omega
 have e1: ¬h.next=h.next+1:=by omega
 have e2: ¬h.next+1=h.next:=by omega
 refine⟨h.next+1,ok.dT (rf:=qJ) rfl (Nat.le_of_ble_eq_true rfl) ?_⟩
 simp+decide only[st,qJ,xm]
 let J:Nat->Env->aa->Prop:=fun m ρ h'=> ∃i,i+m=n/\ρ 0= .ptr bs 0/\ρ 2= .int .i64 off/\ρ 3= .int .i64 n/\ρ 10= .ptr h.next 0/\ρ 12= .rs (h.next+1) 0 n 1/\ρ 13= .int .i64 i/\
  h.next+1<h'.next/\h'.get h.next=some (.cells [.vs (dW t.l) .ao, .int .i64 t.n])/\h'.get (h.next+1)=some (.cells ((gY fs t off i).map (.int .u8)++List.replicate (n-i) (.int .u8 0)))/\ ∀b,b<h.next->h'.get b=h.get b
 refine l8 0 rfl rfl J (fun l' ρ h hk=>hk) ?_ ?_
 ·simp+decide only[st,qJ,xm,DL,DK,DJ,DI,DH,DG,DF,DE,DD,B7,j8]
  refine au lR ?_
  simp+decide only[st,tB,lp,tQ,List.length_cons,List.length_nil]
  refine⟨n,0,by omega,by simp+decide only[st],by simp+decide only[st],by simp+decide only[st],by simp+decide only[st],by simp+decide only[st],by simp+decide only[st],by simp+decide only[st];omega,?_,?_,fun b hb=>?_⟩
  ·simp+decide only[st,e1]
  ·have:(List.replicate n [AV.int .u8 0]).flatten=List.replicate n (.int .u8 0):=by simp
   simp+decide only[st,this,gY,List.range_zero,List.map_nil,Nat.sub_zero]
  ·simp+decide only[st,aM b hb,nw b hb]
 ·rintro m ρ h2 ⟨i,qA,r0,r2,r3,gq,fR,dN,aD,cw,nQ,hU⟩
  have S2:=S.bN (h':=h2) (by omega) hU
  have hc:=av S2.top
  by_cases hi:i<n
  ·have hq:((off:Int)+(i:Int)).tdiv 16=(((off+i)/16:Nat):Int):=by rw[Int.tdiv_eq_ediv_of_nonneg (by omega)];omega
   have hm:((off:Int)+(i:Int)).tmod 16=(((off+i)%16:Nat):Int):=by rw[Int.tmod_eq_emod_of_nonneg (by omega)];omega
   have hw:IntKind.wrap .i64 ((off:Int)+(i:Int))=(off:Int)+(i:Int):=bH (by omega) (by omega)
   have sf:=ry (n:=(off+i)/16) (by omega)
   have iU:(off+i)/16<t.l.length:=by omega
   have cE:(dW t.l)[(off+i)/16]? =some [.int .i64 (t.l[(off+i)/16]:Int)]:=by simp[dW,List.getElem?_eq_getElem iU]
   have S3:=S2.clean 20
   have hld:=ajh ok S3.mem S3.l3 (t.l[(off+i)/16]:Int) (((off+i)%16:Nat):Int)
   have jI:lP fs t (off+i)=(y8 fs (t.l[(off+i)/16]:Int) (((off+i)%16:Nat):Int)).1:=by simp only[lP,List.getElem?_eq_getElem iU,Option.getD_some]
   rw[<-jI] at hld
   have l1:=S2.l1
   have vP:h.next<h2.next:=by omega
   simp+decide only[st,qJ,xm,DL,DK,DJ,DI,DH,DG,DF,DE,DD,B7,r0,r2,r3,gq,fR,dN,hi,hw]
   refine GA rfl ?_
   simp+decide only[st,r0,r2,r3,gq,fR,dN,hc,l1,vP,av cw,hq,sf,cE,List.length_cons,List.length_nil]
   refine fj hld (by simp+decide only[st]) ?_
   have axl:(i:Int)<(n:Nat):=by omega
   have asQ:((gY fs t off i).map (AV.int .u8)++List.replicate (n-i) (AV.int .u8 0)).length=n:=by simp[yU];omega
   have i9:i+1<=n:=by omega
   have mv:h.next+1<h2.next:=aD
   simp+decide only[st,r0,r2,r3,gq,fR,dN,hi,Nat.mul_one,mv,av nQ,asQ,i9,dv (show i<2^61 by omega)]
   have hA:((gY fs t off i).map (AV.int .u8)).length=i:=by simp[yU]
   have eN:List.take i ((gY fs t off i).map (AV.int .u8)++List.replicate (n-i) (AV.int .u8 0))++[AV.int .u8 (lP fs t (off+i))]++List.drop (i+1) ((gY fs t off i).map (AV.int .u8)++List.replicate (n-i) (AV.int .u8 0))=
    (gY fs t off (i+1)).map (AV.int .u8)++List.replicate (n-(i+1)) (AV.int .u8 0):=by
    rw[List.take_append_of_le_length (by omega),List.take_of_length_le (by omega),List.drop_append,List.drop_eq_nil_of_le (by omega),List.nil_append,hA,List.drop_replicate]
    simp only[gY,List.range_succ,List.map_append,List.map_cons,List.map_nil]
    congr 2;omega
   refine⟨(jw aD).2 (by simp+decide only[st]),m-1,by omega,i+1,by omega,by simp+decide only[st,r0],by simp+decide only[st,r2],by simp+decide only[st,r3],by simp+decide only[st,gq],by simp+decide only[st,fR],by simp+decide only[st],by simp+decide only[st];omega,?_,?_,fun b hb=>?_⟩
   ·simp+decide only[st,e1,vP]
    exact cw
   ·simp+decide only[st,eN]
   ·have:b<h2.next:=by omega
    simp+decide only[st,nw b hb,this]
    exact hU b hb
  ·have cN:i=n:=by omega
   subst cN
   rw[Nat.sub_self,List.replicate_zero,List.append_nil] at nQ
   simp+decide only[st,qJ,xm,DL,DK,DJ,DI,DH,DG,DF,DE,DD,B7,r0,r2,r3,gq,fR,dN,hi,jW,jO]
   exact⟨nQ,by omega,aD,hU⟩
theorem alj (ok:ax P tb) (S:ec h bs bm bl bp fs ts) {id:Int} {off n:Nat} {t:Tb} (aE:il ts id off n=(some t,0)):an P 48 [.ptr bs 0, .int .u64 id, .int .i64 off, .int .i64 n] h (.ay [.vs (kO (gY fs t off n)) .ao, .int .i64 0]) h:=by
 obtain⟨bo,h',hc,hg,h1,h2,h3⟩:=ai5 ok S aE
 have asM: ∀(l:List Int),rowsOf (l.map (AV.int .u8)) 0 1 l.length=kO l:=by
  have gen: ∀(l:List Int) (pre:List AV),rowsOf (pre++l.map (AV.int .u8)) pre.length 1 l.length=kO l:=by
   intro l
   induction l with
   |nil=>intro pre;rfl
   |cons x xs ih=>
    intro pre
    simp only[List.length_cons,rowsOf,List.map_cons,List.drop_left]
    have:=ih (pre++[AV.int .u8 x])
    simp only[List.append_assoc,List.singleton_append,List.length_append,List.length_singleton] at this
    rw[this]
    rfl
  intro l
  simpa using gen l []
 have pq:AV.dQ bo ((gY fs t off n).map (AV.int .u8)) (.ay [.rs bo 0 n 1, .int .i64 0])= .ay [.vs (kO (gY fs t off n)) .ao, .int .i64 0]:=by
  have:=asM (gY fs t off n)
  rw[yU] at this
  simp only[AV.dQ,AV.qe,if_true]
  rw[if_pos (by simp[yU]),this]
 have gI: ∀p:Nat->Bool,AV.ic p (kO (gY fs t off n))=true:=by
  intro p
  induction gY fs t off n with
  |nil=>rfl
  |cons x xs ih=>simp only[kO,List.map_cons,AV.ic,AV.cf,AV.bD,Bool.and_true,Bool.true_and] at ih ⊢;exact ih
 have fb:=hc.freeze hg h1 (by rw[pq];simp only[AV.bD,AV.cf,gI,Bool.and_self])
 rw[pq] at fb
 refine fb.restore (fun b hb=>?_) (by simp only[AV.bD,AV.cf,gI,Bool.and_self])
 simp only[aa.set]
 rw[if_neg (by omega)]
 exact h3 b hb
theorem aka (ok:ax P tb) (S:ec h bs bm bl bp fs ts) {id off n e:Int} (aE:il ts id off n=(none,e)) (he:e≠0):an P 48 [.ptr bs 0, .int .u64 id, .int .i64 off, .int .i64 n] h (.ay [.vs [] .full, .int .i64 e]) h:=by
 have lR:=FQ ok S id off n
 rw[aE] at lR
 have aM: ∀b,b<h.next-> ¬b=h.next:=fun b hb=>by omega
 refine ok.keeps (rf:=qJ) rfl (Nat.le_of_ble_eq_true rfl) rfl ?_
 simp+decide only[st,qJ,xm]
 refine l8 0 rfl rfl (fun _ _ _=>False) (fun l' ρ h hk=>hk) ?_ (fun _ _ _ hf=>hf.elim)
 simp+decide only[st,qJ,xm,DL,DK,DJ,DI,DH,DG,DF,DE,DD,B7,j8]
 refine au lR ?_
 simp+decide only[st,tB,uc,he]
 intro b hb
 simp+decide only[st,aM b hb]
def tA (fs:List Fr) (t:Tb) (a:Nat) (v:Int):List Fr:=pR fs ((t.l[a/16]?.getD 0:Nat):Int) ((a%16:Nat):Int) v
def ja (fs:List Fr) (t:Tb) (off:Nat) (bs:List Int):Nat->List Fr
 |0=>fs
 |i+1=>tA (ja fs t off bs i) t (off+i) (bs[i]?.getD 0)
theorem L8 {t:Tb} {off:Nat} {bs:List Int} {i:Nat}:(ja fs t off bs i).length=fs.length:=by
 induction i with
 |zero=>rfl
 |succ i ih=>simp only[ja,tA,Wu,ih]
theorem acq {t:Tb} {off:Nat} {bs:List Int} {i:Nat} (hl: ∀f∈fs,f.b.length=16): ∀f∈ja fs t off bs i,f.b.length=16:=by
 induction i with
 |zero=>exact hl
 |succ i ih=>exact XA ih
theorem aiX (ok:ax P tb) (S:ec h bs bm bl bp fs ts) {id off e:Int} {xs:List (List AV)} {tl:aH} (aE:il ts id off xs.length=(none,e)) (he:e≠0):an P 43 [.ptr bs 0, .int .u64 id, .int .i64 off, .vs xs tl] h (.int .i64 e) h:=by
 have lR:=FQ ok S id off xs.length
 rw[aE] at lR
 have aM: ∀b,b<h.next-> ¬b=h.next:=fun b hb=>by omega
 refine ok.keeps (rf:=qK) rfl (Nat.le_of_ble_eq_true rfl) rfl ?_
 simp+decide only[st,qK,xp]
 refine l8 0 rfl rfl (fun _ _ _=>False) (fun l' ρ h hk=>hk) ?_ (fun _ _ _ hf=>hf.elim)
 simp+decide only[st,qK,xp,DU,DT,DS,DR,DQ,DP,DO,DN,DM,j8]
 refine au lR ?_
 simp+decide only[st,tB,uc,he]
 intro b hb
 simp+decide only[st,aM b hb]
theorem aib (ok:ax P tb) (S:ec h bs bm bl bp fs ts) {id:Int} {off:Nat} {t:Tb} {vs:List Int} {tl:aH} (aE:il ts id off vs.length=(some t,0)): ∃h',an P 43 [.ptr bs 0, .int .u64 id, .int .i64 off, .vs (kO vs) tl] h (.int .i64 0) h'/\
 (ec h' bs bm bl bp (ja fs t off vs vs.length) ts/\h.next<=h'.next/\ ∀b,b<h.next->b≠bl->h'.get b=h.get b):=by
 have lR:=FQ ok S id off vs.length
 rw[aE] at lR
 have kB:(kO vs).length=vs.length:=by simp[kO]
 have dz:eP ts id=some t:=by
  unfold il at aE
  split at aE
  ·cases aE
  ·rename_i t' ht
   split at aE
   ·cases aE
   ·cases aE;exact ht
 have avx:off+vs.length<=t.n:=by
  unfold il at aE
  rw[dz] at aE
  simp only at aE
  split at aE
  ·cases aE
  ·omega
 have x9:=S.small dz
 have ku:=S.Tj dz
 have lp:t.enc.cells=[.vs (dW t.l) .ao, .int .i64 t.n]:=rfl
 have aM: ∀b,b<h.next-> ¬b=h.next:=fun b hb=>by omega
 refine ok.dT (rf:=qK) rfl (Nat.le_of_ble_eq_true rfl) ?_
 simp+decide only[st,qK,xp]
 let J:Nat->Env->aa->Prop:=fun m ρ h'=> ∃i,i+m=vs.length/\ρ 0= .ptr bs 0/\ρ 2= .int .i64 off/\ρ 3= .vs (kO vs) tl/\ρ 9= .ptr h.next 0/\ρ 11= .int .i64 i/\
  h.next<h'.next/\h'.get h.next=some (.cells [.vs (dW t.l) .ao, .int .i64 t.n])/\ec h' bs bm bl bp (ja fs t off vs i) ts/\ ∀b,b<h.next->b≠bl->h'.get b=h.get b
 refine l8 0 rfl rfl J (fun l' ρ h hk=>hk) ?_ ?_
 ·simp+decide only[st,qK,xp,DU,DT,DS,DR,DQ,DP,DO,DN,DM,j8,kB]
  refine au lR ?_
  simp+decide only[st,tB,lp]
  exact⟨vs.length,0,by omega,by simp+decide only[st],by simp+decide only[st],by simp+decide only[st],by simp+decide only[st],by simp+decide only[st],by simp+decide only[st];omega,by simp+decide only[st],S.bN (by simp+decide only[st];omega) (fun b hb=>(by simp+decide only[st,aM b hb])),fun b hb _=>(by simp+decide only[st,aM b hb])⟩
 ·rintro m ρ h2 ⟨i,qA,r0,r2,r3,r9,fM,aD,cw,Sp,hU⟩
  have hc:=av Sp.top
  by_cases hi:i<vs.length
  ·have hq:((off:Int)+(i:Int)).tdiv 16=(((off+i)/16:Nat):Int):=by rw[Int.tdiv_eq_ediv_of_nonneg (by omega)];omega
   have hm:((off:Int)+(i:Int)).tmod 16=(((off+i)%16:Nat):Int):=by rw[Int.tmod_eq_emod_of_nonneg (by omega)];omega
   have hw:IntKind.wrap .i64 ((off:Int)+(i:Int))=(off:Int)+(i:Int):=bH (by omega) (by omega)
   have sf:=ry (n:=(off+i)/16) (by omega)
   have iU:(off+i)/16<t.l.length:=by omega
   have cE:(dW t.l)[(off+i)/16]? =some [.int .i64 (t.l[(off+i)/16]:Int)]:=by simp[dW,List.getElem?_eq_getElem iU]
   have hv:(kO vs)[i]? =some [.int .u8 vs[i]]:=by simp[kO,List.getElem?_eq_getElem hi]
   have S3:=Sp.clean 17
   have dB:=aif ok S3.mem S3.l3 (t.l[(off+i)/16]:Int) (((off+i)%16:Nat):Int) vs[i]
   have hwr:ja fs t off vs (i+1)=pR (ja fs t off vs i) (t.l[(off+i)/16]:Int) (((off+i)%16:Nat):Int) vs[i]:=by
    simp only[ja,tA,List.getElem?_eq_getElem iU,List.getElem?_eq_getElem hi,Option.getD_some]
   have S4:=S3.bQ (gs:=ja fs t off vs (i+1)) (by rw[L8,L8]) (acq S.mem.len)
   rw[<-hwr] at dB
   have l1:=Sp.l1
   have l3:=Sp.l3
   have mJ:((off:Int)+(i:Int)).tmod 16=(((off+i)%16:Nat):Int):=hm
   simp+decide only[st,qK,xp,DU,DT,DS,DR,DQ,DP,DO,DN,DM,r0,r2,r3,r9,fM,hi,hw,kB]
   refine GA rfl ?_
   simp+decide only[st,r0,r2,r3,r9,fM,hc,l1,aD,av cw,hq,sf,cE,hv,mJ,List.length_cons,List.length_nil]
   refine fj dB ((jw l3).2 (by simp+decide only[st])) ?_
   simp+decide only[st,fM,dv (show i<2^61 by omega)]
   refine⟨m-1,by omega,i+1,by omega,by simp+decide only[st,r0],by simp+decide only[st,r2],by simp+decide only[st,r3],by simp+decide only[st,r9],by simp+decide only[st],?_,?_,S4,fun b hb h1=>?_⟩
   ·simp only[gy,aa.set,aa.clean];omega
   ·have:h.next≠bl:=by have:=S.l3;omega
    simp only[gy,aa.set,aa.clean]
    rw[if_neg this,if_pos aD]
    exact cw
   ·simp only[gy,aa.set,aa.clean]
    rw[if_neg h1,if_pos (by omega)]
    exact hU b hb h1
  ·have cN:i=vs.length:=by omega
   subst cN
   simp+decide only[st,qK,xp,DU,DT,DS,DR,DQ,DP,DO,DN,DM,r0,r2,r3,r9,fM,hi,kB,jW,jO]
   exact⟨Sp,by omega,hU⟩
end
section
open Go
variable {fs:List Fr} {ts:iF}
def Valid (fs:List Fr) (l:List Nat):Prop:= ∀f∈l,∃x,fs[f]? =some x/\x.taken=true/\x.b.length=16
def xa (fs:List Fr) (f j:Nat):Int:=((fs[f]?).bind fun x=>x.b[j]?).getD 0
theorem wA {t:Tb} {j:Nat} (hv:Valid fs t.l) (hj:j<16*t.l.length): ∃f,t.l[j/16]? =some f/\lP fs t j=xa fs f (j%16):=by
 have aD:j/16<t.l.length:=by omega
 have hg:=List.getElem?_eq_getElem aD
 obtain⟨x,h1,h2,h3⟩:=hv _ (List.getElem_mem aD)
 refine⟨_,hg,?_⟩
 have ha:iE fs (t.l[j/16]:Int)=some t.l[j/16]:=by
  simp only[iE,Int.toNat_natCast,h1,h2]
  rw[if_pos (by omega)]
  simp
 have hb:kI fs (t.l[j/16]:Int) ((j%16:Nat):Int)=(some (t.l[j/16],j%16),0):=by
  simp only[kI,ha]
  rw[if_neg (by omega),Int.toNat_natCast]
 simp only[lP,hg,Option.getD_some,y8,hb,xa]
theorem GX {t:Tb} {a:Nat} {v:Int} (hv:Valid fs t.l) (ha:a<16*t.l.length): ∃f x,t.l[a/16]? =some f/\fs[f]? =some x/\x.taken=true/\x.b.length=16/\tA fs t a v=fs.set f {x with b:=x.b.set (a%16) v}:=by
 have aD:a/16<t.l.length:=by omega
 have hg:=List.getElem?_eq_getElem aD
 obtain⟨x,h1,h2,h3⟩:=hv _ (List.getElem_mem aD)
 refine⟨_,x,hg,h1,h2,h3,?_⟩
 have hA:iE fs (t.l[a/16]:Int)=some t.l[a/16]:=by
  simp only[iE,Int.toNat_natCast,h1,h2]
  rw[if_pos (by omega)]
  simp
 have hb:kI fs (t.l[a/16]:Int) ((a%16:Nat):Int)=(some (t.l[a/16],a%16),0):=by
  simp only[kI,hA]
  rw[if_neg (by omega),Int.toNat_natCast]
 simp only[tA,hg,Option.getD_some,pR,hb,h1]
theorem ajY {l:List Nat} {f:Nat} {x:Fr} {b:List Int} (hv:Valid fs l) (hx:fs[f]? =some x) (ht:x.taken=true) (hb:b.length=16):Valid (fs.set f {x with b:=b}) l:=by
 intro g hg
 obtain⟨y,h1,h2,h3⟩:=hv g hg
 by_cases h:f=g
 ·subst h
  have aD:=(List.getElem?_eq_some_iff.1 hx).1
  exact⟨_,List.getElem?_set_self aD,ht,hb⟩
 ·exact⟨y,by rw[List.getElem?_set_ne h];exact h1,h2,h3⟩
theorem Ga {t:Tb} {a:Nat} {v:Int} (hv:Valid fs t.l) (ha:a<16*t.l.length) {l:List Nat} (hl:Valid fs l):Valid (tA fs t a v) l:=by
 obtain⟨f,x,_,h1,h2,h3,he⟩:=GX (v:=v) hv ha
 rw[he]
 exact ajY hl h1 h2 (by simp[h3])
theorem akY {t:Tb} {a:Nat} {v:Int} (hv:Valid fs t.l) (ha:a<16*t.l.length):dR (tA fs t a v)=dR fs:=by
 obtain⟨f,x,_,h1,h2,h3,he⟩:=GX (v:=v) hv ha
 obtain⟨aD,UM⟩:=List.getElem?_eq_some_iff.1 h1
 rw[he]
 unfold dR
 rw[List.countP_set aD,UM]
 have:0<List.countP (fun x=>x.taken) fs:=List.countP_pos_iff.2 ⟨x,List.mem_of_getElem? h1,h2⟩
 simp[h2]
 omega
theorem Bs {α:Type} {l:List α} (hn:l.Nodup) {i j:Nat} (hi:i<l.length) (hj:j<l.length) (h:l[i]=l[j]):i=j:=by
 rw[List.nodup_iff_pairwise_ne,List.pairwise_iff_getElem] at hn
 rcases Nat.lt_trichotomy i j with h1|h1|h1
 ·exact absurd h (hn i j hi hj h1)
 ·exact h1
 ·exact absurd h.symm (hn j i hj hi h1)
theorem aq6 {t:Tb} {a j:Nat} {v:Int} (hv:Valid fs t.l) (hn:t.l.Nodup) (ha:a<16*t.l.length) (hj:j<16*t.l.length):lP (tA fs t a v) t j=if j=a then v else lP fs t j:=by
 obtain⟨f,x,hf,h1,h2,h3,he⟩:=GX (v:=v) hv ha
 obtain⟨g,hg,e1⟩:=wA hv hj
 obtain⟨g',cC,e2⟩:=wA (Ga (v:=v) hv ha hv) hj
 rw[hg] at cC;cases cC
 rw[e1,e2,he]
 have aD:=(List.getElem?_eq_some_iff.1 h1).1
 unfold xa
 by_cases Fk:f=g
 ·subst Fk
  have hdiv:a/16=j/16:=by
   have h5:=(List.getElem?_eq_some_iff.1 hf)
   have h6:=(List.getElem?_eq_some_iff.1 hg)
   exact Bs hn h5.1 h6.1 (h5.2.trans h6.2.symm)
  rw[List.getElem?_set_self aD,h1]
  simp only[Option.bind_some,List.getElem?_set]
  by_cases hja:j=a
  ·subst hja
   rw[if_pos rfl,if_pos rfl,if_pos (by omega)]
   rfl
  ·rw[if_neg hja,if_neg (by omega)]
 ·rw[List.getElem?_set_ne Fk]
  have:j≠a:=by
   intro h
   subst h
   rw[hf] at hg;cases hg;exact Fk rfl
  rw[if_neg this]
theorem aij {t t':Tb} {a j:Nat} {v:Int} (hv:Valid fs t.l) (cT:Valid fs t'.l) (hd: ∀f∈t.l,f∉t'.l) (ha:a<16*t.l.length) (hj:j<16*t'.l.length):lP (tA fs t a v) t' j=lP fs t' j:=by
 obtain⟨f,x,hf,h1,h2,h3,he⟩:=GX (v:=v) hv ha
 obtain⟨g,hg,e1⟩:=wA cT hj
 obtain⟨g',cC,e2⟩:=wA (Ga (v:=v) hv ha cT) hj
 rw[hg] at cC;cases cC
 rw[e1,e2,he]
 have Fk:f≠g:=fun h=>hd f (List.mem_of_getElem? hf) (by rw[h];exact List.mem_of_getElem? hg)
 unfold xa
 rw[List.getElem?_set_ne Fk]
section
variable {t:Tb} {off:Nat} {bs:List Int}
theorem Bp (hv:Valid fs t.l) {l:List Nat} (hl:Valid fs l): ∀{i:Nat},off+i<=16*t.l.length->Valid (ja fs t off bs i) t.l/\Valid (ja fs t off bs i) l
 |0,_=>⟨hv,hl⟩
 |i+1,hi=>by
  obtain⟨h1,h2⟩:=Bp hv hl (i:=i) (by omega)
  exact⟨Ga h1 (by omega) h1,Ga h1 (by omega) h2⟩
theorem XT (hv:Valid fs t.l): ∀{i:Nat},off+i<=16*t.l.length->dR (ja fs t off bs i)=dR fs
 |0,_=>rfl
 |i+1,hi=>by
  have h1:=(Bp (bs:=bs) hv hv (i:=i) (off:=off) (by omega)).1
  simp only[ja]
  rw[akY h1 (by omega),XT hv (by omega)]
theorem Zy (hv:Valid fs t.l) (hn:t.l.Nodup) {j:Nat} (hj:j<16*t.l.length): ∀{i:Nat},off+i<=16*t.l.length->lP (ja fs t off bs i) t j=if off<=j/\j<off+i then bs[j-off]?.getD 0 else lP fs t j
 |0,_=>by rw[if_neg (by omega)];rfl
 |i+1,hi=>by
  have h1:=(Bp (bs:=bs) hv hv (i:=i) (off:=off) (by omega)).1
  simp only[ja]
  rw[aq6 h1 hn (by omega) hj,Zy hv hn hj (by omega)]
  by_cases h:j=off+i
  ·subst h
   rw[if_pos rfl,if_pos (by omega)]
   congr 2;omega
  ·rw[if_neg h]
   by_cases h2:off<=j/\j<off+i
   ·rw[if_pos h2,if_pos (by omega)]
   ·rw[if_neg h2,if_neg (by omega)]
theorem VX (hv:Valid fs t.l) {t':Tb} (cT:Valid fs t'.l) (hd: ∀f∈t.l,f∉t'.l) {j:Nat} (hj:j<16*t'.l.length): ∀{i:Nat},off+i<=16*t.l.length->lP (ja fs t off bs i) t' j=lP fs t' j
 |0,_=>rfl
 |i+1,hi=>by
  obtain⟨h1,h2⟩:=Bp (bs:=bs) hv cT (i:=i) (off:=off) (by omega)
  simp only[ja]
  rw[aij h1 h2 hd (by omega) hj,VX hv cT hd hj (by omega)]
end
theorem WJ (hl: ∀f∈fs,f.b.length=16): ∀{k:Nat},k<=fs.length-dR fs->Valid (takeN fs k).1 (takeN fs k).2/\(takeN fs k).2.Nodup/\
 (∀f∈(takeN fs k).2,∃x,fs[f]? =some x/\x.taken=false)/\(∀f∈(takeN fs k).2,∀j,xa (takeN fs k).1 f j=0)/\ ∀f,f∉(takeN fs k).2->(takeN fs k).1[f]? =fs[f]?
 |0,_=>⟨fun f hf=>(by cases hf),List.nodup_nil,fun f hf=>(by cases hf),fun f hf=>(by cases hf),fun _ _=>rfl⟩
 |k+1,hk=>by
  obtain⟨h1,h2,h3,h4,h5⟩:=WJ hl (k:=k) (by omega)
  have AE:=Ll (fs:=fs) (k:=k) (by omega)
  have tR:=Bq (fs:=fs) (k:=k)
  obtain⟨i,hi,_⟩:=KZ (fs:=(takeN fs k).1) (by omega)
  have aA:=hi
  unfold oz at aA
  rw[List.findIdx?_eq_some_iff_getElem] at aA
  obtain⟨aD,AN,_⟩:=aA
  have AN:(takeN fs k).1[i].taken=false:=by simpa using AN
  have hni:i∉(takeN fs k).2:=fun h=>by
   obtain⟨x,e1,e2,_⟩:=h1 i h
   rw[List.getElem?_eq_getElem aD] at e1;cases e1
   rw[AN] at e2;cases e2
  have hT:ix (takeN fs k).1=(takeN fs k).1.set i ⟨List.replicate 16 0,true⟩:=by simp only[ix,hi]
  have aT: ∀f,f≠i->(ix (takeN fs k).1)[f]? =(takeN fs k).1[f]?:=fun f hf=>by rw[hT,List.getElem?_set_ne (Ne.symm hf)]
  have Ik:(ix (takeN fs k).1)[i]? =some ⟨List.replicate 16 0,true⟩:=by rw[hT,List.getElem?_set_self aD]
  simp only[takeN,hi,Option.getD_some]
  refine⟨?_,?_,?_,?_,?_⟩
  ·intro f hf
   by_cases sq:f=i
   ·subst sq;exact⟨_,Ik,rfl,by simp⟩
   ·have qB:f∈(takeN fs k).2:=by simpa [sq] using hf
    rw[aT f sq];exact h1 f qB
  ·rw[List.nodup_append]
   refine⟨h2,by simp,fun a ha b hb=>?_⟩
   simp at hb;subst hb
   exact fun h=>hni (h▸ha)
  ·intro f hf
   by_cases sq:f=i
   ·subst sq
    refine⟨_,?_,AN⟩
    rw[<-h5 f hni];exact List.getElem?_eq_getElem aD
   ·exact h3 f (by simpa [sq] using hf)
  ·intro f hf j
   unfold xa
   by_cases sq:f=i
   ·subst sq
    rw[Ik]
    simp only[Option.bind_some,List.getElem?_replicate]
    split<;>rfl
   ·rw[aT f sq];exact h4 f (by simpa [sq] using hf) j
  ·intro f hf
   have:f≠i/\f∉(takeN fs k).2:=by simpa [not_or,and_comm] using hf
   rw[aT f this.1];exact h5 f this.2
end
section
open Go
variable {fs:List Fr} {ts:iF}
abbrev Mem:=List (Int×List Int)
def jy (n:Nat):Nat:=(n+15)/16
def jn (A:Mem):Nat:=(A.map fun e=>jy e.2.length).sum
def gL (A:Mem) (id:Int):Option (List Int):=(A.find? fun e=>id==e.1).map (·.2)
def jD (ts:iF):List Nat:=(ts.map (·.2.l)).flatten
def kM (fs:List Fr) (t:Tb):List Int:=gY fs t 0 t.n
structure gW (N:Nat) (A:Mem) (fs:List Fr) (ts:iF):Prop where
 len:fs.length=N
 gD:A=ts.map fun e=>(e.1,kM fs e.2)
 tn: ∀e∈ts,e.2.n<=64/\e.2.l.length=(e.2.n+15)/16
 keys:(ts.map (·.1)).Nodup
 valid:Valid fs (jD ts)
 nodup:(jD ts).Nodup
 used:dR fs=(jD ts).length
 b: ∀f∈fs,f.b.length=16
variable {N:Nat} {A:Mem}
theorem Yj {e:Int×Tb} (he:e∈ts) {f:Nat} (hf:f∈e.2.l):f∈jD ts:=List.mem_flatten.2 ⟨_,List.mem_map.2 ⟨e,he,rfl⟩,hf⟩
theorem gW.val (R:gW N A fs ts) {e:Int×Tb} (he:e∈ts):Valid fs e.2.l:=fun f hf=>R.valid f (Yj he hf)
theorem YG {g:Int×Tb->List Int} {id:Int}: ∀{ts:iF},gL (ts.map fun e=>(e.1,g e)) id=(ts.find? fun e=>id==e.1).map g
 |[]=>rfl
 |e::ts=>by
  have ih:=YG (g:=g) (id:=id) (ts:=ts)
  simp only[gL,List.map_cons,List.find?_cons] at ih ⊢
  cases id==e.1
  ·exact ih
  ·rfl
theorem gW.get (R:gW N A fs ts) (id:Int):gL A id=(eP ts id).map (kM fs):=by
 rw[R.gD,YG]
 simp only[eP,Option.map_map]
 rfl
theorem sO {t:Tb}:(kM fs t).length=t.n:=yU
theorem gW.jn (R:gW N A fs ts):jn A=dR fs:=by
 rw[R.used,R.gD]
 have h:=R.tn
 clear R
 unfold Am.jn jD
 induction ts with
 |nil=>rfl
 |cons e ts ih=>
  have h1:=(h e (by simp)).2
  simp only[List.map_cons,List.sum_cons,List.flatten_cons,List.length_append,sO,jy,h1]
  have:=ih (fun x hx=>h x (List.mem_cons_of_mem _ hx))
  simp only[jy,sO] at this
  omega
theorem Xb {eF:List Fr} {t:Tb} (hv:Valid fs t.l) (hl:t.n<=16*t.l.length) (h: ∀f∈t.l,eF[f]? =fs[f]?):kM eF t=kM fs t:=by
 unfold kM gY
 refine List.map_congr_left (fun j hj=>?_)
 have js:j<t.n:=by simpa using hj
 rw[Nat.zero_add]
 have cT:Valid eF t.l:=fun f hf=>by rw[h f hf];exact hv f hf
 obtain⟨f,h1,h2⟩:=wA hv (j:=j) (by omega)
 obtain⟨g,h3,h4⟩:=wA cT (j:=j) (by omega)
 rw[h1] at h3;cases h3
 rw[h2,h4]
 unfold xa
 rw[h f (List.mem_of_getElem? h1)]
def wU (N:Nat) (A:Mem) (id n:Int):Int×Mem:=
 if n<0\/64<n then(1,A) else if(gL A id).isSome then(1,A) else if N-jn A<jy n.toNat then(9,A) else(0,A++[(id,List.replicate n.toNat 0)])
theorem ai1 {id:Int} (h:eP ts id=none):id∉ts.map (·.1):=by
 unfold eP at h
 intro hm
 obtain⟨e,he,h2⟩:=List.mem_map.1 hm
 have:=List.find?_eq_none.1 (Option.map_eq_none_iff.1 h) e he
 simp[h2] at this
theorem gW.map (R:gW N A fs ts) (id n:Int):(lJ fs ts id n).1=(wU N A id n).1/\gW N (wU N A id n).2 (lJ fs ts id n).2.1 (lJ fs ts id n).2.2:=by
 unfold lJ wU
 by_cases h1:n<0\/64<n
 ·simp only[if_pos h1];exact⟨trivial,R⟩
 rw[if_neg h1,if_neg h1]
 obtain⟨n,rfl⟩: ∃k:Nat,n=k:=⟨n.toNat,by omega⟩
 rw[R.get id,Option.isSome_map]
 cases dz:eP ts id with
 |some t=>simp only[Option.isSome,if_true];exact⟨trivial,R⟩
 |none=>
  simp only[Option.isSome,Bool.false_eq_true,if_false]
  have hn:gS n=jy n:=by unfold gS jy;omega
  rw[R.jn,hn,Int.toNat_natCast,<-R.len]
  by_cases h2:fs.length-dR fs<jy n
  ·simp only[if_pos h2];exact⟨trivial,R.len▸R⟩
  ·simp only[if_neg h2]
   refine⟨trivial,?_⟩
   obtain⟨g1,g2,g3,g4,g5⟩:=WJ R.b (k:=jy n) (by omega)
   have tR:=Bq (fs:=fs) (k:=jy n)
   have xG: ∀f∈jD ts,f∉(takeN fs (jy n)).2:=fun f hf hf2=>by
    obtain⟨x,e1,e2,_⟩:=R.valid f hf
    obtain⟨y,e3,e4⟩:=g3 f hf2
    rw[e1] at e3;cases e3
    rw[e2] at e4;cases e4
   have gI:jD (ts++[(id,⟨(takeN fs (jy n)).2,n⟩)])=jD ts++(takeN fs (jy n)).2:=by simp[jD]
   have oS: ∀e∈ts,kM (takeN fs (jy n)).1 e.2=kM fs e.2:=fun e he=>
    Xb (R.val he) (by have:=(R.tn e he).2;omega) (fun f hf=>g5 f (xG f (Yj he hf)))
   exact
   {len:=tR.1
    gD:=by
     rw[List.map_append,List.map_cons,List.map_nil,R.gD]
     congr 1
     ·exact List.map_congr_left (fun e he=>by rw[oS e he])
     ·congr 2
      refine List.ext_getElem (by rw[sO];simp) (fun j vM qz=>?_)
      have hjn:j<n:=by simpa using vM
      simp only[List.getElem_replicate,kM,gY,List.getElem_map,List.getElem_range,Nat.zero_add]
      obtain⟨f,e1,e2⟩:=wA (t:=⟨(takeN fs (jy n)).2,n⟩) g1 (j:=j) (by show j<16*(takeN fs (jy n)).2.length;rw[tR.2];unfold jy;omega)
      rw[e2,g4 f (List.mem_of_getElem? e1)]
    tn:=fun e he=>by
     rcases List.mem_append.1 he with he|he
     ·exact R.tn e he
     ·simp at he;subst he;exact⟨by show n<=64;omega,tR.2⟩
    keys:=by
     rw[List.map_append,List.nodup_append]
     refine⟨R.keys,by simp,fun a ha b hb=>?_⟩
     simp at hb;subst hb
     exact fun h=>ai1 dz (h▸ha)
    valid:=by
     rw[gI]
     intro f hf
     rcases List.mem_append.1 hf with hf|hf
     ·rw[g5 f (xG f hf)];exact R.valid f hf
     ·exact g1 f hf
    nodup:=by
     rw[gI,List.nodup_append]
     exact⟨R.nodup,g2,fun a ha b hb h=>xG a ha (h▸hb)⟩
    used:=by
     rw[gI,List.length_append,Ll (by omega),R.used,tR.2]
    b:=amm R.b}
def u3 (A:Mem) (id:Int) (off:Nat) (vs:List Int):Mem:=A.map fun e=>if id==e.1 then(e.1,e.2.take off++vs++e.2.drop (off+vs.length)) else e
theorem Yr {id off n:Int} {t:Tb} {e:Int} (h:il ts id off n=(some t,e)):eP ts id=some t/\0<=off/\0<=n/\off+n<=t.n/\e=0:=by
 unfold il at h
 split at h
 ·cases h
 ·rename_i t' ht
  split at h
  ·cases h
  ·cases h;exact⟨ht,by omega,by omega,by omega,rfl⟩
theorem keys_eq {e e':Int×Tb} (hk:(ts.map (·.1)).Nodup) (he:e∈ts) (dI:e'∈ts) (h:e.1=e'.1):e=e':=by
 obtain⟨i,hi⟩:=List.mem_iff_getElem.1 he
 obtain⟨j,hj⟩:=List.mem_iff_getElem.1 dI
 obtain⟨hi,rfl⟩:=hi
 obtain⟨hj,rfl⟩:=hj
 have:=Bs hk (i:=i) (j:=j) (by simpa using hi) (by simpa using hj) (by simpa using h)
 subst this
 rfl
theorem akx {α:Type} {ls:List (List α)} (hn:ls.flatten.Nodup) {i j:Nat} {a b:List α} (nP:i≠j) (ha:ls[i]? =some a) (hb:ls[j]? =some b): ∀x∈a,x∉b:=by
 have hp:ls.Pairwise (fun a b=> ∀x∈a,x∉b):=by
  rw[List.nodup_iff_pairwise_ne,List.pairwise_flatten] at hn
  exact hn.2.imp (fun h x hx nJ=>h x hx x nJ rfl)
 rw[List.pairwise_iff_getElem] at hp
 obtain⟨hi,rfl⟩:=List.getElem?_eq_some_iff.1 ha
 obtain⟨hj,rfl⟩:=List.getElem?_eq_some_iff.1 hb
 intro x hx nJ
 rcases Nat.lt_or_gt_of_ne nP with h|h
 ·exact hp i j hi hj h x hx nJ
 ·exact hp j i hj hi h x nJ hx
theorem gW.dm (R:gW N A fs ts) {e e':Int×Tb} (he:e∈ts) (dI:e'∈ts) (h:e≠e'): ∀f∈e.2.l,f∉e'.2.l:=by
 obtain⟨i,hi⟩:=List.mem_iff_getElem?.1 he
 obtain⟨j,hj⟩:=List.mem_iff_getElem?.1 dI
 refine akx R.nodup (i:=i) (j:=j) (fun nP=>?_) (by simp[hi]) (by simp[hj])
 subst nP;rw[hi] at hj;cases hj;exact h rfl
theorem gW.ZD (R:gW N A fs ts) {e:Int×Tb} (he:e∈ts):e.2.l.Nodup:=by
 have:=R.nodup
 unfold jD at this
 rw[List.nodup_iff_pairwise_ne,List.pairwise_flatten] at this
 exact List.nodup_iff_pairwise_ne.2 (this.1 _ (List.mem_map.2 ⟨e,he,rfl⟩))
theorem gW.write (R:gW N A fs ts) {id:Int} {off:Nat} {vs:List Int} {t:Tb} {e:Int} (aE:il ts id off vs.length=(some t,e)):gW N (u3 A id off vs) (ja fs t off vs vs.length) ts:=by
 obtain⟨dz,_,_,hle,_⟩:=Yr aE
 obtain⟨x,hx,pj,rfl⟩:=Gb dz
 have E5:=R.tn x hx
 have hv:=R.val hx
 have JH:off+vs.length<=16*x.2.l.length:=by omega
 have hvalid: ∀l,Valid fs l->Valid (ja fs x.2 off vs vs.length) l:=fun l hl=>(Bp hv hl JH).2
 exact
 {len:=by rw[L8,R.len]
  gD:=by
   unfold u3
   conv=>lhs;rw[R.gD]
   rw[List.map_map]
   refine List.map_congr_left (fun y hy=>?_)
   simp only[Function.comp]
   by_cases aL:id=y.1
   ·have vE:y=x:=keys_eq R.keys hy hx (by rw[<-aL,pj])
    subst vE
    simp only[aL,beq_self_eq_true,if_true]
    congr 1
    refine List.ext_getElem (by simp[sO];omega) (fun j vM qz=>?_)
    have hjn:j<y.2.n:=by rw[sO] at qz;exact qz
    simp only[kM,gY,List.getElem_map,List.getElem_range,Nat.zero_add]
    rw[Zy hv (R.ZD hx) (by omega) JH]
    have yh:(kM fs y.2).length=y.2.n:=sO
    have aw7:(List.take off (List.map (fun j=>lP fs y.2 (0+j)) (List.range y.2.n))).length=off:=by simp;omega
    by_cases h1:j<off
    ·rw[if_neg (by omega),List.getElem_append_left (by simp;omega),List.getElem_append_left (by simp;omega)]
     simp
    ·by_cases h2:j<off+vs.length
     ·rw[if_pos (by omega),List.getElem_append_left (by simp;omega),List.getElem_append_right (by simp;omega)]
      simp only[List.length_take,List.length_map,List.length_range]
      rw[List.getElem?_eq_getElem (by omega)]
      simp only[Option.getD_some]
      congr 1;omega
     ·rw[if_neg (by omega),List.getElem_append_right (by simp;omega)]
      simp only[List.length_append,List.length_take,List.length_map,List.length_range,List.getElem_drop,List.getElem_map,List.getElem_range,Nat.zero_add]
      congr 1;omega
   ·have hb:(id==y.1)=false:=by simpa using aL
    simp only[hb,Bool.false_eq_true,if_false]
    have aM:x≠y:=fun h=>aL (by rw[<-h,pj])
    congr 1
    unfold kM gY
    refine List.map_congr_left (fun j hj=>?_)
    have hjn:j<y.2.n:=by simpa using hj
    rw[VX hv (R.val hy) (R.dm hx hy aM) (by have:=(R.tn y hy).2;omega) JH]
  tn:=R.tn
  keys:=R.keys
  valid:=hvalid _ R.valid
  nodup:=R.nodup
  used:=by rw[XT hv JH,R.used]
  b:=acq R.b}
theorem gW.read (R:gW N A fs ts) {id:Int} {off n:Nat} {t:Tb} {e:Int} (aE:il ts id off n=(some t,e)):gY fs t off n=((kM fs t).drop off).take n:=by
 obtain⟨dz,_,_,hle,_⟩:=Yr aE
 refine List.ext_getElem (by simp[yU,sO];omega) (fun j h1 h2=>?_)
 simp[gY,kM]
end
section
open Go
variable {fs:List Fr} {ts:iF} {N:Nat} {A:Mem}
def rT (A:Mem) (id:Int):Mem:=A.eraseP fun e=>id==e.1
theorem YO {id:Int}: ∀{ts:iF},vc ts id=ts.eraseP fun e=>id==e.1
 |[]=>rfl
 |e::ts=>by
  have ih:=YO (id:=id) (ts:=ts)
  simp only[vc,rG,List.findIdx?_cons,List.eraseP_cons] at ih ⊢
  cases h:id==e.1
  ·simp only[Bool.false_eq_true,if_false]
   rw[<-ih]
   cases h2:List.findIdx? (fun e=>id==e.1) ts with
   |none=>rfl
   |some i=>simp[h2]
  ·rfl
theorem W6 {f g:Nat} (h:g≠f):(jk fs (f:Int))[g]? =fs[g]?:=by
 unfold jk
 split
 ·rfl
 ·rename_i i hi
  obtain⟨x,_,_,e⟩:=LG hi
  have:i=f:=by omega
  subst this
  split
  ·rfl
  ·rw[List.getElem?_set_ne (Ne.symm h)]
theorem Wt: ∀{l:List Nat} {fs:List Fr} {g:Nat},g∉l->(lh fs l)[g]? =fs[g]?
 |[],_,_,_=>rfl
 |f::l,fs,g,h=>by
  have h1:=Wt (l:=l) (fs:=jk fs f) (g:=g) (fun hm=>h (List.mem_cons_of_mem _ hm))
  simp only[lh,List.foldl_cons] at h1 ⊢
  rw[h1,W6 (fun e=>h (by rw[e];simp))]
theorem aiF {f:Nat} {x:Fr} (hx:fs[f]? =some x) (ht:x.taken=true):dR (jk fs (f:Int))+1=dR fs:=by
 have ha:iE fs (f:Int)=some f:=by
  simp only[iE,Int.toNat_natCast,hx,ht]
  rw[if_pos (by omega)]
  simp
 obtain⟨aD,UM⟩:=List.getElem?_eq_some_iff.1 hx
 simp only[jk,ha,hx]
 unfold dR
 rw[List.countP_set aD,UM]
 have:0<List.countP (fun x=>x.taken) fs:=List.countP_pos_iff.2 ⟨x,List.mem_of_getElem? hx,ht⟩
 simp[ht]
 omega
theorem V1: ∀{l:List Nat} {fs:List Fr},l.Nodup->Valid fs l->dR (lh fs l)+l.length=dR fs
 |[],_,_,_=>rfl
 |f::l,fs,hn,hv=>by
  obtain⟨x,h1,h2,_⟩:=hv f (by simp)
  have jd:=List.nodup_cons.1 hn
  have:=V1 (l:=l) (fs:=jk fs f) jd.2 (fun g hg=>by
   have hgf:g≠f:=fun e=>jd.1 (by rw[<-e];exact hg)
   rw[W6 hgf]
   exact hv g (List.mem_cons_of_mem _ hg))
  have h3:=aiF h1 h2
  simp only[lh,List.foldl_cons,List.length_cons] at this ⊢
  omega
def wh (A:Mem) (id:Int):Int×Mem:=match gL A id with
 |none=>(7,A)
 |some _=>(0,rT A id)
theorem eraseP_map {α β:Type} {p:β->Bool} {f:α->β}: ∀{l:List α},(l.map f).eraseP p=(l.eraseP (p∘f)).map f
 |[]=>rfl
 |a::l=>by
  simp only[List.map_cons,List.eraseP_cons,Function.comp]
  cases p (f a)
  ·simp[eraseP_map (l:=l)]
  ·rfl
theorem gW.PB (R:gW N A fs ts) (id:Int):(pS fs ts id).1=(wh A id).1/\gW N (wh A id).2 (pS fs ts id).2.1 (pS fs ts id).2.2:=by
 unfold pS wh
 rw[R.get id]
 cases dz:eP ts id with
 |none=>exact⟨rfl,R⟩
 |some t=>
  simp only[Option.map_some]
  refine⟨trivial,?_⟩
  obtain⟨x,hx,pj,rfl⟩:=Gb dz
  obtain⟨a,l1,l2,h1,h2,h3,h4⟩:=List.exists_of_eraseP hx (p:=fun e=>id==e.1) (by simp[pj])
  have Vh:a=x:=keys_eq R.keys (by rw[h3];simp) hx (by simp at h2;rw[pj,<-h2])
  subst Vh
  rw[YO,h4]
  have dc: ∀e∈l1++l2,e∈ts:=fun e he=>by
   rw[h3]
   rcases List.mem_append.1 he with h|h
   ·exact List.mem_append_left _ h
   ·exact List.mem_append_right _ (List.mem_cons_of_mem _ h)
  have iQ:=R.keys
  rw[h3,List.map_append,List.map_cons] at iQ
  have vL: ∀e∈l1++l2,e≠a:=fun e he h=>by
   subst h
   rw[List.nodup_append,List.nodup_cons] at iQ
   rcases List.mem_append.1 he with h|h
   ·exact iQ.2.2 _ (List.mem_map.2 ⟨e,h,rfl⟩) _ (by simp) rfl
   ·exact iQ.2.1.1 (List.mem_map.2 ⟨e,h,rfl⟩)
  have xG: ∀e∈l1++l2,∀f∈e.2.l,f∉a.2.l:=fun e he=>R.dm (dc e he) hx (vL e he)
  have aT: ∀e∈l1++l2,∀f∈e.2.l,(lh fs a.2.l)[f]? =fs[f]?:=fun e he f hf=>Wt (xG e he f hf)
  have Em:=R.nodup
  have AE:=R.used
  have hfu:=V1 (R.ZD hx) (R.val hx)
  have asX:jD ts=jD l1++(a.2.l++jD l2):=by rw[h3];simp[jD]
  have acM:jD (l1++l2)=jD l1++jD l2:=by simp[jD]
  rw[asX] at Em AE
  exact
  {len:=by rw[Ws,R.len]
   gD:=by
    unfold rT
    conv=>lhs;rw[R.gD]
    rw[eraseP_map]
    have:(fun e=>id==e.1)∘(fun e:Int×Tb=>(e.1,kM fs e.2))=fun e=>id==e.1:=rfl
    rw[this,h4]
    refine List.map_congr_left (fun e he=>?_)
    congr 1
    exact(Xb (R.val (dc e he)) (by have:=(R.tn e (dc e he)).2;omega) (aT e he)).symm
   tn:=fun e he=>R.tn e (dc e he)
   keys:=by
    rw[List.map_append]
    rw[List.nodup_append,List.nodup_cons] at iQ
    rw[List.nodup_append]
    exact⟨iQ.1,iQ.2.1.2,fun u hu v hv=>iQ.2.2 u hu v (List.mem_cons_of_mem _ hv)⟩
   valid:=fun f hf=>by
    obtain⟨l,hl,bT⟩:=List.mem_flatten.1 hf
    obtain⟨e,he,rfl⟩:=List.mem_map.1 hl
    rw[aT e he f bT]
    exact R.val (dc e he) f bT
   nodup:=by
    rw[acM]
    rw[List.nodup_append,List.nodup_append] at Em
    rw[List.nodup_append]
    exact⟨Em.1,Em.2.1.2.1,fun u hu v hv=>Em.2.2 u hu v (List.mem_append_right _ hv)⟩
   used:=by
    rw[acM,List.length_append]
    simp only[List.length_append] at AE
    omega
   b:=Xz R.b}
variable {P:Program} {h:aa} {bs bm bl bp:Nat}
def gQ (h:aa) (bs bm bl bp N:Nat) (A:Mem):Prop:= ∃fs ts,ec h bs bm bl bp fs ts/\gW N A fs ts
theorem gQ.bN (S:gQ h bs bm bl bp N A) {h':aa} (hn:h.next<=h'.next) (hk: ∀b,b<h.next->h'.get b=h.get b):gQ h' bs bm bl bp N A:=by
 obtain⟨fs,ts,S,R⟩:=S
 exact⟨fs,ts,S.bN hn hk,R⟩
theorem gQ.clean (S:gQ h bs bm bl bp N A) (n:Nat):gQ (h.clean n) bs bm bl bp N A:=by
 obtain⟨fs,ts,S,R⟩:=S
 exact⟨fs,ts,S.clean n,R⟩
theorem gQ.lt (S:gQ h bs bm bl bp N A):bs<h.next/\bm<h.next/\bl<h.next/\bp<h.next:=by
 obtain⟨fs,ts,S,R⟩:=S
 exact⟨S.l1,S.l2,S.l3,S.l4⟩
theorem auR (ok:ax P tb) (h:aa) (n:Int): ∃bs bm bl bp h',an P 39 [.int .i64 n] h (.ptr bs 0) h'/\gQ h' bs bm bl bp (uN n) []/\
 h.next<=bs/\h.next<=bm/\h.next<=bl/\h.next<=bp/\h.next<=h'.next/\ ∀b,b<h.next->h'.get b=h.get b:=by
 obtain⟨bs,bm,bl,bp,h',h1,h2,h3⟩:=anx ok h n
 refine⟨bs,bm,bl,bp,h',h1,⟨_,_,h2,?_⟩,h3⟩
 exact{len:=by simp,gD:=rfl,tn:=fun e he=>(by cases he),keys:=List.nodup_nil,valid:=fun f hf=>(by cases hf),nodup:=List.nodup_nil
       used:=by unfold dR;rw[List.countP_replicate];rfl
       b:=fun f hf=>by simp[List.mem_replicate] at hf;simp[hf.2,F0]}
theorem auS (ok:ax P tb) (S:gQ h bs bm bl bp N A) (id n:Int): ∃h',an P 42 [.ptr bs 0, .int .u64 id, .int .i64 n] h (.int .i64 (wU N A id n).1) h'/\
 (gQ h' bs bm bl bp N (wU N A id n).2/\h.next<=h'.next/\ ∀b,b<h.next->b≠bl->b≠bp->h'.get b=h.get b):=by
 obtain⟨fs,ts,S,R⟩:=S
 obtain⟨h',h1,h2,h3⟩:=aki ok S id n
 obtain⟨e1,e2⟩:=R.map id n
 rw[e1] at h1
 exact⟨h',h1,⟨_,_,h2,e2⟩,h3⟩
theorem anq (ok:ax P tb) (S:gQ h bs bm bl bp N A) (id:Int): ∃h',an P 146 [.ptr bs 0, .int .u64 id] h (.int .i64 (wh A id).1) h'/\
 (gQ h' bs bm bl bp N (wh A id).2/\h.next<=h'.next/\ ∀b,b<h.next->b≠bl->b≠bp->h'.get b=h.get b):=by
 obtain⟨fs,ts,S,R⟩:=S
 obtain⟨h',h1,h2,h3⟩:=aic ok S id
 obtain⟨e1,e2⟩:=R.PB id
 rw[e1] at h1
 exact⟨h',h1,⟨_,_,h2,e2⟩,h3⟩
theorem auT (ok:ax P tb) (S:gQ h bs bm bl bp N A) (id:Int):an P 47 [.ptr bs 0, .int .u64 id] h (match gL A id with|some d=> .ay [.int .i64 d.length, .int .i64 0]|none=> .ay [.int .i64 0, .int .i64 7]) h:=by
 obtain⟨fs,ts,S,R⟩:=S
 have:=ajk ok S id
 rw[R.get id]
 cases dz:eP ts id with
 |none=>rw[dz] at this;exact this
 |some t=>rw[dz] at this;simp only[Option.map_some,sO];exact this
def rE (A:Mem) (id off n:Int):Option (List Int)×Int:=match gL A id with
 |none=>(none,7)
 |some d=>if off<0\/n<0\/(d.length:Int)<off\/(d.length:Int)-off<n then(none,11) else(some d,0)
theorem gW.J7 (R:gW N A fs ts) (id off n:Int):rE A id off n=((il ts id off n).1.map (kM fs),(il ts id off n).2):=by
 unfold rE il
 rw[R.get id]
 cases eP ts id with
 |none=>rfl
 |some t=>
  simp only[Option.map_some,sO]
  split<;>rfl
theorem aqY (ok:ax P tb) (S:gQ h bs bm bl bp N A) {id:Int} {off n:Nat} {d:List Int} (aE:rE A id off n=(some d,0)):an P 48 [.ptr bs 0, .int .u64 id, .int .i64 off, .int .i64 n] h (.ay [.vs (kO ((d.drop off).take n)) .ao, .int .i64 0]) h:=by
 obtain⟨fs,ts,S,R⟩:=S
 rw[R.J7] at aE
 cases hr:il ts id off n with
 |mk o e=>
  rw[hr] at aE
  cases o with
  |none=>cases aE
  |some t=>
   cases aE
   have:=alj ok S hr
   rw[R.read hr] at this
   exact this
theorem aiW (ok:ax P tb) (S:gQ h bs bm bl bp N A) {id off n e:Int} (aE:rE A id off n=(none,e)) (he:e≠0):an P 48 [.ptr bs 0, .int .u64 id, .int .i64 off, .int .i64 n] h (.ay [.vs [] .full, .int .i64 e]) h:=by
 obtain⟨fs,ts,S,R⟩:=S
 rw[R.J7] at aE
 cases hr:il ts id off n with
 |mk o e'=>
  rw[hr] at aE
  cases o with
  |none=>cases aE;exact aka ok S hr he
  |some t=>cases aE
theorem anp (ok:ax P tb) (S:gQ h bs bm bl bp N A) {id:Int} {off:Nat} {vs d:List Int} {tl:aH} (aE:rE A id off vs.length=(some d,0)): ∃h',an P 43 [.ptr bs 0, .int .u64 id, .int .i64 off, .vs (kO vs) tl] h (.int .i64 0) h'/\
 (gQ h' bs bm bl bp N (u3 A id off vs)/\h.next<=h'.next/\ ∀b,b<h.next->b≠bl->h'.get b=h.get b):=by
 obtain⟨fs,ts,S,R⟩:=S
 rw[R.J7] at aE
 cases hr:il ts id off vs.length with
 |mk o e=>
  rw[hr] at aE
  cases o with
  |none=>cases aE
  |some t=>
   cases aE
   obtain⟨h',h1,h2,h3⟩:=aib ok S (tl:=tl) hr
   exact⟨h',h1,⟨_,_,h2,R.write hr⟩,h3⟩
theorem aia (ok:ax P tb) (S:gQ h bs bm bl bp N A) {id off e:Int} {xs:List (List AV)} {tl:aH} (aE:rE A id off xs.length=(none,e)) (he:e≠0):an P 43 [.ptr bs 0, .int .u64 id, .int .i64 off, .vs xs tl] h (.int .i64 e) h:=by
 obtain⟨fs,ts,S,R⟩:=S
 rw[R.J7] at aE
 cases hr:il ts id off xs.length with
 |mk o e'=>
  rw[hr] at aE
  cases o with
  |none=>cases aE;exact aiX ok S hr he
  |some t=>cases aE
end
section
open Go
variable {P:Program}
structure Sl where
 r:Option (Nat×List UInt8)
 bQ:Int
def Sl.enc (s:Sl):List AV:=match s.r with
 |some (id,b)=>[.int .u64 id, .vs (BS b) .ao, .bool true, .int .i64 s.bQ]
 |none=>[.int .u64 0, .vs [] .full, .bool false, .int .i64 s.bQ]
theorem Sl.len {s:Sl}:s.enc.length=4:=by unfold Sl.enc;split<;>rfl
theorem pP {S:List Sl}: ∀r∈S.map Sl.enc,r.length=4:=fun r hr=>by
 obtain⟨s,_,rfl⟩:=List.mem_map.1 hr
 exact s.len
theorem Sl.taken {s:Sl}:s.enc[2]? =some (.bool s.r.isSome):=by unfold Sl.enc;split<;>simp[*]
theorem Sl.trn {s:Sl}:s.enc[3]? =some (.int .i64 s.bQ):=by unfold Sl.enc;split<;>rfl
theorem Sl.aco {s:Sl}:s.enc.all AV.one=true:=by unfold Sl.enc;split<;>rfl
def kJ (es:List (Nat×Nat)):List (AV×AV):=es.map fun e=>(.int .u64 e.1, .int .i64 e.2)
def cp (es:List (Nat×Nat)) (id:Nat):Option Nat:=(es.find? fun e=>id==e.1).map (·.2)
def nq (es:List (Nat×Nat)) (id:Nat):Option Nat:=es.findIdx? fun e=>id==e.1
theorem al7 {a b:Nat}:((a:Int)==(b:Int))=(a==b):=by
 rw[Bool.eq_iff_iff];simp only[beq_iff_eq];omega
theorem GP {id:Nat}: ∀(es:List (Nat×Nat)) (i:Nat),mh (.int .u64 id) (kJ es) i=some ((nq es id).map (· +i))
 |[],i=>rfl
 |e::es,i=>by
  have ih:=GP (id:=id) es (i+1)
  simp only[kJ,List.map_cons,mh,if_true,nq,List.findIdx?_cons,al7] at ih ⊢
  by_cases h:(id==e.1)=true
  ·simp[h]
  ·have h':(id==e.1)=false:=by simpa using h
   simp only[h',Bool.false_eq_true,if_false,ih,Option.map_map]
   cases List.findIdx? (fun e=>id==e.1) es with
   |none=>rfl
   |some k=>simp only[Option.map_some,Function.comp];congr 2;omega
theorem Gg {id:Nat}: ∀{es:List (Nat×Nat)},cp es id=(nq es id).bind fun i=>(es[i]?).map (·.2)
 |[]=>rfl
 |e::es=>by
  have ih:=Gg (id:=id) (es:=es)
  simp only[cp,nq,List.find?_cons,List.findIdx?_cons] at ih ⊢
  cases h:id==e.1
  ·simp only[Bool.false_eq_true,if_false,ih]
   cases List.findIdx? (fun e=>id==e.1) es<;>rfl
  ·rfl
theorem amz {id:Nat} {es:List (Nat×Nat)}:uu (.int .u64 id) (kJ es)=some ((cp es id).map fun i=> .int .i64 i):=by
 unfold uu
 rw[GP,Gg]
 cases hq:nq es id with
 |none=>rfl
 |some i=>
  have:=(List.findIdx?_eq_some_iff_getElem.1 hq).1
  simp[kJ,List.getElem?_eq_getElem this]
theorem GL {h:aa} {mb id:Nat} {es:List (Nat×Nat)} (hm:h.get mb=some (.map (kJ es))) {b:Bool}:mZ (.int .i64 0) b h (.map (some mb)) (.int .u64 id)=some (match cp es id with|some i=>if b then .ay [.int .i64 i, .bool true] else .int .i64 i|none=>if b then .ay [.int .i64 0, .bool false] else .int .i64 0):=by
 simp only[mZ,hm,amz,Option.map_some]
 cases cp es id<;>cases b<;>rfl
theorem alx {id i:Nat} {es:List (Nat×Nat)} (hn:cp es id=none):qY (.int .u64 id) (.int .i64 i) (kJ es)=some (kJ (es++[(id,i)])):=by
 have:nq es id=none:=by
  unfold cp at hn;unfold nq
  rw[Option.map_eq_none_iff,List.find?_eq_none] at hn
  rw[List.findIdx?_eq_none_iff]
  exact fun x hx=>by simpa using hn x hx
 unfold qY
 rw[GP,this]
 simp[kJ]
theorem aly {id i:Nat} {es:List (Nat×Nat)} (hn:nq es id=some i):qZ (.int .u64 id) (kJ es)=some (kJ (es.eraseIdx i)):=by
 unfold qZ
 rw[GP,hn]
 simp only[Option.map_some,Nat.add_zero,Option.some.injEq,kJ]
 exact LB
structure eu (h:aa) (ab mb lb cr:Nat) (S:List Sl) (es:List (Nat×Nat)):Prop where
 top: ∃lv,h.get ab=some (.cells [.int .u8 cr,lv, .map (some mb)])/\((S=[]/\lv= .vs [] .full)\/(S≠[]/\lv= .rs lb 0 S.length 4/\h.get lb=some (.cells (S.map Sl.enc).flatten)/\lb<h.next/\lb≠ab/\lb≠mb))
 map:h.get mb=some (.map (kJ es))
 l1:ab<h.next
 l2:mb<h.next
 n1:ab≠mb
 small:S.length<2^20
variable {h:aa} {ab mb lb cr:Nat} {S:List Sl} {es:List (Nat×Nat)}
theorem eu.bN (A:eu h ab mb lb cr S es) {h':aa} (hn:h.next<=h'.next) (h1:h'.get ab=h.get ab) (h2:h'.get mb=h.get mb) (h3:S≠[]->h'.get lb=h.get lb):eu h' ab mb lb cr S es:=by
 obtain⟨lv,t1,t2⟩:=A.top
 refine⟨⟨lv,by rw[h1,t1],?_⟩,by rw[h2,A.map],Nat.lt_of_lt_of_le A.l1 hn,Nat.lt_of_lt_of_le A.l2 hn,A.n1,A.small⟩
 rcases t2 with t2|⟨e0,e1,e2,e3,e4,e5⟩
 ·exact .inl t2
 ·exact .inr ⟨e0,e1,by rw[h3 e0,e2],by omega,e4,e5⟩
theorem eu.lO (A:eu h ab mb lb cr S es): ∃lv,h.get ab=some (.cells [.int .u8 cr,lv, .map (some mb)])/\lv.one=true/\lv.cells=[lv]/\ ∀h',h'.get lb=h.get lb->iv h' lv 4 (S.map Sl.enc):=by
 obtain⟨lv,t1,t2⟩:=A.top
 rcases t2 with⟨rfl,rfl⟩|⟨e0,rfl,e2,e3,e4,e5⟩
 ·exact⟨_,t1,rfl,rfl,fun h' _=>⟨rfl,fun i hi=>by simp at hi⟩⟩
 ·refine⟨_,t1,rfl,rfl,fun h' hl=>?_⟩
  have:=iv.rs (h:=h') (b:=lb) (sz:=4) (rows:=S.map Sl.enc) (cs:=(S.map Sl.enc).flatten) (av (by rw[hl,e2])) (by rw[<-ji pP,List.take_length]) pP
  rwa [List.length_map] at this
theorem aoX (ok:ax P tb) {g:Nat} {d9:List AV} {q:Sl->Bool} {v:AV} (hv:iv h v 4 (S.map Sl.enc)) (hl:S.length<2^30) (hg:cj P g=true) (hq: ∀p∈S,an P g (.agg p.enc::d9) h (.bool (q p)) h):
 an P 85 [v, .fn g [] d9] h (.int .i64 (ke q S)) h:=by
 refine ok.calls (rf:=yl) rfl (Nat.le_of_ble_eq_true rfl) ?_
 have hlen:gH v=some S.length:=by rw[hv.len,List.length_map]
 simp+decide only[st,xv,yl,IJ,II,hlen]
 let I:Nat->Env->aa->Prop:=fun n ρ h'=>h'=h/\ ∃i:Nat,S.length=i+n/\(∀j,j<i-> ∀hj:j<S.length,q S[j]=false)/\ρ 0=v/\ρ 1= .fn g [] d9/\ρ 7= .int .i64 S.length/\ρ 8= .int .i64 i
 refine dJ I ?_ S.length ⟨rfl,0,by omega,by omega,rfl,rfl,rfl,rfl⟩
 rintro n ρ h' ⟨rfl,i,aE,hf,r0,r1,r7,r8⟩
 by_cases hi:i<S.length
 ·have aA:(i:Int)<(S.length:Int):=by omega
  have hw:=dv (show i<2^61 by omega)
  obtain⟨p,g1,g2⟩:=hv.get i (by rw[List.length_map];exact hi)
  rw[List.getElem_map] at g2
  simp+decide only[st,xv,yl,IJ,II,Qe,Qd,Qc,Qb,Qa,P9,r0,r1,r7,r8,aA,g1,g2]
  refine pO hg (hq S[i] (List.getElem_mem hi)) ?_
  by_cases lT:q S[i]=true
  ·simp+decide only[st,xv,lT,r8,GR hi hf lT]
  ·have qw:q S[i]=false:=by simpa using lT
   simp+decide only[st,xv,qw,r8,hw]
   refine⟨n-1,by omega,rfl,i+1,by omega,fun j hj dP=>?_,r0,r1,r7,rfl⟩
   by_cases eE:j=i
   ·subst eE;exact qw
   ·exact hf j (by omega) dP
 ·have aA: ¬(i:Int)<(S.length:Int):=by omega
  have dF:=GQ (q:=q) (l:=S) (fun j _ hj=>hf j (by omega) hj)
  simp+decide only[st,xv,yl,IJ,II,Qe,Qd,Qc,Qb,Qa,P9,r7,r8,aA,dF]
  rfl
def wW (S:List Sl):Option Nat:=S.findIdx? fun s=>s.r.isNone
theorem aky {S:List Sl}:ke (fun s=>!s.r.isSome) S=match wW S with|some i=>(i:Int)|none=> -1:=by
 unfold ke wW
 cases hq:S.findIdx? (fun s=>s.r.isNone) with
 |none=>
  have:S.findIdx (fun s=>!s.r.isSome)=S.length:=by
   rw[List.findIdx_eq_length]
   rw[List.findIdx?_eq_none_iff] at hq
   intro x hx
   have:=hq x hx
   cases hr:x.r<;>simp_all
  rw[this,if_neg (by omega)]
 |some i=>
  obtain⟨hi,h1,h2⟩:=List.findIdx?_eq_some_iff_getElem.1 hq
  have:S.findIdx (fun s=>!s.r.isSome)=i:=by
   rw[List.findIdx_eq hi]
   refine⟨by cases hr:S[i].r<;>simp_all,fun j hj=>?_⟩
   have:=h2 j hj
   cases hr:S[j].r<;>simp_all
  rw[this,if_pos hi]
theorem asZ (ok:ax P tb) {s:Sl}:an P 86 [.agg s.enc] h (.bool (!s.r.isSome)) h:=by
 refine ok.keeps (rf:=FD) rfl (Nat.le_of_ble_eq_true rfl) rfl ?_
 simp+decide only[st,xv,FD,adw,adv,Sl.aco,Sl.taken]
 first|(intro b hb;first|(intros;omega)|(repeat(first|rw[if_neg (by omega)]|rw[if_pos (by omega)]));done)|(refine⟨rfl,?_⟩;intro b hb;first|(intros;omega)|(repeat(first|rw[if_neg (by omega)]|rw[if_pos (by omega)])))
theorem S9 (ok:ax P tb) (A:eu h ab mb lb cr S es) {id:Nat}:an P 75 [.ptr ab 0, .int .u64 id] h (match cp es id with|some i=> .ay [.int .i64 i, .int .i64 0]|none=> .ay [.int .i64 0, .int .i64 7]) h:=by
 refine ok.keeps (rf:=yq) rfl (Nat.le_of_ble_eq_true rfl) (by cases cp es id<;>rfl) ?_
 obtain⟨lv,t1,t2⟩:=A.top
 have hc:=av t1
 have hl:=GL A.map (id:=id) (b:=true)
 simp+decide only[st,xv,yq,adV,adU,IU,hc,hl]
 cases hn:cp es id with
 |none=>
  simp+decide only[st,xv,yq,IU,QH,adT]
 |some i=>
  simp+decide only[st,xv,yq,IU,QH,adS]
theorem awU (ok:ax P tb) (A:eu h ab mb lb cr S es) {id:Nat} (hk: ∀i,cp es id=some i-> ∃rec bQ,S[i]? =some ⟨some (id,rec),bQ⟩/\rec.length<2^20):
 an P 45 [.ptr ab 0, .int .u64 id] h (match(cp es id).bind fun i=>(S[i]?).bind (·.r) with|some r=> .ay [.vs (BS r.2) .ao, .int .i64 0]|none=> .ay [.vs [] .ao, .int .i64 7]) h:=by
 refine ok.eH (rf:=vZ) rfl (Nat.le_of_ble_eq_true rfl) (by split<;>simp only[AV.bD,AV.cf,uw]<;>rfl) ?_
 obtain⟨lv,t1,q1,q2,lO⟩:=A.lO
 have hc:=av t1
 simp+decide only[st,xv,vZ,afd,I7]
 refine au (S9 ok A) ?_
 cases hn:cp es id with
 |none=>
  simp+decide only[st,xv,vZ,I7,RZ,afc,bB]
  rfl
 |some i=>
  obtain⟨rec,bQ,hs,gN⟩:=hk i hn
  have hi:i<S.length:=by
   rcases Nat.lt_or_ge i S.length with h|h
   ·exact h
   ·rw[List.getElem?_eq_none h] at hs;cases hs
  have si:S[i]=⟨some (id,rec),bQ⟩:=by rw[List.getElem?_eq_getElem hi] at hs;exact Option.some.inj hs
  have rows:(S.map Sl.enc)[i]? =some [.int .u64 id, .vs (BS rec) .ao, .bool true, .int .i64 bQ]:=by rw[List.getElem?_map,hs];rfl
  obtain⟨lv',iS,t2⟩:=A.top
  rw[t1] at iS
  injection iS with iS;injection iS with iS;injection iS with _ iS;injection iS with iS _
  subst iS
  rcases t2 with⟨rfl,_⟩|⟨e0,rfl,e2,e3,e4,e5⟩
  ·simp at hi
  have a9:=av e2
  have aA:(i:Int)<(S.length:Int):=by omega
  have g1:=uv (sz:=4) (j:=1) pP rows (by omega)
  simp+decide only[st,xv,vZ,I7,RZ,RY,hc,a9,aA,hs,g1]
  refine au (zd ok rfl (l:=rec) (t:= .ao) (by omega)) ?_
  simp+decide only[st,xv,vZ,RY,bB]
  simp only[AV.strip,AV.bG,jQ]
end
end Go.Proofs.YtljapedlkdfafaaGreat.Am
