/- An abstract machine, and that what it does the program's model does. Conditions: none. -/
import Derived.Test.YtoioonbabnomkaaGreatPa
set_option autoImplicit true
set_option relaxedAutoImplicit true
set_option maxRecDepth 100000
set_option maxHeartbeats 8000000
set_option linter.unusedSimpArgs false
set_option linter.unusedVariables false
set_option linter.unnecessarySimpa false
set_option linter.defProp false
namespace Go.Proofs.YtoioonbabnomkaaGreat.Am
section
open Go
def aKl (hk:o.key ρ=some b) (hv:bt o ρ h=some v): ∃x,h.get b=some x:=by
 cases hg:h.get b with
 |some x=>exact⟨x,rfl⟩
 |none=>
  exfalso
  cases o<;>simp only[eh.key] at hk<;>try cases hk
  case load ag sz x=>
   simp only[bt] at hv
   split at hk<;>cases hk
   rename_i hx
   simp only[hx,pC,cellsOf,hg] at hv
   simp at hv
  case xq x=>
   simp only[bt] at hv
   split at hk<;>cases hk
   all_goals
    rename_i hx
    simp only[hx,ef,cellsOf,hg] at hv
    simp at hv
  case wI sz x y=>
   simp only[bt] at hv
   split at hk<;>cases hk
   rename_i hx
   rw[hx] at hv
   unfold Co at hv
   split at hv
   ·rename_i h1 h2
    cases h2
    simp[cellsOf,hg] at hv
   ·cases hv
  case lookup z ok m k=>
   simp only[bt] at hv
   split at hk<;>cases hk
   rename_i hx
   rw[hx] at hv
   unfold sB at hv
   grind
section
variable {P:Program} {md:Mode}
def aLx (A:AR ι I w n ρ a) {o:eh} (hc:o.vE=true) (hk:o.key ρ=some b): ∃l,ι b=some l:=by
 have go: ∀(x:aJ) (v:AV),x.ev ρ=v->(∀c,x≠ .const c)-> ∃u,VR ι I w v u:=by
  intro x v hx hn
  cases x with
  |const c=>grind
  |tmp t=>exact⟨_,by rw[<-hx];exact A.get t⟩
 cases o<;>simp only[eh.key] at hk<;>try cases hk
 case load ag sz x=>
  split at hk<;>cases hk
  rename_i hx
  obtain⟨v,hv⟩:=go x _ hx (by rintro c rfl;simp[eh.vE] at hc)
  cases hv;grind
 case xq x=>
  split at hk<;>cases hk
  all_goals
   rename_i hx
   obtain⟨v,hv⟩:=go x _ hx (by rintro c rfl;simp[eh.vE] at hc)
   cases hv;grind
 case wI sz x y=>
  split at hk<;>cases hk
  rename_i hx
  obtain⟨v,hv⟩:=go y _ hx (by rintro c rfl;simp[eh.vE] at hc)
  cases hv;grind
 case lookup z ok m k=>
  split at hk<;>cases hk
  rename_i hx
  obtain⟨v,hv⟩:=go m _ hx (by rintro c rfl;simp[eh.vE] at hc)
  cases hv;grind
def aa.same {h':aa} (hg: ∀b,h.get b=h'.get b) (hn:h.next=h'.next):h=h':=by
 cases h;cases h';simp only at hg hn;subst hn;congr;grind
structure sx (P:Program) (ops:Array Oper) (az:List RO) (n base:Nat) (ρs:Nat->Env) (hs:Nat->aa) (rs:Nat->Option AV) (ι0:aO) (I0:bR) (w0:World)
 (S:Nat->Prop) (m:Nat) (ρ:Env) (H:aa) (ι:aO) (I:bR) (a:Act) (w:World):Prop where
 ar:AR ι I w n ρ a
 hr:HR ι I H w
 ext:Ext (base<= ·) ι0 I0 (hs 0) w0 ι I H w
 ρ0: ∀(t:Nat),(∀(j:Nat) (ro:RO),S j->az[j]? =some ro->ro.dst≠some t)->ρ t=ρs 0 t
 ρ1: ∀(t j:Nat) (ro:RO),S j->az[j]? =some ro->ro.dst=some t->ρ t=kU (rs j)
 h1: ∀(j:Nat),S j->m<=j->j<az.length->H.get (base+j)=(hs (j+1)).get (base+j)
 h2: ∀(b:Nat),(∀j,b=base+j->m<=j->j<az.length-> ¬S j)->H.get b=(hs m).get b
 hn:H.next=(hs m).next
 lt: ∀(j:Nat),S j->j<az.length
 closed: ∀(j:Nat) (o:Oper),S j->ops.toList[j]? =some o-> ∀e∈o.after.toList,Region.binds .any e=true->S e.on
 HO:m<=az.length
 D5: ∀(j:Nat) (ro:RO),S j->az[j]? =some ro->ro.op.dO=true->j<m
 Hw: ∀(j:Nat) (ro:RO),j<m->az[j]? =some ro->ro.op.dO=true->S j
 GJ:m=0\/ ∃ro,az[m-1]? =some ro/\ro.op.dO=true
 inj: ∀(j:Nat),j<az.length-> ¬S j->ι (base+j)=none
 pb: ∀(j:Nat),j<m-> ¬S j->(hs m).get (base+j)=(hs (j+1)).get (base+j)
 next:base+az.length<=(hs m).next
section inv
variable {ops:Array Oper} {az:List RO} {un:List (List Nat)} {n base:Nat} {ρs:Nat->Env} {hs:Nat->aa} {rs:Nat->Option AV} {ι0:aO} {I0:bR} {w0:World}
 {S:Nat->Prop} {m:Nat} {ρ:Env} {H:aa} {ι:aO} {I:bR} {a:Act} {w:World}
def TR.aNG (T:TR P ops az un base ρs hs rs) (V:sx P ops az n base ρs hs rs ι0 I0 w0 S m ρ H ι I a w) (hS: ∀j,j<az.length->S j):ρ=ρs az.length/\H=hs az.length:=by
 have hq:E8 az m (m+(az.length-m)):=by
  intro k ro h1 h2 h3
  cases he:ro.op.dO with
  |false=>rfl
  |true=>have:=V.D5 k ro (hS k (by omega)) h3 he;omega
 have hm:m+(az.length-m)=az.length:=by have:=V.HO;omega
 constructor
 ·obtain⟨e1,e2⟩:=T.env az.length (ak _)
  funext t
  by_cases hx: ∃(j:Nat) (ro:RO),az[j]? =some ro/\ro.dst=some t
  ·obtain⟨j,ro,h1,h2⟩:=hx
   have hj:=(List.getElem?_eq_some_iff.1 h1).1
   rw[V.ρ1 t j ro (hS j hj) h1 h2,e2 t j ro hj h1 h2]
  ·rw[V.ρ0 t (fun j ro _ h1 h2=>hx ⟨j,ro,h1,h2⟩),e1 t (fun j ro _ h1 h2=>hx ⟨j,ro,h1,h2⟩)]
 ·refine aa.same (fun b=>?_) ?_
  ·by_cases hx: ∃j,b=base+j/\m<=j/\j<az.length
   ·obtain⟨j,rfl,h1,h2⟩:=hx
    rw[V.h1 j (hS j h2) h1 h2]
    have:=T.C7 (az.length-(j+1)) (j+1) (by omega) (fun k ro e1 e2 e3=>hq k ro (by omega) (by omega) e3) (base+j) (fun k e1 e2=>by omega)
    grind
   ·rw[V.h2 b (fun j h1 h2 h3 _=>hx ⟨j,h1,h2,h3⟩)]
    have:=T.C7 (az.length-m) m (by omega) hq b (fun k e1 e2 e3=>hx ⟨k,e3,e1,by omega⟩)
    grind
  ·rw[V.hn]
   have:=T.VY (az.length-m) m (by omega) hq V.next
   grind
def TR.aJN (T:TR P ops az un base ρs hs rs) (V:sx P ops az n base ρs hs rs ι0 I0 w0 S m ρ H ι I a w) (fR:az[i]? =some ro) (ho:ops.toList[i]? =some o) (hi: ¬S i)
 (pW: ∀e∈o.after.toList,Region.binds .any e=true->S e.on): ∀t∈ro.zT,ρs i t=ρ t:=by
 intro t ht
 have jM:=(List.getElem?_eq_some_iff.1 fR).1
 obtain⟨e1,e2⟩:=T.env i (by omega)
 by_cases hx: ∃(j:Nat) (rj:RO),az[j]? =some rj/\rj.dst=some t/\j≠i
 ·obtain⟨j,rj,h1,h2,h3⟩:=hx
  have hd:=T.d3 i j ro rj t fR h1 (Ne.symm h3) ht h2
  by_cases jt:j<i
  ·simp only[jt,dP] at hd
   have EE:=EZ T.d2 V.closed i j hd (.inl ⟨o,ho,pW⟩)
   rw[e2 t j rj jt h1 h2,V.ρ1 t j rj EE h1 h2]
  ·simp only[jt,fj] at hd
   have EE: ¬S j:=fun hsj=>hi (EZ T.d2 V.closed j i hd (.inr hsj))
   rw[e1 t (fun k rk hk h4 h5=>by have:=T.d1 j k rj rk t h1 h4 h2 h5;omega),V.ρ0 t (fun k rk hk h4 h5=>by have:=T.d1 j k rj rk t h1 h4 h2 h5;grind)]
 ·rw[e1 t (fun k rk hk h4 h5=>hx ⟨k,rk,h4,h5,by omega⟩),V.ρ0 t (fun k rk hk h4 h5=>hx ⟨k,rk,h4,h5,fun e=>by grind⟩)]
def TR.akZ (T:TR P ops az un base ρs hs rs) (V:sx P ops az n base ρs hs rs ι0 I0 w0 S m ρ H ι I a w) (hmr:m<=r) (hr:r<=az.length) (hq:E8 az m r)
 (hb:ι b=some l) (hx:(hs r).get b=some x):H.get b=(hs r).get b:=by
 by_cases hj: ∃j,b=base+j/\m<=j/\j<az.length
 ·obtain⟨j,rfl,h1,h2⟩:=hj
  have EE:S j:=Classical.byContradiction fun hn=>by rw[V.inj j h2 hn] at hb;cases hb
  rw[V.h1 j EE h1 h2]
  by_cases hjr:j<r
  ·have:=T.C7 (r-(j+1)) (j+1) (by omega) (fun k ro e1 e2 e3=>hq k ro (by omega) (by omega) e3) (base+j) (fun k e1 e2=>by omega)
   grind
  ·have:=T.fresh r j (by omega) h2
   grind
 ·rw[V.h2 b (fun j e1 e2 e3 _=>hj ⟨j,e1,e2,e3⟩)]
  have:=T.C7 (r-m) m (by omega) (by grind) b (fun k e1 e2 e3=>hj ⟨k,e3,e1,by omega⟩)
  grind
def TR.ref (T:TR P ops az un base ρs hs rs) (V:sx P ops az n base ρs hs rs ι0 I0 w0 S m ρ H ι I a w) (fR:az[i]? =some ro) (ho:ops.toList[i]? =some o) (hi: ¬S i)
 (pW: ∀e∈o.after.toList,Region.binds .any e=true->S e.on) (hq:ro.op= .p q) (pc:q.reads=true) (fy:rs i=some v) (hv:bt q (ρs i) (hs i)=some v):
 ∃r,m<=r/\r<=az.length/\E8 az m r/\(r<az.length->r=m\/ ¬S r)/\bt q (ρs i) (hs r)=some v:=by
 have jM:=(List.getElem?_eq_some_iff.1 fR).1
 have aT:ro.op.dO=false:=by rw[hq];rfl
 have hrr:ro.op.reads=true:=by rw[hq];exact pc
 by_cases uS:m<=i
 ·
  by_cases hx: ∃k rk,m<=k/\k<i/\az[k]? =some rk/\rk.op.dO=true
  ·have: ∃k,(∃rk,m<=k/\k<i/\az[k]? =some rk/\rk.op.dO=true)/\ ∀k',k'<k-> ¬ ∃rk,m<=k'/\k'<i/\az[k']? =some rk/\rk.op.dO=true:=by
    obtain⟨k,hk⟩:=hx
    induction k using Nat.strongRecOn with
    |_ k ih=>
     by_cases hy: ∃k',k'<k/\ ∃rk,m<=k'/\k'<i/\az[k']? =some rk/\rk.op.dO=true
     ·obtain⟨k',h1,h2⟩:=hy
      grind
     grind
   obtain⟨k,⟨rk,h1,h2,h3,h4⟩,h5⟩:=this
   have hkS: ¬S k:=fun h=>by have:=V.D5 k rk h h3 h4;omega
   have afk:pF (jl ops.toList []) k i=false:=by
    cases js:pF (jl ops.toList []) k i with
    |false=>rfl
    |true=>exact(hkS (EZ T.d2 V.closed i k js (.inl ⟨o,ho,pW⟩))).elim
   have hun:=T.d5 i k ro rk h2 fR h3 (.inl ⟨hrr,h4⟩) afk
   have yu:=T.tP i k ro rk fR h3 h2 hun
   unfold Am.tP at yu
   rw[aT,fy,hq] at yu
   simp only[nj,fj] at yu
   exact⟨k,h1,by omega,fun k' rk' e1 e2 e3=>by grind,fun _=> .inr hkS,yu⟩
  ·exact⟨i,uS,by omega,fun k rk e1 e2 e3=>by grind,fun _=> .inr hi,hv⟩
 ·rcases V.GJ with h0|⟨rm,h1,h2⟩
  ·omega
  ·have hSm:=V.Hw (m-1) rm (by omega) h1 h2
   have DZ:i≠m-1:=fun e=>by grind
   have afk:pF (jl ops.toList []) i (m-1)=false:=by
    cases js:pF (jl ops.toList []) i (m-1) with
    |false=>rfl
    |true=>exact(hi (EZ T.d2 V.closed (m-1) i js (.inr hSm))).elim
   have hun:=T.d5 (m-1) i rm ro (by omega) h1 fR (.inr ⟨h2,hrr⟩) afk
   have yu:=T.tP (m-1) i rm ro h1 fR (by omega) hun
   unfold Am.tP at yu
   rw[h2,fy,hq] at yu
   simp only[dP] at yu
   rw[show m-1+1=m by omega] at yu
   exact⟨m,ak _,V.HO,fun k rk e1 e2=>by omega,fun _=> .inl rfl,yu⟩
end inv
end
end
section
open Go
section
variable {P:Program} {md:Mode}
variable {ops:Array Oper} {az:List RO} {un:List (List Nat)} {n base:Nat} {ρs:Nat->Env} {hs:Nat->aa} {rs:Nat->Option AV} {ι0:aO} {I0:bR} {w0:World}
 {S:Nat->Prop} {m:Nat} {ρ:Env} {H:aa} {ι:aO} {I:bR} {a:Act} {w:World}
def ajq (h:d≠some t):put ρ d v t=ρ t:=by
 cases d with
 |none=>rfl
 |some d=>
  have:t≠d:=fun e=>h (by rw[e])
  simp[put,this]
def aJX (h:d=some t):put ρ d v t=v:=by subst h;simp[put]
def TR.aiM (T:TR P ops az un base ρs hs rs) (V:sx P ops az n base ρs hs rs ι0 I0 w0 S m ρ H ι I a w) (fR:az[i]? =some ro) (hi: ¬S i):
 (∀(t:Nat),(∀(j:Nat) (rj:RO),(S j\/j=i)->az[j]? =some rj->rj.dst≠some t)->put ρ ro.dst (kU (rs i)) t=ρs 0 t)/\
 (∀(t j:Nat) (rj:RO),(S j\/j=i)->az[j]? =some rj->rj.dst=some t->put ρ ro.dst (kU (rs i)) t=kU (rs j)):=by
 constructor
 ·intro t ht
  rw[ajq (ht i ro (.inr rfl) fR)]
  exact V.ρ0 t (fun j rj h1 h2=>ht j rj (.inl h1) h2)
 ·intro t j rj hj Et hd
  rcases hj with hj|rfl
  ·have aT:j≠i:=fun e=>hi (e▸hj)
   rw[ajq (fun e=>aT (T.d1 j i rj ro t Et fR hd e))]
   exact V.ρ1 t j rj hj Et hd
  ·rw[fR] at Et;cases Et
   exact aJX hd
def TR.aiG (V:sx P ops az n base ρs hs rs ι0 I0 w0 S m ρ H ι I a w) (ho:ops.toList[i]? =some o)
 (pW: ∀e∈o.after.toList,Region.binds .any e=true->S e.on):
 ∀(j:Nat) (oj:Oper),(S j\/j=i)->ops.toList[j]? =some oj-> ∀e∈oj.after.toList,Region.binds .any e=true->(S e.on\/e.on=i):=by
 intro j oj hj hoj e he hb
 rcases hj with hj|rfl
 ·exact .inl (V.closed j oj hj hoj e he hb)
 grind
def TR.aHa (T:TR P ops az un base ρs hs rs) (V:sx P ops az n base ρs hs rs ι0 I0 w0 S m ρ H ι I a w) (fR:az[i]? =some ro) (ho:ops.toList[i]? =some o) (hi: ¬S i)
 (pW: ∀e∈o.after.toList,Region.binds .any e=true->S e.on) (he:ro.op.dO=false)
 (g1: ∀b,b≠base+i->H1.get b=H.get b) (g2:H1.get (base+i)=(hs (i+1)).get (base+i)) (g3:H1.next=H.next)
 (A':AR ι' I' w' n (put ρ ro.dst (kU (rs i))) a') (H':HR ι' I' H1 w') (E:Ext (fun b=>b=base+i\/H.next<=b) ι I H w ι' I' H1 w'):
 sx P ops az n base ρs hs rs ι0 I0 w0 (fun j=>S j\/j=i) m (put ρ ro.dst (kU (rs i))) H1 ι' I' a' w':=by
 have jM:=(List.getElem?_eq_some_iff.1 fR).1
 obtain⟨s0,s1⟩:=T.aiM V fR hi
 have H5:base+az.length<=H.next:=by rw[V.hn];exact V.next
 exact
 {ar:=A',hr:=H',ρ0:=s0,ρ1:=s1,closed:=TR.aiG V ho pW,HO:=V.HO,GJ:=V.GJ,next:=V.next
  ext:=V.ext.trans E (fun b hb=>by omega)
  h1:=by
   intro j hj h1 h2
   rcases hj with hj|rfl
   ·have aT:j≠i:=fun e=>hi (e▸hj)
    rw[g1 _ (by omega)];exact V.h1 j hj h1 h2
   ·exact g2
  h2:=by
   intro b hb
   by_cases dH:b=base+i
   ·subst dH
    have uT: ¬m<=i:=fun h=>hb i rfl h jM (.inr rfl)
    rw[g2,V.pb i (by omega) hi]
   ·rw[g1 b dH]
    exact V.h2 b (fun j h1 h2 h3 h4=>hb j h1 h2 h3 (.inl h4))
  hn:=by rw[g3];exact V.hn
  lt:=fun j hj=>by rcases hj with hj|rfl;exact V.lt j hj;exact jM
  D5:=fun j rj hj Et hje=>by
   rcases hj with hj|rfl
   ·exact V.D5 j rj hj Et hje
   grind
  Hw:=fun j rj h1 h2 h3=> .inl (V.Hw j rj h1 h2 h3)
  inj:=by
   intro j hj hn
   have:j≠i:=fun e=>hn (.inr e)
   rw[E.fN _ (by omega)]
   exact V.inj j hj (fun h=>hn (.inl h))
  pb:=fun j hj hn=>V.pb j hj (fun h=>hn (.inl h))}
open Classical in
def TR.aKE (T:TR P ops az un base ρs hs rs) (V:sx P ops az n base ρs hs rs ι0 I0 w0 S m ρ H ι I a w) (fR:az[i]? =some ro) (ho:ops.toList[i]? =some o) (hi: ¬S i)
 (pW: ∀e∈o.after.toList,Region.binds .any e=true->S e.on) (he:ro.op.dO=true):
 HR ι I (hs i) w/\base+az.length<=(hs i).next/\ ∀{ι':aO} {I':bR} {a':Act} {w':World},
 AR ι' I' w' n (put ρ ro.dst (kU (rs i))) a'->HR ι' I' (hs (i+1)) w'->Ext (fun b=>b=base+i\/(hs i).next<=b) ι I (hs i) w ι' I' (hs (i+1)) w'->
 ∃J,sx P ops az n base ρs hs rs ι0 I0 w0 (fun j=>S j\/j=i) (i+1) (put ρ ro.dst (kU (rs i))) J ι' I' a' w':=by
 have jM:=(List.getElem?_eq_some_iff.1 fR).1
 have aLH: ∀(k:Nat) (rk:RO),k<i->az[k]? =some rk->rk.op.dO=true->S k:=fun k rk h1 h2 h3=>
  EZ T.d2 V.closed i k (T.d4 k i rk ro h1 h2 fR h3 he) (.inl ⟨o,ho,pW⟩)
 have aUj: ∀(k:Nat) (rk:RO),i<k->az[k]? =some rk->rk.op.dO=true-> ¬S k:=fun k rk h1 h2 h3 h4=>
  hi (EZ T.d2 V.closed k i (T.d4 i k ro rk h1 fR h2 he h3) (.inr h4))
 have uS:m<=i:=by
  rcases V.GJ with h0|⟨rm,h1,h2⟩
  ·omega
  ·by_cases hq:m<=i
   ·exact hq
   ·have hSm:=V.Hw (m-1) rm (by omega) h1 h2
    grind
 have hq:E8 az m i:=by
  intro k rk h1 h2 h3
  cases Ex:rk.op.dO with
  |false=>rfl
  |true=>have:=V.D5 k rk (aLH k rk h2 h3 Ex) h3 Ex;omega
 have iJ:(hs i).next=(hs m).next:=by
  have:=T.VY (i-m) m (by omega) (by grind) V.next
  grind
 have fy: ∀b,(∀k,m<=k->k<i->b≠base+k)->(hs i).get b=(hs m).get b:=by
  intro b hb
  have:=T.C7 (i-m) m (by omega) (by grind) b (fun k h1 h2=>hb k h1 (by omega))
  grind
 have aUM: ∀j,m<=j->j<i->(hs i).get (base+j)=(hs (j+1)).get (base+j):=by
  intro j h1 h2
  have:=T.C7 (i-(j+1)) (j+1) (by omega) (fun k rk e1 e2 e3=>hq k rk (by omega) (by omega) e3) (base+j) (fun k e1 e2=>by omega)
  grind
 have aUt: ∀b l x,ι b=some l->(hs i).get b=some x->H.get b=(hs i).get b:=fun b l x hb hx=>
  T.akZ V uS (by omega) hq hb hx
 have HH:HR ι I (hs i) w:=V.hr.J9 (fun b l hb=>by rw[iJ,<-V.hn];exact V.hr.dI b l hb) (fun b l x hb hx=>by grind)
 refine⟨HH,by rw[iJ];exact V.next,?_⟩
 intro ι' I' a' w' A' H' E
 obtain⟨s0,s1⟩:=T.aiM V fR hi
 let J:aa:={get:=fun b=>if∃j,b=base+j/\i+1<=j/\j<az.length/\S j then H.get b else(hs (i+1)).get b,next:=(hs (i+1)).next}
 have hJ1: ∀j,i+1<=j->j<az.length->S j->J.get (base+j)=H.get (base+j):=fun j h1 h2 h3=>ax ⟨j,rfl,h1,h2,h3⟩
 have hJ2: ∀b,(¬ ∃j,b=base+j/\i+1<=j/\j<az.length/\S j)->J.get b=(hs (i+1)).get b:=fun b hb=>aj hb
 have v8: ∀j,j<az.length->j≠i->ι' (base+j)=ι (base+j):=fun j h1 h2=>E.fN _ (by have:=V.next;omega)
 have HJ:HR ι' I' J w':=by
  refine V.hr.join H' E (fun b l x hb hx=>by grind) (ak _) ?_
  intro b x hx
  by_cases hb: ∃j,b=base+j/\i+1<=j/\j<az.length/\S j
  ·obtain⟨j,rfl,h1,h2,h3⟩:=hb
   rw[hJ1 j h1 h2 h3] at hx
   cases hl:ι (base+j) with
   |none=>grind
   |some l=>right;left;exact⟨hx,T.fresh i j (by omega) h2,l,rfl⟩
  grind
 refine⟨J,?_⟩
 exact
 {ar:=A',hr:=HJ,ρ0:=s0,ρ1:=s1,closed:=TR.aiG V ho pW,HO:=by omega
  GJ:= .inr ⟨ro,by grind,he⟩
  next:=by have:=E.next;have:=V.next;omega
  hn:=rfl
  ext:=by
   refine V.ext.step E (fun b hb=>?_) (fun b l x hb hx=>⟨x,by grind⟩) ?_ ?_ ?_
   ·have:=V.next;omega
   ·intro b l x hb hx
    by_cases hbj: ∃j,b=base+j/\i+1<=j/\j<az.length/\S j
    ·grind
    grind
   ·show H.next<=(hs (i+1)).next
    have:=E.next;rw[V.hn];omega
   ·intro b hb hn
    have cF:b<base:=by simpa using hb
    rw[hJ2 b (by omega),E.lost b (by have:=V.next;omega) (by rw[V.ext.fN b hb];exact hn),fy b (fun k _ _=>by omega),<-V.h2 b (fun j h1=>by omega)]
    exact V.ext.lost b hb hn
  h1:=by
   intro j hj h1 h2
   rcases hj with hj|rfl
   ·rw[hJ1 j h1 h2 hj];exact V.h1 j hj (by omega) h2
   ·omega
  h2:=by
   grind
  lt:=fun j hj=>by rcases hj with hj|rfl;exact V.lt j hj;exact jM
  D5:=fun j rj hj Et hje=>by
   grind
  Hw:=fun j rj h1 h2 h3=>by
   grind
  inj:=by
   intro j hj hn
   rw[v8 j hj (fun e=>hn (.inr e))]
   exact V.inj j hj (fun h=>hn (.inl h))
  pb:=by
   intro j hj hn
   have jt:j≠i:=fun e=>hn (.inr e)
   have EE: ¬S j:=fun h=>hn (.inl h)
   rw[E.lost (base+j) (by have:=V.next;omega) (V.inj j (by omega) EE)]
   by_cases hjm:m<=j
   ·grind
   ·rw[fy (base+j) (fun k _ _=>by omega)]
    exact V.pb j (by omega) EE}
end
end
section
open Go
theorem ahW (hle: ∀j,p' j=true->p j=true): ∀l:List Nat,(l.filter p').length<=(l.filter p).length
 |[]=>by simp
 |x::l=>by
  have ih:=ahW hle l
  grind
theorem ahV (hle: ∀j,p' j=true->p j=true) (hp:p i=true) (pe:p' i=false): ∀l:List Nat,i∈l->(l.filter p').length<(l.filter p).length
 |[],h=>by simp at h
 |x::l,h=>by
  have aUF:=ahW hle l
  by_cases hxi:x=i
  ·grind
  ·have ih:=ahV hle hp pe l (by grind)
   grind
def mem_ready:i∈Region.ready .any ops ku↔
 i<ops.size/\ku.getD i true=false/\ ∃o,ops.toList[i]? =some o/\ ∀e∈o.after.toList,Region.binds .any e=true->ku.getD e.on false=true:=by
 simp only[Region.ready,List.mem_filter,List.mem_range,fV,Bool.not_eq_true']
 refine and_congr_right fun hi=>and_congr_right fun _=>?_
 have:ops[i]? =ops.toList[i]?:=by simp
 rw[this]
 have av:i<ops.toList.length:=by simpa using hi
 rw[bn av]
 simp only[iB,iQ,Option.some.injEq,exists_eq_left']
 rw[Array.all_eq_true_iff_forall_mem]
 grind
section
variable {P:Program} {md:Mode}
variable {ops:Array Oper} {az:List RO} {un:List (List Nat)} {n base:Nat} {ρs:Nat->Env} {hs:Nat->aa} {rs:Nat->Option AV} {ι0:aO} {I0:bR} {w0:World}
 {Q:Exit->Act->World->Prop}
def TR.aJ0 (T:TR P ops az un base ρs hs rs) (EB: ∀(i:Nat) (o:Oper) (ro:RO),ops.toList[i]? =some o->az[i]? =some ro->A6 P md n ops o=some ro)
 (hkt: ∀ro∈az,ro.op.vE=true)
 (V:sx P ops az n base ρs hs rs ι0 I0 w0 S m ρ H ι I a w)
 (fR:az[i]? =some ro) (ho:ops.toList[i]? =some o) (hi: ¬S i)
 (pW: ∀e∈o.after.toList,Region.binds .any e=true->S e.on)
 (hK: ∀(m':Nat) (ρ':Env) (H':aa) (ι':aO) (I':bR) (a':Act) (w':World),sx P ops az n base ρs hs rs ι0 I0 w0 (fun j=>S j\/j=i) m' ρ' H' ι' I' a' w'->K a' w'):
 if Region.wanted o (yielded ops a.tmps) then o.wp P a w K Q\/(o.asks P a w/\LetsOut Q) else K (a.put o.dst Go.undef) w:=by
 have jM:=(List.getElem?_eq_some_iff.1 fR).1
 have hc:=EB i o ro ho fR
 have ya:=(T.step i ro fR).1
 have uP:=T.aJN V fR ho hi pW
 have aM:=V.inj i jM hi
 cases he:ro.op.dO with
 |true=>
  obtain⟨HH,iJ,Tv⟩:=T.aKE V fR ho hi pW he
  refine VU (Q:=Q) HH V.ar hc aM (aiK uP ya) ?_
  grind
 |false=>
  have key: ∃H1,bS P ro (base+i) ρ H (rs i) H1/\(∀b,b≠base+i->H1.get b=H.get b)/\H1.get (base+i)=(hs (i+1)).get (base+i)/\H1.next=H.next:=by
   have uH:ro∈az:=iC fR
   have Hr:=aiK uP ya
   have H5:base+az.length<=H.next:=by rw[V.hn];exact V.next
   have amI:(hs (i+1)).get (base+i)=none->H.get (base+i)=(hs (i+1)).get (base+i):=by
    intro RU
    by_cases uS:m<=i
    ·rw[V.h2 (base+i) (fun j h1 h2 h3=>by grind)]
     rw[T.fresh m i uS jM,RU]
    ·rw[V.h2 (base+i) (fun j h1 h2 h3=>by omega)]
     exact V.pb i (by omega) hi
   unfold bS at Hr
   split at Hr
   ·rename_i hg
    obtain⟨v,hv,dm⟩:=Hr
    unfold kB at dm
    cases eB:ro.op with
    |p q=>
     rw[eB] at dm
     obtain⟨Em,hh⟩:=dm
     refine⟨H,?_,fun b _=>rfl,amI (by rw[hh];exact T.fresh i i (ak _) jM),rfl⟩
     have hvH:bt q ρ H=some v:=by
      by_cases pc:q.reads=true
      ·have Ux:bt q (ρs i) (hs i)=some v:=by
        rw[VQ q (ρ':=ρ) (hs i) ?_]
        ·exact Em
        ·intro x hx
         cases x with
         |const c=>rfl
         |tmp t=>exact uP t (by simp only[RO.zT,eB,iw.fb,vW,List.mem_flatMap];exact .inl ⟨_,hx,by simp[aJ.slot]⟩)
       obtain⟨r,h1,h2,h3,h4,h5⟩:=T.ref V fR ho hi pW eB pc hv Ux
       rw[VQ q (ρ':=ρ) (hs r) ?_] at h5
       ·rw[<-h5]
        refine xh q ρ H (hs r) (fun b hb=>?_)
        obtain⟨l,hl⟩:=aLx V.ar (by have:=hkt ro uH;rw[eB] at this;exact this) hb
        obtain⟨x,hx⟩:=aKl hb h5
        exact T.akZ V h1 h2 h3 hl hx
       ·intro x hx
        cases x with
        |const c=>rfl
        |tmp t=>exact uP t (by simp only[RO.zT,eB,iw.fb,vW,List.mem_flatMap];exact .inl ⟨_,hx,by simp[aJ.slot]⟩)
      ·rw[<-Em]
       refine xh q ρ H (hs i) (fun b hb=>?_)
       exfalso
       cases q<;>simp[eh.key,eh.reads] at hb pc
     unfold bS
     rw[hg]
     refine⟨v,hv,?_⟩
     unfold kB
     grind
    |a q=>
     rw[eB] at dm
     obtain⟨Nf,Em,hh⟩:=dm
     refine⟨H.at (base+i) Nf,?_,fun b hb=>by simp[aa.at,hb],by rw[hh];simp[aa.at],by simp only[aa.at];omega⟩
     unfold bS
     rw[hg]
     refine⟨v,hv,?_⟩
     unfold kB
     grind
    |e q=>rw[eB] at he;cases he
    |call f as=>rw[eB] at he;cases he
    |dyn x as=>rw[eB] at he;cases he
   ·rename_i hg
    obtain⟨hr,hh⟩:=Hr
    refine⟨H,?_,fun b _=>rfl,amI (by rw[hh];exact T.fresh i i (ak _) jM),rfl⟩
    unfold bS
    grind
   grind
  obtain⟨H1,Es,g1,g2,g3⟩:=key
  refine VU (Q:=Q) V.hr V.ar hc aM Es ?_
  intro a' w' ι' I' A' H' E
  exact hK _ _ _ _ _ _ _ (T.aHa V fR ho hi pW he g1 g2 g3 A' H' E)
def TR.aJo (T:TR P ops az un base ρs hs rs) (hlen:ops.toList.length=az.length) (EB: ∀(i:Nat) (o:Oper) (ro:RO),ops.toList[i]? =some o->az[i]? =some ro->A6 P md n ops o=some ro)
 (hkt: ∀ro∈az,ro.op.vE=true)
 (hQ: ∀(ι:aO) (I:bR) (a:Act) (w:World),AR ι I w n (ρs az.length) a->HR ι I (hs az.length) w->Ext (base<= ·) ι0 I0 (hs 0) w0 ι I (hs az.length) w->Q .normal a w):
 ∀(fuel:Nat) (ku:Array Bool) {S:Nat->Prop} {m:Nat} {ρ:Env} {H:aa} {ι:aO} {I:bR} {a:Act} {w:World},sx P ops az n base ρs hs rs ι0 I0 w0 S m ρ H ι I a w->
 ku.size=ops.size->(∀j,S j↔ku[j]? =some true)->((List.range ops.size).filter fun j=>!ku.getD j true).length<=fuel->
 wpAny P .any ops Q fuel ku a w:=by
 have aZ:ops.size=az.length:=by omega
 have awT: ∀(ku:Array Bool) {S:Nat->Prop} {m:Nat} {ρ:Env} {H:aa} {ι:aO} {I:bR} {a:Act} {w:World},sx P ops az n base ρs hs rs ι0 I0 w0 S m ρ H ι I a w->
  ku.size=ops.size->(∀j,S j↔ku[j]? =some true)->Region.ready .any ops ku=[]->Q .normal a w:=by
  intro ku S m ρ H ι I a w V hl hS hr
  have mv: ∀j,j<az.length->S j:=by
   intro j
   induction j using Nat.strongRecOn with
   |_ j ih=>
    intro hj
    apply Classical.byContradiction
    intro hn
    have hjo:j<ops.toList.length:=by omega
    have:j∈Region.ready .any ops ku:=by
     rw[mem_ready]
     refine⟨by omega,?_,_,bn hjo,fun e he hb=>?_⟩
     ·simp_all
     ·have aS:=T.d2 j _ (bn hjo) e he hb
      have:=(hS e.on).1 (ih e.on aS (by omega))
      simp_all
    grind
  obtain⟨rfl,rfl⟩:=T.aNG V mv
  exact hQ ι I a w V.ar V.hr V.ext
 intro fuel
 induction fuel with
 |zero=>
  intro ku S m ρ H ι I a w V hl hS hf
  have hr:Region.ready .any ops ku=[]:=by
   cases hq:Region.ready .any ops ku with
   |nil=>rfl
   |cons i l=>
    have hi:i∈Region.ready .any ops ku:=by rw[hq];simp
    obtain⟨h1,h2,_⟩:=mem_ready.1 hi
    simp_all
  exact⟨hr,awT ku V hl hS hr⟩
 |succ fuel ih=>
  intro ku S m ρ H ι I a w V hl hS hf
  refine⟨awT ku V hl hS,fun i hi=>?_⟩
  obtain⟨h1,h2,o,ho,pW⟩:=mem_ready.1 hi
  have aN7:i<az.length:=by omega
  have fR:=bn aN7
  have hnS: ¬S i:=by
   simp_all
  have pc: ∀e∈o.after.toList,Region.binds .any e=true->S e.on:=by
   intro e he hb
   have hx:=pW e he hb
   rw[hS]
   cases hq:ku[e.on]? with
   |none=>grind
   |some b=>simp_all
  have eB:ops[i]? =some o:=by simpa using ho
  unfold wpOp
  rw[eB]
  simp only[]
  refine T.aJ0 EB hkt V fR ho hnS pc ?_
  intro m' ρ' H' ι' I' a' w' V'
  refine ih (ku.setIfInBounds i true) V' (by simp[hl]) (fun j=>?_) ?_
  ·grind
  ·have aS:=ahV (p:=fun j=>!ku.getD j true) (p':=fun j=>!(ku.setIfInBounds i true).getD j true) (i:=i) (fun j hj=>?_) (by simp[h2]) ?_ (List.range ops.size) (by simpa using h1)
   ·omega
   ·by_cases jt:j=i
    ·grind
    ·simpa [Lo,Array.getElem?_setIfInBounds_ne (Ne.symm jt)] using hj
   simp_all
end
end
section
open Go
section
variable {P:Program} {md:Mode}
theorem ai0 {An:List (List Nat)} (h: ∀j i,(Cw.getD j 0).testBit i=(An.getD j []).contains i) (i): ∀es:List Edge,
 (Ji Cw es).testBit i=(es.flatMap fun e=>e.on::An.getD e.on []).contains i
 |[]=>by simp[Ji]
 |e::es=>by
  rw[Ji,Nat.testBit_or,Nat.testBit_or,ai0 h i es,h,Nat.testBit_two_pow,jR]
  grind
theorem aiT: ∀(os:List Oper) (Cw:List Nat) (An:List (List Nat)),Cw.length=An.length->(∀j i,(Cw.getD j 0).testBit i=(An.getD j []).contains i)->
 ∀j i,((xB os Cw).getD j 0).testBit i=((jl os An).getD j []).contains i
 |[],Cw,An,hl,h,j,i=>h j i
 |o::os,Cw,An,hl,h,j,i=>by
  rw[xB,jl]
  refine aiT os _ _ (by simp[hl]) (fun j i=>?_) j i
  simp only[mr]
  by_cases hj:j<Cw.length
  ·rw[Hm hj,Hm (by omega)]
   have:=h j i
   grind
  ·rw[Hn (by omega),Hn (by omega),hl]
   by_cases sf:j=An.length
   ·subst sf
    simpa using ai0 h i (o.after.toList.filter fun e=>Region.binds .any e)
   grind
def Od {ops:Array Oper} (hm:(xB ops.toList [])[j]? =some m):m.testBit i=pF (jl ops.toList []) i j:=by
 have:=aiT ops.toList [] [] rfl (fun j i=>by simp) j i
 rw[mr,hm] at this
 simpa [pF] using this
def Bl (hl:ms.length=az.length) (hi:az[i]? =some ri): ∃m,ms[i]? =some m/\((ri,m),i)∈GI az ms:=by
 have aS:=(List.getElem?_eq_some_iff.1 hi).1
 have hm:=bn (l:=ms) (i:=i) (by omega)
 refine⟨_,hm,?_⟩
 rw[GI,List.mem_zipIdx_iff_getElem?,List.getElem?_zip_eq_some]
 exact⟨hi,hm⟩
def aIz (h:Ml ops az=true):
 (∀(i j:Nat) (ri rj:RO) (t:Nat),az[i]? =some ri->az[j]? =some rj->ri.dst=some t->rj.dst=some t->i=j)/\
 (∀(k:Nat) (o:Oper),ops.toList[k]? =some o-> ∀e∈o.after.toList,Region.binds .any e=true->e.on<k)/\
 (∀(i j:Nat) (ri rj:RO) (t:Nat),az[i]? =some ri->az[j]? =some rj->i≠j->t∈ri.zT->rj.dst=some t->if j<i then pF (jl ops.toList []) j i=true else pF (jl ops.toList []) i j=true)/\
 (∀(i j:Nat) (ri rj:RO),i<j->az[i]? =some ri->az[j]? =some rj->ri.op.dO=true->rj.op.dO=true->pF (jl ops.toList []) i j=true)/\
 (∀ro∈az,ro.op.vE=true)/\(xB ops.toList []).length=az.length:=by
 simp only[Ml,fV] at h
 obtain⟨⟨⟨⟨⟨h0,h1⟩,h2⟩,h3⟩,h4⟩,h5⟩:=h
 have hl:(xB ops.toList []).length=az.length:=by simpa using h0
 simp only[ui] at h1 h3 h5
 refine⟨fun i j ri rj t hi hj hdi hdj=>?_,fun k o hk e he hb=>?_,fun i j ri rj t hi hj aT ht hd=>?_,fun i j ri rj AX hi hj hei UT=>?_,h5,hl⟩
 ·obtain⟨mi,uS,MD⟩:=Bl hl hi
  obtain⟨mj,UH,UE⟩:=Bl hl hj
  grind
 ·rw[ui] at h2
  have:=h2 (o,k) (by grind)
  grind
 ·obtain⟨mi,uS,MD⟩:=Bl hl hi
  obtain⟨mj,UH,UE⟩:=Bl hl hj
  have:=h3 _ MD t ht _ UE
  simp only[hd] at this
  have DZ:(i==j)=false:=by grind
  rw[DZ] at this
  rw[<-Od uS,<-Od UH]
  grind
 ·obtain⟨mi,uS,MD⟩:=Bl hl hi
  obtain⟨mj,UH,UE⟩:=Bl hl hj
  rw[ui] at h4
  have:=h4 _ UE
  simp only[UT,Bool.not_true,Bool.false_or,ui] at this
  have:=this _ MD
  rw[<-Od UH]
  grind
def aK9 (hl:(xB ops.toList []).length=az.length) (hk:k<i) (hi:az[i]? =some ri) (gC:az[k]? =some rk)
 (hx:(ri.op.reads=true/\rk.op.dO=true)\/(ri.op.dO=true/\rk.op.reads=true)) (ho:pF (jl ops.toList []) k i=false):k∈(D9 ops az).getD i []:=by
 obtain⟨mi,uS,MD⟩:=Bl hl hi
 obtain⟨mk,hmk,hpk⟩:=Bl hl gC
 have bB:(GI az (xB ops.toList []))[i]? =some ((ri,mi),i):=by
  rw[GI,List.getElem?_zipIdx,(List.getElem?_zip_eq_some (z:=(ri,mi))).2 ⟨hi,uS⟩]
  simp
 simp only[D9,mr,Dz,bB,iB,iQ]
 have aTx:(ri.op.reads||ri.op.dO)=true:=by grind
 rw[ax aTx,List.mem_map]
 refine⟨((rk,mk),k),?_,rfl⟩
 rw[List.mem_filter]
 refine⟨hpk,?_⟩
 simp only[Od uS,ho]
 grind
def aGK (H:HR ι I h w) (d):HR ι I h {w with drawn:=d}/\Ext (fun _=>False) ι I h w ι I h {w with drawn:=d}/\(∀x v,VR ι I w x v->VR ι I {w with drawn:=d} x v):=by
 have hv: ∀x v,VR ι I w x v->VR ι I {w with drawn:=d} x v:=fun x v hx=>VR.mono (w:=w) (w':={w with drawn:=d}) (fun _ _ h=>h) (fun _ _ h=>h) (fun _ _ _=>rfl) hx
 refine⟨{dI:=H.dI,inside:=H.inside,cells:=?_,maps:=?_,iE:=H.iE,eN:=H.eN,bZ:=H.bZ,eP:=H.eP,pl:=H.pl},?_,hv⟩
 ·intro b cs l hg hb
  obtain⟨cb,o,room,h1,h2,h3,h4⟩:=H.cells b cs l hg hb
  refine⟨cb,o,room,h1,h2,h3,fun j hj=>?_⟩
  obtain⟨c,e1,e2,e3⟩:=h4 j hj
  exact⟨c,e1,e2,fun v d7=>hv _ _ (e3 v d7)⟩
 ·intro b es l hg hb
  obtain⟨cb,bE,clock,h1,h2,h3,h4⟩:=H.maps b es l hg hb
  grind
 ·exact{fN:=fun _ _=>rfl,more:=fun _ _ h=>h,next:=ak _,bZ:=fun _ _ h=>h,os:=rfl,tape:=rfl,output:=rfl,size:=ak _,block:=fun _ _ _=>rfl,cell:=fun _ _ _ _=>rfl,frozen:=fun _ _ _ _=>rfl,own:=fun _ _ h=> .inl h,jW:=fun _ _ h=> .inl h,lost:=fun _ _ _=>rfl}
def aiR (hm:P.follows .mixedOrders=true) (hc:yy P md n ops ops.toList=some az) (bO:Ml ops az=true)
 (H:HR ι I h w) (A:AR ι I w n ρ a) (GS: ∀j,j<az.length->h.get (h.next+j)=none)
 (he:sU P az (D9 ops az) h.next az 0 ρ {h with next:=h.next+az.length} [] K)
 (hQ: ∀ρ' h' a' w' ι' I',K ρ' h'->AR ι' I' w' n ρ' a'->HR ι' I' h' w'->Ext (h.next<= ·) ι I h w ι' I' h' w'->Q .normal a' w'):
 (Code.region rid ops true).wp P Q a w:=by
 obtain⟨hlen,EB⟩:=WJ hc
 obtain⟨d1,d2,d3,d4,d6,dl⟩:=aIz bO
 obtain⟨tr,ρn,hn,tI,hKn,mv,_,afj⟩:=aj2 (P:=P) (K:=K) (az:=az) (un:=D9 ops az) (base:=h.next) az [] ρ {h with next:=h.next+az.length} [] rfl rfl (fun i ro d _ hd=>by simp at hd) he
 have afj:=afj rfl
 have Uz: ∀i,i<az.length-> ∃d,tr[i]? =some d:=fun i hi=>⟨_,bn (by omega)⟩
 let ρs:Nat->Env:=fun i=>(jF tr ρn hn i).1
 let hs:Nat->aa:=fun i=>(jF tr ρn hn i).2
 let rs:Nat->Option AV:=fun i=>(tr[i]?).elim none fun d=>d.2.2
 have hrs: ∀i d,tr[i]? =some d->rs i=d.2.2:=fun i d hd=>by simp[rs,hd]
 have fy: ∀i d,tr[i]? =some d->jF tr ρn hn i=(d.1,d.2.1):=fun i d hd=>by simp[jF,hd]
 have T:TR P ops az (D9 ops az) h.next ρs hs rs:={
  step:=by
   intro i ro hi
   obtain⟨d,hd⟩:=Uz i (List.getElem?_eq_some_iff.1 hi).1
   obtain⟨a1,a2,_,_⟩:=mv i ro d hi hd
   grind
  tP:=by
   intro i k ro ok hi hk UL uH
   obtain⟨d,hd⟩:=Uz i (List.getElem?_eq_some_iff.1 hi).1
   obtain⟨dk,gv⟩:=Uz k (List.getElem?_eq_some_iff.1 hk).1
   obtain⟨_,_,_,a4⟩:=mv i ro d hi hd
   grind
  amL:=by
   intro j hj
   show(jF tr ρn hn 0).2.get (h.next+j)=none
   rw[afj]
   grind
  amK:=by
   intro i ro hi aUU j AX hj
   obtain⟨d,hd⟩:=Uz i (List.getElem?_eq_some_iff.1 hi).1
   obtain⟨_,_,a3,_⟩:=mv i ro d hi hd
   grind
  aNT:=by
   grind
  d1:=d1,d2:=d2,d3:=d3,d4:=d4
  d5:=fun i k ri rk UL hi hk hx ho=>aK9 dl UL hi hk hx ho}
 refine wp_region_any hm ?_
 obtain⟨Hd,Ed,Vd⟩:=aGK H (w.drawn+1)
 have AK:hs 0={h with next:=h.next+az.length}:=by grind
 have ρs0:ρs 0=ρ:=by grind
 have yH:hs az.length=hn:=by
  show(jF tr ρn hn az.length).2=hn
  simp[jF,GC (show tr.length<=az.length by omega)]
 have ρsn:ρs az.length=ρn:=by
  show(jF tr ρn hn az.length).1=ρn
  simp[jF,GC (show tr.length<=az.length by omega)]
 have E0:Ext (h.next<= ·) ι I h w ι I {h with next:=h.next+az.length} {w with drawn:=w.drawn+1}:=
  {fN:=fun _ _=>rfl,more:=fun _ _ h=>h,next:=by simp,bZ:=fun _ _ h=>h,os:=rfl,tape:=rfl,output:=rfl,size:=ak _,block:=fun _ _ _=>rfl,cell:=fun _ _ _ _=>rfl,frozen:=fun _ _ _ _=>rfl,own:=fun _ _ h=> .inl h,jW:=fun _ _ h=> .inl h,lost:=fun _ _ _=>rfl}
 have H0:HR ι I (hs 0) {w with drawn:=w.drawn+1}:=by
  rw[AK]
  exact Hd.J9 (fun b l hb=>by have:=H.dI b l hb;grind) (fun b l x _ hx=>hx)
 refine T.aJo hlen EB d6 (ι0:=ι) (I0:=I) (w0:={w with drawn:=w.drawn+1}) (Q:=Q) ?_ ops.size (Array.replicate ops.size false) (S:=fun _=>False) (m:=0) (ρ:=ρ) (H:=hs 0) (ι:=ι) (I:=I) ?_ (by simp) ?_ ?_
 ·intro ι' I' a' w' A' H' E'
  rw[ρsn] at A'
  rw[yH] at H'
  rw[AK,yH] at E'
  exact hQ ρn hn a' w' ι' I' hKn A' H' (E0.trans E' (fun b hb=>hb))
 ·exact
  {ar:=A.mono Vd,hr:=H0,ext:= .refl _ _ _ _ _,ρ0:=fun t _=>by rw[ρs0],ρ1:=fun t j ro hj=>hj.elim,h1:=fun j hj=>hj.elim,h2:=fun b _=>rfl,hn:=rfl
   lt:=fun j hj=>hj.elim,closed:=fun j o hj=>hj.elim,HO:=bM _,D5:=fun j ro hj=>hj.elim,Hw:=fun j ro hj=>by omega,GJ:= .inl rfl
   inj:=fun j hj _=>by
    cases hq:ι (h.next+j) with
    |none=>rfl
    |some l=>have:=H.dI _ _ hq;omega
   pb:=fun j hj=>by omega
   next:=by grind}
 ·grind
 grind
end
end
section
open Go
def aa.clean (h:aa) (n:Nat):aa:={get:=fun b=>if b<h.next then h.get b else none,next:=h.next+n}
def cC.C6:cC->Exit
 | .normal=> .normal
 | .exit id=> .exit id
 | .goto l=> .goto l
 | .ret=> .ret
def Ao (n:Nat) (ι:aO) (I:bR) (h:aa) (w:World) (e:cC) (ρ':Env) (h':aa):Exit->Act->World->Prop:=fun x a' w'=>
 x=e.C6/\ ∃ι' I',AR ι' I' w' n ρ' a'/\HR ι' I' h' w'/\Ext (h.next<= ·) ι I h w ι' I' h' w'
def aOW (P:Program) (md:Mode) (m:Nat) (c:cO) (ρ:Env) (h:aa) (e:cC) (ρ':Env) (h':aa):Prop:=
 ∀(n:Nat) (ι:aO) (I:bR) (w:World) (a:Act),HR ι I h w->AR ι I w n ρ a->
  match c with
  | .inScope body cur=> ∀cb cc,fq P md n cb=some body->fq P md n cc=some cur-> ∀b k cs,∃x a' w',Ao n ι I h w e ρ' h' x a' w'/\
     Arrives P (lone (b.at a (.code cc:: .inScope cb::k)) cs w) b k cs x a' w'
  | .loop c'=> ∀cc,fq P md n cc=some c'->Code.rounds P cc (Ao n ι I h w e ρ' h') m a w
  |c=> ∀cc,fq P md n cc=some c->cc.wp P (Ao n ι I h w e ρ' h') a w
def Vv (P:Program) (md:Mode) (c:cO) (ρ:Env) (h:aa) (e:cC) (ρ':Env) (h':aa):Prop:= ∃m,aOW P md m c ρ h e ρ' h'
inductive gF (P:Program):cO->Env->aa->cC->Env->aa->Prop
 |skip {ρ:Env} {h:aa}:gF P .skip ρ h .normal ρ h
 |label {l:Nat} {ρ:Env} {h:aa}:gF P (.label l) ρ h .normal ρ h
 |exit {id:Nat} {ρ:Env} {h:aa}:gF P (.exit id) ρ h (.exit id) ρ h
 |goto {l:Nat} {ρ:Env} {h:aa}:gF P (.goto l) ρ h (.goto l) ρ h
 |ret {ρ:Env} {h:aa}:gF P .ret ρ h .ret ρ h
 |cA {az:List RO} {ρ ρ1:Env} {h h1:aa} (he:exec P az ρ h (fun ρ' h'=>ρ'=ρ1/\h'=h1)):gF P (.cA az) ρ h .normal ρ1 h1
 |jG {az:List RO} {un:List (List Nat)} {ρ ρ1:Env} {h h1:aa} (hf: ∀j,j<az.length->h.get (h.next+j)=none)
   (he:sU P az un h.next az 0 ρ {h with next:=h.next+az.length} [] (fun ρ' h'=>ρ'=ρ1/\h'=h1)):gF P (.jG az un) ρ h .normal ρ1 h1
 |Hq {az:List RO} {un:List (List Nat)} {ρ ρ1:Env} {h h1:aa} (he:sU P az un h.next az 0 ρ (h.clean az.length) [] (fun ρ' h'=>ρ'=ρ1/\h'=h1)):gF P (.jG az un) ρ h .normal ρ1 h1
 |seq {a b:cO} {ρ ρ1 ρ2:Env} {h h1 h2:aa} {e:cC} (b1:gF P a ρ h .normal ρ1 h1) (b2:gF P b ρ1 h1 e ρ2 h2):gF P (.seq a b) ρ h e ρ2 h2
 |Lu {a b:cO} {ρ ρ1:Env} {h h1:aa} {e:cC} (b1:gF P a ρ h e ρ1 h1) (he:e≠ .normal):gF P (.seq a b) ρ h e ρ1 h1
 |cond {c:aJ} {x y:cO} {ρ ρ1:Env} {h h1:aa} {e:cC} (t:Bool) (hc:c.ev ρ= .bool t) (b1:gF P (if t then x else y) ρ h e ρ1 h1):gF P (.cond c x y) ρ h e ρ1 h1
 |block {id:Nat} {c:cO} {ρ ρ1:Env} {h h1:aa} {e:cC} (b1:gF P c ρ h e ρ1 h1):gF P (.block id c) ρ h (if e= .exit id then .normal else e) ρ1 h1
 |loop {c:cO} {ρ ρ1 ρ2:Env} {h h1 h2:aa} {e:cC} (b1:gF P c ρ h .normal ρ1 h1) (b2:gF P (.loop c) ρ1 h1 e ρ2 h2):gF P (.loop c) ρ h e ρ2 h2
 |DF {c:cO} {ρ ρ1:Env} {h h1:aa} {e:cC} (b1:gF P c ρ h e ρ1 h1) (he:e≠ .normal):gF P (.loop c) ρ h e ρ1 h1
 |scope {c:cO} {ρ ρ1:Env} {h h1:aa} {e:cC} (b1:gF P (.inScope c c) ρ h e ρ1 h1):gF P (.scope c) ρ h e ρ1 h1
 |CB {body cur:cO} {ρ ρ1:Env} {h h1:aa} {e:cC} (b1:gF P cur ρ h e ρ1 h1) (he: ∀l,e= .goto l->jw body l=none):gF P (.inScope body cur) ρ h e ρ1 h1
 |inJ {body cur rest:cO} {l:Nat} {ρ ρ1 ρ2:Env} {h h1 h2:aa} {e:cC} (b1:gF P cur ρ h (.goto l) ρ1 h1) (hl:jw body l=some rest) (b2:gF P (.inScope body rest) ρ1 h1 e ρ2 h2):
   gF P (.inScope body cur) ρ h e ρ2 h2
 |sem {a b:cO} {ρ ρ1:Env} {h h1:aa} {e:cC} (hs: ∀md,Vv P md (.Ag a b) ρ h e ρ1 h1):gF P (.Ag a b) ρ h e ρ1 h1
section
variable {P:Program} {md:Mode}
def aEZ (P:Program) (md:Mode) (n:Nat) (cc:Code):cO->Prop
 | .skip=>cc= .skip
 | .cA az=> ∃id ops,cc= .region id ops false/\yy P md n ops ops.toList=some az
 | .jG az un=> ∃id ops,cc= .region id ops true/\yy P md n ops ops.toList=some az/\Ml ops az=true/\un=D9 ops az
 | .seq a b=> ∃x y,cc= .seq x y/\fq P md n x=some a/\fq P md n y=some b
 | .Ag a b=> ∃x y,cc= .seq x y/\fq P md n x=some a/\fq P md n y=some b
 | .cond c a b=> ∃o x y,cc= .cond o x y/\bF md.pr o=some c/\fq P md n x=some a/\fq P md n y=some b
 | .block id a=> ∃x,cc= .block id x/\fq P md n x=some a
 | .loop a=> ∃x,cc= .loop x/\fq P md n x=some a
 | .exit id=>cc= .exit id
 | .scope a=> ∃x,cc= .scope x/\fq P md n x=some a
 | .inScope _ _=>False
 | .label l=>cc= .label l
 | .goto l=>cc= .goto l
 | .ret=>cc= .ret
def pU (hc:fq P md n cc=some r):aEZ P md n cc r:=by
 cases cc<;>try(simp only[fq] at hc;first|(cases hc;rfl)|(cases hc;done))
 case region id ops d=>
  cases d with
  |false=>
   simp only[fq,DC] at hc
   obtain⟨az,h1,rfl⟩:=hc
   exact⟨id,ops,rfl,h1⟩
  |true=>
   simp only[fq,p3,bd] at hc
   obtain⟨az,h1,hc⟩:=hc
   split at hc
   ·rename_i bO;cases hc;exact⟨id,ops,rfl,h1,bO,rfl⟩
   ·cases hc
 case seq a b=>
  simp only[fq,p3,bd] at hc
  obtain⟨x,h1,y,h2,hc⟩:=hc
  cases hc
  cases x.Hp
  ·exact⟨a,b,rfl,h1,h2⟩
  ·exact⟨a,b,rfl,h1,h2⟩
 case cond c a b=>
  simp only[fq,p3,bd] at hc
  obtain⟨o,h0,x,h1,y,h2,hc⟩:=hc
  cases hc
  exact⟨c,a,b,rfl,h0,h1,h2⟩
 case block id a=>
  simp only[fq,p3,bd] at hc
  obtain⟨x,h1,hc⟩:=hc
  cases hc
  exact⟨a,rfl,h1⟩
 case loop a=>
  simp only[fq,p3,bd] at hc
  obtain⟨x,h1,hc⟩:=hc
  cases hc
  exact⟨a,rfl,h1⟩
 case scope a=>
  simp only[fq,p3,bd] at hc
  obtain⟨x,h1,hc⟩:=hc
  cases hc
  exact⟨a,rfl,h1⟩
def FL (P:Program) (md:Mode) (n:Nat):Option Code->Option cO->Prop
 |some x,some y=>fq P md n x=some y
 |none,none=>True
 |_,_=>False
def aE2: ∀{c r:cO},jw c l=some r->r.Hp=false:=by
 intro c
 induction c<;>intro r h<;>simp only[jw] at h<;>try(cases h;done)
 case seq a b iha Mv=>
  split at h
  ·cases h;rfl
  ·exact Mv h
 case Ag a b iha Mv=>exact Mv h
 case label l'=>
  split at h
  ·cases h;rfl
  ·cases h
def aE6 (h:c.Hp=true):jw c l=none:=by
 cases c<;>simp only[cO.Hp] at h<;>first|rfl|cases h
def aiu (l): ∀(cc:Code) (r:cO),fq P md n cc=some r->FL P md n (findLabel cc l) (jw r l):=by
 intro cc
 induction cc
 case seq a b iha Mv=>
  intro r hc
  simp only[fq,p3,bd] at hc
  obtain⟨x,h1,y,h2,hc⟩:=hc
  cases hc
  have ha:=iha x h1
  have hb:=Mv y h2
  cases hr:x.Hp with
  |true=>
   simp only[dP,findLabel,jw]
   rw[aE6 hr] at ha
   cases h3:findLabel a l<;>simp only[h3,FL] at ha ⊢
   exact hb
  |false=>
  simp only[nj,fj,findLabel,jw]
  cases h3:findLabel a l<;>cases h4:jw x l<;>simp only[h3,h4] at ha<;>simp only[]
  ·exact hb
  ·exact ha.elim
  ·exact ha.elim
  ·simp only[FL] at ha ⊢
   simp[fq,ha,h2,aE2 h4]
 case label l'=>
  intro r hc
  simp only[fq] at hc
  cases hc
  simp only[findLabel,jw]
  by_cases h:(l'==l)=true
  ·simp[h,FL,fq]
  ·simp[h,FL]
 all_goals
  intro r hc
  have hi:=pU hc
  cases r<;>simp only[aEZ] at hi<;>simp only[findLabel,jw,FL]
  all_goals grind
end
end
section
open Go
def Ao.trans (E:Ext (h.next<= ·) ι I h w ι1 I1 h1 w1)
 (hp:Ao n ι1 I1 h1 w1 e ρ2 h2 x a' w'):Ao n ι I h w e ρ2 h2 x a' w':=by
 obtain⟨h1,ι',I',A,H,F⟩:=hp
 exact⟨h1,ι',I',A,H,E.trans F (fun b hb=>fm E.next hb)⟩
theorem aie (hq: ∀e a w,Q e a w->Q' e a w): ∀(n:Nat) (a:Act) (w:World),Code.rounds P c Q n a w->Code.rounds P c Q' n a w
 |0,_,_,h=>h
 |n+1,a,w,h=>by
  rw[rounds_succ] at h ⊢
  refine wp_mono h (fun e a w he=>?_)
  cases e<;>simp only[Exit.then] at he ⊢ <;>first|exact aie hq n _ _ he|exact hq _ _ _ he
section
variable {P:Program} {md:Mode}
def Vv.wp (hs:Vv P md c ρ h e ρ' h') (H:HR ι I h w) (A:AR ι I w n ρ a) (hc:fq P md n cc=some c):
 cc.wp P (Ao n ι I h w e ρ' h') a w:=by
 obtain⟨m,hs⟩:=hs
 have:=hs n ι I w a H A
 cases c<;>try exact this cc hc
 case loop c'=>
  obtain⟨x,rfl,hx⟩:=pU hc
  exact wp_loop_rounds m (this x hx)
 case inScope body cur=>exact(pU hc).elim
def HR.clean (H:HR ι I h w):HR ι I (h.clean 0) w where
 dI b l hb:=by have:=H.dI b l hb;simpa [aa.clean] using this
 inside:=H.inside
 cells b cs l hg hb:=H.cells b cs l (by have:=H.dI b l hb;simpa [aa.clean,this] using hg) hb
 maps b es l hg hb:=H.maps b es l (by have:=H.dI b l hb;simpa [aa.clean,this] using hg) hb
 iE b l hg hb:=H.iE b l (by have:=H.dI b l hb;simpa [aa.clean,this] using hg) hb
 eN b b' l l' x x' k j aT hb cF hg dz:=H.eN b b' l l' x x' k j aT hb cF (by have:=H.dI b l hb;simpa [aa.clean,this] using hg) (by have:=H.dI b' l' cF;simpa [aa.clean,this] using dz)
 bZ b l x k j hb hg:=H.bZ b l x k j hb (by have:=H.dI b l hb;simpa [aa.clean,this] using hg)
 eP:=H.eP
 pl b cs cb o room hg hb:=H.pl b cs cb o room (by have:=H.dI b _ hb;simpa [aa.clean,this] using hg) hb
def Ext.aK8 (E:Ext ((h.clean 0).next<= ·) ι I (h.clean 0) w ι' I' h' w') (H:HR ι I h w):Ext (h.next<= ·) ι I h w ι' I' h' w':=by
 have ho: ∀k j,fJ ι (h.clean 0) k j↔fJ ι h k j:=fun k j=>by
  constructor
  ·rintro⟨b,l,x,hb,hg,hl⟩
   exact⟨b,l,x,hb,by have:=H.dI b l hb;simpa [aa.clean,this] using hg,hl⟩
  ·rintro⟨b,l,x,hb,hg,hl⟩
   exact⟨b,l,x,hb,by have:=H.dI b l hb;simpa [aa.clean,this] using hg,hl⟩
 exact
 {fN:=fun b hb=>E.fN b (by simpa [aa.clean] using hb),more:=E.more,next:=E.next,bZ:=E.bZ,os:=E.os,tape:=E.tape,output:=E.output,size:=E.size
  block:=fun k hk hn=>E.block k hk (fun j hj=>hn j ((ho k j).1 hj))
  cell:=fun k j hk hn=>E.cell k j hk (fun hj=>hn ((ho k j).1 hj))
  frozen:=fun k j hk hn=>E.frozen k j hk (fun hj=>hn ((ho k j).1 hj))
  own:=fun k j hj=>(E.own k j hj).imp (ho k j).1 id
  jW:=fun k j hj=>by rcases E.jW k j hj with h|h|h;exact .inl h;exact .inr (.inl ((ho k j).1 h));omega
  lost:=fun b hb hi=>by
   rw[E.lost b (by simpa [aa.clean] using hb) hi]
   have:b<h.next:=by omega
   simp[aa.clean,this]}
def ajk {e:cC} (he:e≠ .normal) (h:Q e.C6 a w):Exit.then K Q e.C6 a w:=by
 cases e<;>first|exact(he rfl).elim|exact h
def aJl (hm:P.follows .mixedOrders=true) (hb:gF P c ρ h e ρ' h'):Vv P md c ρ h e ρ' h':=by
 induction hb with
 |sem hs=>exact hs md
 |skip=>
  refine⟨0,fun n ι I w a H A cc hc=>?_⟩
  obtain rfl:=pU hc
  exact wp_skip ⟨rfl,ι,I,A,H, .refl _ _ _ _ _⟩
 |label=>
  refine⟨0,fun n ι I w a H A cc hc=>?_⟩
  obtain rfl:=pU hc
  exact wp_label ⟨rfl,ι,I,A,H, .refl _ _ _ _ _⟩
 |exit=>
  refine⟨0,fun n ι I w a H A cc hc=>?_⟩
  obtain rfl:=pU hc
  exact wp_exit ⟨rfl,ι,I,A,H, .refl _ _ _ _ _⟩
 |goto=>
  refine⟨0,fun n ι I w a H A cc hc=>?_⟩
  obtain rfl:=pU hc
  exact wp_goto ⟨rfl,ι,I,A,H, .refl _ _ _ _ _⟩
 |ret=>
  refine⟨0,fun n ι I w a H A cc hc=>?_⟩
  obtain rfl:=pU hc
  exact wp_ret ⟨rfl,ι,I,A,H, .refl _ _ _ _ _⟩
 | @cA az ρ ρ1 h h1 he=>
   refine⟨0,fun n ι I w a H A cc hc=>?_⟩
   obtain⟨id,ops,rfl,hr⟩:=pU hc
   obtain⟨hlen,EB⟩:=WJ hr
   refine wp_region ?_
   have:=ajb (md:=md) (Q:=Ao n ι I h w .normal ρ1 h1) (ops:=ops) az 0 H A (fun i ro hi=>?_) he (fun ρ' h' a' w' ι' I' hk A' H' E=>by
    obtain⟨rfl,rfl⟩:=hk
    exact⟨rfl,ι',I',A',H',E⟩)
   ·rw[List.range_eq_range',show ops.size=az.length by omega]
    exact this
   ·have MN:i<ops.toList.length:=by grind
    refine⟨ops.toList[i],?_,EB i _ ro (bn MN) hi⟩
    grind
 | @jG az un ρ ρ1 h h1 hf he=>
   refine⟨0,fun n ι I w a H A cc hc=>?_⟩
   obtain⟨id,ops,rfl,hr,bO,rfl⟩:=pU hc
   exact aiR hm hr bO H A hf he (fun ρ' h' a' w' ι' I' hk A' H' E=>by
    obtain⟨rfl,rfl⟩:=hk
    exact⟨rfl,ι',I',A',H',E⟩)
 | @Hq az un ρ ρ1 h h1 he=>
   refine⟨0,fun n ι I w a H A cc hc=>?_⟩
   obtain⟨id,ops,rfl,hr,bO,rfl⟩:=pU hc
   refine aiR (h:=h.clean 0) hm hr bO H.clean A (fun j _=>by simp only[aa.clean];grind) he (fun ρ' h' a' w' ι' I' hk A' H' E=>by
    obtain⟨rfl,rfl⟩:=hk
    exact⟨rfl,ι',I',A',H',E.aK8 H⟩)
 | @seq x y ρ ρ1 ρ2 h h1 h2 e b1 b2 iX oT=>
   refine⟨0,fun n ι I w a H A cc hc=>?_⟩
   obtain⟨cx,cy,rfl,hx,hy⟩:=pU hc
   refine wp_seq (wp_mono (iX.wp H A hx) ?_)
   rintro _ a1 w1 ⟨rfl,ι1,I1,A1,H1,E1⟩
   exact wp_mono (oT.wp H1 A1 hy) (fun _ _ _ hp=>hp.trans E1)
 | @Lu x y ρ ρ1 h h1 e b1 he iX=>
   refine⟨0,fun n ι I w a H A cc hc=>?_⟩
   obtain⟨cx,cy,rfl,hx,hy⟩:=pU hc
   refine wp_seq (wp_mono (iX.wp H A hx) ?_)
   rintro _ a1 w1 ⟨rfl,hp⟩
   exact ajk he ⟨rfl,hp⟩
 | @cond c x y ρ ρ1 h h1 e t ju b1 iX=>
   refine⟨0,fun n ι I w a H A cc hc=>?_⟩
   obtain⟨o,cx,cy,rfl,ho,hx,hy⟩:=pU hc
   have qj:VR ι I w (c.ev ρ) (a.eval o):=b9 A ho
   rw[ju] at qj
   have:a.eval o= .bool t:=by generalize a.eval o=u at qj;cases qj;rfl
   refine wp_cond this ?_
   cases t
   ·exact iX.wp H A hy
   ·exact iX.wp H A hx
 | @block id c ρ ρ1 h h1 e b1 iX=>
   refine⟨0,fun n ι I w a H A cc hc=>?_⟩
   obtain⟨cx,rfl,hx⟩:=pU hc
   refine wp_block (wp_mono (iX.wp H A hx) ?_)
   rintro _ a1 w1 ⟨rfl,hp⟩
   cases e with
   |exit CC=>
    simp only[cC.C6,Exit.inBlock]
    by_cases aM:CC=id
    ·simp only[aM,dP];exact⟨rfl,hp⟩
    ·simp only[aM,fj]
     have: ¬(cC.exit CC=cC.exit id):=fun h=>aM (cC.exit.inj h)
     simp only[this,fj]
     exact⟨rfl,hp⟩
   |normal=>simp only[cC.C6,Exit.inBlock];exact⟨rfl,hp⟩
   |goto l=>simp only[cC.C6,Exit.inBlock];exact⟨rfl,hp⟩
   |ret=>simp only[cC.C6,Exit.inBlock];exact⟨rfl,hp⟩
 | @loop c ρ ρ1 ρ2 h h1 h2 e b1 b2 iX oT=>
   obtain⟨m,oT⟩:=oT
   refine⟨m+1,fun n ι I w a H A cc hc=>?_⟩
   rw[rounds_succ]
   refine wp_mono (iX.wp H A hc) ?_
   rintro _ a1 w1 ⟨rfl,ι1,I1,A1,H1,E1⟩
   exact aie (fun _ _ _ hp=>Ao.trans E1 hp) m a1 w1 (oT n ι1 I1 w1 a1 H1 A1 cc hc)
 | @DF c ρ ρ1 h h1 e b1 he iX=>
   refine⟨1,fun n ι I w a H A cc hc=>?_⟩
   rw[rounds_succ]
   refine wp_mono (iX.wp H A hc) ?_
   rintro _ a1 w1 ⟨rfl,hp⟩
   exact ajk he ⟨rfl,hp⟩
 | @scope c ρ ρ1 h h1 e b1 iX=>
   obtain⟨m,iX⟩:=iX
   refine⟨0,fun n ι I w a H A cc hc=>?_⟩
   obtain⟨cx,rfl,hx⟩:=pU hc
   intro b k cs
   obtain⟨x,a',w',hp,Aj⟩:=iX n ι I w a H A cx cx hx hx b k cs
   exact⟨x,a',w',hp, .of_steps (.one step_scope) Aj⟩
 | @CB body cur ρ ρ1 h h1 e b1 he iX=>
   refine⟨0,fun n ι I w a H A cb cc fA oe b k cs=>?_⟩
   obtain⟨x,a',w',hp,Aj⟩:=iX.wp H A oe b (.inScope cb::k) cs
   obtain⟨rfl,pe⟩:=hp
   refine⟨_,a',w',⟨rfl,pe⟩,?_⟩
   cases e with
   |normal=>exact Steps.trans Aj (.one step_inScope)
   |exit id=>exact fun k' hk=>Aj k' (by simp[exitTo,hk])
   |ret=>exact Aj
   |goto l=>
    intro k' hk
    refine Aj k' ?_
    have da:=aiu l cb body fA
    rw[he l rfl] at da
    cases hf:findLabel cb l with
    |none=>simp[gotoIn,hf,hk]
    |some r=>rw[hf] at da;exact da.elim
 | @inJ body cur rest l ρ ρ1 ρ2 h h1 h2 e b1 hl b2 iX oT=>
   obtain⟨m,oT⟩:=oT
   refine⟨0,fun n ι I w a H A cb cc fA oe b k cs=>?_⟩
   obtain⟨x,a1,w1,hp,Aj⟩:=iX.wp H A oe b (.inScope cb::k) cs
   obtain⟨rfl,ι1,I1,A1,H1,E1⟩:=hp
   have da:=aiu l cb body fA
   rw[hl] at da
   cases hf:findLabel cb l with
   |none=>rw[hf] at da;exact da.elim
   |some r=>
    rw[hf] at da
    obtain⟨x,a2,w2,ME,aOe⟩:=oT n ι1 I1 w1 a1 H1 A1 cb r fA da b k cs
    exact⟨x,a2,w2,ME.trans E1, .of_steps (Aj _ (by simp[gotoIn,hf])) aOe⟩
end
end
section
open Go
def C8 (ρ:Env) (h:aa):mQ->Option AV
 | .tmp t=>some (ρ t)
 | .cell t ag sz=>pC ag sz h (ρ t)
def ft (ρ:Env) (h:aa):List mQ->Option (List AV)
 |[]=>some []
 |x::xs=>match C8 ρ h x,ft ρ h xs with
  |some a,some l=>some (a::l)
  |_,_=>none
def ja:List AV->AV
 |[v]=>v
 |vs=> .aE vs
def mK (args:List AV):Env:=fun t=>args.getD t (.aE [])
section
variable {P:Program} {md:Mode} {ι:aO} {I:bR} {h:aa} {w:World}
def aKQ (H:HR ι I h w) (hu:P.underlying t=some d) (hs:(P.info? t).map (·.size)=some sz)
 (ha:VR ι I w a c) (hl:pC d.isRow sz h a=some v): ∃u,(do loadVar t (<-asAddr c)).run P w= .ok u w/\VR ι I w v u:=by
 have key: ∀{cb o off:Nat} {cs:List AV},z5 ι I w cb o cs->cut d.isRow sz off cs=some v-> ∃u,(loadVar t ⟨cb,o+off,none⟩).run P w= .ok u w/\VR ι I w v u:=by
  intro cb o off cs hr hc
  cases hd:d.isRow with
  |true=>
   rw[hd] at hc
   simp only[cut,dP] at hc
   split at hc
   ·rename_i hle
    cases hc
    obtain⟨l',hl,h1,h2⟩:=(hr.sub off sz).list
    have hlen:l'.length=sz:=by grind
    have:=run_loadVar_mid (P:=P) w cb (o+off) t l' d h1 hu hd (by grind)
    exact⟨_,this, .agg _ _ hl h2⟩
   ·cases hc
  |false=>
   rw[hd] at hc
   simp only[cut,nj,fj] at hc
   obtain⟨c,h1,h2⟩:=hr off v hc
   exact⟨c,by simp[loadVar,Fo hu,hd,run_load,h1],h2⟩
 cases ha<;>simp only[pC] at hl<;>try(cases hl;done)
 case ptr b off cb o room hb=>
  simp only[cellsOf] at hl
  split at hl
  ·rename_i cs hg
   obtain⟨u,h1,h2⟩:=key (H.row (by simpa using hg) hb).1 hl
   exact⟨u,by simpa [asAddr] using h1,h2⟩
  ·cases hl
 case vp xs off cb o g hI hc hv h1=>
  obtain⟨u,h1,h2⟩:=key (cs:=xs) (o:=o) (cb:=cb) (fun j v hj=>by
   grind) hl
  exact⟨u,by simpa [asAddr] using h1,h2⟩
def Jd (tmps:Array Value):ResultVar->Sem Value
 | .tmp t=>pure (tmps.getD t undef)
 | .cell a t=>do loadVar t (<-asAddr (tmps.getD a undef))
theorem aj9 (H:HR ι I h w) (A:AR ι I w n ρ a): ∀(rv:List ResultVar) (rs:List mQ) (vs:List AV),Fl P rv=some rs->ft ρ h rs=some vs->
 ∃us:List Value,(rv.mapM (Jd a.tmps)).run P w= .ok us w/\LR ι I w vs us
 |[],rs,vs,hc,hv=>by
  simp only[Fl] at hc
  cases hc
  simp only[ft] at hv
  cases hv
  exact⟨[],by simp,⟨rfl,fun i v c h=>by simp at h⟩⟩
 |x::xs,rs,vs,hc,hv=>by
  simp only[Fl] at hc
  split at hc
  ·rename_i r l h1 h2
   cases hc
   simp only[ft] at hv
   split at hv
   ·rename_i v l' h3 h4
    cases hv
    obtain⟨us,h5,h6⟩:=aj9 H A xs l l' h2 h4
    have: ∃u,(Jd a.tmps x).run P w= .ok u w/\VR ι I w v u:=by
     cases x with
     |tmp t=>
      simp only[afP] at h1
      cases h1
      simp only[C8] at h3
      cases h3
      exact⟨_,by simp[Jd],A.get t⟩
     |cell t ty=>
      simp only[afP,p3,bd] at h1
      obtain⟨d,hd,sz,aZ,h1⟩:=h1
      cases h1
      exact aKQ H hd aZ (A.get t) h3
    obtain⟨u,hu,hvu⟩:=this
    refine⟨u::us,by simp_all,?_⟩
    exact LR.cons hvu h6
   ·cases hv
  ·cases hc
def aGe (H:HR ι I h w) (A:AR ι I w n ρ a) (hc:Fl P fn.results.toList=some rs) (hv:ft ρ h rs=some vs):
 ∃u,(results fn a.tmps).run P w= .ok u w/\VR ι I w (ja vs) u:=by
 obtain⟨us,h1,h2⟩:=aj9 H A _ rs vs hc hv
 have hm:(fn.results.mapM (Jd a.tmps)).run P w= .ok us.toArray w:=by
  rw[<-Array.toArray_toList (xs:=fn.results),List.mapM_toArray]
  simp[h1]
 have aTq:results fn a.tmps=(do
  let vs <-fn.results.mapM (Jd a.tmps)
  pure (if h:vs.size=1 then vs[0] else .tuple vs)):=by
  unfold results
  congr 2
 rw[aTq]
 refine⟨_,by simp only[Sem.run_bind,hm];rfl,?_⟩
 obtain⟨hl,hg⟩:=h2
 match vs,us,hl,hg with
 |[],[],_,hg=>exact .aE [] [] rfl hg
 |[v],[u],_,hg=>exact hg 0 v u rfl rfl
 |v::v'::l,u::u'::l',hl,hg=>
  have: ¬((u::u'::l').toArray.size=1):=by simp
  rw[dif_neg this]
  exact .aE _ _ hl hg
def ve (hm:P.follows .mixedOrders=true) (hf:P.funcs[f]? =some fn) (hc:yc P md fn=some rf) (iR:args.length<=rf.ntmps)
 (hb:gF P rf.code (mK args) h e ρ' h') (he:e= .normal\/e= .ret) (hr:ft ρ' h' rf.results=some vs):al P f args h (ja vs) h':=by
 intro ι I w cU H hl
 unfold yc at hc
 simp only[bN] at hc
 obtain⟨c,aOd,code,aOb,rs,hrs,hc⟩:=hc
 cases hc
 simp only at*
 refine calls_of_wp hf aOd ?_
 have aZ:cU.size=args.length:=by have:=hl.1;grind
 have A:AR ι I w fn.ntmps (mK args) {tmps:=cU++Array.replicate (fn.ntmps-cU.size) undef,defers:=[]}:=by
  refine⟨rfl,by simp;omega,fun t=>?_⟩
  by_cases ht:t<args.length
  ·have h1:=bn ht
   obtain⟨u,hu,hv⟩:=hl.get h1
   have e1:mK args t=args[t]:=by simp[mK,List.getD,h1]
   have e2:(cU++Array.replicate (fn.ntmps-cU.size) undef).getD t undef=u:=by
    rw[Lo,Array.getElem?_append_left (by omega)]
    grind
   grind
  ·have e1:mK args t= .aE []:=by simp[mK,List.getD,GC (show args.length<=t by omega)]
   have e2:(cU++Array.replicate (fn.ntmps-cU.size) undef).getD t undef=undef:=by
    rw[Lo,Array.getElem?_append_right (by omega),Array.getElem?_replicate]
    split<;>rfl
   rw[e1,e2];exact aj0
 refine wp_mono ((aJl (md:=md) hm hb).wp H A aOb) ?_
 rintro _ a' w' ⟨rfl,ι',I',A',H',E⟩
 obtain⟨u,hu,hv⟩:=aGe H' A' hrs hr
 have:bodyPost P fn (fun e w'=> ∃v ι' I',e= .returned v/\VR ι' I' w' (ja vs) v/\HR ι' I' h' w'/\Ext (h.next<= ·) ι I h w ι' I' h' w') .normal a' w':=
  ⟨A'.defers,u,hu,u,ι',I',rfl,hv,H',E⟩
 rcases he with rfl|rfl
 ·exact this
 ·exact this
end
end
section
open Go
inductive Tr (α:Type) where
 |leaf
 |node (l:Tr α) (v:Option α) (r:Tr α)
 deriving Inhabited
def Tr.get {α:Type}:Tr α->Nat->Option α
 | .leaf,_=>none
 | .node l v r,n=>
   match n with
   |0=>v
   | .succ n=>match Nat.mod n 2 with
     |0=>l.get (Nat.div n 2)
     |_=>r.get (Nat.div n 2)
def Tr.te {α R:Type}:Nat->Tr α->Nat->Option α->(Tr α->Option R)->Option R
 |0,_,_,_,_=>none
 | .succ f,t,n,v,k=>
   match t with
   | .leaf=>match n with
     |0=>k (.node .leaf v .leaf)
     | .succ n=>match Nat.mod n 2 with
       |0=>Tr.te f .leaf (Nat.div n 2) v fun l=>k (.node l none .leaf)
       |_=>Tr.te f .leaf (Nat.div n 2) v fun r=>k (.node .leaf none r)
   | .node l u r=>match n with
     |0=>k (.node l v r)
     | .succ n=>match Nat.mod n 2 with
       |0=>Tr.te f l (Nat.div n 2) v fun l'=>k (.node l' u r)
       |_=>Tr.te f r (Nat.div n 2) v fun r'=>k (.node l u r')
def Tr.env (t:Tr AV):Env:=fun n=>match t.get n with
 |some v=>v
 |none=> .aE []
structure CH where
 t:Tr lB
 next:Nat
def CH.den (H:CH):aa:={get:=fun b=>H.t.get b,next:=H.next}
section
variable {R:Type}
def p9 (n:Nat) (k:Nat->Option R):Option R:=match n with
 |0=>k 0
 | .succ n=>k (.succ n)
def aTC (i:Int) (k:Int->Option R):Option R:=match i with
 | .ofNat n=>p9 n fun n=>k (.ofNat n)
 | .negSucc n=>p9 n fun n=>k (.negSucc n)
def aOj (b:Bool) (k:Bool->Option R):Option R:=match b with
 |true=>k true
 |false=>k false
def fS (v:AV) (k:AV->Option R):Option R:=match v with
 | .int kd n=>match kd with
   |kd=>aTC n fun n=>k (.int kd n)
 | .bool b=>aOj b fun b=>k (.bool b)
 | .ptr b o=>p9 b fun b=>p9 o fun o=>k (.ptr b o)
 | .rs b o l s=>p9 b fun b=>p9 o fun o=>p9 l fun l=>p9 s fun s=>k (.rs b o l s)
 | .rk b o l s c=>p9 b fun b=>p9 o fun o=>p9 l fun l=>p9 s fun s=>p9 c fun c=>k (.rk b o l s c)
 |v=>k v
def fL:List AV->(List AV->Option R)->Option R
 |[],k=>k []
 |x::xs,k=>fS x fun x=>fL xs fun xs=>k (x::xs)
def fLL:List (List AV)->(List (List AV)->Option R)->Option R
 |[],k=>k []
 |x::xs,k=>fL x fun x=>fLL xs fun xs=>k (x::xs)
def aOi (t:aL) (k:aL->Option R):Option R:=match t with
 | .au=>k .au
 | .full=>k .full
 | .own t=>p9 t fun t=>k (.own t)
def fV1 (v:AV) (k:AV->Option R):Option R:=match v with
 | .agg l=>fL l fun l=>k (.agg l)
 | .vs xs t=>fLL xs fun xs=>aOi t fun t=>k (.vs xs t)
 | .vp xs o=>fL xs fun xs=>p9 o fun o=>k (.vp xs o)
 |v=>fS v k
def fVs:List AV->(List AV->Option R)->Option R
 |[],k=>k []
 |x::xs,k=>fV1 x fun x=>fVs xs fun xs=>k (x::xs)
def fEs:List (AV×AV)->(List (AV×AV)->Option R)->Option R
 |[],k=>k []
 |(x,y)::xs,k=>fV1 x fun x=>fV1 y fun y=>fEs xs fun xs=>k ((x,y)::xs)
def fB (b:lB) (k:lB->Option R):Option R:=match b with
 | .cells l=>fVs l fun l=>k (.cells l)
 | .map es=>fEs es fun es=>k (.map es)
 | .tail=>k .tail
def CH.te (H:CH) (b:Nat) (x:Option lB) (k:CH->Option R):Option R:=
 match x with
 |none=>Tr.te 24 H.t b none fun t=>k {t,next:=H.next}
 |some x=>fB x fun x=>Tr.te 24 H.t b (some x) fun t=>k {t,next:=H.next}
def rq.fst:rq->aJ
 | .store _ x _| .append _ _ x _| .BC _ _ x _| .copy _ x _| .Fz x _| .Db x _ _| .BB _ _ x _| .zY _ x _| .zp _ x| .mark x=>x
structure qx where
 fn:Nat->Option jc
 nat:Nat->Option (List AV->CH->Option (AV×CH))
 dV:Nat->Bool
variable (aw4:Nat->List AV->CH->(AV->CH->Option R)->Option R) (cb:Nat->Bool)
def ade (H:CH) (base:Nat):Nat->Nat->Bool
 |_,0=>true
 |i,n+1=>match H.t.get (base+i) with
  |none=>ade H base (i+1) n
  |some _=>false
end
end
section
open Go
def Tr.aKx (l r) (u:Option α) (m):(Tr.node l u r).get (m+1)=if m%2=0 then l.get (m/2) else r.get (m/2):=by
 show(match Nat.mod m 2 with|0=>l.get (Nat.div m 2)|_=>r.get (Nat.div m 2))=_
 have e1:Nat.mod m 2=m%2:=rfl
 have e2:Nat.div m 2=m/2:=rfl
 grind
section
variable {R:Type}
variable {P:Program} {aw4:Nat->List AV->CH->(AV->CH->Option R)->Option R} {cb:Nat->Bool}
end
end
section
open Go
section
variable {R:Type} {P:Program} {aw4:Nat->List AV->CH->(AV->CH->Option R)->Option R} {cb:Nat->Bool}
structure aA (P:Program) (tb:qx):Prop where
 follow:P.follows .mixedOrders=true
 fn: ∀(f:Nat) (rf:jc),tb.fn f=some rf-> ∃fn md,P.funcs[f]? =some fn/\yc P md fn=some rf
 nat: ∀(f:Nat) (g:List AV->CH->Option (AV×CH)),tb.nat f=some g-> ∀args H v H',g args H=some (v,H')->al P f args H.den v H'.den
 dV: ∀(f:Nat),tb.dV f=true->dV P f=true
end
def Tr.yw {α:Type}:Tr α->List (Nat×α)
 | .leaf=>[]
 | .node l v r=>(match v with|some v=>[(0,v)]|none=>[])++(l.yw.map fun p=>(2*p.1+1,p.2))++(r.yw.map fun p=>(2*p.1+2,p.2))
def Tr.IJ: ∀{t:Tr α} {n:Nat} {v:α},t.get n=some v->(n,v)∈t.yw
 | .leaf,n,v,h=>by simp[Tr.get] at h
 | .node l u r,n,v,h=>by
   cases n with
   |zero=>
    simp only[Tr.get] at h
    subst h
    simp[Tr.yw]
   |succ m=>
    rw[Tr.aKx] at h
    simp only[Tr.yw,vW,List.mem_map]
    split at h
    ·exact .inl (.inr ⟨(m/2,v),Tr.IJ h,by simp;omega⟩)
    ·exact .inr ⟨(m/2,v),Tr.IJ h,by simp;omega⟩
end
section
open Go Go.ChangeShapes Go.WideShapes Go.ChangeAt Go.RowKit
def Kept (w w':World):Prop:=w'.os=w.os/\w'.output=w.output/\w.heap.size<=w'.heap.size/\ ∀k,k<w.heap.size->w'.heap[k]? =w.heap[k]?
def Kept.keptBut (h:Kept w w') (may):w.keptBut w' may:=by
 obtain⟨h1,h2,h3,h4⟩:=h
 refine⟨h1,h2,fun i hi=>?_⟩
 grind
def Kept.frozen (h:Kept w w') (ha:a.block<w.heap.size):w'.frozen? a=w.frozen? a:=by
 simp only[World.frozen?,h.2.2.2 _ ha]
section
variable {H:Type} {enc:TypeId×Value->H} {P:Program}
def aFv {s:ChangeSpec}
 (hW:DataW.Whole enc P f.params.toList s.vars apart W args.toList ds gs before)
 (LK: ∀(b:Nat) (sp:Nat->Bool) (hd:Bool),DataW.TrodAll enc P W' b sp hd f.resultTypes.toList (v.resultList f.resultTypes.size) (s.fn H (ds++gs)).results [])
 (iR: ∀sp:Nat->Bool,(∀p∈before,sp p.block=true)->DataW.TrodAll enc P W' 0 sp true f.params.toList args.toList (s.fn H (ds++gs)).args pa)
 (Kj: ∀sp:Nat->Bool,(∀p∈before,sp p.block=true)->DataW.TrodVars enc P W' sp s.vars (s.fn H (ds++gs)).vars pv)
 (wS:before=pa++pv) (hk:Kept W W')
 (bO: ∀(j:Nat) (t:TypeId) (r:Value),f.resultTypes[j]? =some t->(v.resultList f.resultTypes.size)[j]? =some r->Value.okWide P W' .any 0 t r):
 s.post enc P f apart fresh handsOn again W args v W':=by
 have hold: ∀p∈before,(fun b=>decide (b<W.heap.size)) p.block=true:=fun p hp=>by simpa using hW.lt p hp
 refine⟨ds,gs,before,[],pa,pv,hW,LK _ _ _,iR _ hold,Kj _ hold,World.keptBut_mono (fun p hp=>⟨hp,?_⟩) (hk.keptBut (· ∈before)),fun _=>?_⟩
 ·grind
 ·have aS:=fun p hp=>hW.lt p hp
  obtain⟨_,_,_,_,_,hz,hn⟩:=hW
  refine⟨bO,_,_,([]++pa)++pv,⟨[]++pa,pv,trodAll_append (iR _ (fun _ _=>rfl)) (LK _ _ _),Kj _ (fun _ _=>rfl),rfl,?_,?_⟩,?_⟩
  ·intro b off hp
   have pe:MemPlace.cell b off∈before:=by grind
   rw[hk.frozen (a:=⟨b,off,none⟩) (aS _ pe)]
   exact hz b off pe
  ·grind
  grind
end
section
variable {P:Program} {w:World}
def aKD (I) (hI: ∀k j,I k j->k<w.heap.size):HR (fun _=>none) I aa.empty w where
 dI b l h:=by cases h
 inside b l h:=by cases h
 cells b cs l h:=by cases h
 maps b es l h:=by cases h
 iE b l h:=by cases h
 eN b b' l l' x x' k j _ h:=by cases h
 bZ b l x k j h:=by cases h
 eP:=hI
 pl b cs cb o room h:=by cases h
def trod_bool {enc:TypeId×Value->H} (hu:P.underlying t=some .bool) (b):DataW.Trod enc P w base sp hd t (.bool b) (.lit (.bool b)) []:=
 ⟨1,by simp[DataW.trod,Value.cells,hu]⟩
def okWide_bool (hu:P.underlying t=some .bool) (b):Value.okWide P w .any 0 t (.bool b):=by
 simp[Value.okWide,hu,Cell.okWide,Cell.ok]
def aHX (hc:al P f args aa.empty (.bool true) h') (hI: ∀k j,I k j->k<w.heap.size) (hl:LR (fun _=>none) I w args cU.toList):
 Calls P f cU w fun e w'=>e= .returned (.bool true)/\Kept w w':=by
 refine(hc (fun _=>none) I w cU (aKD I hI) hl).mono ?_
 rintro e w' ⟨v,ι',I',rfl,hv,H',E⟩
 cases hv
 exact⟨rfl,E.os,E.output,E.size,fun k hk=>E.block k hk (fun j ⟨b,l,x,hb,_⟩=>by cases hb)⟩
end
end
section
open Go
section
variable {P:Program}
theorem ajI: ∀{az:List RO} {ρ:Env} {h:aa},exec P az ρ h K-> ∃ρ1 h1,exec P az ρ h (fun ρ' h'=>ρ'=ρ1/\h'=h1)/\K ρ1 h1
 |[],ρ,h,hk=>⟨ρ,h,⟨rfl,rfl⟩,hk⟩
 |o::os,ρ,h,⟨r,h',hs,hk⟩=>by
  obtain⟨ρ1,h1,he,hk⟩:=ajI hk
  exact⟨ρ1,h1,⟨r,h',hs,he⟩,hk⟩
theorem E4: ∀{az:List RO} {i:Nat} {ρ:Env} {h:aa} {done:List (Env×aa×Option AV)},sU P all un base az i ρ h done K->
 ∃ρ1 h1,sU P all un base az i ρ h done (fun ρ' h'=>ρ'=ρ1/\h'=h1)/\K ρ1 h1
 |[],i,ρ,h,done,hk=>⟨ρ,h,⟨rfl,rfl⟩,hk⟩
 |o::os,i,ρ,h,done,⟨r,h',hs,hc,hf,hk⟩=>by
  obtain⟨ρ1,h1,he,hk⟩:=E4 hk
  exact⟨ρ1,h1,⟨r,h',hs,hc,hf,he⟩,hk⟩
def WP (P:Program) (c:cO) (K:cC->Env->aa->Prop) (ρ:Env) (h:aa):Prop:= ∃e ρ' h',gF P c ρ h e ρ' h'/\K e ρ' h'
variable {K:cC->Env->aa->Prop} {ρ:Env} {h:aa}
def WP.mono (hw:WP P c K ρ h) (hk: ∀e ρ h,K e ρ h->K' e ρ h):WP P c K' ρ h:=by
 obtain⟨e,ρ',h',hb,gC⟩:=hw
 exact⟨e,ρ',h',hb,hk _ _ _ gC⟩
def iD (k:Env->aa->Prop) (K:cC->Env->aa->Prop):cC->Env->aa->Prop
 | .normal,ρ,h=>k ρ h
 |e,ρ,h=>K e ρ h
def jO (id:Nat) (K:cC->Env->aa->Prop):cC->Env->aa->Prop
 | .exit i,ρ,h=>if i=id then K .normal ρ h else K (.exit i) ρ h
 |e,ρ,h=>K e ρ h
def ajY (hk:K .normal ρ h):WP P .skip K ρ h:=⟨_,_,_, .skip,hk⟩
def aji (hk:K .normal ρ h):WP P (.label l) K ρ h:=⟨_,_,_, .label,hk⟩
def aJA {id:Nat} (hk:K (.exit id) ρ h):WP P (.exit id) K ρ h:=⟨_,_,_, .exit,hk⟩
def aJz (hk:K (.goto l) ρ h):WP P (.goto l) K ρ h:=⟨_,_,_, .goto,hk⟩
def aK3 (hk:K .ret ρ h):WP P .ret K ρ h:=⟨_,_,_, .ret,hk⟩
def aMr (he:exec P az ρ h (K .normal)):WP P (.cA az) K ρ h:=by
 obtain⟨ρ1,h1,he,hk⟩:=ajI he
 exact⟨_,_,_, .cA he,hk⟩
def Oq (hw:WP P a (iD (WP P b K) K) ρ h):WP P (.seq a b) K ρ h:=by
 obtain⟨e,ρ',h',hb,hk⟩:=hw
 cases e with
 |normal=>obtain⟨e2,ρ2,h2,dB,mX⟩:=hk;exact⟨_,_,_, .seq hb dB,mX⟩
 |exit id=>exact⟨_,_,_, .Lu hb (by simp),hk⟩
 |goto l=>exact⟨_,_,_, .Lu hb (by simp),hk⟩
 |ret=>exact⟨_,_,_, .Lu hb (by simp),hk⟩
def aJB {t:Bool} (hc:c.ev ρ= .bool t) (hw:WP P (if t then x else y) K ρ h):WP P (.cond c x y) K ρ h:=by
 obtain⟨e,ρ',h',hb,hk⟩:=hw
 exact⟨_,_,_, .cond t hc hb,hk⟩
def aIe {id:Nat} (hw:WP P c (jO id K) ρ h):WP P (.block id c) K ρ h:=by
 obtain⟨e,ρ',h',hb,hk⟩:=hw
 refine⟨_,_,_, .block hb,?_⟩
 cases e with
 |exit i=>
  simp only[jO] at hk
  grind
 |normal=>simpa [jO] using hk
 |goto l=>simpa [jO] using hk
 |ret=>simpa [jO] using hk
def dv (I:Nat->Env->aa->Prop) (round: ∀n ρ h,I n ρ h->WP P c (iD (fun ρ' h'=> ∃m,m<n/\I m ρ' h') K) ρ h): ∀(n:Nat) {ρ:Env} {h:aa},I n ρ h->WP P (.loop c) K ρ h:=by
 intro n
 induction n using Nat.strongRecOn with
 |_ n ih=>
  intro ρ h hI
  obtain⟨e,ρ',h',hb,hk⟩:=round n ρ h hI
  cases e with
  |normal=>
   obtain⟨m,hm,A4⟩:=hk
   obtain⟨e2,ρ2,h2,dB,mX⟩:=ih m hm A4
   exact⟨_,_,_, .loop hb dB,mX⟩
  |exit id=>exact⟨_,_,_, .DF hb (by simp),hk⟩
  |goto l=>exact⟨_,_,_, .DF hb (by simp),hk⟩
  |ret=>exact⟨_,_,_, .DF hb (by simp),hk⟩
def wL (k:Nat->Option (Env->aa->Prop)) (K:cC->Env->aa->Prop):cC->Env->aa->Prop
 | .goto l,ρ,h=>match k l with
   |some k=>k ρ h
   |none=>K (.goto l) ρ h
 |e,ρ,h=>K e ρ h
def Rw (hw:WP P cur (wL (fun l=>(jw body l).map fun rest=>WP P (.inScope body rest) K) K) ρ h):WP P (.inScope body cur) K ρ h:=by
 obtain⟨e,ρ',h',hb,hk⟩:=hw
 cases e with
 |goto l=>
  simp only[wL] at hk
  cases hf:jw body l with
  |none=>rw[hf] at hk;exact⟨_,_,_, .CB hb (fun l' h=>by grind),hk⟩
  |some rest=>
   rw[hf] at hk
   obtain⟨e2,ρ2,h2,dB,mX⟩:=hk
   exact⟨_,_,_, .inJ hb hf dB,mX⟩
 |normal=>exact⟨_,_,_, .CB hb (by simp),hk⟩
 |exit id=>exact⟨_,_,_, .CB hb (by simp),hk⟩
 |ret=>exact⟨_,_,_, .CB hb (by simp),hk⟩
def V7 (hw:WP P (.inScope c c) K ρ h):WP P (.scope c) K ρ h:=by
 obtain⟨e,ρ',h',hb,hk⟩:=hw
 exact⟨_,_,_, .scope hb,hk⟩
def aJy (l) (hf:jw body l=some rest) (J:Nat->Env->aa->Prop)
 (pass: ∀n ρ h,J n ρ h->WP P rest (wL (fun l'=>if l'=l then some (fun ρ' h'=> ∃m,m<n/\J m ρ' h') else none) K) ρ h)
 (il: ∀l' ρ h,l'≠l->K (.goto l') ρ h->False): ∀(n:Nat) {ρ:Env} {h:aa},J n ρ h->WP P (.inScope body rest) K ρ h:=by
 intro n
 induction n using Nat.strongRecOn with
 |_ n ih=>
  intro ρ h hJ
  obtain⟨e,ρ',h',hb,hk⟩:=pass n ρ h hJ
  cases e with
  |goto l'=>
   simp only[wL] at hk
   by_cases hl:l'=l
   ·subst hl
    simp only[dP] at hk
    obtain⟨m,hm,hJ'⟩:=hk
    obtain⟨e2,ρ2,h2,dB,mX⟩:=ih m hm hJ'
    exact⟨_,_,_, .inJ hb hf dB,mX⟩
   grind
  |normal=>exact⟨_,_,_, .CB hb (by simp),hk⟩
  |exit id=>exact⟨_,_,_, .CB hb (by simp),hk⟩
  |ret=>exact⟨_,_,_, .CB hb (by simp),hk⟩
def Kr (rs:List mQ) (r:AV) (h1:aa):cC->Env->aa->Prop
 | .normal,ρ,h=>(ft ρ h rs).map ja=some r/\h=h1
 | .ret,ρ,h=>(ft ρ h rs).map ja=some r/\h=h1
 |_,_,_=>False
def aFX (hm:P.follows .mixedOrders=true) (hf:P.funcs[f]? =some fn) (hc:yc P md fn=some rf) (iR:args.length<=rf.ntmps)
 (hw:WP P rf.code (Kr rf.results r h1) (mK args) h):al P f args h r h1:=by
 obtain⟨e,ρ',h',hb,hk⟩:=hw
 cases e with
 |normal=>
  obtain⟨hr,rfl⟩:=hk
  obtain⟨vs,hv,rfl⟩:=Option.map_eq_some_iff.1 hr
  exact ve hm hf hc iR hb (.inl rfl) hv
 |ret=>
  obtain⟨hr,rfl⟩:=hk
  obtain⟨vs,hv,rfl⟩:=Option.map_eq_some_iff.1 hr
  exact ve hm hf hc iR hb (.inr rfl) hv
 |exit id=>exact hk.elim
 |goto l=>exact hk.elim
end
end
section
open Go
mutual
def AV.bD (p:Nat->Bool):AV->Bool
 | .ptr b _=>p b
 | .rs b _ _ _=>p b
 | .rk b _ _ _ _=>p b
 | .map (some b)=>p b
 | .vs xs t=>AV.kW p xs&&(match t with| .own t=>p t|_=>true)
 | .vp xs _=>AV.cG p xs
 | .agg xs=>AV.cG p xs
 | .aE xs=>AV.cG p xs
 | .fn _ a b=>AV.cG p a&&AV.cG p b
 |_=>true
def AV.cG (p:Nat->Bool):List AV->Bool
 |[]=>true
 |x::xs=>x.bD p&&AV.cG p xs
def AV.kW (p:Nat->Bool):List (List AV)->Bool
 |[]=>true
 |x::xs=>AV.cG p x&&AV.kW p xs
end
theorem Bq: ∀{l:List AV} {i:Nat} {v:AV},AV.cG p l=true->l[i]? =some v->v.bD p=true
 |[],i,v,_,h=>by simp at h
 |x::xs,i,v,ha,h=>by
  simp only[AV.cG,fV] at ha
  cases i with
  |zero=>grind
  |succ i=>exact Bq ha.2 (by simpa using h)
theorem ajU: ∀{l:List (List AV)} {i:Nat} {v:List AV},AV.kW p l=true->l[i]? =some v->AV.cG p v=true
 |[],i,v,_,h=>by simp at h
 |x::xs,i,v,ha,h=>by
  simp only[AV.kW,fV] at ha
  cases i with
  |zero=>grind
  |succ i=>exact ajU ha.2 (by simpa using h)
theorem C5: ∀{l:List AV},(∀(i:Nat) (v:AV),l[i]? =some v->v.bD p=true)->AV.cG p l=true
 |[],_=>rfl
 |x::xs,h=>by
  simp only[AV.cG,fV]
  exact⟨h 0 x rfl,C5 (fun i v hv=>h (i+1) v (by simpa using hv))⟩
theorem akK: ∀{l:List (List AV)},(∀(i:Nat) (v:List AV),l[i]? =some v->AV.cG p v=true)->AV.kW p l=true
 |[],_=>rfl
 |x::xs,h=>by
  simp only[AV.kW,fV]
  exact⟨h 0 x rfl,akK (fun i v hv=>h (i+1) v (by simpa using hv))⟩
def VR.change (hp: ∀b l,p b=true->ι b=some l->ι2 b=some l) (h:VR ι I w v c):v.bD p=true->VR ι2 I w v c:=by
 induction h with
 |undef v=>intro _;exact .undef v
 |jd v h=>intro _;exact .jd v h
 |int k n=>intro _;exact .int k n
 |bool b=>intro _;exact .bool b
 |eW k b=>intro _;exact .eW k b
 |fT k a b=>intro _;exact .fT k a b
 |str s=>intro _;exact .str s
 |nil=>intro _;exact .nil
 |ptr b off cb o room h=>intro ha;exact .ptr b off cb o room (hp _ _ ha h)
 |vp xs off cb o g hI hc hv h1 ih=>intro ha;exact .vp xs off cb o g hI hc (fun j v hj=>ih j v hj (Bq ha hj)) h1
 |vs xs t cb o s cap g hs hI hc hv h1 bY ht ih=>
  intro ha
  simp only[AV.bD,fV] at ha
  refine .vs xs t cb o s cap g hs hI hc (fun i row j v hi hj=>ih i row j v hi hj (Bq (ajU ha.1 hi) hj)) h1 bY ?_
  cases t with
  |au=>exact ht
  |full=>exact ht
  |own t=>exact⟨ht.1,hp _ _ ha.2 ht.2⟩
 |jA t ht=>intro _;exact .jA t ht
 |jq t a cap ht=>intro _;exact .jq t a cap ht
 |cJ=>intro _;exact .cJ
 |rs b off len sz cb o room cap h h1 h2=>intro ha;exact .rs b off len sz cb o room cap (hp _ _ ha h) h1 h2
 |rk b off len sz cap cb o room h h1 h2=>intro ha;exact .rk b off len sz cap cb o room (hp _ _ ha h) h1 h2
 |vz a cap=>intro _;exact .vz a cap
 |vB=>intro _;exact .vB
 |map b cb h=>intro ha;exact .map b cb (hp _ _ ha h)
 |fn f fs cs gD b8 hf hc US ju iX oT=>
  intro ha
  simp only[AV.bD,fV] at ha
  exact .fn f fs cs gD b8 hf hc (fun i v c h1 h2=>iX i v c h1 h2 (Bq ha.1 h1)) (fun i v c h1 h2=>oT i v c h1 h2 (Bq ha.2 h1))
 |qJ=>intro _;exact .qJ
 |agg cs b8 hl hv ih=>intro ha;exact .agg cs b8 hl (fun i v c h1 h2=>ih i v c h1 h2 (Bq ha h1))
 |aE cs b8 hl hv ih=>intro ha;exact .aE cs b8 hl (fun i v c h1 h2=>ih i v c h1 h2 (Bq ha h1))
theorem VR.dI (hp: ∀b l,ι b=some l->p b=true) (h:VR ι I w v c):v.bD p=true:=by
 induction h with
 |ptr b off cb o room h=>exact hp _ _ h
 |vp xs off cb o g hI hc hv h1 ih=>exact C5 (fun j v hj=>ih j v hj)
 |vs xs t cb o s cap g hs hI hc hv h1 bY ht ih=>
  simp only[AV.bD,fV]
  refine⟨akK (fun i row hi=>C5 (fun j v hj=>ih i row j v hi hj)),?_⟩
  cases t with
  |au=>rfl
  |full=>rfl
  |own t=>exact hp _ _ ht.2
 |jA t ht=>rcases ht with rfl|rfl<;>rfl
 |jq t a cap ht=>rcases ht with rfl|⟨rfl,_⟩<;>rfl
 |rs b off len sz cb o room cap h h1 h2=>exact hp _ _ h
 |rk b off len sz cap cb o room h h1 h2=>exact hp _ _ h
 |map b cb h=>exact hp _ _ h
 |fn f fs cs gD b8 hf hc US ju iX oT=>
  simp only[AV.bD,fV]
  refine⟨C5 (fun i v hi=>?_),C5 (fun i v hi=>?_)⟩
  ·have:=(List.getElem?_eq_some_iff.1 hi).1
   exact iX i v _ hi (bn (by omega))
  ·have:=(List.getElem?_eq_some_iff.1 hi).1
   exact oT i v _ hi (bn (by omega))
 |agg cs b8 hl hv ih=>
  refine C5 (fun i v hi=>?_)
  have:=(List.getElem?_eq_some_iff.1 hi).1
  exact ih i v _ hi (bn (by omega))
 |aE cs b8 hl hv ih=>
  refine C5 (fun i v hi=>?_)
  have:=(List.getElem?_eq_some_iff.1 hi).1
  exact ih i v _ hi (bn (by omega))
 |_=>rfl
section
variable {P:Program}
def LR.change (hp: ∀b l,p b=true->ι b=some l->ι2 b=some l) (h:LR ι I w l l') (ha:AV.cG p l=true):LR ι2 I w l l':=
 ⟨h.1,fun i v c h1 h2=>(h.2 i v c h1 h2).change hp (Bq ha h1)⟩
def al.restore (hc:al P f args h r h') (rL: ∀b,b<h.next->h'.get b=h.get b) (hr:r.bD (fun b=>decide (b<h.next))=true):al P f args h r h:=by
 intro ι I w cU H hl
 refine(hc ι I w cU H hl).mono ?_
 rintro e w' ⟨v,ι',I',rfl,hv,H',E⟩
 let ι2:aO:=fun b=>if b<h.next then ι' b else none
 have dU: ∀b l,decide (b<h.next)=true->ι' b=some l->ι2 b=some l:=fun b l hb hl=>by
  grind
 have yO: ∀b l,ι2 b=some l->b<h.next/\ι' b=some l:=fun b l hb=>by
  grind
 have hold: ∀b,b<h.next->ι' b=ι b:=fun b hb=>E.fN b (by omega)
 have lU: ∀a c c',VR ι I w a c->VR ι' I' w' a c'->VR ι2 I' w' a c':=fun a c c' hx hy=>
  hy.change dU (hx.dI (fun b l hb=>by simpa using H.dI b l hb))
 refine⟨v,ι2,I',rfl,hv.change dU hr,?_,?_⟩
 ·exact
  {dI:=fun b l hb=>(yO b l hb).1
   inside:=fun b l hb=>H'.inside b l (yO b l hb).2
   cells:=fun b cs l hg hb=>by
    obtain⟨aS,cF⟩:=yO b l hb
    obtain⟨cb,o,room,rfl,h1,h2,h3⟩:=H'.cells b cs l (by grind) cF
    refine⟨cb,o,room,rfl,h1,h2,fun j hj=>?_⟩
    obtain⟨c,e1,e2,e3⟩:=h3 j hj
    refine⟨c,e1,e2,fun v hv=>?_⟩
    obtain⟨cb0,o0,aUq,heq,g1,g2,g3⟩:=H.cells b cs _ hg (by rw[<-hold b aS];exact cF)
    grind
   maps:=fun b es l hg hb=>by
    obtain⟨aS,cF⟩:=yO b l hb
    obtain⟨cb,bE,clock,rfl,h1,h2,h3⟩:=H'.maps b es l (by grind) cF
    obtain⟨cb0,es0,aUm,heq,g1,g2,g3⟩:=H.maps b es _ hg (by rw[<-hold b aS];exact cF)
    grind
   iE:=fun b l hg hb=>by
    obtain⟨aS,cF⟩:=yO b l hb
    exact H'.iE b l (by grind) cF
   eN:=fun b b' l l' x x' k j aT hb cF hg dz=>H'.eN b b' l l' x x' k j aT (yO b l hb).2 (yO b' l' cF).2 (by grind) (by grind)
   bZ:=fun b l x k j hb hg=>H'.bZ b l x k j (yO b l hb).2 (by grind)
   eP:=H'.eP
   pl:=fun b cs cb o room hg hb=>H'.pl b cs cb o room (by grind) (yO b _ hb).2}
 ·exact
  {fN:=fun b hb=>by
    grind
   more:=fun b l hb=>dU b l (by simpa using H.dI b l hb) (E.more b l hb)
   next:=ak _,bZ:=E.bZ,os:=E.os,tape:=E.tape,output:=E.output,size:=E.size,block:=E.block,cell:=E.cell,frozen:=E.frozen
   own:=fun k j ⟨b,l,x,hb,hg,hl⟩=>E.own k j ⟨b,l,x,(yO b l hb).2,by grind,hl⟩
   jW:=E.jW
   lost:=fun _ _ _=>rfl}
end
end
section
open Go
section
variable {P:Program} {ρ:Env} {h:aa} {K:Env->aa->Prop}
def aM3:exec P (⟨d,none, .p q⟩::os) ρ h K↔ ∃v,bt q ρ h=some v/\exec P os (put ρ d v) h K:=by
 constructor
 ·rintro⟨r,h',hs,hk⟩
  simp only[bS,dc,kB] at hs
  obtain⟨v,rfl,hv,rfl⟩:=hs
  exact⟨v,hv,hk⟩
 ·rintro⟨v,hv,hk⟩
  exact⟨some v,h,⟨v,rfl,hv,rfl⟩,hk⟩
def gK (v:AV) (b:Bool) (A B:Prop):Prop:=match v with
 | .bool c=>if c=b then A else B
 | .aE []=>B
 |_=>False
def aM5:exec P (⟨d,none, .a q⟩::os) ρ h K↔ ∃b v,l9 q ρ h.next=some (b,v)/\exec P os (put ρ d v) (h.at h.next b) K:=by
 constructor
 ·rintro⟨r,h',hs,hk⟩
  simp only[bS,dc,kB] at hs
  obtain⟨v,rfl,b,hv,rfl⟩:=hs
  exact⟨b,v,hv,hk⟩
 ·rintro⟨b,v,hv,hk⟩
  exact⟨some v,_,⟨v,rfl,b,hv,rfl⟩,hk⟩
def aM4:exec P (⟨d,none, .e q⟩::os) ρ h K↔ ∃v h',dL q ρ h.next h=some (v,h')/\exec P os (put ρ d v) h' K:=by
 constructor
 ·rintro⟨r,h',hs,hk⟩
  simp only[bS,dc,kB] at hs
  obtain⟨v,rfl,hv⟩:=hs
  exact⟨v,h',hv,hk⟩
 ·rintro⟨v,h',hv,hk⟩
  exact⟨some v,h',⟨v,rfl,hv⟩,hk⟩
def aI8 (hc:al P f (as.map (aJ.ev ρ)) h v h') (hk:exec P os (put ρ d v) h' K):exec P (⟨d,none, .call f as⟩::os) ρ h K:=
 ⟨some v,h',⟨v,rfl,hc⟩,hk⟩
section
variable {P:Program} {ρ:Env} {h:aa} {K:cC->Env->aa->Prop}
def pz (l:Nat) (J:Env->aa->Prop) (K:cC->Env->aa->Prop):cC->Env->aa->Prop
 | .goto l',ρ,h=>if l'=l then J ρ h else K (.goto l') ρ h
 |e,ρ,h=>K e ρ h
def aFo (l) (hf:jw c l=some rest) (J:Nat->Env->aa->Prop) (il: ∀l' ρ h,K (.goto l') ρ h->False)
 (first:WP P c (pz l (fun ρ' h'=> ∃m,J m ρ' h') K) ρ h)
 (pass: ∀n ρ h,J n ρ h->WP P rest (pz l (fun ρ' h'=> ∃m,m<n/\J m ρ' h') K) ρ h):WP P (.scope c) K ρ h:=by
 have loop: ∀(n:Nat) (ρ:Env) (h:aa),J n ρ h->WP P (.inScope c rest) K ρ h:=fun n ρ h hJ=>
  aJy l hf J (fun n ρ h hJ=>(pass n ρ h hJ).mono (fun e ρ h hk=>by
   cases e with
   |goto l'=>
    simp only[pz,wL] at hk ⊢
    grind
   |normal=>exact hk
   |exit id=>exact hk
   |ret=>exact hk)) (fun l' ρ h _ hk=>il l' ρ h hk) n hJ
 refine V7 (Rw (first.mono (fun e ρ h hk=>?_)))
 cases e with
 |goto l'=>
  simp only[pz,wL] at hk ⊢
  by_cases hl:l'=l
  ·grind
  grind
 |normal=>exact hk
 |exit id=>exact hk
 |ret=>exact hk
end
end
section
variable {P:Program}
def Kh (rs:List mQ) (r:AV) (h:aa):cC->Env->aa->Prop
 | .normal,ρ,h'=>(ft ρ h' rs).map ja=some r/\ ∀b,b<h.next->h'.get b=h.get b
 | .ret,ρ,h'=>(ft ρ h' rs).map ja=some r/\ ∀b,b<h.next->h'.get b=h.get b
 |_,_,_=>False
def aGU (hm:P.follows .mixedOrders=true) (hf:P.funcs[f]? =some fn) (hc:yc P md fn=some rf) (iR:args.length<=rf.ntmps)
 (hr:r.bD (fun b=>decide (b<h.next))=true) (hw:WP P rf.code (Kh rf.results r h) (mK args) h):al P f args h r h:=by
 obtain⟨e,ρ',h',hb,hk⟩:=hw
 cases e with
 |normal=>
  obtain⟨hv,hs⟩:=hk
  obtain⟨vs,nR,rfl⟩:=Option.map_eq_some_iff.1 hv
  exact(ve hm hf hc iR hb (.inl rfl) nR).restore hs hr
 |ret=>
  obtain⟨hv,hs⟩:=hk
  obtain⟨vs,nR,rfl⟩:=Option.map_eq_some_iff.1 hv
  exact(ve hm hf hc iR hb (.inr rfl) nR).restore hs hr
 |exit id=>exact hk.elim
 |goto l=>exact hk.elim
end
theorem aa.QH {h:aa} {id:Nat}:(h.at id b).get j=if j=id then some b else h.get j:=rfl
theorem aa.OS {h:aa} {id:Nat}:(h.at id b).next=max h.next (id+1):=rfl
def aIp (h:cs.length=vs.length):ew cs 0 vs=vs:=by
 simp[ew,xY,h]
end
section
open Go Go.ChangeShapes
section
variable {P:Program} {H:Type} {enc:TypeId×Value->H} {w:World} {base:Nat} {sp:Nat->Bool} {held:Bool}
theorem Oe {α β:Type} {f:α->Option β}: ∀{l:List α} {r:List β},l.mapM f=some r-> ∀x∈l,∃y,f x=some y
 |[],r,h,x,hx=>by simp at hx
 |a::l,r,h,x,hx=>by
  rw[List.mapM_cons] at h
  simp only[bN] at h
  obtain⟨b,hb,bs,AZ,_⟩:=h
  rcases List.mem_cons.1 hx with rfl|hx
  ·exact⟨b,hb⟩
  ·exact Oe AZ x hx
end
end
section
open Go Go.ChangeShapes
def Ci (w:World):bR:=fun k _=>k<w.heap.size
def Hd (P:Program):Nat->TypeId->List AV->Prop
 |0,_,_=>False
 |f+1,t,as=>
  match P.underlying t with
  |some .bool=> ∃b,as=[.bool b]
  |some (.int k)=> ∃n,as=[.int k n]/\(Lit.int k n).wf=true
  |some .string=> ∃s:ByteArray,as=[.str s]/\s.size<=maxLen
  |some (.slice e)=> ∃xs,as=[.vs xs .au]/\xs.length<=maxLen/\ ∀row∈xs,Hd P f e row/\row.all AV.one=true
  |some (.struct fs)=>as.length=P.cellsOf t/\ ∀fd∈fs.toList,Hd P f fd.type ((as.drop fd.offset).take (P.cellsOf fd.type))
  |some (.array n e)=>as.length=n*P.cellsOf e/\ ∀i,i<n->Hd P f e ((as.drop (i*P.cellsOf e)).take (P.cellsOf e))
  |_=>as=[.jd]
def tX (P:Program):Nat->List Field->Option Nat
 |o,[]=>some o
 |o,f::fs=>if f.offset=o/\f.type<P.types.size then tX P (o+P.cellsOf f.type) fs else none
def Tl (P:Program):Bool:=(List.range P.types.size).all fun t=>match P.underlying t with
 |some (.struct fs)=>tX P 0 fs.toList==some (P.cellsOf t)
 |some (.array n e)=>decide (e<P.types.size)&&P.cellsOf t==n*P.cellsOf e
 |some (.slice e)=>decide (e<P.types.size)&&decide (0<P.cellsOf e)
 |_=>true
section
variable {P:Program} {H:Type} {enc:TypeId×Value->H} {w:World} {sp:Nat->Bool} {held:Bool}
def yf (h:VR ι I w a v):LR ι I w [a] [v]:=LR.cons h LR.nil
def LR.app: ∀{a b:List AV} {c d:List Value},LR ι I w a c->LR ι I w b d->LR ι I w (a++b) (c++d)
 |[],b,[],d,_,h=>h
 |[],b,c::cs,d,h,_=>by have:=h.1;simp at this
 |a::as,b,[],d,h,_=>by have:=h.1;simp at this
 |a::as,b,c::cs,d,h,h2=>by
  have h1:VR ι I w a c:=h.2 0 a c rfl rfl
  have h3:LR ι I w as cs:=⟨by have:=h.1;grind,fun i v c e1 e2=>h.2 (i+1) v c (by simpa using e1) (by simpa using e2)⟩
  exact LR.cons h1 (LR.app h3 h2)
theorem aiE {G:Nat->TypeId->List AV->Prop}: ∀(fs:List Field) (o e:Nat) (cs:List Value),tX P o fs=some e->cs.length+o=e->
 (∀f∈fs,∀l,l=((cs.drop (f.offset-o)).take (P.cellsOf f.type))->f.offset+P.cellsOf f.type<=e-> ∃as,G n f.type as/\LR ι I w as l/\ ∀v∈as,v.one=true)->
 ∃as,LR ι I w as cs/\(∀v∈as,v.one=true)/\ ∀f∈fs,o<=f.offset/\G n f.type ((as.drop (f.offset-o)).take (P.cellsOf f.type))
 |[],o,e,cs,hc,hl,_=>by
  simp[tX] at hc
  subst hc
  have:cs=[]:=List.length_eq_zero_iff.1 (by omega)
  subst this
  exact⟨[],LR.nil,by simp,by simp⟩
 |f::fs,o,e,cs,hc,hl,hf=>by
  simp only[tX] at hc
  split at hc
  ·rename_i h1
   obtain⟨h1,_⟩:=h1
   have hle: ∀(fs:List Field) (o e:Nat),tX P o fs=some e->o<=e:=by
    intro fs
    induction fs with
    |nil=>intro o e h;simp[tX] at h;omega
    |cons g gs ih=>intro o e h;simp only[tX] at h;grind
   have h2:=hle _ _ _ hc
   obtain⟨a,uW,tK,ha3⟩:=hf f (by simp) _ rfl (by omega)
   have hlen:a.length=P.cellsOf f.type:=by rw[tK.1,jQ,oI];omega
   obtain⟨b,gw,dB,hb3⟩:=aiE fs (o+P.cellsOf f.type) e (cs.drop (P.cellsOf f.type)) hc (by simp;omega) (fun g hg l hl Ht=>by
    have HW: ∀(fs:List Field) (o e:Nat),tX P o fs=some e-> ∀g∈fs,o<=g.offset:=by
     intro fs
     induction fs with
     |nil=>grind
     |cons q qs ih=>
      intro o e h g hg
      simp only[tX] at h
      grind
    have:=HW _ _ _ hc g hg
    refine hf g (eH _ hg) l ?_ Ht
    rw[hl,vV]
    congr 2
    omega)
   refine⟨a++b,?_,?_,?_⟩
   ·have:=LR.app tK gw
    simp_all
   ·grind
   ·intro g hg
    rcases List.mem_cons.1 hg with rfl|hg
    ·simp_all
    ·obtain⟨h3,h4⟩:=hb3 g hg
     refine⟨by omega,?_⟩
     have:g.offset-o=a.length+(g.offset-(o+P.cellsOf f.type)):=by omega
     rw[this,B5,xY (by omega),Nat.add_sub_cancel_left,kF]
     exact h4
  ·cases hc
def aG2 (h:w.cell? ⟨b,off,none⟩=some v):Ci w b off:=by
 apply Classical.byContradiction
 intro hn
 have:w.heap[b]? =none:=by
  have cV: ¬b<w.heap.size:=hn
  simp;omega
 simp[World.cell?,this] at h
theorem aiV {G:List AV->Prop}: ∀(n:Nat) (cs:List Value),cs.length=n*s->
 (∀i,i<n-> ∃as,G as/\LR ι I w as ((cs.drop (i*s)).take s)/\ ∀v∈as,v.one=true)->
 ∃as,LR ι I w as cs/\(∀v∈as,v.one=true)/\ ∀i,i<n->G ((as.drop (i*s)).take s)
 |0,cs,hl,_=>by
  have:cs=[]:=List.length_eq_zero_iff.1 (by simpa using hl)
  subst this
  exact⟨[],LR.nil,by simp,by omega⟩
 |n+1,cs,hl,hf=>by
  have hs:(n+1)*s=n*s+s:=Nat.succ_mul n s
  obtain⟨a,uW,tK,ha3⟩:=hf 0 (by omega)
  have hlen:a.length=s:=by rw[tK.1,jQ,oI];omega
  obtain⟨b,gw,dB,hb3⟩:=aiV (G:=G) (s:=s) n (cs.drop s) (by grind) (fun i hi=>by
   obtain⟨x,h1,h2,h3⟩:=hf (i+1) (by omega)
   refine⟨x,h1,?_,h3⟩
   rw[vV]
   rw[Nat.succ_mul,Nat.add_comm] at h2
   exact h2)
  refine⟨a++b,?_,?_,?_⟩
  ·have:=LR.app tK gw
   simp_all
  ·grind
  ·intro i hi
   cases i with
   |zero=>
    grind
   |succ i=>
    have:(i+1)*s=a.length+i*s:=by grind
    rw[this,B5,xY (by omega),Nat.add_sub_cancel_left,kF]
    grind
def aHc (hl:Tl P=true): ∀{fuel:Nat} {t:TypeId} {cs:List Value} {x:DataW H×List MemPlace},t<P.types.size->DataW.trod enc P w 0 sp held fuel t cs=some x->
 ∃as,Hd P fuel t as/\LR (fun _=>none) (Ci w) w as cs/\ ∀v∈as,v.one=true:=by
 intro fuel
 induction fuel with
 |zero=>intro t cs x _ h;simp[DataW.trod] at h
 |succ n ih=>
  intro t cs x ht h
  have tq:=List.all_eq_true.1 hl t (List.mem_range.2 ht)
  unfold DataW.trod at h
  unfold Hd
  split at h
  ·rename_i b hu
   rw[hu];exact⟨[.bool b],⟨b,rfl⟩,yf (.bool b),by simp[AV.one]⟩
  ·rename_i k k' m hu
   rw[hu]
   split at h
   ·rename_i hc
    obtain⟨rfl,hc⟩:=hc
    exact⟨[.int k' m],⟨m,rfl,hc⟩,yf (.int k' m),by simp[AV.one]⟩
   ·cases h
  ·rename_i hu;rw[hu];exact⟨[.jd],rfl,yf (.jd _ rfl),by simp[AV.one]⟩
  ·rename_i s hu
   rw[hu]
   split at h
   ·rename_i hc
    exact⟨[.str s],⟨s,rfl,hc⟩,yf (.str s),by simp[AV.one]⟩
   ·cases h
  ·rename_i hu;rw[hu];exact⟨[.jd],rfl,yf (.jd _ rfl),by simp[AV.one]⟩
  ·rename_i hu;rw[hu];exact⟨[.jd],rfl,yf (.jd _ rfl),by simp[AV.one]⟩
  ·rename_i hu
   rw[hu]
   exact⟨[.vs [] .au],⟨[],rfl,by simp,by simp⟩,yf (.jA _ (.inl rfl)),by simp[AV.one]⟩
  ·rename_i e a len cap hu
   rw[hu] at tq ⊢
   simp only[fV,rK] at tq
   obtain⟨MB,lP⟩:=tq
   split at h
   ·rename_i hc
    obtain⟨_,hlc,EA⟩:=hc
    simp only[bd] at h
    obtain⟨elems,MQ,_⟩:=h
    rcases Gy len with h0|h0
    ·subst h0
     exact⟨[.vs [] .au],⟨[],rfl,by simp,by simp⟩,yf (.jq _ _ _ (.inl rfl)),by simp[AV.one]⟩
    ·have key: ∀i,∃as:List AV,i<len->Hd P n e as/\as.length=P.cellsOf e/\(∀v∈as,v.one=true)/\
      ∀j,j<P.cellsOf e-> ∃u,w.cell? ((a.add (i*P.cellsOf e)).add j)=some u/\ ∀v,as[j]? =some v->VR (fun _=>none) (Ci w) w v u:=by
      intro i
      by_cases hi:i<len
      ·obtain⟨y,hy⟩:=Oe MQ i (List.mem_range.2 hi)
       obtain⟨csi,h1,h2⟩:=Option.bind_eq_some_iff.1 hy
       obtain⟨_,d9,oe⟩:=World.cells?_some h1
       obtain⟨as,h3,h4,h5⟩:=ih MB h2
       refine⟨as,fun _=>⟨h3,by rw[h4.1,d9],h5,fun j hj=>?_⟩⟩
       have iu:j<csi.length:=by omega
       refine⟨csi[j],by grind,fun v hv=>h4.2 j v _ hv (bn iu)⟩
      ·exact⟨[],fun h=>absurd h hi⟩
     obtain⟨f,hf⟩:=Classical.skolem.1 key
     have awN:a.spot=none:=by
      obtain⟨_,_,_,h4⟩:=hf 0 h0
      obtain⟨u,pO,_⟩:=h4 0 lP
      have:=World.cell?_spot pO
      simpa [Addr.add] using this
     obtain⟨cb,o,spt⟩:=a
     simp only at awN
     subst awN
     have cS: ∀(i:Nat) (row:List AV),((List.range len).map f)[i]? =some row->i<len/\row=f i:=by
      grind
     have hcell: ∀i j,i<len->j<P.cellsOf e-> ∃u,w.cell? ⟨cb,o+i*P.cellsOf e+j,none⟩=some u/\ ∀v,(f i)[j]? =some v->VR (fun _=>none) (Ci w) w v u:=by
      intro i j hi hj
      obtain⟨_,_,_,h4⟩:=hf i hi
      have:=h4 j hj
      rw[Addr.add_mid,Addr.add_mid] at this
      exact this
     have hv:=VR.vs (ι:=fun _=>none) (I:=Ci w) (w:=w) ((List.range len).map f) .au cb o (P.cellsOf e) cap (fun i j=>(w.cell? ⟨cb,o+i*P.cellsOf e+j,none⟩).getD undef)
      (fun i row hi=>by grind)
      (fun i j hi hj=>by obtain⟨u,hu,_⟩:=hcell i j (by simpa using hi) hj;exact aG2 hu)
      (fun i j hi hj=>by grind)
      (fun i row j v hi hj=>by
        grind)
      (fun row hr v hv=>by
        grind)
      (by grind) trivial
     have tF:((List.range len).map f).length=len:=by simp
     rw[tF] at hv
     refine⟨[.vs ((List.range len).map f) .au],⟨_,rfl,by omega,fun row hr=>?_⟩,yf hv,by simp[AV.one]⟩
     grind
   ·cases h
  ·rename_i cs _ _ fs hu
   rw[hu] at tq ⊢
   simp only[beq_iff_eq] at tq
   split at h
   ·rename_i hlen
    obtain⟨xs,hxs,_⟩:=Option.map_eq_some_iff.1 h
    have aSZ: ∀(fs:List Field) (o e:Nat),tX P o fs=some e-> ∀g∈fs,g.type<P.types.size:=by
     intro fs
     induction fs with
     |nil=>grind
     |cons q qs ih=>
      intro o e h g hg
      simp only[tX] at h
      grind
    obtain⟨as,h1,h2,h3⟩:=aiE (P:=P) (w:=w) (n:=n) (G:=fun f t as=>Hd P f t as) fs.toList 0 _ cs tq (by omega) (fun f hf l hl _=>by
     obtain⟨y,hy⟩:=Oe hxs f hf
     rw[qF] at hl
     rw[<-hl] at hy
     exact ih (aSZ _ _ _ tq f hf) hy)
    exact⟨as,⟨by rw[h1.1,hlen],fun f hf=>by grind⟩,h1,h2⟩
   ·cases h
  ·rename_i cs _ _ m e hu
   rw[hu] at tq ⊢
   simp only[beq_iff_eq,fV,rK] at tq
   obtain⟨MB,tq⟩:=tq
   split at h
   ·rename_i hlen
    obtain⟨xs,hxs,_⟩:=Option.map_eq_some_iff.1 h
    obtain⟨as,h1,h2,h3⟩:=aiV (w:=w) (G:=Hd P n e) m cs (by rw[hlen,tq]) (fun i hi=>by
     obtain⟨y,hy⟩:=Oe hxs i (List.mem_range.2 hi)
     exact ih MB hy)
    exact⟨as,⟨by rw[h1.1,hlen,tq],h3⟩,h1,h2⟩
   ·cases h
  all_goals first
   |(cases h;done)
   |(rename_i hu;rw[hu];exact⟨[.jd],rfl,yf (.jd _ rfl),by simp[AV.one]⟩)
   |skip
end
end
section
open Go Go.ChangeShapes Go.WideShapes Go.ChangeAt Go.RowKit
def Bb (P:Program) (t:TypeId) (a:AV):Prop:=
 ∃f,match P.underlying t with
 |some (.struct _)|some (.array _ _)=> ∃cs,a= .agg cs/\Hd P f t cs/\cs.all AV.one=true
 |_=>Hd P f t [a]
def ae9 (P:Program):List TypeId->List AV->Prop
 |[],as=>as=[]
 |t::ts,as=> ∃a bs,as=a::bs/\Bb P t a/\ae9 P ts bs
section
variable {P:Program} {H:Type} {enc:TypeId×Value->H} {w w':World}
def Bb.akg (hu:P.underlying t=some d) (hd:d.isRow=false) (h:Bb P t a): ∃f,Hd P f t [a]:=by
 obtain⟨f,h⟩:=h
 grind
def aJZ (hl:Tl P=true) {t:TypeId} (ht:t<P.types.size) (bO:Value.okWide P w .any base t v)
 (h:DataW.Trod enc P w 0 sp held t v d p): ∃a,Bb P t a/\VR (fun _=>none) (Ci w) w a v:=by
 obtain⟨n,hn⟩:=h
 obtain⟨as,h1,h2,h3⟩:=aHc hl ht hn
 unfold Bb
 unfold Value.okWide at bO
 split at bO
 ·rename_i hu
  obtain⟨cs,rfl,aZ,_⟩:=bO
  refine⟨.agg as,⟨n,?_⟩,?_⟩
  ·grind
  ·have:(Value.agg cs).cells.toList=cs.toList:=rfl
   rw[this] at h2
   have:=VR.agg as cs.toList h2.1 h2.2
   omega
 ·rename_i hu
  obtain⟨cs,rfl,aZ,_⟩:=bO
  refine⟨.agg as,⟨n,?_⟩,?_⟩
  ·grind
  ·have:(Value.agg cs).cells.toList=cs.toList:=rfl
   rw[this] at h2
   have:=VR.agg as cs.toList h2.1 h2.2
   omega
 ·rename_i MG AO
  have hc:v.cells.toList=[v]:=by
   cases v<;>first|rfl|(unfold Cell.okWide Cell.ok at bO;grind)
  rw[hc] at h2
  have hlen:=h2.1
  match as,hlen,h1,h2,h3 with
  |[a],_,h1,h2,h3=>
   refine⟨a,⟨n,?_⟩,h2.2 0 a v rfl rfl⟩
   grind
theorem akf (hl:Tl P=true): ∀{ts:List TypeId} {vs:List Value} {ds:List (DataW H)} {p:List MemPlace},(∀t∈ts,t<P.types.size)->
 (∀(j:Nat) t v,ts[j]? =some t->vs[j]? =some v->Value.okWide P w .any base t v)->DataW.TrodAll enc P w 0 sp held ts vs ds p->
 ∃as,ae9 P ts as/\LR (fun _=>none) (Ci w) w as vs
 |[],vs,ds,p,_,_,h=>by
  obtain⟨rfl,_,_⟩:=trodAll_nil h
  exact⟨[],rfl,LR.nil⟩
 |t::ts,vs,ds,p,ht,bO,h=>by
  obtain⟨v,vs',d,ds',p',q,rfl,rfl,rfl,h1,h2⟩:=trodAll_cons h
  obtain⟨a,uW,tK⟩:=aJZ hl (ht t (by simp)) (bO 0 t v rfl rfl) h1
  obtain⟨as,gw,dB⟩:=akf hl (fun x hx=>ht x (eH _ hx)) (fun j t v e1 e2=>bO (j+1) t v (by simpa using e1) (by simpa using e2)) h2
  exact⟨a::as,⟨a,as,rfl,uW,gw⟩,LR.cons tK dB⟩
theorem aic: ∀{ts:List TypeId} {vs:List Value} {ds:List (DataW H)} {ps:List MemPlace},DataW.TrodAll enc P w base sp held ts vs ds ps->vs.length=ts.length/\ds.length=ts.length
 |[],_,_,_,h=>by
  obtain⟨rfl,rfl,_⟩:=trodAll_nil h
  omega
 |_::_,_,_,_,h=>by
  obtain⟨v,vs1,d,ds1,a,b,rfl,rfl,rfl,_,h2⟩:=trodAll_cons h
  have:=aic h2
  grind
def Kept.same (h:Kept w w') (hp:p.block<w.heap.size):w.sameAt w' p:=by
 cases p with
 |cell b off=>
  have:=h.2.2.2 b hp
  simp only[World.sameAt,World.cell?,this]
 |map b=>exact h.2.2.2 b hp
theorem ahO (hl:laidOutB P=true) (hk:Kept w w'): ∀{ts:List TypeId} {vs:List Value} {ds:List (DataW H)} {p:List MemPlace},
 (∀t∈ts,P.readableRec t=true/\t<P.types.size)->(∀x∈p,x.block<w.heap.size)->(∀x∈p,sp x.block=true)->
 DataW.TrodAll enc P w 0 (fun _=>true) true ts vs ds p->DataW.TrodAll enc P w' 0 sp true ts vs ds p
 |[],vs,ds,p,_,_,_,h=>by
  obtain⟨rfl,rfl,rfl⟩:=trodAll_nil h
  exact trodAll_mk0
 |t::ts,vs,ds,p,ht,aS,CE,h=>by
  obtain⟨v,vs',d,ds',p',q,rfl,rfl,rfl,h1,h2⟩:=trodAll_cons h
  refine⟨p',q,?_,?_,rfl⟩
  ·exact WideElems.Trod_stays hl (ht t (by simp)).1 (ht t (by simp)).2 h1 (fun x hx=>hk.same (aS x (by simp[hx]))) (fun x hx=>CE x (by simp[hx]))
  ·exact ahO hl hk (fun x hx=>ht x (eH _ hx)) (fun x hx=>aS x (by simp[hx])) (fun x hx=>CE x (by simp[hx])) h2
end
section
variable {C:Checked} {os:Os} {f:FuncId} {fn:Func} {s:ChangeSpec} {conds:List PathCond} {H:Type} {enc:TypeId×Value->H}
def aT9 (own:ownKnob C.prog.godebug=none) (started:os.Started) (aMI:C.prog.inits.idxOf? f=none) (mB:C.prog.funcs[f]? =some fn)
 (witness: ∃(w:World) (tape:Tape) (i:Input),w.os=os/\(w.forCall tape i).Shaped C.prog/\i.vars=[]/\Input.okWide C.prog (w.forCall tape i) .any w.heap.size f i/\
   s.pre6 enc C.prog fn conds false (w.forCall tape i).memory i.args/\({}:Assume).holds C.prog (lone (Frame.enter C.prog f i.args .normal) [] (w.forCall tape i)))
 (ir:laidOutB C.prog=true) (iq:Tl C.prog=true) (Kj:s.vars=[])
 (aUs: ∀ds:List (DataW H),ds.length=fn.params.size->s.fn H ds={results:=[.lit (.bool true)],args:=ds})
 (LK:fn.resultTypes= #[tb]) (hb:C.prog.underlying tb=some .bool)
 (aUN:(fn.params.toList.all fun t=>C.prog.readableRec t&&decide (t<C.prog.types.size))=true)
 (GU: ∀as,ae9 C.prog fn.params.toList as-> ∃h',al C.prog f as aa.empty (.bool true) h'):
 ReturnsInHanded {} C os f .any (s.pre6 enc C.prog fn conds false) (s.post enc C.prog fn false true false false):=by
 have awP: ∀t∈fn.params.toList,C.prog.readableRec t=true/\t<C.prog.types.size:=fun t ht=>by
  grind
 refine returnsInHanded_of_change (C:=C) own started aMI mB witness ?_
 intro W base args ds gs before hval hW hcnd _
 have hW':=hW
 obtain⟨p,q,hA,hV,rfl,hfz,hnd⟩:=hW
 rw[Kj] at hV
 obtain⟨rfl,rfl⟩:=trodVars_none hV
 simp only[fE] at hW'
 have aS: ∀x∈p,x.block<W.heap.size:=fun x hx=>hW'.lt x hx
 obtain⟨as,h1,h2⟩:=akf iq (fun t ht=>(awP t ht).2) (fun j t v e1 e2=>hval j t v (by simpa using e1) (by simpa using e2)) hA
 obtain⟨h',hc⟩:=GU as h1
 have hlen:=(aic hA).2
 have CE:s.fn H (ds++[])={results:=[.lit (.bool true)],args:=ds}:=by
  grind
 refine(aHX hc (I:=Ci W) (fun k j h=>h) h2).mono fun e W' ⟨he,hk⟩=>?_
 subst he
 refine⟨_,rfl,aFv (pa:=p) (pv:=[]) hW' ?_ ?_ ?_ (by simp) hk ?_⟩
 ·intro b sp hd
  rw[CE,LK]
  exact trodAll_mk1 (trod_bool hb true)
 ·intro sp hs
  rw[CE]
  exact ahO ir hk awP aS hs hA
 ·intro sp hs
  rw[Kj]
  rw[CE]
  exact rfl
 ·exact ok_one LK rfl (okWide_bool hb true)
end
end
section
open Go
section
variable {P:Program} {K:cC->Env->aa->Prop} {ρ:Env} {h:aa}
theorem Wm {K:Env->aa->Prop} (hk: ∀ρ h,K ρ h->K' ρ h): ∀{az:List RO} {ρ:Env} {h:aa},exec P az ρ h K->exec P az ρ h K'
 |[],ρ,h,he=>hk _ _ he
 |o::os,ρ,h,⟨r,h',hs,he⟩=>⟨r,h',hs,Wm hk he⟩
theorem amm:WP P .skip K ρ h↔K .normal ρ h:=⟨fun⟨_,_,_,hb,hk⟩=>by cases hb;exact hk,ajY⟩
theorem aK0:WP P (.label l) K ρ h↔K .normal ρ h:=⟨fun⟨_,_,_,hb,hk⟩=>by cases hb;exact hk,aji⟩
theorem aMn:WP P (.exit i) K ρ h↔K (.exit i) ρ h:=⟨fun⟨_,_,_,hb,hk⟩=>by cases hb;exact hk,aJA⟩
theorem aMm:WP P (.goto i) K ρ h↔K (.goto i) ρ h:=⟨fun⟨_,_,_,hb,hk⟩=>by cases hb;exact hk,aJz⟩
theorem aNJ:WP P .ret K ρ h↔K .ret ρ h:=⟨fun⟨_,_,_,hb,hk⟩=>by cases hb;exact hk,aK3⟩
theorem BK:WP P (.cA az) K ρ h↔exec P az ρ h (K .normal):=
 ⟨fun⟨_,_,_,hb,hk⟩=>by cases hb;rename_i he;exact Wm (fun ρ h ⟨e1,e2⟩=>by grind) he,aMr⟩
theorem zv:WP P (.seq a b) K ρ h↔WP P a (iD (WP P b K) K) ρ h:=by
 constructor
 ·rintro⟨e,ρ',h',hb,hk⟩
  cases hb with
  |seq b1 b2=>exact⟨_,_,_,b1,_,_,_,b2,hk⟩
  |Lu b1 he=>
   refine⟨_,_,_,b1,?_⟩
   cases e with
   |normal=>grind
   |_=>exact hk
 ·exact Oq
def Ku (v:AV) (A B:Prop):Prop:=match v with
 | .bool c=>if c=true then A else B
 |_=>False
theorem aMo:WP P (.cond c x y) K ρ h↔Ku (c.ev ρ) (WP P x K ρ h) (WP P y K ρ h):=by
 constructor
 ·rintro⟨e,ρ',h',hb,hk⟩
  cases hb with
  |cond t hc b1=>
   rw[hc]
   cases t
   ·exact⟨_,_,_,b1,hk⟩
   ·exact⟨_,_,_,b1,hk⟩
 ·intro hc
  unfold Ku at hc
  split at hc
  ·rename_i t ht
   refine aJB ht ?_
   grind
  grind
theorem aK1 {id:Nat}:WP P (.block id c) K ρ h↔WP P c (jO id K) ρ h:=by
 constructor
 ·rintro⟨e,ρ',h',hb,hk⟩
  cases hb with
  |block b1=>
   rename_i e1
   refine⟨_,_,_,b1,?_⟩
   cases e1 with
   |exit i=>
    simp only[jO]
    grind
   |normal=>simpa [jO] using hk
   |goto l=>simpa [jO] using hk
   |ret=>simpa [jO] using hk
 ·exact aIe
section
variable {K:Env->aa->Prop}
theorem aFm:exec P (⟨d,none, .call f as⟩::os) ρ h K↔ ∃v h',al P f (as.map (aJ.ev ρ)) h v h'/\exec P os (put ρ d v) h' K:=by
 constructor
 ·rintro⟨r,h',hs,hk⟩
  simp only[bS,dc,kB] at hs
  obtain⟨v,rfl,hv⟩:=hs
  exact⟨v,h',hv,hk⟩
 ·rintro⟨v,h',hv,hk⟩
  exact aI8 hv hk
theorem aHR:exec P (⟨d,some (g,b),op⟩::os) ρ h K↔gK (ρ g) b (exec P (⟨d,none,op⟩::os) ρ h K) (exec P os (put ρ d (.aE [])) h K):=by
 unfold gK
 split
 ·rename_i c hc
  by_cases fA:c=b
  ·subst fA
   simp only[dP]
   constructor
   ·rintro⟨r,h',hs,hk⟩
    simp only[bS,dc,hc,xW] at hs
    exact⟨r,h',hs,hk⟩
   ·rintro⟨r,h',hs,hk⟩
    refine⟨r,h',?_,hk⟩
    simp only[bS,dc,hc,xW]
    exact hs
  ·have Ah:(c==b)=false:=by grind
   rw[aj fA]
   constructor
   ·rintro⟨r,h',hs,hk⟩
    simp only[bS,dc,hc,Ah] at hs
    obtain⟨rfl,rfl⟩:=hs
    exact hk
   ·intro hk
    refine⟨none,h,?_,hk⟩
    simp only[bS,dc,hc,Ah]
    trivial
 ·rename_i hc
  constructor
  ·rintro⟨r,h',hs,hk⟩
   simp only[bS,dc,hc] at hs
   obtain⟨rfl,rfl⟩:=hs
   exact hk
  ·intro hk
   refine⟨none,h,?_,hk⟩
   simp only[bS,dc,hc]
   trivial
 ·rename_i h1 h2
  constructor
  ·rintro⟨r,h',hs,hk⟩
   unfold bS at hs
   have:dc ⟨d,some (g,b),op⟩ ρ=none:=by
    unfold dc
    simp only[]
   grind
  grind
end
end
section
variable {P:Program} {ρ:Env} {h:aa} {K:Env->aa->Prop} {d:Option Nat} {os:List RO}
def R3 (P:Program) (d:Option Nat) (os:List RO) (ρ:Env) (h:aa) (K:Env->aa->Prop) (o:Option AV):Prop:= ∃v,o=some v/\exec P os (put ρ d v) h K
def aw0 (P:Program) (d:Option Nat) (os:List RO) (ρ:Env) (h:aa) (K:Env->aa->Prop) (o:Option (lB×AV)):Prop:= ∃b v,o=some (b,v)/\exec P os (put ρ d v) (h.at h.next b) K
def awY (P:Program) (d:Option Nat) (os:List RO) (ρ:Env) (K:Env->aa->Prop) (o:Option (AV×aa)):Prop:= ∃v h',o=some (v,h')/\exec P os (put ρ d v) h' K
def awZ (P:Program) (d:Option Nat) (os:List RO) (ρ:Env) (h:aa) (K:Env->aa->Prop) (f:Nat) (as:List AV):Prop:= ∃v h',al P f as h v h'/\exec P os (put ρ d v) h' K
def yb (P:Program) (d:Option Nat) (op:iw) (os:List RO) (ρ:Env) (h:aa) (K:Env->aa->Prop) (b:Bool) (v:AV):Prop:=gK v b (exec P (⟨d,none,op⟩::os) ρ h K) (exec P os (put ρ d (.aE [])) h K)
def Ng (P:Program) (x y:cO) (K:cC->Env->aa->Prop) (ρ:Env) (h:aa) (v:AV):Prop:=Ku v (WP P x K ρ h) (WP P y K ρ h)
theorem aHS:R3 P d os ρ h K (some v)↔exec P os (put ρ d v) h K:=by simp[R3]
theorem aHU:aw0 P d os ρ h K (some (b,v))↔exec P os (put ρ d v) (h.at h.next b) K:=
 ⟨fun⟨_,_,e,h⟩=>by grind,fun h=>⟨_,_,rfl,h⟩⟩
theorem aHT:awY P d os ρ K (some (v,h'))↔exec P os (put ρ d v) h' K:=
 ⟨fun⟨_,_,e,h⟩=>by grind,fun h=>⟨_,_,rfl,h⟩⟩
theorem ao (hc:al P f as h v h') (hk:exec P os (put ρ d v) h' K):awZ P d os ρ h K f as:=⟨v,h',hc,hk⟩
theorem aKz:yb P d op os ρ h K true (.bool true)↔exec P (⟨d,none,op⟩::os) ρ h K:=by simp[yb,gK]
theorem aKC:yb P d op os ρ h K false (.bool false)↔exec P (⟨d,none,op⟩::os) ρ h K:=by simp[yb,gK]
theorem aKA:yb P d op os ρ h K true (.bool false)↔exec P os (put ρ d (.aE [])) h K:=by simp[yb,gK]
theorem aKB:yb P d op os ρ h K false (.bool true)↔exec P os (put ρ d (.aE [])) h K:=by simp[yb,gK]
theorem aJa:yb P d op os ρ h K b (.aE [])↔exec P os (put ρ d (.aE [])) h K:=Iff.rfl
variable {K:cC->Env->aa->Prop} {x y:cO}
theorem aOU:Ng P x y K ρ h (.bool true)↔WP P x K ρ h:=by simp[Ng,Ku]
theorem aOV:Ng P x y K ρ h (.bool false)↔WP P y K ρ h:=by simp[Ng,Ku]
end
def eL (P:Program) (n base:Nat):List RO->Nat->Env->aa->(Env->aa->Prop)->Prop
 |[],_,ρ,h,K=>K ρ h
 |o::os,i,ρ,h,K=> ∃r h',bS P o (base+i) ρ h r h'/\(o.op.dO=true-> ∀j,i<j->j<n->h'.get (base+j)=none)/\eL P n base os (i+1) (put ρ o.dst (kU r)) h' K
theorem ajN (hu:un.all (·.isEmpty)=true): ∀(os:List RO) (i:Nat) (ρ:Env) (h:aa) (done:List (Env×aa×Option AV)),
 eL P az.length base os i ρ h K->sU P az un base os i ρ h done K
 |[],i,ρ,h,done,he=>he
 |o::os,i,ρ,h,done,⟨r,h',hs,hf,he⟩=>by
  refine⟨r,h',hs,fun k hk=>?_,hf,ajN hu os (i+1) _ h' _ he⟩
  have:un.getD i []=[]:=by
   rw[mr]
   cases hq:un[i]? with
   |none=>rfl
   |some l=>
    have:=List.all_eq_true.1 hu l (iC hq)
    grind
  grind
theorem On (hu:un.all (·.isEmpty)=true) (he:eL P az.length h.next az 0 ρ (h.clean az.length) (K .normal)):WP P (.jG az un) K ρ h:=by
 obtain⟨ρ1,h1,he,hk⟩:=E4 (ajN hu az 0 ρ _ [] he)
 exact⟨_,_,_, .Hq he,hk⟩
section
variable {P:Program} {n base i:Nat} {ρ:Env} {h:aa} {K:Env->aa->Prop} {d:Option Nat} {os:List RO}
def eDV (P:Program) (n base:Nat) (os:List RO) (i:Nat) (d:Option Nat) (ρ:Env) (h:aa) (K:Env->aa->Prop) (o:Option AV):Prop:= ∃v,o=some v/\eL P n base os (i+1) (put ρ d v) h K
def eDA (P:Program) (n base:Nat) (os:List RO) (i:Nat) (d:Option Nat) (ρ:Env) (h:aa) (K:Env->aa->Prop) (o:Option (lB×AV)):Prop:= ∃b v,o=some (b,v)/\eL P n base os (i+1) (put ρ d v) (h.at (base+i) b) K
def dY (n base i:Nat) (h:aa):Prop:= ∀j,i<j->j<n->h.get (base+j)=none
def eDE (P:Program) (n base:Nat) (os:List RO) (i:Nat) (d:Option Nat) (ρ:Env) (K:Env->aa->Prop) (o:Option (AV×aa)):Prop:= ∃v h',o=some (v,h')/\dY n base i h'/\eL P n base os (i+1) (put ρ d v) h' K
def eDC (P:Program) (n base:Nat) (os:List RO) (i:Nat) (d:Option Nat) (ρ:Env) (h:aa) (K:Env->aa->Prop) (f:Nat) (as:List AV):Prop:= ∃v h',al P f as h v h'/\dY n base i h'/\eL P n base os (i+1) (put ρ d v) h' K
def tL (P:Program) (n base:Nat) (op:iw) (os:List RO) (i:Nat) (d:Option Nat) (ρ:Env) (h:aa) (K:Env->aa->Prop) (b:Bool) (v:AV):Prop:=
 gK v b (eL P n base (⟨d,none,op⟩::os) i ρ h K) (dY n base i h/\eL P n base os (i+1) (put ρ d (.aE [])) h K)
theorem aTD:eL P n base (⟨d,none, .p q⟩::os) i ρ h K↔eDV P n base os i d ρ h K (bt q ρ h):=by
 constructor
 ·rintro⟨r,h',hs,_,he⟩
  simp only[bS,dc,kB] at hs
  obtain⟨v,rfl,hv,rfl⟩:=hs
  exact⟨v,hv,he⟩
 ·rintro⟨v,hv,he⟩
  exact⟨some v,h,⟨v,rfl,hv,rfl⟩,fun hh=>by simp[iw.dO] at hh,he⟩
theorem aTI:eL P n base (⟨d,none, .a q⟩::os) i ρ h K↔eDA P n base os i d ρ h K (l9 q ρ (base+i)):=by
 constructor
 ·rintro⟨r,h',hs,_,he⟩
  simp only[bS,dc,kB] at hs
  obtain⟨v,rfl,b,hv,rfl⟩:=hs
  exact⟨b,v,hv,he⟩
 ·rintro⟨b,v,hv,he⟩
  exact⟨some v,_,⟨v,rfl,b,hv,rfl⟩,fun hh=>by simp[iw.dO] at hh,he⟩
theorem aTG:eL P n base (⟨d,none, .e q⟩::os) i ρ h K↔eDE P n base os i d ρ K (dL q ρ (base+i) h):=by
 constructor
 ·rintro⟨r,h',hs,hf,he⟩
  simp only[bS,dc,kB] at hs
  obtain⟨v,rfl,hv⟩:=hs
  exact⟨v,h',hv,hf rfl,he⟩
 ·rintro⟨v,h',hv,hf,he⟩
  exact⟨some v,h',⟨v,rfl,hv⟩,fun _=>hf,he⟩
theorem aTH:eL P n base (⟨d,none, .call f as⟩::os) i ρ h K↔eDC P n base os i d ρ h K f (as.map (aJ.ev ρ)):=by
 constructor
 ·rintro⟨r,h',hs,hf,he⟩
  simp only[bS,dc,kB] at hs
  obtain⟨v,rfl,hv⟩:=hs
  exact⟨v,h',hv,hf rfl,he⟩
 ·rintro⟨v,h',hv,hf,he⟩
  exact⟨some v,h',⟨v,rfl,hv⟩,fun _=>hf,he⟩
theorem aTF (he:tL P n base op os i d ρ h K b (ρ g)):eL P n base (⟨d,some (g,b),op⟩::os) i ρ h K:=by
 unfold tL gK at he
 split at he
 ·rename_i c hc
  by_cases fA:c=b
  ·subst fA
   rw[ax rfl] at he
   obtain⟨r,h',hs,hf,he⟩:=he
   refine⟨r,h',?_,hf,he⟩
   simp only[bS,dc,hc,xW]
   exact hs
  ·have Ah:(c==b)=false:=by grind
   rw[aj fA] at he
   refine⟨none,h,?_,fun _=>he.1,he.2⟩
   simp only[bS,dc,hc,Ah]
   trivial
 ·rename_i hc
  refine⟨none,h,?_,fun _=>he.1,he.2⟩
  simp only[bS,dc,hc]
  trivial
 grind
theorem aOk:eL P n base (⟨d,some (g,b), .p q⟩::os) i ρ h K↔gK (ρ g) b (eL P n base (⟨d,none, .p q⟩::os) i ρ h K) (eL P n base os (i+1) (put ρ d (.aE [])) h K):=by
 unfold gK
 split
 ·rename_i c hc
  by_cases fA:c=b
  ·subst fA
   rw[ax rfl]
   constructor
   ·rintro⟨r,h',hs,hf,he⟩
    simp only[bS,dc,hc,xW] at hs
    exact⟨r,h',hs,hf,he⟩
   ·rintro⟨r,h',hs,hf,he⟩
    refine⟨r,h',?_,hf,he⟩
    simp only[bS,dc,hc,xW]
    exact hs
  ·have Ah:(c==b)=false:=by grind
   rw[aj fA]
   constructor
   ·rintro⟨r,h',hs,hf,he⟩
    simp only[bS,dc,hc,Ah] at hs
    obtain⟨rfl,rfl⟩:=hs
    exact he
   ·intro he
    refine⟨none,h,?_,fun hh=>by simp[iw.dO] at hh,he⟩
    simp only[bS,dc,hc,Ah]
    trivial
 ·rename_i hc
  constructor
  ·rintro⟨r,h',hs,hf,he⟩
   simp only[bS,dc,hc] at hs
   obtain⟨rfl,rfl⟩:=hs
   exact he
  ·intro he
   refine⟨none,h,?_,fun hh=>by simp[iw.dO] at hh,he⟩
   simp only[bS,dc,hc]
   trivial
 ·constructor
  ·rintro⟨r,h',hs,hf,he⟩
   unfold bS at hs
   have:dc ⟨d,some (g,b), .p q⟩ ρ=none:=by unfold dc;simp only[]
   grind
  grind
theorem aOl:eL P n base (⟨d,some (g,b), .call f as⟩::os) i ρ h K↔tL P n base (.call f as) os i d ρ h K b (ρ g):=by
 refine⟨?_,aTF⟩
 rintro⟨r,h',hs,hf,he⟩
 unfold tL gK
 split
 ·rename_i c hc
  by_cases fA:c=b
  ·subst fA
   rw[ax rfl]
   simp only[bS,dc,hc,xW] at hs
   exact⟨r,h',hs,hf,he⟩
  ·have Ah:(c==b)=false:=by grind
   rw[aj fA]
   simp only[bS,dc,hc,Ah] at hs
   obtain⟨rfl,rfl⟩:=hs
   exact⟨hf rfl,he⟩
 ·rename_i hc
  simp only[bS,dc,hc] at hs
  obtain⟨rfl,rfl⟩:=hs
  exact⟨hf rfl,he⟩
 ·unfold bS at hs
  have:dc ⟨d,some (g,b), .call f as⟩ ρ=none:=by unfold dc;simp only[]
  grind
theorem aNa:tL P n base op os i d ρ h K true (.bool true)↔eL P n base (⟨d,none,op⟩::os) i ρ h K:=by simp[tL,gK]
theorem aNd:tL P n base op os i d ρ h K false (.bool false)↔eL P n base (⟨d,none,op⟩::os) i ρ h K:=by simp[tL,gK]
theorem aNb:tL P n base op os i d ρ h K true (.bool false)↔dY n base i h/\eL P n base os (i+1) (put ρ d (.aE [])) h K:=by simp[tL,gK]
theorem aNc:tL P n base op os i d ρ h K false (.bool true)↔dY n base i h/\eL P n base os (i+1) (put ρ d (.aE [])) h K:=by simp[tL,gK]
theorem aLM:tL P n base op os i d ρ h K b (.aE [])↔dY n base i h/\eL P n base os (i+1) (put ρ d (.aE [])) h K:=Iff.rfl
def yQ (P:Program) (n base:Nat) (q:eh) (os:List RO) (i:Nat) (d:Option Nat) (ρ:Env) (h:aa) (K:Env->aa->Prop) (b:Bool) (v:AV):Prop:=
 gK v b (eL P n base (⟨d,none, .p q⟩::os) i ρ h K) (eL P n base os (i+1) (put ρ d (.aE [])) h K)
theorem aTE:eL P n base (⟨d,some (g,b), .p q⟩::os) i ρ h K↔yQ P n base q os i d ρ h K b (ρ g):=aOk
theorem aM6:yQ P n base q os i d ρ h K true (.bool true)↔eL P n base (⟨d,none, .p q⟩::os) i ρ h K:=by simp[yQ,gK]
theorem aM9:yQ P n base q os i d ρ h K false (.bool false)↔eL P n base (⟨d,none, .p q⟩::os) i ρ h K:=by simp[yQ,gK]
theorem aM7:yQ P n base q os i d ρ h K true (.bool false)↔eL P n base os (i+1) (put ρ d (.aE [])) h K:=by simp[yQ,gK]
theorem aM8:yQ P n base q os i d ρ h K false (.bool true)↔eL P n base os (i+1) (put ρ d (.aE [])) h K:=by simp[yQ,gK]
theorem aLL:yQ P n base q os i d ρ h K b (.aE [])↔eL P n base os (i+1) (put ρ d (.aE [])) h K:=Iff.rfl
theorem aGC:dY n h.next i (h.clean m)↔True:=by
 simp only[dY,iff_true,aa.clean]
 grind
theorem jx (hb:b<base):dY n base i (h.set b x)↔dY n base i h:=by
 simp only[dY,aa.set]
 grind
theorem aKF:eDV P n base os i d ρ h K (some v)↔eL P n base os (i+1) (put ρ d v) h K:=by simp[eDV]
theorem aKH:eDA P n base os i d ρ h K (some (b,v))↔eL P n base os (i+1) (put ρ d v) (h.at (base+i) b) K:=
 ⟨fun⟨_,_,e,h⟩=>by grind,fun h=>⟨_,_,rfl,h⟩⟩
theorem aKG:eDE P n base os i d ρ K (some (v,h'))↔dY n base i h'/\eL P n base os (i+1) (put ρ d v) h' K:=
 ⟨fun⟨_,_,e,h⟩=>by grind,fun h=>⟨_,_,rfl,h⟩⟩
theorem dX (hc:al P f as h v h') (hf:dY n base i h') (hk:eL P n base os (i+1) (put ρ d v) h' K):eDC P n base os i d ρ h K f as:=⟨v,h',hc,hf,hk⟩
end
def jS (un:List (List Nat)) (k:Nat):Bool:=!(un.getD k []).isEmpty||un.any (·.contains k)
def DG (base:Nat):Option Nat->Prop
 |none=>True
 |some b=>b<base
def FC (base:Nat) (h h':aa):Prop:= ∀b,b<base->h'.get b=h.get b
def iP (P:Program) (un:List (List Nat)) (n base:Nat):List RO->Nat->Env->aa->(Env->aa->Prop)->Prop
 |[],_,ρ,h,K=>K ρ h
 |o::os,i,ρ,h,K=> ∃r h',bS P o (base+i) ρ h r h'/\(o.op.dO=true-> ∀j,i<j->j<n->h'.get (base+j)=none)/\FC base h h'/\
   (∀q,o.op= .p q->jS un i=true->DG base (q.key ρ))/\iP P un n base os (i+1) (put ρ o.dst (kU r)) h' K
theorem ajM: ∀(os:List RO) (i:Nat) (ρ:Env) (h:aa) (done:List (Env×aa×Option AV)),
 done.length=i->az.drop i=os->
 (∀k d,done[k]? =some d->FC base d.2.1 h/\ ∀ok q v,az[k]? =some ok->ok.op= .p q->jS un k=true->d.2.2=some v->bt q d.1 d.2.1=some v/\DG base (q.key d.1))->
 iP P un az.length base os i ρ h K->sU P az un base os i ρ h done K
 |[],i,ρ,h,done,_,_,_,he=>he
 |o::os,i,ρ,h,done,hl,hd,hinv,⟨r,h',hs,hf,hk,rT,he⟩=>by
  have uQ:az[i]? =some o:=by
   have:(az.drop i)[0]? =some o:=by rw[hd];rfl
   grind
  have da: ∀k,k∈un.getD i []->jS un i=true/\jS un k=true:=fun k hk=>by
   constructor
   ·unfold jS
    grind
   ·unfold jS
    have:un.any (fun l=>l.contains k)=true:=by
     rw[List.any_eq_true]
     rw[mr] at hk
     cases hq:un[i]? with
     |none=>grind
     |some l=>rw[hq] at hk;exact⟨l,iC hq,by simpa using hk⟩
    grind
  have hval: ∀q v,o.op= .p q->r=some v->bt q ρ h=some v/\h'=h:=fun q v hq hr=>by
   unfold bS at hs
   split at hs
   ·obtain⟨v',h1,h2⟩:=hs
    rw[hr] at h1;cases h1
    rw[hq] at h2
    exact h2
   ·grind
   grind
  refine⟨r,h',hs,fun k Ev ok d bO gv=>?_,hf,?_⟩
  ·obtain⟨f1,f2⟩:=da k Ev
   obtain⟨hold,tp⟩:=hinv k d gv
   unfold tP
   split
   ·split
    ·rename_i v q hv hq
     obtain⟨h1,h2⟩:=tp ok q v bO hq f2 hv
     rw[<-h1]
     refine(xh q d.1 d.2.1 h' (fun b hb=>?_)).symm
     rw[hb] at h2
     rw[hk b h2,hold b h2]
    ·trivial
   ·split
    ·rename_i v q hq
     obtain⟨h1,rfl⟩:=hval q v hq rfl
     have h2:=rT q hq f1
     rw[<-h1]
     refine xh q ρ d.2.1 h' (fun b hb=>?_)
     rw[hb] at h2
     exact(hold b h2).symm
    ·trivial
  ·refine ajM os (i+1) _ h' _ (by simp[hl]) ?_ ?_ he
   ·rw[<-vV,hd];rfl
   ·intro k d gv
    rw[B8] at gv
    split at gv
    ·obtain⟨g1,g2⟩:=hinv k d gv
     exact⟨fun b hb=>by rw[hk b hb,g1 b hb],g2⟩
    grind
theorem m6 (he:iP P un az.length h.next az 0 ρ (h.clean az.length) (K .normal)):WP P (.jG az un) K ρ h:=by
 obtain⟨ρ1,h1,he,hk⟩:=E4 (ajM az 0 ρ _ [] rfl rfl (fun k d hd=>by simp at hd) he)
 exact⟨_,_,_, .Hq he,hk⟩
section
variable {P:Program} {un:List (List Nat)} {n base i:Nat} {ρ:Env} {h:aa} {K:Env->aa->Prop} {d:Option Nat} {os:List RO}
def H7 (P:Program) (un:List (List Nat)) (n base:Nat) (os:List RO) (i:Nat) (d:Option Nat) (ρ:Env) (h:aa) (K:Env->aa->Prop) (o:Option AV):Prop:= ∃v,o=some v/\iP P un n base os (i+1) (put ρ d v) h K
def e2A (P:Program) (un:List (List Nat)) (n base:Nat) (os:List RO) (i:Nat) (d:Option Nat) (ρ:Env) (h:aa) (K:Env->aa->Prop) (o:Option (lB×AV)):Prop:= ∃b v,o=some (b,v)/\iP P un n base os (i+1) (put ρ d v) (h.at (base+i) b) K
def e2E (P:Program) (un:List (List Nat)) (n base:Nat) (os:List RO) (i:Nat) (d:Option Nat) (ρ:Env) (h:aa) (K:Env->aa->Prop) (o:Option (AV×aa)):Prop:= ∃v h',o=some (v,h')/\dY n base i h'/\FC base h h'/\iP P un n base os (i+1) (put ρ d v) h' K
def MZ (P:Program) (un:List (List Nat)) (n base:Nat) (os:List RO) (i:Nat) (d:Option Nat) (ρ:Env) (h:aa) (K:Env->aa->Prop) (f:Nat) (as:List AV):Prop:= ∃v h',al P f as h v h'/\dY n base i h'/\FC base h h'/\iP P un n base os (i+1) (put ρ d v) h' K
theorem aTL:iP P un n base (⟨d,none, .p q⟩::os) i ρ h K↔(jS un i=true->DG base (q.key ρ))/\H7 P un n base os i d ρ h K (bt q ρ h):=by
 constructor
 ·rintro⟨r,h',hs,_,_,hk,he⟩
  simp only[bS,dc,kB] at hs
  obtain⟨v,rfl,hv,rfl⟩:=hs
  exact⟨hk q rfl,v,hv,he⟩
 ·rintro⟨hk,v,hv,he⟩
  exact⟨some v,h,⟨v,rfl,hv,rfl⟩,fun hh=>by simp[iw.dO] at hh,fun _ _=>rfl,(fun q' hq=>by grind),he⟩
theorem aTO (he:e2A P un n base os i d ρ h K (l9 q ρ (base+i))):iP P un n base (⟨d,none, .a q⟩::os) i ρ h K:=by
 obtain⟨b,v,hv,he⟩:=he
 exact⟨some v,_,⟨v,rfl,b,hv,rfl⟩,fun hh=>by simp[iw.dO] at hh,fun b hb=>by simp only[aa.at];grind,(fun q' hq=>by cases hq),he⟩
theorem aOm:iP P un n base (⟨d,none, .a q⟩::os) i ρ h K↔e2A P un n base os i d ρ h K (l9 q ρ (base+i)):=by
 refine⟨?_,aTO⟩
 rintro⟨r,h',hs,_,_,hk,he⟩
 simp only[bS,dc,kB] at hs
 obtain⟨v,rfl,b,hv,rfl⟩:=hs
 exact⟨b,v,hv,he⟩
theorem aTM:iP P un n base (⟨d,none, .e q⟩::os) i ρ h K↔e2E P un n base os i d ρ h K (dL q ρ (base+i) h):=by
 constructor
 ·rintro⟨r,h',hs,hf,hk,_,he⟩
  simp only[bS,dc,kB] at hs
  obtain⟨v,rfl,hv⟩:=hs
  exact⟨v,h',hv,hf rfl,hk,he⟩
 ·rintro⟨v,h',hv,hf,hk,he⟩
  exact⟨some v,h',⟨v,rfl,hv⟩,fun _=>hf,hk,(fun q' hq=>by cases hq),he⟩
theorem aTN:iP P un n base (⟨d,none, .call f as⟩::os) i ρ h K↔MZ P un n base os i d ρ h K f (as.map (aJ.ev ρ)):=by
 constructor
 ·rintro⟨r,h',hs,hf,hk,_,he⟩
  simp only[bS,dc,kB] at hs
  obtain⟨v,rfl,hv⟩:=hs
  exact⟨v,h',hv,hf rfl,hk,he⟩
 ·rintro⟨v,h',hv,hf,hk,he⟩
  exact⟨some v,h',⟨v,rfl,hv⟩,fun _=>hf,hk,fun q' hq=>(by cases hq),he⟩
theorem dh (hc:al P f as h v h) (hf:dY n base i h) (he:iP P un n base os (i+1) (put ρ d v) h K):MZ P un n base os i d ρ h K f as:=⟨v,h,hc,hf,fun _ _=>rfl,he⟩
def w7 (P:Program) (un:List (List Nat)) (n base:Nat) (q:eh) (os:List RO) (i:Nat) (d:Option Nat) (ρ:Env) (h:aa) (K:Env->aa->Prop) (b:Bool) (v:AV):Prop:=
 gK v b (H7 P un n base os i d ρ h K (bt q ρ h)) (iP P un n base os (i+1) (put ρ d (.aE [])) h K)
def w8 (P:Program) (un:List (List Nat)) (n base:Nat) (f:Nat) (as:List AV) (os:List RO) (i:Nat) (d:Option Nat) (ρ:Env) (h:aa) (K:Env->aa->Prop) (b:Bool) (v:AV):Prop:=
 gK v b (MZ P un n base os i d ρ h K f as) (dY n base i h/\iP P un n base os (i+1) (put ρ d (.aE [])) h K)
theorem akz (hg:gK v b A B):(v= .bool b/\A)\/((v= .bool (!b)\/v= .aE [])/\B):=by
 unfold gK at hg
 split at hg
 ·rename_i c
  by_cases hc:c=b
  ·grind
  ·rw[aj hc] at hg
   refine .inr ⟨.inl ?_,hg⟩
   cases c<;>cases b<;>first|rfl|grind
 ·grind
 grind
theorem amJ (hv:v= .bool b) (ha:A):gK v b A B:=by subst hv;simp[gK,ha]
theorem awW (hv:v= .bool (!b)\/v= .aE []) (hb:B):gK v b A B:=by
 rcases hv with rfl|rfl
 ·cases b<;>simp[gK,hb]
 ·simp[gK,hb]
theorem ajD (hr:ro.guard=some (g,b)) (hv:ρ g= .bool b):dc ro ρ=some true:=by simp[dc,hr,hv]
theorem akw (hr:ro.guard=some (g,b)) (hv:ρ g= .bool (!b)\/ρ g= .aE []):dc ro ρ=some false:=by
 rcases hv with hv|hv
 ·cases b<;>simp[dc,hr,hv]
 ·simp[dc,hr,hv]
theorem NI (hr:ro.guard=some (g,b)) (h:dc ro ρ=some c):(c=true/\ρ g= .bool b)\/(c=false/\(ρ g= .bool (!b)\/ρ g= .aE [])):=by
 unfold dc at h
 rw[hr] at h
 simp only at h
 split at h
 ·rename_i x hx
  cases h
  cases x<;>cases b<;>simp[hx]
 ·grind
 ·cases h
theorem aTJ:iP P un n base (⟨d,some (g,b), .p q⟩::os) i ρ h K↔(jS un i=true->DG base (q.key ρ))/\w7 P un n base q os i d ρ h K b (ρ g):=by
 constructor
 ·rintro⟨r,h',hs,_,_,hk,he⟩
  refine⟨hk q rfl,?_⟩
  unfold bS at hs
  split at hs
  ·rename_i hg
   obtain⟨v,rfl,hv,rfl⟩:=hs
   rcases NI rfl hg with⟨_,d7⟩|⟨hf,_⟩
   ·exact amJ d7 ⟨v,hv,he⟩
   ·cases hf
  ·rename_i hg
   obtain⟨rfl,rfl⟩:=hs
   rcases NI rfl hg with⟨hf,_⟩|⟨_,d7⟩
   ·cases hf
   ·exact awW d7 he
  grind
 ·rintro⟨hk,he⟩
  rcases akz he with⟨hv,v,nR,he⟩|⟨hv,he⟩
  ·exact⟨some v,h,by unfold bS;rw[ajD rfl hv];exact⟨v,rfl,nR,rfl⟩,fun hh=>by simp[iw.dO] at hh,fun _ _=>rfl,(fun q' hq=>by grind),he⟩
  ·exact⟨none,h,by unfold bS;rw[akw rfl hv];grind,fun hh=>by simp[iw.dO] at hh,fun _ _=>rfl,(fun q' hq=>by grind),he⟩
theorem aTK:iP P un n base (⟨d,some (g,b), .call f as⟩::os) i ρ h K↔w8 P un n base f (as.map (aJ.ev ρ)) os i d ρ h K b (ρ g):=by
 constructor
 ·rintro⟨r,h',hs,hf,hkp,hk,he⟩
  unfold bS at hs
  split at hs
  ·rename_i hg
   obtain⟨v,rfl,hv⟩:=hs
   rcases NI rfl hg with⟨_,d7⟩|⟨hf,_⟩
   ·exact amJ d7 ⟨v,h',hv,hf rfl,hkp,he⟩
   ·cases hf
  ·rename_i hg
   obtain⟨rfl,rfl⟩:=hs
   rcases NI rfl hg with⟨hf,_⟩|⟨_,d7⟩
   ·cases hf
   ·exact awW d7 ⟨hf rfl,he⟩
  grind
 ·intro he
  rcases akz he with⟨hv,v,h',hc,hf,hkp,he⟩|⟨hv,hf,he⟩
  ·exact⟨some v,h',by unfold bS;rw[ajD rfl hv];exact⟨v,rfl,hc⟩,fun _=>hf,hkp,(fun q' hq=>by cases hq),he⟩
  ·exact⟨none,h,by unfold bS;rw[akw rfl hv];grind,fun _=>hf,fun _ _=>rfl,(fun q' hq=>by cases hq),he⟩
theorem aKJ:e2E P un n base os i d ρ h K (some (v,h'))↔dY n base i h'/\FC base h h'/\iP P un n base os (i+1) (put ρ d v) h' K:=
 ⟨fun⟨_,_,e,h⟩=>by grind,fun h=>⟨_,_,rfl,h⟩⟩
def kv:AV->Option Nat
 | .ptr b _=>some b
 |_=>none
theorem aKm:(eh.load ag sz x).key ρ=kv (x.ev ρ):=by
 simp only[eh.key]
 cases x.ev ρ<;>rfl
theorem aKI:H7 P un n base os i d ρ h K (some v)↔iP P un n base os (i+1) (put ρ d v) h K:=by simp[H7]
theorem aKK:e2A P un n base os i d ρ h K (some (b,v))↔iP P un n base os (i+1) (put ρ d v) (h.at (base+i) b) K:=
 ⟨fun⟨_,_,e,h⟩=>by grind,fun h=>⟨_,_,rfl,h⟩⟩
end
def mapOf (h:aa) (b:Nat):Option (List (AV×AV)):=match h.get b with
 |some (.map es)=>some es
 |_=>none
theorem WA (e:h.get b=some (.map es)):mapOf h b=some es:=by simp[mapOf,e]
def Rv (z:AV) (ok:Bool) (r:Option AV):AV:=match r with
 |some v=>if ok then .aE [v, .bool true] else v
 |none=>if ok then .aE [z, .bool false] else z
theorem VA:sB z ok h (.map (some b)) (.int kd n)=(mapOf h b).bind fun es=>(Bw (.int kd n) es).map (Rv z ok):=by
 unfold sB mapOf
 simp only[]
 split
 ·rename_i es he;rw[he];simp only[me];congr 1
 grind
def WR (h:aa) (m k v:AV):Option (AV×aa):=match m,k with
 | .map (some b), .int kd n=>match h.get b with
   |some (.map es)=>(zk (.int kd n) v.strip es).map fun bE=>(.undef,h.set b (some (.map bE)))
   |_=>none
 |_,_=>none
theorem aFB:WR h (.map (some b)) (.int kd n) v=(mapOf h b).bind fun es=>(zk (.int kd n) v.strip es).map fun bE=>(.undef,h.set b (some (.map bE))):=by
 unfold WR mapOf
 grind
def WS (h:aa) (m k:AV):Option (AV×aa):=match m,k with
 | .map (some b), .int kd n=>match h.get b with
   |some (.map es)=>(zm (.int kd n) es).map fun bE=>(.aE [],h.set b (some (.map bE)))
   |_=>none
 |_,_=>none
theorem aFC:WS h (.map (some b)) (.int kd n)=(mapOf h b).bind fun es=>(zm (.int kd n) es).map fun bE=>(.aE [],h.set b (some (.map bE))):=by
 unfold WS mapOf
 grind
def qc (bytes sz id:Nat) (h:aa) (x:AV):Option (List (List AV))->Option (AV×aa)
 |none=>none
 |some ys=>match x with
  | .vs xs t=>
    if ys=[] then some (.vs xs t,h) else
    if bQ sz xs/\(xs.length+ys.length)*bytes<2^40/\xs.length+ys.length<2^40 then
     match t with
     | .full=>some (.vs (xs++ys) (.own id),h.at id .tail)
     | .own t=>match h.get t with
       |some .tail=>some (.vs (xs++ys) (.own id),(h.set t none).at id .tail)
       |_=>none
     | .au=>none
    else none
  | .cJ=>
    if ys=[] then some (.cJ,h) else
    if ys.length*bytes<2^40/\ys.length<2^40 then some (.vs ys (.own id),h.at id .tail) else none
  |_=>none
theorem aGT {id bytes:Nat}:dL (.append bytes sz x y) ρ id h=qc bytes sz id h (x.ev ρ) (ef sz h (y.ev ρ)):=by
 simp only[dL]
 cases ef sz h (y.ev ρ)<;>rfl
def wi (base:Nat) (h:aa) (a:AV) (xs:List (List AV)):Prop:=(a= .vs [] .full/\xs=[])\/ ∃t,a= .vs xs (.own t)/\h.get t=some .tail/\base<=t/\t<h.next
theorem wi.nil:wi base h (.vs [] .full) []:= .inl ⟨rfl,rfl⟩
theorem wi.vs (A:wi base h a xs): ∃t,a= .vs xs t:=by
 rcases A with⟨rfl,rfl⟩|⟨t,rfl,_⟩
 ·exact⟨_,rfl⟩
 grind
theorem wi.of (A:wi base h a xs) (hn:h.next<=h'.next) (hk: ∀t,h.get t=some .tail->h'.get t=some .tail):wi base h' a xs:=by
 rcases A with⟨rfl,rfl⟩|⟨t,rfl,h1,h2,h3⟩
 ·exact .nil
 ·exact .inr ⟨t,rfl,hk t h1,h2,by omega⟩
theorem aH8 {bytes id:Nat} (A:wi base h a xs) (aM:h.next<=id) (hb:base<=id) (hy:ys≠[]) (hh:bQ sz xs=true) (h1:(xs.length+ys.length)*bytes<2^40) (h2:xs.length+ys.length<2^40):
 ∃a' h',qc bytes sz id h a (some ys)=some (a',h')/\wi base h' a' (xs++ys)/\h'.next=id+1/\(∀b,b≠id->h.get b≠some .tail->h'.get b=h.get b)/\ ∀b,b<base->h'.get b=h.get b:=by
 rcases A with⟨rfl,rfl⟩|⟨t,rfl,h3,h4,h5⟩
 ·refine⟨.vs ([]++ys) (.own id),h.at id .tail,?_, .inr ⟨id,rfl,by simp[aa.at],hb,by simp[aa.at];omega⟩,by simp[aa.at];omega,fun b hb _=>by simp[aa.at,hb],fun b hb=>by simp[aa.at];omega⟩
  simp only[qc]
  grind
 ·refine⟨.vs (xs++ys) (.own id),(h.set t none).at id .tail,?_, .inr ⟨id,rfl,by simp[aa.at],hb,by simp[aa.at,aa.set];omega⟩,by simp[aa.at,aa.set];omega,fun b hb hn=>?_,fun b hb=>?_⟩
  ·simp only[qc]
   grind
  ·have:b≠t:=fun e=>hn (by grind)
   simp[aa.at,aa.set,hb,this]
  ·have e1:b≠t:=by omega
   have e2:b≠id:=by omega
   simp[aa.at,aa.set,e1,e2]
def ahG:AV->Option Nat
 | .int _ i=>if 0<=i then some i.toNat else none
 |_=>none
theorem aGO:ei ρ d (some x)=ahG (x.ev ρ):=by
 unfold ei ahG
 grind
theorem aJm:m9 ρ sz (.vs xs t) lo hi none=(ei ρ xs.length hi).bind fun h=>(ei ρ 0 lo).bind fun l=>
 if l<=h/\h<=xs.length/\bQ sz xs=true then some (.vs ((xs.drop l).take (h-l)) (vg t xs.length l h)) else none:=rfl
def iS (bytes sz id:Nat) (h:aa) (x:AV):Option (List (List AV))->Option (AV×aa)
 |none=>none
 |some ys=>match x with
  | .vs [] .full=>if ys=[] then some (.vs [] .full,h) else if ys.length*bytes<2^40/\ys.length<2^40 then some (.rs id 0 ys.length sz,h.at id (.cells ys.flatten)) else none
  | .cJ=>if ys=[] then some (.cJ,h) else if ys.length*bytes<2^40/\ys.length<2^40 then some (.rs id 0 ys.length sz,h.at id (.cells ys.flatten)) else none
  | .rs b off len aX=>
    if ys=[] then some (.rs b off len aX,h) else
    (cellsOf h b).bind fun cs=>if aX=sz/\off=0/\len*sz<=cs.length/\(len+ys.length)*bytes<2^40/\len+ys.length<2^40 then
      some (.rs id 0 (len+ys.length) sz,(h.set b none).at id (.cells (cs.take (len*sz)++ys.flatten)))
      else none
  | .rk b off len aX cap=>(cellsOf h b).bind fun cs=>if aX=sz/\len+ys.length<=cap/\off+len*sz<=cs.length then
     some (.rk b off (len+ys.length) sz cap,h.set b (some (.cells (ew cs (off+len*sz) ys.flatten))))
     else none
  |_=>none
theorem aFW {id bytes:Nat}:dL (.BC bytes sz x y) ρ id h=iS bytes sz id h (x.ev ρ) (ef sz h (y.ev ρ)):=by
 simp only[dL]
 generalize x.ev ρ=v
 cases ef sz h (y.ev ρ) with
 |none=>rfl
 |some ys=>
  cases v<;>try rfl
  case vs xs t=>cases xs<;>cases t<;>rfl
  case rs b off len aX=>simp only[iS];grind
  case rk b off len aX cap=>simp only[iS];grind
def DR (bytes:Nat) (z:List AV) (id:Nat) (h:aa) (x n:AV):Option (AV×aa):=
 match n with
 | .int _ m=>
   if 0<m/\m<2^40 then
    match x with
    | .cJ=>if m.toNat*bytes<2^40 then some (.rs id 0 m.toNat z.length,h.at id (.cells (List.replicate m.toNat z).flatten)) else none
    | .rk b off len aX cap=>(cellsOf h b).bind fun cs=>
       if aX=z.length/\cap<len+m.toNat/\off+len*z.length<=cs.length/\(len+m.toNat)*bytes<2^40/\len+m.toNat<2^40 then
        some (.rs id 0 (len+m.toNat) z.length,h.at id (.cells (rowsOf cs off z.length len++List.replicate m.toNat z).flatten))
       else none
    |_=>none
   else none
 |_=>none
theorem aFV {id bytes:Nat}:dL (.BB bytes z x n) ρ id h=DR bytes z id h (x.ev ρ) (n.ev ρ):=by
 simp only[dL,DR]
 grind
def FI (sz:Nat) (h:aa) (x y:AV):Option (AV×aa):=
 match x with
 | .rk b off len aX _=>(jV y).bind fun m=>(vY sz (min m len) h y).bind fun ys=>(cellsOf h b).bind fun cs=>
    if aX=sz/\off<=cs.length then some (.int .i64 (min m len:Nat),h.set b (some (.cells (ew cs off ys.flatten)))) else none
 |_=>none
theorem aH6 {id:Nat}:dL (.zY sz x y) ρ id h=FI sz h (x.ev ρ) (y.ev ρ):=by
 simp only[dL,FI]
 cases x.ev ρ<;>try rfl
 rename_i b off len aX cap
 cases jV (y.ev ρ) with
 |none=>rfl
 |some m=>
  simp only[me]
  cases vY sz (min m len) h (y.ev ρ) with
  |none=>rfl
  |some ys=>cases cellsOf h b<;>rfl
def G0 (sz:Nat) (h:aa) (x y:AV):Option (AV×aa):=
 match x with
 | .rs b off len aX=>(ef sz h y).bind fun ys=>(cellsOf h b).bind fun cs=>
    if aX=sz/\off+len*sz<=cs.length then some (.int .i64 (min ys.length len:Nat),h.set b (some (.cells (ew cs off (ys.take (min ys.length len)).flatten)))) else none
 | .vs [] _=>(ef sz h y).bind fun _=>some (.int .i64 0,h)
 | .cJ=>(ef sz h y).bind fun _=>some (.int .i64 0,h)
 |_=>none
theorem ajV {id:Nat}:dL (.copy sz x y) ρ id h=G0 sz h (x.ev ρ) (y.ev ρ):=by
 simp only[dL,G0]
 generalize x.ev ρ=v
 generalize ef sz h (y.ev ρ)=r
 cases v<;>try rfl
 case vs xs t=>grind
 case rs b off len aX=>simp only[];cases r<;>cases cellsOf h b<;>rfl
 grind
def awD (h:aa) (x:AV):Option (AV×aa):=
 match x with
 | .rs b off len sz=>(cellsOf h b).bind fun cs=>if off+len*sz<=cs.length then some (.vs (rowsOf cs off sz len) .au,h.set b none) else none
 |_=>none
theorem aJq {id:Nat}:dL (.mark x) ρ id h=awD h (x.ev ρ):=by
 simp only[dL,awD]
 grind
def OK (z:List AV) (h:aa) (x:AV):Option (AV×aa):=
 match x with
 | .rk b off len aX _=>(cellsOf h b).bind fun cs=>if aX=z.length/\off+len*z.length<=cs.length then some (.aE [],h.set b (some (.cells (ew cs off (List.replicate len z).flatten)))) else none
 | .vs [] _=>some (.aE [],h)
 | .cJ=>some (.aE [],h)
 |_=>none
theorem aGS {id:Nat}:dL (.zp z x) ρ id h=OK z h (x.ev ρ):=by
 simp only[dL,OK]
 grind
theorem aJn:m9 ρ sz (.rk b off len aX cap) lo hi mx=(ei ρ len hi).bind fun h=>(ei ρ 0 lo).bind fun l=>(ei ρ cap mx).bind fun m=>
 if l<=h/\h<=m/\m<=cap/\aX=sz/\(mx.isSome->hi.isSome) then(if m=l then some (.vs [] .full) else some (.rk b (off+l*sz) (h-l) sz (m-l))) else none:=rfl
theorem Wp:m9 ρ sz (.rs b off len aX) lo hi none=(ei ρ len hi).bind fun h=>(ei ρ 0 lo).bind fun l=>
 if l<=h/\h<=len/\aX=sz then(if l=h then(if lo.isNone then some (.rs b off 0 sz) else some (.vs [] .au)) else some (.rs b (off+l*sz) (h-l) sz)) else none:=by
 simp[m9]
theorem aJT:ef sz h (.rk b off len aX cap)=if aX=sz then(cellsOf h b).bind fun cs=>if off+len*sz<=cs.length then some (rowsOf cs off sz len) else none else none:=by
 simp only[ef]
 grind
theorem aJS:vY sz n h (.rk b off len aX cap)=if aX=sz/\n<=len then(cellsOf h b).bind fun cs=>if off+n*sz<=cs.length then some (rowsOf cs off sz n) else none else none:=by
 simp only[vY]
 grind
end
section
open Go
section
variable {h:aa} {ρ:Env} {n:Nat} {P:Program} {i:Nat} {K:Env->aa->Prop} {d:Option Nat} {os:List RO} {base:Nat} {sz:Nat} {x:aJ} {b:Nat} {id:Nat} {k:IntKind} {o:Nat} {un:List (List Nat)} {v:AV} {q:eh} {f:Nat} {tb:Bool} {off:Nat} {p:Prop} {j:Nat} {op:iw} {cs:List AV} {ag:Bool} {z:List AV} {len:Nat} {s:Nat} {xs:List (List AV)} {y:aJ} {t:aL} {as:List AV} {rs:List mQ} {g:Nat} {c:Nat} {J:Env->aa->Prop} {es:List (AV×AV)} {aX:Nat} {r:AV} {h1:aa} {h':aa} {ps:List (Nat×aJ)} {lo:Option aJ} {hi:Option aJ} {m:aJ} {mx:Bool} {bytes:Nat} {cap:Nat} {k':IntKind} {neg:Bool} {kd:IntKind} {vs:List AV}
theorem q7 {K:cC->Env->aa->Prop} {c:aJ} {a b:cO}:WP P (.cond c a b) K ρ h↔Ng P a b K ρ h (c.ev ρ):=aMo
theorem q11 {k:Env->aa->Prop} {K:cC->Env->aa->Prop}:iD k K .normal ρ h=k ρ h:=by rfl
theorem q12 {k:Env->aa->Prop} {K:cC->Env->aa->Prop}:iD k K .ret ρ h=K .ret ρ h:=by rfl
theorem q13 {k:Env->aa->Prop} {K:cC->Env->aa->Prop}:iD k K (.exit i) ρ h=K (.exit i) ρ h:=by rfl
theorem q14 {k:Env->aa->Prop} {K:cC->Env->aa->Prop}:iD k K (.goto i) ρ h=K (.goto i) ρ h:=by rfl
theorem q15 {K:cC->Env->aa->Prop}:jO id K .normal ρ h=K .normal ρ h:=by rfl
theorem q16 {K:cC->Env->aa->Prop}:jO id K .ret ρ h=K .ret ρ h:=by rfl
theorem q17 {K:cC->Env->aa->Prop}:jO id K (.exit i) ρ h=if i=id then K .normal ρ h else K (.exit i) ρ h:=by rfl
theorem q18 {K:cC->Env->aa->Prop}:jO id K (.goto i) ρ h=K (.goto i) ρ h:=by rfl
theorem q19 {l:Nat} {K:cC->Env->aa->Prop}:pz l J K .normal ρ h=K .normal ρ h:=by rfl
theorem q20 {l:Nat} {K:cC->Env->aa->Prop}:pz l J K .ret ρ h=K .ret ρ h:=by rfl
theorem q21 {l:Nat} {K:cC->Env->aa->Prop}:pz l J K (.exit i) ρ h=K (.exit i) ρ h:=by rfl
theorem tz {l:Nat} {K:cC->Env->aa->Prop}:pz l J K (.goto i) ρ h=if i=l then J ρ h else K (.goto i) ρ h:=by rfl
theorem Ul:exec P [] ρ h K↔K ρ h:=Iff.rfl
theorem q24:exec P (⟨d,none, .p q⟩::os) ρ h K↔R3 P d os ρ h K (bt q ρ h):=aM3
theorem q26 {q:Bc}:exec P (⟨d,none, .a q⟩::os) ρ h K↔aw0 P d os ρ h K (l9 q ρ h.next):=aM5
theorem q28 {q:rq}:exec P (⟨d,none, .e q⟩::os) ρ h K↔awY P d os ρ K (dL q ρ h.next h):=aM4
theorem q30 {as:List aJ}:exec P (⟨d,none, .call f as⟩::os) ρ h K↔awZ P d os ρ h K f (as.map (aJ.ev ρ)):=aFm
theorem q31 {b:Bool}:exec P (⟨d,some (g,b),op⟩::os) ρ h K↔yb P d op os ρ h K b (ρ g):=aHR
theorem Uk:eL P n base [] i ρ h K↔K ρ h:=Iff.rfl
theorem q57:iP P un n base [] i ρ h K↔K ρ h:=Iff.rfl
theorem q64:w7 P un n base q os i d ρ h K true (.bool true)↔H7 P un n base os i d ρ h K (bt q ρ h):=by simp[w7,gK]
theorem q65:w7 P un n base q os i d ρ h K true (.bool false)↔iP P un n base os (i+1) (put ρ d (.aE [])) h K:=by simp[w7,gK]
theorem q66:w8 P un n base f as os i d ρ h K true (.bool true)↔MZ P un n base os i d ρ h K f as:=by simp[w8,gK]
theorem q67:w8 P un n base f as os i d ρ h K true (.bool false)↔dY n base i h/\iP P un n base os (i+1) (put ρ d (.aE [])) h K:=by simp[w8,gK]
theorem q68:w7 P un n base q os i d ρ h K false (.bool false)↔H7 P un n base os i d ρ h K (bt q ρ h):=by simp[w7,gK]
theorem q69:w7 P un n base q os i d ρ h K false (.bool true)↔iP P un n base os (i+1) (put ρ d (.aE [])) h K:=by simp[w7,gK]
theorem q70:w8 P un n base f as os i d ρ h K false (.bool false)↔MZ P un n base os i d ρ h K f as:=by simp[w8,gK]
theorem q71:w8 P un n base f as os i d ρ h K false (.bool true)↔dY n base i h/\iP P un n base os (i+1) (put ρ d (.aE [])) h K:=by simp[w8,gK]
theorem q72 {b:Bool}:w7 P un n base q os i d ρ h K b (.aE [])↔iP P un n base os (i+1) (put ρ d (.aE [])) h K:=by simp[w7,gK]
theorem q73 {b:Bool}:w8 P un n base f as os i d ρ h K b (.aE [])↔dY n base i h/\iP P un n base os (i+1) (put ρ d (.aE [])) h K:=by simp[w8,gK]
theorem q76:kv (.ptr b o)=some b:=by rfl
theorem q77 {l:List AV}:kv (.vp l o)=none:=by rfl
theorem q80:DG base none↔True:=Iff.rfl
theorem q81:DG base (some b)↔b<base:=Iff.rfl
theorem q82:eh.key (.load ag sz x) ρ=(match x.ev ρ with| .ptr b _=>some b|_=>none):=by rfl
theorem q84:(h.clean n).get b=if b<h.next then h.get b else none:=by rfl
theorem q85:(h.clean n).next=h.next+n:=by rfl
theorem q86: ∀{h:aa} {n b:Nat},cellsOf (h.clean n) b=if b<h.next then cellsOf h b else none:=by intro h n b;unfold cellsOf aa.clean;by_cases e:b<h.next<;>simp[e]
theorem q87 {t:Nat}:aJ.ev ρ (.tmp t)=ρ t:=by rfl
theorem q88:aJ.ev ρ (.const v)=v:=by rfl
theorem q89 {d:Nat}:put ρ (some d) v i=if i=d then v else ρ i:=by rfl
theorem q90:put ρ none v=ρ:=by rfl
theorem q91:List.map (aJ.ev ρ) []=[]:=by rfl
theorem q92 {xs:List aJ}:List.map (aJ.ev ρ) (x::xs)=x.ev ρ::List.map (aJ.ev ρ) xs:=by rfl
theorem q93:bt (.tB x) ρ h=some (x.ev ρ):=by rfl
theorem q94 {c a b:aJ}:bt (.pick c a b) ρ h=RG (c.ev ρ) (a.ev ρ) (b.ev ρ):=by rfl
theorem q95 {ps:List (Nat×Nat×aJ)}:bt (.build z ps) ρ h=(pA ρ z ps).map .agg:=by rfl
theorem q96:bt (.Gg n z ps) ρ h=(lK ρ z.length (List.replicate n z) ps).map (.vs · .full):=by rfl
theorem q97:bt (.load ag sz x) ρ h=pC ag sz h (x.ev ρ):=by rfl
theorem q98:bt (.Jg x) ρ h=notNil (x.ev ρ):=by rfl
theorem q99 {op:BinOp}:bt (.bin tb op x y) ρ h=bH tb op (x.ev ρ) (y.ev ρ):=by rfl
theorem aSK {kd:Nat}:bt (.GX kd neg x) ρ h=(lF kd (x.ev ρ)).map fun b=> .bool (if neg then !b else b):=by rfl
theorem aSJ {os:List Nat}:bt (.R5 neg os x y) ρ h=zn neg os (x.ev ρ) (y.ev ρ):=by rfl
theorem aSI {op:UnOp}:bt (.un op x) ρ h=Ih op (x.ev ρ):=by rfl
theorem aSH:bt (.toInt k x) ρ h=Jb k (x.ev ρ):=by rfl
theorem aSG:bt (.xq x) ρ h=((ef 1 h (x.ev ρ)).bind vh).map fun bs=> .str ⟨bs.toArray⟩:=by rfl
theorem aSF:bt (.N6 x) ρ h=E6 (x.ev ρ):=by rfl
theorem aSE:bt (.GW off x) ρ h=FH off (x.ev ρ):=by rfl
theorem aSD:bt (.U8 ag sz off x) ρ h=LV ag sz off (x.ev ρ):=by rfl
theorem aSC {i:aJ}:bt (.FD sz x i) ρ h=kj sz (x.ev ρ) (i.ev ρ):=by rfl
theorem aSB {i:aJ}:bt (.OZ sz len x i) ρ h=Fp sz len (x.ev ρ) (i.ev ρ):=by rfl
theorem aSA {i:aJ}:bt (.Tn ag sz len x i) ρ h=Ki ag sz len (x.ev ρ) (i.ev ρ):=by rfl
theorem aSz {mx:Option aJ}:bt (.nQ sz x lo hi mx) ρ h=m9 ρ sz (x.ev ρ) lo hi mx:=by rfl
theorem aSy:bt (.ext i x) ρ h=LW i (x.ev ρ):=by rfl
theorem aSx:bt (.LA x) ρ h=(jV (x.ev ρ)).map fun(n:Nat)=>AV.int .i64 n:=by rfl
theorem aSw:bt (.OX x) ρ h=OG (x.ev ρ):=by rfl
theorem aSv:bt (.Tk n) ρ h=some (.int .i64 n):=by rfl
theorem aSu {z:AV} {ok:Bool} {k:aJ}:bt (.lookup z ok m k) ρ h=sB z ok h (m.ev ρ) (k.ev ρ):=by rfl
theorem aSt {a b:List aJ}:bt (.Lx f a b) ρ h=some (.fn f (a.map (aJ.ev ρ)) (b.map (aJ.ev ρ))):=by rfl
theorem aSs {r:List aJ}:bt (.Fx mx x r) ρ h=tU mx ρ (x.ev ρ) r:=by rfl
theorem aSr {im:Bool}:bt (.part im x) ρ h=GH im (x.ev ρ):=by rfl
theorem aSq {l c:aJ}:bt (.OC z b l c) ρ h=(qA b (l.ev ρ) (c.ev ρ)).map fun n=> .vs (List.replicate n z) .full:=by rfl
theorem aSp {a:cO} {l:List cO}:List.foldr cO.seq .skip (a::l)= .seq a (List.foldr cO.seq .skip l):=by rfl
theorem aSo:List.foldr cO.seq .skip []= .skip:=by rfl
theorem aSn {d:Nat}:ei ρ d none=some d:=by rfl
theorem aSm {i:Int}:ahG (.int k i)=if 0<=i then some i.toNat else none:=by rfl
theorem aSl {l h:Nat}:vg .au n l h= .au:=by rfl
theorem aSk:l9 (.box x) ρ id=if(x.ev ρ).cells.all AV.one then some (.cells (x.ev ρ).cells, .ptr id 0) else none:=by rfl
theorem aSj:l9 (.alloc z) ρ id=some (.cells z, .ptr id 0):=by rfl
theorem aSi {l c:aJ}:l9 (.II z b l c) ρ id=(qA b (l.ev ρ) (c.ev ρ)).map fun n=>(.cells (List.replicate n z).flatten, .rs id 0 n z.length):=by rfl
theorem aSh:l9 (.Ja n z ps) ρ id=(lK ρ z.length (List.replicate n z) ps).map fun rows=>(.cells rows.flatten, .rs id 0 n z.length):=by rfl
theorem aSg:l9 .RM ρ id=some (.map [], .map (some id)):=by rfl
theorem aSf {a v:aJ}:dL (.store sz a v) ρ id h=Fw sz h (a.ev ρ) (v.ev ρ):=by rfl
theorem aSe {k v:aJ}:dL (.Db m k v) ρ id h=WR h (m.ev ρ) (k.ev ρ) (v.ev ρ):=by rfl
theorem aSd {k:aJ}:dL (.Fz m k) ρ id h=WS h (m.ev ρ) (k.ev ρ):=by rfl
theorem aSc:ef sz h (.vs xs t)=if bQ sz xs=true then some xs else none:=by rfl
theorem aSb:bQ sz []=true:=by rfl
theorem aSa {r:List AV} {rs:List (List AV)}:(bQ sz (r::rs)=true)↔r.length=sz:=by simp[bQ]
theorem aR9: ∀{h:aa} {id j:Nat} {cs:List AV},mapOf (h.at id (.cells cs)) j=if j=id then none else mapOf h j:=by intro h id j cs;unfold mapOf aa.at;by_cases e:j=id<;>simp[e]
theorem aR8: ∀{h:aa} {id j:Nat} {cs:List AV},mapOf (h.set id (some (.cells cs))) j=if j=id then none else mapOf h j:=by intro h id j cs;unfold mapOf aa.set;by_cases e:j=id<;>simp[e]
theorem aR7: ∀{h:aa} {id j:Nat} {es:List (AV×AV)},mapOf (h.at id (.map es)) j=if j=id then some es else mapOf h j:=by intro h id j es;unfold mapOf aa.at;by_cases e:j=id<;>simp[e]
theorem aR6: ∀{h:aa} {id j:Nat} {es:List (AV×AV)},mapOf (h.set id (some (.map es))) j=if j=id then some es else mapOf h j:=by intro h id j es;unfold mapOf aa.set;by_cases e:j=id<;>simp[e]
theorem aR5: ∀{h:aa} {n b:Nat},mapOf (h.clean n) b=if b<h.next then mapOf h b else none:=by intro h n b;unfold mapOf aa.clean;by_cases e:b<h.next<;>simp[e]
theorem aR4:bt (.Hx x) ρ h=(Cu (x.ev ρ)).map fun(n:Nat)=>AV.int .i64 n:=by rfl
theorem aR3 {i:aJ}:bt (.OY x i) ρ h=Bx (x.ev ρ) (i.ev ρ):=by rfl
theorem aR2:bt (.wI sz x y) ρ h=Co sz h (x.ev ρ) (y.ev ρ):=by rfl
theorem aR1:Cu .cJ=some 0:=by rfl
theorem aR0:Cu (.vs xs .full)=some xs.length:=by rfl
theorem aRZ:Cu (.rk b o n s c)=some c:=by rfl
theorem aRY:jV (.rk b o n s c)=some n:=by rfl
theorem aRX:AV.one (.rk b o n s c)=true:=by rfl
theorem aRW:AV.cells (.rk b o n s c)=[.rk b o n s c]:=by rfl
theorem aRV {s:ByteArray} {i:Int}:Bx (.str s) (.int k i)=if 0<=i then(s[i.toNat]?).map fun b=>AV.int .u8 b.toNat else none:=by rfl
theorem aRU:vY sz n h (.vs xs t)=if bQ sz xs=true then some (xs.take n) else none:=by rfl
theorem aRT:jV .vz=some 0:=by rfl
theorem aRS:ef sz h .vz=some []:=by rfl
theorem aRR:ef sz h .cJ=some []:=by rfl
theorem aRQ:lF 1 .vz=some false:=by rfl
theorem aRP:lF 1 (.rk b o n s c)=some false:=by rfl
theorem aRO {a b:Int}:bH tb .add (.int k a) (.int k b)=some (.int k (k.wrap (a+b))):=by simp[bH,pH]
theorem aRN {a b:Int}:bH tb .sub (.int k a) (.int k b)=some (.int k (k.wrap (a-b))):=by simp[bH,pH]
theorem aRM {a b:Int}:bH tb .mul (.int k a) (.int k b)=some (.int k (k.wrap (a*b))):=by simp[bH,pH]
theorem aRL {a b:Int}:bH tb .quo (.int k a) (.int k b)=if b=0 then none else some (.int k (k.wrap (a.tdiv b))):=by simp[bH,pH]
theorem aRK {a b:Int}:bH tb .rem (.int k a) (.int k b)=if b=0 then none else some (.int k (a.tmod b)):=by simp[bH,pH]
theorem aRJ {a b:Int}:bH tb .eql (.int k a) (.int k b)=some (.bool (decide (a=b))):=by simp[bH,pH]<;>rfl
theorem aRI {a b:Int}:bH tb .lss (.int k a) (.int k b)=some (.bool (decide (a<b))):=by simp[bH,pH]<;>rfl
theorem aRH {a b:Int}:bH tb .leq (.int k a) (.int k b)=some (.bool (decide (a<=b))):=by simp[bH,pH]<;>rfl
theorem aRG {a b:Int}:bH tb .gtr (.int k a) (.int k b)=some (.bool (decide (b<a))):=by simp[bH,pH]<;>rfl
theorem aRF {a b:Int}:bH tb .geq (.int k a) (.int k b)=some (.bool (decide (b<=a))):=by simp[bH,pH]<;>rfl
theorem aRE: ∀{tb:Bool} {k:IntKind} {a b:Int},bH tb .neq (.int k a) (.int k b)=some (.bool (decide (¬a=b))):=by intros tb k a b;simp only[bH,pH,dP];by_cases h:a=b<;>simp[h]
theorem aRD {a b:Bool}:bH true .eql (.bool a) (.bool b)=some (.bool (a==b)):=by rfl
theorem aRC {a b:Bool}:bH true .neq (.bool a) (.bool b)=some (.bool (!(a==b))):=by rfl
theorem aRB {a b:Int}:bH tb .shl (.int k a) (.int k' b)=if b<0 then none else some (.int k (k.wrap (a*2^(min b.toNat k.bits)))):=by rfl
theorem aRA {a b:Int}:bH tb .shr (.int k a) (.int k' b)=if b<0 then none else some (.int k (a.fdiv (2^(min b.toNat k.bits)))):=by rfl
theorem aRz {b:Bool}:Ih .not (.bool b)=some (.bool !b):=by rfl
theorem aRy {n:Int}:Ih .neg (.int k n)=some (.int k (k.wrap (0-n))):=by rfl
theorem aRx {n:Int}:Jb k (.int k' n)=some (.int k (k.wrap n)):=by rfl
theorem aRw {c:Bool} {a b:AV}:RG (.bool c) a b=some (if c=true then a else b):=by rfl
theorem aRv:jV (.vs xs t)=some xs.length:=by rfl
theorem aRu:jV .cJ=some 0:=by rfl
theorem aRt:jV (.rs b o n s)=some n:=by rfl
theorem aRs: ∀{sz:Nat} {xs:List (List AV)} {t:aL} {k:IntKind} {i:Int},kj sz (.vs xs t) (.int k i)=if 0<=i then(xs[i.toNat]?).bind (fun row=>if row.length=sz then some (.vp row 0) else none) else none:=by intros sz xs t k i;simp only[kj];by_cases hi:0<=i<;>simp only[hi,dP,fj]<;>cases xs[i.toNat]?<;>rfl
theorem aRr {i:Int}:kj sz (.rs b off len aX) (.int k i)=if 0<=i then(if aX=sz/\i<len then some (.ptr b (off+i.toNat*sz)) else none) else none:=by rfl
theorem aRq {i:Int}:Fp sz len (.ptr b o) (.int k i)=if 0<=i/\i<len then some (.ptr b (o+i.toNat*sz)) else none:=by rfl
theorem aRp {xs:List AV} {i:Int}:Fp sz len (.vp xs o) (.int k i)=if 0<=i/\i<len then some (.vp xs (o+i.toNat*sz)) else none:=by rfl
theorem aRo {i:Int}:Ki ag sz len (.agg cs) (.int k i)=if 0<=i/\i<len then cut ag sz (i.toNat*sz) cs else none:=by rfl
theorem aRn:FH off (.ptr b o)=some (.ptr b (o+off)):=by rfl
theorem aRm {xs:List AV}:FH off (.vp xs o)=some (.vp xs (o+off)):=by rfl
theorem aRl:LV ag sz off (.agg cs)=cut ag sz off cs:=by rfl
theorem aRk:cut false sz off cs=cs[off]?:=by rfl
theorem aRj:cut true sz off cs=if off+sz<=cs.length then some (.agg ((cs.drop off).take sz)) else none:=by rfl
theorem aRi:pC ag sz h (.ptr b o)=(cellsOf h b).bind (cut ag sz o):=by rfl
theorem aRh {xs:List AV}:pC ag sz h (.vp xs o)=cut ag sz o xs:=by rfl
theorem aRg: ∀{sz:Nat} {h:aa} {b o:Nat} {v:AV},Fw sz h (.ptr b o) v=(cellsOf h b).bind fun cs=>if v.cells.length=sz/\o+sz<=cs.length/\v.cells.all AV.one=true then some (.undef,h.set b (some (.cells (ew cs o v.cells)))) else none:=by intros sz h b o v;simp only[Fw];cases cellsOf h b<;>rfl
theorem aRf:LW i (.aE vs)=vs[i]?:=by rfl
theorem aRe:notNil (.ptr b o)=some (.ptr b o):=by rfl
theorem aRd {xs:List AV}:notNil (.vp xs o)=some (.vp xs o):=by rfl
theorem aRc {a b:List AV}:notNil (.fn f a b)=some (.fn f a b):=by rfl
theorem aRb:AV.cells (.agg cs)=cs:=by rfl
theorem aRa {n:Int}:AV.cells (.int k n)=[.int k n]:=by rfl
theorem aQ9 {b:Bool}:AV.cells (.bool b)=[.bool b]:=by rfl
theorem aQ8:AV.cells (.ptr b o)=[.ptr b o]:=by rfl
theorem aQ7:AV.cells (.vs xs t)=[.vs xs t]:=by rfl
theorem aQ6:AV.cells (.rs b o n s)=[.rs b o n s]:=by rfl
theorem aQ5 {m:Option Nat}:AV.cells (.map m)=[.map m]:=by rfl
theorem aQ4 {a b:List AV}:AV.cells (.fn f a b)=[.fn f a b]:=by rfl
theorem aQ3:AV.cells .nil=[.nil]:=by rfl
theorem aQ2:AV.cells .cJ=[.cJ]:=by rfl
theorem aQ1:AV.cells .jd=[.jd]:=by rfl
theorem aQ0 {n:Int}:AV.one (.int k n)=true:=by rfl
theorem aQZ {b:Bool}:AV.one (.bool b)=true:=by rfl
theorem aQY:AV.one (.ptr b o)=true:=by rfl
theorem aQX:AV.one (.vs xs t)=true:=by rfl
theorem aQW:AV.one (.rs b o n s)=true:=by rfl
theorem aQV {m:Option Nat}:AV.one (.map m)=true:=by rfl
theorem aQU {a b:List AV}:AV.one (.fn f a b)=true:=by rfl
theorem aQT:AV.one .nil=true:=by rfl
theorem aQS:AV.one .cJ=true:=by rfl
theorem aQR:AV.one .jd=true:=by rfl
theorem aQQ: ∀{h:aa} {b:Nat} {cs:List AV},h.get b=some (.cells cs)->cellsOf h b=some cs:=by intros h b cs e;simp[cellsOf,e]
theorem aQP: ∀{h:aa} {id j:Nat} {cs:List AV},cellsOf (h.at id (.cells cs)) j=if j=id then some cs else cellsOf h j:=by intro h id j cs;unfold cellsOf aa.at;by_cases e:j=id<;>simp[e]
theorem aQO: ∀{h:aa} {id j:Nat} {cs:List AV},cellsOf (h.set id (some (.cells cs))) j=if j=id then some cs else cellsOf h j:=by intro h id j cs;unfold cellsOf aa.set;by_cases e:j=id<;>simp[e]
theorem aQN: ∀{h:aa} {id j:Nat},cellsOf (h.at id .tail) j=if j=id then none else cellsOf h j:=by intro h id j;unfold cellsOf aa.at;by_cases e:j=id<;>simp[e]
theorem aQM: ∀{h:aa} {id j:Nat} {es:List (AV×AV)},cellsOf (h.at id (.map es)) j=if j=id then none else cellsOf h j:=by intro h id j es;unfold cellsOf aa.at;by_cases e:j=id<;>simp[e]
theorem aQL: ∀{h:aa} {id j:Nat} {es:List (AV×AV)},cellsOf (h.set id (some (.map es))) j=if j=id then none else cellsOf h j:=by intro h id j es;unfold cellsOf aa.set;by_cases e:j=id<;>simp[e]
theorem aQK: ∀{h:aa} {id j:Nat},cellsOf (h.set id none) j=if j=id then none else cellsOf h j:=by intro h id j;unfold cellsOf aa.set;by_cases e:j=id<;>simp[e]
theorem aQJ {b:lB}:(h.at id b).get j=if j=id then some b else h.get j:=by rfl
theorem aQI {b:Option lB}:(h.set id b).get j=if j=id then b else h.get j:=by rfl
theorem aQH {b:lB}:(h.at id b).next=max h.next (id+1):=by rfl
theorem aQG {b:Option lB}:(h.set id b).next=h.next:=by rfl
theorem aQF {x:AV}:tU mx ρ x []=some x:=by rfl
theorem aQE {x:AV} {ys:List aJ}:tU mx ρ x (y::ys)=(vu mx x (y.ev ρ)).bind fun z=>tU mx ρ z ys:=by rfl
theorem aQD: ∀{k:IntKind} {a b:Int},vu true (.int k a) (.int k b)=some (.int k (max a b)):=by intros k a b;simp only[vu,dP];congr 2;simp only[Int.max_def,gt_iff_lt];split<;>split<;>omega
theorem aQC: ∀{k:IntKind} {a b:Int},vu false (.int k a) (.int k b)=some (.int k (min a b)):=by intros k a b;simp only[vu,dP,nj,fj];congr 2;simp only[Int.min_def];split<;>split<;>omega
theorem aQB:pA ρ z []=some z:=by rfl
theorem aQA {ps:List (Nat×Nat×aJ)}:pA ρ z ((off,sz,x)::ps)=if(x.ev ρ).cells.length=sz/\off+sz<=z.length/\(x.ev ρ).cells.all AV.one=true then pA ρ (ew z off (x.ev ρ).cells) ps else none:=by rfl
theorem aQz {z:List (List AV)}:lK ρ sz z []=some z:=by rfl
theorem aQy {z:List (List AV)}:lK ρ sz z ((i,x)::ps)=if(x.ev ρ).cells.length=sz/\i<z.length/\(x.ev ρ).cells.all AV.one=true then lK ρ sz (z.set i (x.ev ρ).cells) ps else none:=by rfl
theorem aQx:Kr rs r h1 .normal ρ h↔(ft ρ h rs).map ja=some r/\h=h1:=Iff.rfl
theorem aQw:Kr rs r h1 .ret ρ h↔(ft ρ h rs).map ja=some r/\h=h1:=Iff.rfl
theorem aQv:Kh rs r h1 .normal ρ h↔(ft ρ h rs).map ja=some r/\ ∀b,b<h1.next->h.get b=h1.get b:=Iff.rfl
theorem aQu:Kh rs r h1 .ret ρ h↔(ft ρ h rs).map ja=some r/\ ∀b,b<h1.next->h.get b=h1.get b:=Iff.rfl
theorem aQt:lF 0 .nil=some true:=by rfl
theorem aQs:lF 0 (.ptr b o)=some false:=by rfl
theorem aQr {xs:List AV}:lF 0 (.vp xs o)=some false:=by rfl
theorem aQq:lF 1 .cJ=some true:=by rfl
theorem aQp:lF 1 (.rs b o n s)=some false:=by rfl
theorem aQo:lF 2 .qJ=some true:=by rfl
theorem aQn {a c:List AV}:lF 2 (.fn f a c)=some false:=by rfl
theorem aQm:lF 3 (.map none)=some true:=by rfl
theorem aQl:lF 3 (.map (some b))=some false:=by rfl
theorem aQk:ft ρ h []=some []:=by rfl
theorem aQj: ∀{ρ:Env} {h:aa} {t:Nat} {rs:List mQ},ft ρ h (.tmp t::rs)=(ft ρ h rs).map (ρ t:: ·):=by intro ρ h t rs;simp only[ft,C8];cases ft ρ h rs<;>rfl
theorem aQi: ∀{ρ:Env} {h:aa} {t sz:Nat} {ag:Bool} {rs:List mQ},ft ρ h (.cell t ag sz::rs)=(pC ag sz h (ρ t)).bind fun v=>(ft ρ h rs).map (v:: ·):=by intro ρ h t sz ag rs;simp only[ft,C8];cases pC ag sz h (ρ t)<;>cases ft ρ h rs<;>rfl
theorem aQh:ja []= .aE []:=by rfl
theorem aQg:ja [v]=v:=by rfl
theorem aQf {u:AV} {l:List AV}:ja (v::u::l)= .aE (v::u::l):=by rfl
theorem aQe:mK as i=as.getD i (.aE []):=by rfl
theorem aQd {a:AV} {l:List AV} {d:AV}:(a::l).getD 0 d=a:=by rfl
theorem aQc {a:AV} {l:List AV} {d:AV}:(a::l).getD (i+1) d=l.getD i d:=by rfl
theorem aQb {α β:Type} {f:α->Option β} {a:α}:(some a).bind f=f a:=by rfl
theorem aQa {α β:Type} {f:α->β} {a:α}:(some a).map f=some (f a):=by rfl
theorem aP9 {α:Type} {a b:α}:(some a=some b)↔a=b:=by exact Option.some_inj
theorem aP8 {α:Type} {a:α}:(some a=none)↔False:=by simp
theorem aP7 {α:Type} {a:α}:(none=some a)↔False:=by simp
theorem aP6 {α β:Type} {a c:α} {b d:β}:((a,b)=(c,d))↔a=c/\b=d:=by simp
theorem aP5 {α:Type} {p:α->Prop} {a:α}:(∃x,a=x/\p x)↔p a:=by simp
theorem aP4: ∀{α β:Type} {p:α->β->Prop} {a:α} {b:β},(∃x y,(a=x/\b=y)/\p x y)↔p a b:=by intro α β p a b;exact⟨fun⟨_,_,⟨e1,e2⟩,h⟩=>by subst e1;subst e2;exact h,fun h=>⟨_,_,⟨rfl,rfl⟩,h⟩⟩
theorem aP3:(0<=(n:Int))↔True:=by simp
theorem aP2:(n:Int).toNat=n:=by simp
theorem aP1:((n:Int)<0)↔False:=by simp
theorem aP0 {a:Nat}:((a:Int)<(b:Int))↔a<b:=by omega
theorem aPZ {a:Nat}:((a:Int)<=(b:Int))↔a<=b:=by omega
theorem aPY {a:Nat}:((a:Int)=(b:Int))↔a=b:=by omega
theorem aPX {α:Type} {a:α} {l:List α}:(a::l)[0]? =some a:=by rfl
theorem aPW {α:Type} {a:α} {l:List α}:(a::l)[i+1]? =l[i]?:=by rfl
theorem aPV {α:Type} {a:α} {l:List α}:(a::l).length=l.length+1:=by simp
theorem aPU {α:Type}:([]:List α).length=0:=by rfl
theorem aPT {p:AV->Bool} {a:AV} {l:List AV}:(a::l).all p=(p a&&l.all p):=by simp
theorem aPS {p:AV->Bool}:([]:List AV).all p=true:=by rfl
theorem aPR {α:Type} {l:List α}:List.take 0 l=[]:=by simp
theorem aPQ {α:Type} {a:α} {l:List α}:List.take (n+1) (a::l)=a::List.take n l:=by simp
theorem aPP {α:Type} {l:List α}:List.drop 0 l=l:=by simp
theorem aPO {α:Type} {a:α} {l:List α}:List.drop (n+1) (a::l)=List.drop n l:=by simp
theorem aPN {α:Type} {l:List α}:l++[]=l:=by simp
theorem aPM {α:Type} {l:List α}:[]++l=l:=by simp
theorem aPL {α:Type} {a:α} {l m:List α}:(a::l)++m=a::(l++m):=by simp
theorem aPK:ew cs off vs=cs.take off++vs++cs.drop (off+vs.length):=by rfl
theorem aPJ:(p/\True)↔p:=by simp
theorem aPI:(True/\p)↔p:=by simp
theorem aPH:(p/\False)↔False:=by simp
theorem aPG:(False/\p)↔False:=by simp
theorem aPF {q r:Prop}:((p/\q)/\r)↔p/\q/\r:=by exact and_assoc
theorem aPE: ∀{p:Prop} [Decidable p],(decide p=true)↔p:=by intros;exact decide_eq_true_iff
theorem aPD: ∀{p:Prop} [Decidable p],(decide p=false)↔ ¬p:=by intros;exact decide_eq_false_iff_not
theorem aPC: ∀{α:Sort 1} {p:Prop} [Decidable p] {a b:α},(if¬p then a else b)=if p then b else a:=by intros;simp
theorem aPB {α:Sort 1} {a b:α}:(if True then a else b)=a:=by exact ax trivial
theorem aPA {α:Sort 1} {a b:α}:(if False then a else b)=b:=by exact aj id
theorem aPz: ¬ ¬p↔p:=by exact Classical.not_not
theorem aPy:(¬True)↔False:=by exact not_true
theorem aPx:(¬False)↔True:=by exact not_false_iff
theorem aPw:(false=true)↔False:=by simp
theorem aPv:(true=false)↔False:=by simp
theorem aPu:(!true)=false:=by rfl
theorem aPt:(!false)=true:=by rfl
theorem aPs {b:Bool}:(true&&b)=b:=by simp
theorem aPr {b:Bool}:(b&&true)=b:=by simp
theorem aPq {b:Bool}:((!b)=true)↔b=false:=by simp
theorem aPp {b:Bool}:((!b)=false)↔b=true:=by simp
theorem aPo {a b:Bool}:((a&&b)=true)↔a=true/\b=true:=by simp
theorem aPn {α:Type} {a:α}:(a=a)↔True:=by simp
theorem aPm:((0:Nat):Int)=0:=by rfl
theorem aPl:((1:Nat):Int)=1:=by rfl
theorem aPk:max n (n+1)=n+1:=by omega
theorem aPj:0+n=n:=by exact rI _
theorem aPi:n+0=n:=by exact qG _
theorem aPh:(n<=n)↔True:=by simp
theorem aPg {q r:Prop}:(p/\q->r)↔(p->q->r):=by exact and_imp
theorem aPf:(False->p)↔True:=by simp
theorem aPe:(True->p)↔p:=by simp
theorem aPd:(p->True)↔True:=by simp
theorem aPc {α:Type}:(α->True)↔True:=by simp
theorem aPb:decide True=true:=by rfl
theorem aPa:decide False=false:=by rfl
def st:=aw (aw (aw (aw (aw (aw (aw (aw @amm @aK0) (aw @aMn (aw @aMm @aNJ))) (aw (aw @BK @zv) (aw @q7 (aw @aOU @aOV)))) (aw (aw (aw @aK1 @q11) (aw @q12 (aw @q13 @q14))) (aw (aw @q15 (aw @q16 @q17)) (aw @q18 (aw @q19 @q20))))) (aw (aw (aw (aw @q21 @tz) (aw @Ul (aw @q24 @aHS))) (aw (aw @q26 @aHU) (aw @q28 (aw @aHT @q30)))) (aw (aw (aw @q31 @aKz) (aw @aKC (aw @aKA @aKB))) (aw (aw @aJa (aw @Uk @aTD)) (aw @aTI (aw @aTG @aTH)))))) (aw (aw (aw (aw (aw @aTE @aOl) (aw @aM6 (aw @aNa @aM9))) (aw (aw @aNd @aM7) (aw @aNb (aw @aM8 @aNc)))) (aw (aw (aw @aLL @aLM) (aw @aKF (aw @aKH @aKG))) (aw (aw @q57 (aw @aTL @aOm)) (aw @aTN (aw @aTJ @aTK))))) (aw (aw (aw (aw @aTM @q64) (aw @q65 (aw @q66 @q67))) (aw (aw @q68 @q69) (aw @q70 (aw @q71 @q72)))) (aw (aw (aw @q73 @aKJ) (aw @aKm (aw @q76 @q77))) (aw (aw @aKI (aw @aKK @q80)) (aw @q81 (aw @q82 @aGC))))))) (aw (aw (aw (aw (aw (aw @q84 @q85) (aw @q86 (aw @q87 @q88))) (aw (aw @q89 @q90) (aw @q91 (aw @q92 @q93)))) (aw (aw (aw @q94 @q95) (aw @q96 (aw @q97 @q98))) (aw (aw @q99 (aw @aSK @aSJ)) (aw @aSI (aw @aSH @aSG))))) (aw (aw (aw (aw @aSF @aSE) (aw @aSD (aw @aSC @aSB))) (aw (aw @aSA @aSz) (aw @aSy (aw @aSx @aSw)))) (aw (aw (aw @aSv @aSu) (aw @aSt (aw @aSs @aSr))) (aw (aw @aSq (aw @aSp @aSo)) (aw @aSn (aw @aGO @aSm)))))) (aw (aw (aw (aw (aw @aJm @aSl) (aw @aSk (aw @aSj @aSi))) (aw (aw @aSh @aSg) (aw @aSf (aw @aSe @aSd)))) (aw (aw (aw @aFB @aFC) (aw @aGT (aw @aSc @aSb))) (aw (aw @aSa (aw @aR9 @aR8)) (aw @aR7 (aw @aR6 @aR5))))) (aw (aw (aw (aw @aR4 @aR3) (aw @aR2 (aw @aR1 @aR0))) (aw (aw @aRZ @aRY) (aw @aRX (aw @aRW @aRV)))) (aw (aw (aw @aJn @aJT) (aw @aJS (aw @aRU @aFW))) (aw (aw @aFV (aw @aH6 @aJq)) (aw @aGS (aw @aRT @aRS)))))))) (aw (aw (aw (aw (aw (aw (aw @aRR @aRQ) (aw @aRP (aw @aRO @aRN))) (aw (aw @aRM @aRL) (aw @aRK (aw @aRJ @aRI)))) (aw (aw (aw @aRH @aRG) (aw @aRF (aw @aRE @aRD))) (aw (aw @aRC (aw @aRB @aRA)) (aw @aRz (aw @aRy @aRx))))) (aw (aw (aw (aw @aRw @aRv) (aw @aRu (aw @aRt @aRs))) (aw (aw @aRr @aRq) (aw @aRp (aw @aRo @aRn)))) (aw (aw (aw @aRm @aRl) (aw @aRk (aw @aRj @aRi))) (aw (aw @aRh (aw @aRg @aRf)) (aw @aRe (aw @aRd @aRc)))))) (aw (aw (aw (aw (aw @aRb @aRa) (aw @aQ9 (aw @aQ8 @aQ7))) (aw (aw @aQ6 @aQ5) (aw @aQ4 (aw @aQ3 @aQ2)))) (aw (aw (aw @aQ1 @aQ0) (aw @aQZ (aw @aQY @aQX))) (aw (aw @aQW (aw @aQV @aQU)) (aw @aQT (aw @aQS @aQR))))) (aw (aw (aw (aw @aQQ @aQP) (aw @aQO (aw @aQN @aQM))) (aw (aw @aQL @aQK) (aw @aQJ (aw @aQI @aQH)))) (aw (aw (aw @aQG @aQF) (aw @aQE (aw @aQD @aQC))) (aw (aw @aQB (aw @aQA @aQz)) (aw @aQy (aw @aQx @aQw))))))) (aw (aw (aw (aw (aw (aw @aQv @aQu) (aw @aQt (aw @aQs @aQr))) (aw (aw @aQq @aQp) (aw @aQo (aw @aQn @aQm)))) (aw (aw (aw @aQl @aQk) (aw @aQj (aw @aQi @aQh))) (aw (aw @aQg (aw @aQf @aQe)) (aw @aQd (aw @aQc @aQb))))) (aw (aw (aw (aw @aQa @aP9) (aw @aP8 (aw @aP7 @aP6))) (aw (aw @aP5 @aP4) (aw @aP3 (aw @aP2 @aP1)))) (aw (aw (aw @aP0 @aPZ) (aw @aPY (aw @aPX @aPW))) (aw (aw @aPV (aw @aPU @aPT)) (aw @aPS (aw @aPR @aPQ)))))) (aw (aw (aw (aw (aw @aPP @aPO) (aw @aPN (aw @aPM @aPL))) (aw (aw @aPK @aPJ) (aw @aPI (aw @aPH @aPG)))) (aw (aw (aw @aPF @aPE) (aw @aPD (aw @aPC @aPB))) (aw (aw @aPA (aw @aPz @aPy)) (aw @aPx (aw @aPw @aPv))))) (aw (aw (aw (aw @aPu @aPt) (aw @aPs (aw @aPr @aPq))) (aw (aw @aPp @aPo) (aw @aPn (aw @aPm @aPl)))) (aw (aw (aw @aPk @aPj) (aw @aPi (aw @aPh @aPg))) (aw (aw @aPf (aw @aPe @aPd)) (aw @aPc (aw @aPb @aPa))))))))
end
end
section
open Go
section
variable {P:Program}
def aio (hu:P.underlying t=some (.int k)) (h:Hd P f t as): ∃n,as=[.int k n]/\(Lit.int k n).wf=true:=by
 cases f with
 |zero=>exact h.elim
 |succ f=>unfold Hd at h;rw[hu] at h;exact h
def aM0 (hu:P.underlying t=some (.int k)) (h:Bb P t a): ∃n,a= .int k n/\(Lit.int k n).wf=true:=by
 obtain⟨f,h⟩:=h.akg hu rfl
 obtain⟨n,h1,h2⟩:=aio hu h
 cases h1
 exact⟨n,rfl,h2⟩
def awB (h:(Lit.int .u8 n).wf=true):0<=n/\n<256:=by
 have h1:IntKind.min .u8=0:=rfl
 have h2:IntKind.max .u8=255:=by decide
 simp[Lit.wf,h1,h2] at h
 omega
def aUx (hu:P.underlying t=some (.int .u8)) (h:Bb P t a): ∃n:Nat,n<256/\a= .int .u8 n:=by
 obtain⟨n,rfl,h2⟩:=aM0 hu h
 have:=awB h2
 exact⟨n.toNat,by omega,by rw[Int.toNat_of_nonneg this.1]⟩
def aFh (hu:P.underlying t=some (.slice e)) (h:Hd P f t as): ∃xs,as=[.vs xs .au]/\xs.length<=maxLen/\ ∃f,∀row∈xs,Hd P f e row/\row.all AV.one=true:=by
 cases f with
 |zero=>exact h.elim
 |succ f=>unfold Hd at h;rw[hu] at h;obtain⟨xs,h1,h2,h3⟩:=h;exact⟨xs,h1,h2,f,h3⟩
def aKw (hu:P.underlying t=some (.slice e)) (h:Bb P t a): ∃xs,a= .vs xs .au/\xs.length<=maxLen/\ ∃f,∀row∈xs,Hd P f e row/\row.all AV.one=true:=by
 obtain⟨f,h⟩:=h.akg hu rfl
 obtain⟨xs,h1,h2⟩:=aFh hu h
 cases h1
 exact⟨xs,rfl,h2⟩
theorem aja {α β:Type} {f:α->β} {p:α->Prop}: ∀{l:List β},(∀x∈l,∃a,x=f a/\p a)-> ∃m:List α,l=m.map f/\ ∀a∈m,p a
 |[],_=>⟨[],rfl,by simp⟩
 |x::xs,h=>by
  obtain⟨a,rfl,ha⟩:=h x (by simp)
  obtain⟨m,rfl,hm⟩:=aja (l:=xs) (fun y hy=>h y (eH _ hy))
  exact⟨a::m,rfl,fun b hb=>by rcases List.mem_cons.1 hb with rfl|hb;exact ha;exact hm b hb⟩
def aUg (hu:P.underlying t=some (.slice e)) (he:P.underlying e=some (.int k)) (h:Bb P t a):
 ∃ns:List Int,a= .vs (ns.map fun n=>[.int k n]) .au/\ns.length<=maxLen/\ ∀n∈ns,(Lit.int k n).wf=true:=by
 obtain⟨xs,rfl,h1,f,h2⟩:=aKw hu h
 obtain⟨m,rfl,hm⟩:=aja (f:=fun n=>[AV.int k n]) (p:=fun n=>(Lit.int k n).wf=true) (fun row hr=>aio he (h2 row hr).1)
 exact⟨m,rfl,by simpa using h1,hm⟩
end
end
section
open Go
section
variable {P:Program}
def al.strip (hc:al P f args h r h'):al P f args h r.strip h':=by
 intro ι I w cU H hl
 refine(hc ι I w cU H hl).mono ?_
 rintro e w' ⟨v,ι',I',rfl,hv,H',E⟩
 exact⟨v,ι',I',rfl,hv.strip,H',E⟩
def al.freeze (hc:al P f args h r h') (hg:h'.get b=some (.cells cs)) (hb:h.next<=b)
 (hr:(AV.gE b cs r).bD (fun i=>i !=b)=true):al P f args h (AV.gE b cs r) (h'.set b none):=by
 intro ι I w cU H hl
 refine(hc ι I w cU H hl).mono ?_
 rintro e w' ⟨v,ι',I',rfl,hv,H',E⟩
 cases dH:ι' b with
 |none=>
  have nR:VR ι' I' w' (AV.gE b cs r) v:=by
   clear hr hc
   induction hv with
   |rs b' off len sz ke o' vZ cap h1 h2 h3=>
    unfold AV.gE
    by_cases pR:b'=b
    ·grind
    ·rw[aj pR];exact .rs b' off len sz ke o' vZ cap h1 h2 h3
   |rk b' off len sz cap ke o' vZ h1 h2 h3=>
    unfold AV.gE
    by_cases pR:b'=b
    ·grind
    ·rw[aj pR];exact .rk b' off len sz cap ke o' vZ h1 h2 h3
   |agg xs As hl hv ih=>exact .agg _ _ (by rw[IK];exact hl) (fun i v c h1 h2=>by obtain⟨u,e1,rfl⟩:=IL h1;grind)
   |aE xs As hl hv ih=>exact .aE _ _ (by rw[IK];exact hl) (fun i v c h1 h2=>by obtain⟨u,e1,rfl⟩:=IL h1;grind)
   |vs xs t ke o' s cap g hs hI hc hv h1 bY ht ih=>exact .vs xs t ke o' s cap g hs hI hc hv h1 bY ht
   |jA t ht=>exact .jA t ht
   |jq t a cap ht=>exact .jq t a cap ht
   |undef v=>exact .undef v
   |int k n=>exact .int k n
   |bool b=>exact .bool b
   |eW k b=>exact .eW k b
   |fT k a b=>exact .fT k a b
   |str s=>exact .str s
   |nil=>exact .nil
   |ptr b off cb o room h=>exact .ptr b off cb o room h
   |vp xs off ke o' g hI hc hv h1 ih=>exact .vp xs off ke o' g hI hc hv h1
   |cJ=>exact .cJ
   |vz a cap=>exact .vz a cap
   |vB=>exact .vB
   |map b cb h=>exact .map b cb h
   |fn f fs cs gD b8 hf hc h1 h2 iX oT=>exact .fn f fs cs gD b8 hf hc h1 h2
   |qJ=>exact .qJ
   |jd v h=>exact .jd v h
  have bB: ∀i l x,ι' i=some l->(h'.set b none).get i=some x->h'.get i=some x:=fun i l x hi hx=>by
   have:i≠b:=fun e=>by grind
   simpa [aa.set,this] using hx
  refine⟨v,ι',I',rfl,nR,?_,?_⟩
  ·exact{dI:=H'.dI,inside:=H'.inside,cells:=fun i cs l hg hi=>H'.cells i cs l (bB i l _ hi hg) hi,maps:=fun i es l hg hi=>H'.maps i es l (bB i l _ hi hg) hi,iE:=fun i l hg hi=>H'.iE i l (bB i l _ hi hg) hi
         eN:=fun i j l l' x x' k j' aT hi hj hg dz=>H'.eN i j l l' x x' k j' aT hi hj (bB i l _ hi hg) (bB j l' _ hj dz)
         bZ:=fun i l x k j hi hg=>H'.bZ i l x k j hi (bB i l _ hi hg),eP:=H'.eP,pl:=fun i cs cb o room hg hi=>H'.pl i cs cb o room (bB i _ _ hi hg) hi}
  ·exact{E with
         own:=fun k j ⟨i,l,x,hi,hg,hl⟩=>E.own k j ⟨i,l,x,hi,bB i l _ hi hg,hl⟩
         lost:=fun i hn hi=>by
          have:i≠b:=by omega
          simp only[aa.set,this,fj];exact E.lost i hn hi}
 |some l=>
  obtain⟨cb,o,room,rfl,_,_,_⟩:=H'.cells b cs l hg dH
  have nR:=hv.gE H' hg dH
  have bB: ∀i x,(h'.set b none).get i=some x->i≠b/\h'.get i=some x:=fun i x hx=>by
   by_cases wW:i=b
   ·subst wW;simp[aa.set] at hx
   ·exact⟨wW,by simpa [aa.set,wW] using hx⟩
  have kI: ∀a c,VR ι' I' w' a c->VR ι' (D4 I' cb o room) w' a c:=fun a c h=>h.mono (fun _ _ h=>h) (fun _ _ h=> .inl h) (fun _ _ _=>rfl)
  refine⟨v,ι',D4 I' cb o room,rfl,nR,?_,?_⟩
  ·exact
   {dI:=H'.dI,inside:=H'.inside
    cells:=fun i cs l hg hi=>by
     obtain⟨ke,o',vZ,e1,e2,e3,e4⟩:=H'.cells i cs l (bB i _ hg).2 hi
     grind
    maps:=fun i es l hg hi=>by
     obtain⟨ke,bE,clock,e1,e2,e3,e4⟩:=H'.maps i es l (bB i _ hg).2 hi
     grind
    iE:=fun i l hg hi=>H'.iE i l (bB i _ hg).2 hi
    eN:=fun i j l l' x x' k j' aT hi hj hg dz=>H'.eN i j l l' x x' k j' aT hi hj (bB i _ hg).2 (bB j _ dz).2
    bZ:=fun i l x k j hi hg hl hk=>by
     rcases hk with hk|⟨rfl,h1,h2⟩
     ·exact H'.bZ i l x k j hi (bB i _ hg).2 hl hk
     ·exact H'.eN i b l _ x _ k j (bB i _ hg).1 hi dH (bB i _ hg).2 ‹_› hl rfl
    eP:=fun k j hk=>by
     rcases hk with hk|⟨rfl,_,_⟩
     ·exact H'.eP k j hk
     ·exact H'.inside b _ dH
    pl:=fun i cs cb o room hg hi=>H'.pl i cs cb o room (bB i _ hg).2 hi}
  ·exact{E with
         bZ:=fun k j h=> .inl (E.bZ k j h)
         own:=fun k j ⟨i,l,x,hi,hg,hl⟩=>E.own k j ⟨i,l,x,hi,(bB i _ hg).2,hl⟩
         jW:=fun k j hk=>by
          rcases hk with hk|⟨rfl,h1,h2⟩
          ·exact E.jW k j hk
          ·rcases E.own k j ⟨b,_,_,dH,‹_›,rfl⟩ with h|h
           ·grind
           omega
         lost:=fun i hn hi=>by
          have:i≠b:=by omega
          simp only[aa.set,this,fj];exact E.lost i hn hi}
end
end
section
open Go
section
variable {α:Type}
theorem Fj: ∀{rows:List (List α)},(∀r∈rows,r.length=sz)->rows.flatten.length=rows.length*sz
 |[],_=>by simp
 |r::rs,h=>by
  have h0:=h r (by simp)
  have:=Fj (rows:=rs) (fun x hx=>h x (eH _ hx))
  grind
theorem zj: ∀{rows:List (List α)} {i j:Nat} {row:List α},(∀r∈rows,r.length=sz)->rows[i]? =some row->j<sz->rows.flatten[i*sz+j]? =row[j]?
 |[],i,j,row,_,h,_=>by simp at h
 |r::rs,0,j,row,hl,h,hj=>by
  grind
 |r::rs,i+1,j,row,hl,h,hj=>by
  have h0:=hl r (by simp)
  have ih:=zj (rows:=rs) (i:=i) (j:=j) (row:=row) (fun x hx=>hl x (eH _ hx)) (by simpa using h) hj
  grind
theorem akC: ∀{rows:List (List α)} {i:Nat} {row:List α},(∀r∈rows,r.length=sz)->rows[i]? =some row->(rows.flatten.drop (i*sz)).take sz=row
 |[],i,row,_,h=>by simp at h
 |r::rs,0,row,hl,h=>by
  grind
 |r::rs,i+1,row,hl,h=>by
  have h0:=hl r (by simp)
  have ih:=akC (rows:=rs) (i:=i) (row:=row) (fun x hx=>hl x (eH _ hx)) (by simpa using h)
  simp only[mG]
  rw[show(i+1)*sz=r.length+i*sz by grind,B5,xY (by omega),Nat.add_sub_cancel_left,kF]
  exact ih
theorem IM: ∀{rows:List (List α)} {i j:Nat} {row v:List α},(∀r∈rows,r.length=sz)->rows[i]? =some row->j+v.length<=sz->
 rows.flatten.take (i*sz+j)++v++rows.flatten.drop (i*sz+j+v.length)=(rows.set i (row.take j++v++row.drop (j+v.length))).flatten
 |[],i,j,row,v,_,h,_=>by simp at h
 |r::rs,0,j,row,v,hl,h,hj=>by
  grind
 |r::rs,i+1,j,row,v,hl,h,hj=>by
  have h0:=hl r (by simp)
  have ih:=IM (rows:=rs) (i:=i) (j:=j) (row:=row) (v:=v) (fun x hx=>hl x (eH _ hx)) (by simpa using h) hj
  simp only[mG,List.set_cons_succ]
  rw[<-ih]
  have e1:(i+1)*sz+j=r.length+(i*sz+j):=by grind
  rw[e1,List.take_append,bX (by omega),Nat.add_sub_cancel_left]
  rw[show r.length+(i*sz+j)+v.length=r.length+(i*sz+j+v.length) by omega,B5,xY (by omega),Nat.add_sub_cancel_left]
  grind
end
section
variable {P:Program}
def aA.calls (ok:aA P T) (hf:T.fn f=some rf) (iR:args.length<=rf.ntmps)
 (hw:WP P rf.code (Kr rf.results r h1) (mK args) h):al P f args h r h1:=by
 obtain⟨fn,md,h2,h3⟩:=ok.fn f rf hf
 exact aFX ok.follow h2 h3 iR hw
def aA.keeps (ok:aA P T) (hf:T.fn f=some rf) (iR:args.length<=rf.ntmps)
 (hr:r.bD (fun b=>decide (b<h.next))=true) (hw:WP P rf.code (Kh rf.results r h) (mK args) h):al P f args h r h:=by
 obtain⟨fn,md,h2,h3⟩:=ok.fn f rf hf
 exact aGU ok.follow h2 h3 iR hr hw
def aq (e:h.get b=some (.cells cs)):cellsOf h b=some cs:=by simp[cellsOf,e]
def aa.jy {h:aa} (e:h.get b=x):h.set b x=h:=by
 unfold aa.set
 have:(fun i=>if i=b then x else h.get i)=h.get:=by grind
 rw[this]
def IP (Q:Env->Prop) (h1:exec P az ρ h (fun ρ' h'=>Q ρ'/\h'=h)) (h2: ∀ρ',Q ρ'->K ρ' h):exec P az ρ h K:=
 Wm (fun ρ' h' ⟨e1,e2⟩=>by grind) h1
def um (rs:List mQ) (r:AV) (h0:aa):cC->Env->aa->Prop
 | .normal,ρ,h=> ∃r0,(ft ρ h rs).map ja=some r0/\r0.strip=r/\ ∀b,b<h0.next->h.get b=h0.get b
 | .ret,ρ,h=> ∃r0,(ft ρ h rs).map ja=some r0/\r0.strip=r/\ ∀b,b<h0.next->h.get b=h0.get b
 |_,_,_=>False
theorem aV:um rs r h0 .ret ρ h↔ ∃r0,(ft ρ h rs).map ja=some r0/\r0.strip=r/\ ∀b,b<h0.next->h.get b=h0.get b:=Iff.rfl
def aA.df (ok:aA P T) (hf:T.fn f=some rf) (iR:args.length<=rf.ntmps)
 (hr:r.bD (fun b=>decide (b<h.next))=true) (hw:WP P rf.code (um rf.results r h) (mK args) h):al P f args h r h:=by
 obtain⟨fn,md,h2,h3⟩:=ok.fn f rf hf
 obtain⟨e,ρ',h',hb,hk⟩:=hw
 cases e with
 |normal=>
  obtain⟨r0,hv,hs,hh⟩:=hk
  obtain⟨vs,hv,ht⟩:=Option.map_eq_some_iff.1 hv
  have:=(ve ok.follow h2 h3 iR hb (.inl rfl) hv).strip
  rw[ht,hs] at this
  exact this.restore hh hr
 |ret=>
  obtain⟨r0,hv,hs,hh⟩:=hk
  obtain⟨vs,hv,ht⟩:=Option.map_eq_some_iff.1 hv
  have:=(ve ok.follow h2 h3 iR hb (.inr rfl) hv).strip
  rw[ht,hs] at this
  exact this.restore hh hr
 |exit id=>exact hk.elim
 |goto l=>exact hk.elim
def Cd (rs:List mQ) (r:AV) (Q:aa->Prop):cC->Env->aa->Prop
 | .ret,ρ,h=>(ft ρ h rs).map ja=some r/\Q h
 | .normal,ρ,h=>(ft ρ h rs).map ja=some r/\Q h
 |_,_,_=>False
theorem pq:Cd rs r Q .ret ρ h↔(ft ρ h rs).map ja=some r/\Q h:=Iff.rfl
def aA.aNg (ok:aA P T) (hf:T.fn f=some rf) (iR:args.length<=rf.ntmps)
 (hw:WP P rf.code (Cd rf.results r Q) (mK args) h): ∃h',al P f args h r h'/\Q h':=by
 obtain⟨fn,md,h2,h3⟩:=ok.fn f rf hf
 obtain⟨e,ρ',h',hb,hk⟩:=hw
 cases e with
 |normal=>
  obtain⟨hv,hq⟩:=hk
  obtain⟨vs,El,rfl⟩:=Option.map_eq_some_iff.1 hv
  exact⟨h',ve ok.follow h2 h3 iR hb (.inl rfl) El,hq⟩
 |ret=>
  obtain⟨hv,hq⟩:=hk
  obtain⟨vs,El,rfl⟩:=Option.map_eq_some_iff.1 hv
  exact⟨h',ve ok.follow h2 h3 iR hb (.inr rfl) El,hq⟩
 |exit id=>exact hk.elim
 |goto l=>exact hk.elim
def aG0 (l) (hf:jw c l=some (.seq .skip body)) (J:Nat->Env->aa->Prop) (il: ∀l' ρ h,K (.goto l') ρ h->False)
 (pass: ∀n ρ h,J n ρ h->WP P body (pz l (fun ρ' h'=> ∃m,m<n/\J m ρ' h') K) ρ h) (hJ:J n ρ h):WP P body (pz l (fun ρ' h'=> ∃m,J m ρ' h') K) ρ h:=
 (pass n ρ h hJ).mono (fun e ρ h hk=>by
   cases e with
   |goto l'=>
    simp only[pz] at hk ⊢
    grind
   |normal=>exact hk
   |exit id=>exact hk
   |ret=>exact hk)
def aK4 {J:Nat->Env->aa->Prop} (pass: ∀n ρ h,J n ρ h->WP P body (pz l (fun ρ' h'=> ∃m,m<n/\J m ρ' h') K) ρ h):
 ∀n ρ h,J n ρ h->WP P (.seq .skip body) (pz l (fun ρ' h'=> ∃m,m<n/\J m ρ' h') K) ρ h:=fun n ρ h hJ=>Oq (ajY (pass n ρ h hJ))
def Nz:cO->Nat->Option (List cO×cO)
 | .seq a b,l=>match a with
   | .label l'=>match Nat.beq l' l with
     |true=>some ([],b)
     |false=>none
   |a=>match Nz b l with
    |some (i,c)=>some (a::i,c)
    |none=>none
 |_,_=>none
def WO (l:Nat) (inits:List cO):Bool:=inits.all fun c=>(jw c l).isNone
def pE (inits:List cO):cO:=inits.foldr .seq .skip
theorem ahI: ∀{inits:List cO} {c:cO},Nz c l=some (inits,body)->WO l inits=true->jw c l=some (.seq .skip body)/\c=inits.foldr .seq (.seq (.label l) body)
 |inits, .seq a b,hs,hn=>by
  unfold Nz at hs
  split at hs
  ·split at hs
   ·rename_i l' hb
    cases hs
    have:=Nat.eq_of_beq_eq_true hb
    subst this
    exact⟨by simp[jw],rfl⟩
   ·cases hs
  ·rename_i aT
   split at hs
   ·rename_i i c CE
    cases hs
    simp only[WO,List.all_cons,fV] at hn
    obtain⟨h1,h2⟩:=ahI (inits:=i) (c:=b) CE hn.2
    refine⟨?_,by rw[h2];rfl⟩
    simp only[jw]
    grind
   ·cases hs
def ry (l) (hs:Nz c l=some (inits,body)) (hn:WO l inits=true) (J:Nat->Env->aa->Prop) (il: ∀l' ρ h,K (.goto l') ρ h->False)
 (first:WP P (pE inits) (iD (fun ρ' h'=> ∃n,J n ρ' h') K) ρ h) (pass: ∀n ρ h,J n ρ h->WP P body (pz l (fun ρ' h'=> ∃m,m<n/\J m ρ' h') K) ρ h):WP P (.scope c) K ρ h:=by
 obtain⟨hf,hc⟩:=ahI hs hn
 refine aFo l hf J il ?_ (aK4 pass)
 rw[hc]
 clear hs hn hc
 induction inits generalizing ρ h with
 |nil=>
  obtain⟨n,hJ⟩:=(amm.1 first: ∃n,J n ρ h)
  exact Oq (aji (aG0 l hf J il pass hJ))
 |cons a i ih=>
  have first':WP P a (iD (WP P (pE i) (iD (fun ρ' h'=> ∃n,J n ρ' h') K)) (iD (fun ρ' h'=> ∃n,J n ρ' h') K)) ρ h:=zv.1 first
  refine Oq (first'.mono (fun e ρ h hk=>?_))
  cases e with
  |normal=>exact ih hk
  |goto l'=>exact(il l' ρ h hk).elim
  |exit id=>exact hk
  |ret=>exact hk
def bj (h0: -(2^62)<=n) (h1:n<2^62):IntKind.wrap .i64 n=n:=by
 rw[IntKind.wrap_i64];omega
def x8 {n:Nat} (h1:n<2^62):IntKind.wrap .i64 (n:Int)=n:=bj (by omega) (by omega)
def dj {n:Nat} (h1:n<2^61):IntKind.wrap .i64 ((n:Int)+1)=((n+1:Nat):Int):=by rw[bj]<;>omega
def eo {n:Nat} (h1:n<2^64):IntKind.wrap .u64 (n:Int)=n:=by
 rw[IntKind.wrap];simp[IntKind.signed,IntKind.bits];omega
end
end
section
open Go
abbrev t (n:Nat):aJ:= .tmp n
abbrev z (n:Int):aJ:= .const (.int .i64 n)
abbrev kb (b:Bool):aJ:= .const (.bool b)
abbrev u8 (n:Int):aJ:= .const (.int .u8 n)
abbrev u16 (n:Int):aJ:= .const (.int .u16 n)
abbrev u64 (n:Int):aJ:= .const (.int .u64 n)
abbrev p (d:Nat) (q:eh):RO:=⟨some d,none, .p q⟩
abbrev m (d s:Nat):RO:=⟨some d,none, .p (.tB (.tmp s))⟩
abbrev b (d:Nat) (op:BinOp) (x y:aJ):RO:=⟨some d,none, .p (.bin false op x y)⟩
abbrev fa (d off s:Nat):RO:=⟨some d,none, .p (.GW off (.tmp s))⟩
abbrev ld (d s:Nat):RO:=⟨some d,none, .p (.load false 1 (.tmp s))⟩
abbrev la (d n s:Nat):RO:=⟨some d,none, .p (.load true n (.tmp s))⟩
abbrev ia (d n s i:Nat):RO:=⟨some d,none, .p (.FD n (.tmp s) (.tmp i))⟩
abbrev ln (d s:Nat):RO:=⟨some d,none, .p (.LA (.tmp s))⟩
abbrev ex (d i s:Nat):RO:=⟨some d,none, .p (.ext i (.tmp s))⟩
abbrev gp (d g:Nat) (w:Bool) (q:eh):RO:=⟨some d,some (g,w), .p q⟩
abbrev gm (d g:Nat) (w:Bool) (s:Nat):RO:=⟨some d,some (g,w), .p (.tB (.tmp s))⟩
abbrev gb (d g:Nat) (w:Bool) (op:BinOp) (x y:aJ):RO:=⟨some d,some (g,w), .p (.bin false op x y)⟩
abbrev gfa (d g:Nat) (w:Bool) (off s:Nat):RO:=⟨some d,some (g,w), .p (.GW off (.tmp s))⟩
abbrev gld (d g:Nat) (w:Bool) (s:Nat):RO:=⟨some d,some (g,w), .p (.load false 1 (.tmp s))⟩
abbrev gia (d g:Nat) (w:Bool) (n s i:Nat):RO:=⟨some d,some (g,w), .p (.FD n (.tmp s) (.tmp i))⟩
abbrev gc (d g:Nat) (w:Bool) (f:Nat) (as:List aJ):RO:=⟨some d,some (g,w), .call f as⟩
abbrev s1 (a v:aJ):RO:=⟨none,none, .e (.store 1 a v)⟩
abbrev sn (n:Nat) (a v:aJ):RO:=⟨none,none, .e (.store n a v)⟩
abbrev c (d f:Nat) (as:List aJ):RO:=⟨some d,none, .call f as⟩
abbrev c0 (f:Nat) (as:List aJ):RO:=⟨none,none, .call f as⟩
abbrev e (d:Nat) (o:rq):RO:=⟨some d,none, .e o⟩
abbrev a (d:Nat) (o:Bc):RO:=⟨some d,none, .a o⟩
end
section
open Go
variable {P:Program} {T:qx} {h:aa}
def sC (z:List AV) (rn sz:Nat):jc:=⟨(.seq (.cA [p 2 (.tB (.const (.vs [] .full)))]) (.seq (.seq (.cA [m 3 0,p 4 (.GX 1 false (t 3))]) (.cond (t 4) (.seq (.cA [p 2 (.tB (.const (.vs [] .full)))]) .ret) .skip)) (.seq (.cA [p 5 (.Gg 0 z []),m 6 0,e 7 (.append rn sz (t 5) (t 6)),m 2 7]) .ret))),8,[.tmp 2]⟩
def aHV (ok:aA P T) {z:List AV} (hf:T.fn f=some (sC z rn sz)):al P f [.cJ] h (.vs [] .full) h:=by
 refine ok.calls hf (by simp[sC]) ?_
 simp+decide only[st,sC]
def aKP (ok:aA P T) {z:List AV} (hf:T.fn f=some (sC z rn sz)):al P f [.vz] h (.vs [] .full) h:=by
 refine ok.calls hf (by simp[sC]) ?_
 have h0:lK (put (put (put (put (mK [AV.vz]) (some 2) (.vs [] .full)) (some 3) .vz) (some 4) (.bool false)) none .undef) z.length (List.replicate 0 z) []=some []:=rfl
 simp+decide only[st,sC,lK,np,qc]
def al.vs0 (t) (h1:al P f (.cJ::as) h r h') (h2:al P f (.vz::as) h r h'):al P f (.vs [] t::as) h r h':=by
 intro ι I w cU H hl
 have h0:0<cU.toList.length:=by rw[<-hl.1];simp
 obtain⟨c,cs,ji⟩: ∃c cs,cU.toList=c::cs:=by
  cases hq:cU.toList with
  |nil=>grind
  |cons c cs=>grind
 have hv:VR ι I w (.vs [] t) c:=hl.2 0 _ _ rfl (by rw[ji];rfl)
 have go: ∀a,VR ι I w a c->LR ι I w (a::as) cU.toList:=fun a ha=>⟨by rw[<-hl.1];rfl,fun i v u hi hu=>by
  cases i with
  |zero=>grind
  |succ i=>exact hl.2 (i+1) v u (by simpa using hi) hu⟩
 generalize hx:AV.vs [] t=x at hv
 cases hv<;>first|(cases hx;done)|skip
 case jA t' ht=>exact h1 ι I w cU H (go _ .cJ)
 case jq t' a cap ht=>exact h2 ι I w cU H (go _ (.vz a cap))
 case vs xs t' cb o s cap g hs hI hc d7 eg bY ht=>
  cases hx
  exact h2 ι I w cU H (go _ (.vz _ cap))
def VP (ok:aA P T) {z:List AV} (hf:T.fn f=some (sC z rn sz)) {t:aL}:al P f [.vs [] t] h (.vs [] .full) h:=
 .vs0 t (aHV ok hf) (aKP ok hf)
def V5 (ok:aA P T) {z:List AV} (hf:T.fn f=some (sC z rn sz)) (hx:lF 1 x=some false) (hr:ef sz h x=some rows) (aT:rows≠[])
 (h1:rows.length*rn<2^40) (h2:rows.length<2^40):al P f [x] h (.vs rows (.own h.next)) (h.at h.next .tail):=by
 refine ok.calls hf (by simp[sC]) ?_
 have ha:qc rn sz h.next h (.vs [] .full) (some rows)=some (.vs rows (.own h.next),h.at h.next .tail):=by
  simp only[qc,kF,fI,rI]
  rw[aj aT,ax ⟨rfl,h1,h2⟩]
 simp+decide only[st,sC,lK,np,hx,hr,ha]
def al.aEa {b:Nat} (hc: ∀cap,n<=cap->al P f (.rk b off n sz cap::as) h r h'):al P f (.rs b off n sz::as) h r h':=by
 intro ι I w cU H hl
 have h0:0<cU.toList.length:=by rw[<-hl.1];simp
 obtain⟨c,cs,ji⟩: ∃c cs,cU.toList=c::cs:=by
  cases hq:cU.toList with
  |nil=>grind
  |cons c cs=>grind
 have hv:VR ι I w (.rs b off n sz) c:=hl.2 0 _ _ rfl (by rw[ji];rfl)
 have go: ∀a,VR ι I w a c->LR ι I w (a::as) cU.toList:=fun a ha=>⟨by rw[<-hl.1];rfl,fun i v u hi hu=>by
  cases i with
  |zero=>grind
  |succ i=>exact hl.2 (i+1) v u (by simpa using hi) hu⟩
 cases hv
 rename_i cb o room cap h1 h2 h3
 exact hc cap h2 ι I w cU H (go _ (.rk b off n sz cap cb o room h1 h2 h3))
def nN (h:aa) (b:Nat) (cs:List AV):aa:=((h.set b none).clean 19).at (h.next+19) (.cells cs)
def al.fin {b m c:Nat} (j) (hc:al P f (a0::as) h r0 h1) (ha:a0= .rs b o0 n sz0\/ ∃cap,a0= .rk b o0 n sz0 cap) (hr:r0= .rs c 0 m sz\/ ∃cap,r0= .rk c 0 m sz cap)
 (hg:h1.get c=some (.cells cs)) (fA:c=b\/h.next<=c) (hn:h1.next<=h.next+19) (hk: ∀x,x<h.next->x≠b->h1.get x=h.get x):
 al P f (a0::as) h (.rs (h.next+19) 0 m sz) (nN h b (cs.take j)):=by
 intro ι I w cU H hl
 have h0:0<cU.toList.length:=by rw[<-hl.1];simp
 have Ux:VR ι I w a0 cU.toList[0]:=hl.2 0 _ _ rfl (bn h0)
 have AZ: ∃l,ι b=some l:=by
  generalize cU.toList[0]=c at Ux
  rcases ha with rfl|⟨cap,rfl⟩<;>(cases Ux;grind)
 obtain⟨l0,CM⟩:=AZ
 refine(hc ι I w cU H hl).mono ?_
 rintro e w' ⟨v,ι',I',rfl,hv,H',E⟩
 have D0: ∃cb o room cap,ι' c=some (.cells cb o room)/\m<=cap/\0+cap*sz<=room/\v= .slice (some ⟨cb,o+0,none⟩) m cap:=by
  rcases hr with rfl|⟨cap,rfl⟩<;>(cases hv;exact⟨_,_,_,_,by assumption,by assumption,by assumption,rfl⟩)
 obtain⟨cb,o,room,cap,e1,e2,e3,rfl⟩:=D0
 obtain⟨_,_,_,D0,ic,eg,hcell⟩:=H'.cells c cs _ hg e1
 cases D0
 have hKn:ι' (h.next+19)=none:=by
  cases hq:ι' (h.next+19) with
  |none=>rfl
  |some l=>have:=H'.dI _ l hq;omega
 have bB: ∀x y,((h.set b none).clean 19).get x=some y->x<h.next/\x≠b/\h1.get x=some y:=fun x y hx=>by
  by_cases aS:x<h.next
  ·by_cases aT:x=b
   ·simp[aa.clean,aa.set,aT] at hx
   ·have My:h.get x=some y:=by simpa [aa.clean,aa.set,aS,aT] using hx
    grind
  ·have jK: ¬x<(h.set b none).next:=aS
   simp[aa.clean,jK] at hx
 have iJ:((h.set b none).clean 19).next=h.next+19:=rfl
 have HB:HR ι' I' ((h.set b none).clean 19) w':=H'.J9 (fun i l hi=>by have:=H'.dI i l hi;omega) (fun i l x hi hx=>(bB i x hx).2.2)
 have aN:cb<w'.heap.size:=H'.inside c _ e1
 have H3:=HB.DM (id:=h.next+19) (l:= .cells cb o room) (x:= .cells (cs.take j)) (fun l' dG=>by grind) aN
  ⟨by simp;omega,fun v hv=>eg v (uk hv),fun j' hj=>(by
    grind),H'.pl c cs cb o room hg e1⟩
  (fun k' j' dG=>⟨fun⟨i,l',y,hi,fi,lY⟩=>by
    obtain⟨q1,q2,q3⟩:=bB i y fi
    exact H'.eN i c l' _ y _ k' j' (by omega) hi e1 q3 hg lY dG,H'.bZ c _ _ k' j' e1 hg dG⟩)
 refine⟨_,_,I',rfl,?_,H3,?_⟩
 ·exact .rs (h.next+19) 0 m sz cb o room cap (aO.jy _ _ _) e2 e3
 ·refine{fN:=fun i hi=>?_,more:=fun i l hi=>?_,next:=by simp[nN,aa.at,aa.set,aa.clean];omega,bZ:=E.bZ,os:=E.os,tape:=E.tape,output:=E.output,size:=E.size,block:=E.block,cell:=E.cell,frozen:=E.frozen,own:=?_,jW:=E.jW,lost:=?_}
  ·rw[aO.gT _ _ (by omega)];exact E.fN i hi
  ·have:=E.more i l hi
   rw[aO.gT _ _ (fun he=>by grind)];exact this
  ·rintro k' j' ⟨i,l,x,hi,fi,dG⟩
   by_cases lu:i=h.next+19
   ·subst lu;rw[aO.jy] at hi;cases hi
    exact E.own k' j' ⟨c,_,_,e1,hg,dG⟩
   ·rw[aO.gT _ _ lu] at hi
    have LP:((h.set b none).clean 19).get i=some x:=by simpa [nN,aa.at,lu] using fi
    exact E.own k' j' ⟨i,l,x,hi,(bB i x LP).2.2,dG⟩
  ·intro i hi aEm
   have wW:i≠b:=fun he=>by grind
   have hih: ¬i=h.next+19:=by omega
   have aS:i<h.next:=by omega
   simp[nN,aa.at,aa.clean,aa.set,hih,wW,aS]
def bq (n) (hn:az.length=n) (hu:un.all (·.isEmpty)=true) (he:eL P n h.next az 0 ρ (h.clean n) (K .normal)):WP P (.jG az un) K ρ h:=by
 subst hn
 exact On hu he
def LI:List RO:=[p 6 (.tB (.const (.vs [] .full)))]
def LH:List RO:=[m 10 0,m 11 1,p 12 (.nQ 2 (t 10) (some (t 11)) none none)]
def LG:List RO:=[m 13 2,ln 14 13,m 7 14]
def LF:List RO:=[m 15 7,b 16 .eql (t 15) (z 0)]
def afi:List RO:=[m 17 0,m 6 17]
def LD:List RO:=[m 18 0,ln 19 18,m 8 19]
def LC:List RO:=[m 20 1,m 21 8,b 22 .eql (t 20) (t 21)]
def afh:List RO:=[m 23 0,m 24 2,e 25 (.BC 4 2 (t 23) (t 24)),m 6 25]
def afg:List RO:=[m 26 8,m 27 7,b 28 .add (t 26) (t 27),m 29 0,p 30 (.Hx (t 29)),b 31 .gtr (t 28) (t 30)]
def aEd:List RO:=[m 32 0,m 33 1,p 34 (.nQ 2 (t 32) none (some (t 33)) none),m 35 8,m 36 7,b 37 .add (t 35) (t 36),m 38 1,b 39 .sub (t 37) (t 38),e 40 (.BB 4 [(.int .u16 0),(.int .u8 0)] (t 34) (t 39)),m 9 40]
def awM:List RO:=[m 41 9,m 42 1,p 43 (.nQ 2 (t 41) (some (t 42)) none none),m 44 2,e 45 (.copy 2 (t 43) (t 44))]
def awL:List RO:=[m 46 9,m 47 1,m 48 7,b 49 .add (t 47) (t 48),p 50 (.nQ 2 (t 46) (some (t 49)) none none),m 51 0,m 52 1,p 53 (.nQ 2 (t 51) (some (t 52)) none none),e 54 (.copy 2 (t 50) (t 53))]
def awK:List RO:=[m 55 9,m 6 55]
def awJ:List RO:=[m 56 0,m 57 8,m 58 7,b 59 .add (t 57) (t 58),p 60 (.nQ 2 (t 56) none (some (t 59)) none),m 0 60]
def awI:List RO:=[m 61 2,m 62 0,m 63 1,m 64 7,b 65 .add (t 63) (t 64),p 66 (.nQ 2 (t 62) (some (t 65)) none none),p 67 (.wI 2 (t 61) (t 66)),p 68 (.un .not (t 67))]
def awH:List RO:=[m 69 0,m 70 1,m 71 7,b 72 .add (t 70) (t 71),p 73 (.nQ 2 (t 69) (some (t 72)) none none),m 74 0,m 75 1,p 76 (.nQ 2 (t 74) (some (t 75)) none none),e 77 (.zY 2 (t 73) (t 76))]
def awG:List RO:=[m 78 0,m 79 1,p 80 (.nQ 2 (t 78) (some (t 79)) none none),m 81 2,e 82 (.zY 2 (t 80) (t 81))]
def awF:List RO:=[m 83 0,m 6 83]
def sT (rest:cO):jc:=⟨(.seq (.cA LI) (.seq (.cA LH) (.seq (.cA LG) (.seq (.seq (.cA LF) (.cond (t 16) (.seq (.cA afi) .ret) .skip)) (.seq (.cA LD) (.seq (.seq (.cA LC) (.cond (t 22) (.seq (.cA afh) .ret) .skip)) (.seq (.seq (.cA afg) (.cond (t 31) (.seq (.cA aEd) (.seq (.cA awM) (.seq (.jG awL [[],[],[],[],[],[],[],[],[]]) (.seq (.cA awK) .ret)))) .skip)) (.seq (.cA awJ) (.seq (.seq (.cA awI) (.cond (t 68) (.seq (.jG awH [[],[],[],[],[],[],[],[],[]]) (.seq (.cA awG) (.seq (.cA awF) .ret))) .skip)) rest))))))))),95,[.tmp 6]⟩
def oN (cs row:List AV) (i:Nat):List AV:=cs.take (i*2)++row++cs.drop (i*2)
def aLF (ok:aA P T) (hf:T.fn f=some (sT rest)) {b:Nat} (hg:h.get b=some (.cells cs)) (hl:cs.length=n*2) (hr:row.length=2) (hn:n<2^30):
 al P f [.rs b 0 n 2, .int .i64 n, .vs [row] tl] h (.rs h.next 0 (n+1) 2) ((h.set b none).at h.next (.cells (oN cs row n))):=by
 refine ok.calls hf (by simp[sT]) ?_
 have hc:=aq hg
 have aTk:oN cs row n=cs.take (n*2)++[row].flatten:=by simp[oN,xZ (show cs.length<=n*2 by omega)]
 have ha:iS 4 2 h.next h (.rs b 0 n 2) (some [row])=some (.rs h.next 0 (n+1) 2,(h.set b none).at h.next (.cells (oN cs row n))):=by
  simp only[iS,hc,me,aTk,qH]
  grind
 have h0:(0:Int)<=n:=by omega
 simp+decide only[st,sT,LI,LH,LG,LF,afi,LD,LC,afh,Wp,h0,ak,hr,ha]
def Nt (h:off+n*sz<=cs.length):(rowsOf cs off sz n).length=n/\(∀r∈rowsOf cs off sz n,r.length=sz)/\(rowsOf cs off sz n).flatten=(cs.drop off).take (n*sz):=by
 obtain⟨e1,e2,e3⟩:=EV cs sz n off h
 grind
def aKs (ok:aA P T) (hf:T.fn f=some (sT rest)) {b:Nat} (hb:b<h.next) (hg:h.get b=some (.cells cs)) (hl:cs.length=(i+k+1)*2) (hr:row.length=2) (hn:i+k+1<2^30)
 (cN:i+k+1<=cap) (cI:cap<i+k+2):
 ∃h1,al P f [.rk b 0 (i+k+1) 2 cap, .int .i64 i, .vs [row] tl] h (.rs h.next 0 (i+k+2) 2) h1/\h1.get h.next=some (.cells (oN cs row i))/\h1.next<=h.next+19/\ ∀x,x<h.next->h1.get x=h.get x:=by
 have hc:=aq hg
 have h0:(0:Int)<=i:=by omega
 have h1:(0:Int)<=((i+1:Nat):Int):=by omega
 have LO: ¬((i:Int)=((i+k+1:Nat):Int)):=by omega
 have tH:IntKind.wrap .i64 (((i+k+1:Nat):Int)+1)=((i+k+2:Nat):Int):=by rw[bj]<;>omega
 have gP:IntKind.wrap .i64 (((i+k+2:Nat):Int)-i)=((k+2:Nat):Int):=by rw[bj]<;>omega
 have AF:=dj (show i<2^61 by omega)
 have hgt:((cap:Int)<((i+k+2:Nat):Int)):=by omega
 have uV: ¬cap=i:=by omega
 have H4: ¬cap=0:=by omega
 have Hv:i<=i+k+1:=by omega
 have DI:i<=i+k+2:=by omega
 have RW:i+1<=i+k+2:=by omega
 have Ko:i<=cap:=by omega
 have hnb: ¬b=h.next:=by omega
 have afp: ¬i=i+k+2:=by omega
 have aTc: ¬i+1=i+k+2:=by omega
 have ez:i+k+2-i=k+2:=by omega
 have DH:i+k+2-(i+1)=k+1:=by omega
 have aNX:i+k+1-i=k+1:=by omega
 obtain⟨rl,ru,rf⟩:=Nt (cs:=cs) (off:=0) (sz:=2) (n:=i) (by omega)
 obtain⟨rl2,ru2,HI⟩:=Nt (cs:=cs) (off:=i*2) (sz:=2) (n:=k+1) (by omega)
 have aO6:(rowsOf cs (i*2) 2 (k+1)).flatten=cs.drop (i*2):=by rw[HI,bX (by simp;omega)]
 let z:List AV:=[.int .u16 0, .int .u8 0]
 let X0:List AV:=cs.take (i*2)++(List.replicate (k+2) z).flatten
 have pL:(List.replicate (k+2) z).flatten.length=(k+2)*2:=by
  have:=Fj (rows:=List.replicate (k+2) z) (sz:=2) (fun r hr=>by grind)
  grind
 have hX0:X0.length=(i+k+2)*2:=by simp only[X0,cw,pL,jQ];omega
 let X1:=ew X0 (i*2) row
 have hX1:X1.length=(i+k+2)*2:=by simp only[X1];rw[Vy _ _ _ (by omega)];exact hX0
 let X2:=ew X1 ((i+1)*2) (cs.drop (i*2))
 have hX2:X2=oN cs row i:=by
  have e0:X0.take (i*2)=cs.take (i*2):=List.take_left' (by simp;omega)
  have e1:(cs.take (i*2)++row).length=(i+1)*2:=by grind
  have e2:X1=(cs.take (i*2)++row)++X0.drop (i*2+row.length):=by simp only[X1,ew,e0]
  have e3:X1.take ((i+1)*2)=cs.take (i*2)++row:=by grind
  have e4:X1.drop ((i+1)*2+(cs.drop (i*2)).length)=[]:=xY (by grind)
  simp only[X2,ew,oN,e3,e4,fE]
 have hz:DR 4 z h.next h (.rk b 0 i 2 cap) (.int .i64 ((k+2:Nat):Int))=some (.rs h.next 0 (i+(k+2)) 2,h.at h.next (.cells X0)):=by
  simp only[DR]
  rw[ax (by omega)]
  simp only[hc,me,i9]
  grind
 have hz':DR 4 [.int .u16 0, .int .u8 0] h.next h (.rk b 0 i 2 cap) (.int .i64 ((k+2:Nat):Int))=some (.rs h.next 0 (i+k+2) 2,h.at h.next (.cells X0)):=hz
 have qp: ∀X:List AV,(h.at h.next (.cells X)).get h.next=some (.cells X):=fun X=>by simp[aa.at]
 have afy:G0 2 (h.at h.next (.cells X0)) (.rs h.next (i*2) (k+2) 2) (.vs [row] tl)=some (.int .i64 1,h.at h.next (.cells X1)):=by
  have hm:min 1 (k+2)=1:=by omega
  have e:(h.at h.next (.cells X0)).set h.next (some (.cells X1))=h.at h.next (.cells X1):=by
   unfold aa.at aa.set
   grind
  simp only[G0,ef,aq (qp X0),bQ,hr,xW,dP,me,qH,hm]
  grind
 obtain⟨H1,pn⟩: ∃H,H=h.at h.next (.cells X1):=⟨_,rfl⟩
 have H1n:H1.next=h.next+1:=by rw[pn];simp[aa.at]
 have H1g:H1.get h.next=some (.cells X1):=by grind
 have H1o: ∀x,x<h.next->H1.get x=h.get x:=fun x hx=>by rw[pn];simp[aa.at,show¬x=h.next by omega]
 have d9: ∀x,x<h.next+1->(H1.clean 9).get x=H1.get x:=fun x hx=>by simp[aa.clean,H1n,hx]
 have fA:cellsOf (H1.clean 9) b=some cs:=aq (by grind)
 have hcn:cellsOf (H1.clean 9) h.next=some X1:=aq (by grind)
 let H2:=(H1.clean 9).set h.next (some (.cells X2))
 have afx:G0 2 (H1.clean 9) (.rs h.next ((i+1)*2) (k+1) 2) (.rk b (i*2) (k+1) 2 (cap-i))=some (.int .i64 ((k+1:Nat):Int),H2):=by
  have hm:min (k+1) (k+1)=k+1:=by omega
  simp only[G0,ef,fA,hcn,dP]
  grind
 have ka:dY 9 (h.next+1) 8 H2:=fun j j1 j2=>by omega
 refine⟨H2,?_,?_,?_,?_⟩
 ·refine ok.calls hf (by simp[sT]) ?_
  simp+decide only[st,sT,LI,LH,LG,LF,LD,LC,afg,h0,LO,tH,hgt,Hv,cN,uV,ak]
  simp+decide only[st,aEd,awM,h0,H4,tH,gP,Ko,bM,Nat.zero_mul,qF,ak,hz',Wp,ajV,DI,afp,ez,afy]
  rw[<-pn]
  refine bq 9 rfl rfl ?_
  rw[H1n]
  simp+decide only[st,awL,awK,h0,h1,AF,Wp,ajV,Hv,RW,aTc,DH,aNX,uV,cN,afx,ak]
  exact ka
 ·rw[<-hX2];simp[H2,aa.set]
 ·simp[H2,aa.set,aa.clean,H1n]
 ·intro x hx
  have: ¬x=h.next:=by omega
  simp only[H2,aa.set,aj this]
  grind
def aI0 (ok:aA P T) (hf:T.fn f=some (sT rest)) {b:Nat} (hb:b<h.next) (hg:h.get b=some (.cells cs)) (hl:cs.length=(i+k+1)*2) (hr:row.length=2) (hn:i+k+1<2^30)
 (cI:i+k+2<=cap):
 ∃h1,al P f [.rk b 0 (i+k+1) 2 cap, .int .i64 i, .vs [row] tl] h (.rk b 0 (i+k+2) 2 cap) h1/\h1.get b=some (.cells (oN cs row i))/\h1.next<=h.next+19/\ ∀x,x<h.next->x≠b->h1.get x=h.get x:=by
 have hc:=aq hg
 have h0:(0:Int)<=i:=by omega
 have h1:(0:Int)<=((i+1:Nat):Int):=by omega
 have h2:(0:Int)<=((i+k+2:Nat):Int):=by omega
 have LO: ¬((i:Int)=((i+k+1:Nat):Int)):=by omega
 have tH:IntKind.wrap .i64 (((i+k+1:Nat):Int)+1)=((i+k+2:Nat):Int):=by rw[bj]<;>omega
 have AF:=dj (show i<2^61 by omega)
 have hgt: ¬((cap:Int)<((i+k+2:Nat):Int)):=by omega
 have uV: ¬cap=i:=by omega
 have aEq: ¬cap=i+1:=by omega
 have H4: ¬cap=0:=by omega
 have Hv:i<=i+k+1:=by omega
 have DI:i<=i+k+2:=by omega
 have RW:i+1<=i+k+2:=by omega
 have cN:i+k+1<=cap:=by omega
 have Ko:i<=cap:=by omega
 have ez:i+k+2-i=k+2:=by omega
 have DH:i+k+2-(i+1)=k+1:=by omega
 have se:min (k+2) (k+1)=k+1:=by omega
 have sd:min 1 (k+2)=1:=by omega
 obtain⟨rl2,ru2,HI⟩:=Nt (cs:=cs) (off:=i*2) (sz:=2) (n:=k+1) (by omega)
 have aO6:(rowsOf cs (i*2) 2 (k+1)).flatten=cs.drop (i*2):=by rw[HI,bX (by simp;omega)]
 let Y1:=ew cs ((i+1)*2) (cs.drop (i*2))
 let Y2:=ew Y1 (i*2) row
 have hY1:Y1=cs.take ((i+1)*2)++cs.drop (i*2):=by
  have e:cs.drop ((i+1)*2+(cs.drop (i*2)).length)=[]:=xY (by simp;omega)
  simp only[Y1,ew,e,fE]
 have aUW:Y1.length=(i+k+2)*2:=by grind
 have hY2:Y2=oN cs row i:=by
  simp only[Y2,ew,oN,hr,hY1]
  grind
 have qj:Co 2 h (.vs [row] tl) (.rk b ((i+1)*2) (k+1) 2 (cap-(i+1)))=some (.bool false):=by simp[Co,hr,hc]
 have d9: ∀x,x<h.next->(h.clean 9).get x=h.get x:=fun x hx=>by simp[aa.clean,hx]
 have fA:cellsOf (h.clean 9) b=some cs:=aq (by grind)
 let H1:=(h.clean 9).set b (some (.cells Y1))
 have afy:FI 2 (h.clean 9) (.rk b ((i+1)*2) (k+1) 2 (cap-(i+1))) (.rk b (i*2) (k+2) 2 (cap-i))=some (.int .i64 ((k+1:Nat):Int),H1):=by
  have hle:k+1<=k+2:=by omega
  simp only[FI,jV,me,se,vY,fA]
  grind
 have du:cellsOf H1 b=some Y1:=aq (by simp[H1,aa.set])
 let H2:=H1.set b (some (.cells Y2))
 have afx:FI 2 H1 (.rk b (i*2) (k+2) 2 (cap-i)) (.vs [row] tl)=some (.int .i64 1,H2):=by
  simp only[FI,jV,me,qH,sd,vY,bQ,hr,xW,dP,du]
  rw[ax ⟨trivial,by omega⟩]
  grind
 have ka:dY 9 h.next 8 H1:=fun j j1 j2=>by omega
 obtain⟨H1',aUX⟩: ∃H,H=H1:=⟨_,rfl⟩
 refine⟨H2,?_,?_,?_,?_⟩
 ·refine ok.calls hf (by simp[sT]) ?_
  simp+decide only[st,sT,LI,LH,LG,LF,LD,LC,afg,h0,LO,tH,hgt,Hv,cN,uV,ak]
  simp+decide only[st,awJ,awI,h1,h2,tH,AF,H4,aEq,RW,cI,DH,qj,bM,Nat.zero_mul,qF,ak]
  refine bq 9 rfl rfl ?_
  simp+decide only[st,awH,h0,h1,AF,DI,RW,uV,aEq,cI,ez,DH,afy,ak]
  refine⟨ka,?_⟩
  simp+decide only[st,awG,awF,h0,DI,uV,cI,ez,afx,ak]
 ·rw[<-hY2];simp[H2,aa.set]
 ·simp[H2,H1,aa.set,aa.clean]
 ·intro x hx Ek
  simp only[H2,H1,aa.set,aj Ek]
  exact d9 x hx
def aI1 (ok:aA P T) (hf:T.fn f=some (sT rest)) {b:Nat} (hb:b<h.next) (hg:h.get b=some (.cells cs)) (hl:cs.length=n*2) (hr:row.length=2) (hn:n<2^30) (hi:i<=n):
 al P f [.rs b 0 n 2, .int .i64 i, .vs [row] tl] h (.rs (h.next+19) 0 (n+1) 2) (nN h b (oN cs row i)):=by
 have hlen:(oN cs row i).length=(n+1)*2:=by simp[oN,hr];omega
 have wN:(oN cs row i).take ((n+1)*2)=oN cs row i:=bX (by omega)
 rw[<-wN]
 by_cases aN:i=n
 ·subst aN
  have:=aLF ok hf (tl:=tl) hg hl hr hn
  refine this.fin (c:=h.next) ((i+1)*2) (.inl rfl) (.inl rfl) (by simp[aa.at]) (.inr (ak _)) (by simp[aa.at,aa.set]) (fun x hx Ek=>?_)
  have: ¬x=h.next:=by omega
  simp[aa.at,aa.set,this,Ek]
 ·obtain⟨k,rfl⟩: ∃k,n=i+k+1:=⟨n-i-1,by omega⟩
  refine .aEa (fun cap bY=>?_)
  by_cases hc:cap<i+k+2
  ·obtain⟨h1,q1,q2,q3,q4⟩:=aKs ok hf (tl:=tl) hb hg hl hr hn bY hc
   exact q1.fin (c:=h.next) ((i+k+1+1)*2) (.inr ⟨cap,rfl⟩) (.inl rfl) q2 (.inr (ak _)) q3 (fun x hx _=>q4 x hx)
  ·obtain⟨h1,q1,q2,q3,q4⟩:=aI0 ok hf (tl:=tl) hb hg hl hr hn (by omega:i+k+2<=cap)
   exact q1.fin (c:=b) ((i+k+1+1)*2) (.inr ⟨cap,rfl⟩) (.inr ⟨cap,rfl⟩) q2 (.inl rfl) q3 q4
def aLD (ok:aA P T) (hf:T.fn f=some (sT rest)) (hr:row.length=2):
 al P f [.vs [] .full, .int .i64 0, .vs [row] tl] h (.rs h.next 0 1 2) (h.at h.next (.cells row)):=by
 refine ok.calls hf (by simp[sT]) ?_
 have ha:iS 4 2 h.next h (.vs [] .full) (some [row])=some (.rs h.next 0 1 2,h.at h.next (.cells row)):=by
  simp only[iS,qH]
  grind
 have h0:(0:Int)<=0:=by omega
 simp+decide only[st,sT,LI,LH,LG,LF,afi,LD,LC,afh,hr,ha]
def aEw:List RO:=[p 6 (.tB (.const (.vs [] .full)))]
def aEv:List RO:=[m 8 0,m 9 1,m 10 2,m 11 0,ln 12 11,p 13 (.nQ 2 (t 8) (some (t 9)) (some (t 10)) (some (t 12)))]
def aEu:List RO:=[m 14 1,m 15 2,b 16 .eql (t 14) (t 15)]
def aTP:List RO:=[m 17 0,m 6 17]
def aEt:List RO:=[m 18 0,ln 19 18,m 7 19]
def afN:List RO:=[m 20 0,m 21 1,p 22 (.nQ 2 (t 20) none (some (t 21)) none),m 23 0,m 24 2,p 25 (.nQ 2 (t 23) (some (t 24)) none none),e 26 (.BC 4 2 (t 22) (t 25)),m 0 26]
def afM:List RO:=[m 27 0,m 28 0,ln 29 28,m 30 7,p 31 (.nQ 2 (t 27) (some (t 29)) (some (t 30)) none),⟨none,none,(.e (.zp [(.int .u16 0),(.int .u8 0)] (t 31)))⟩]
def afL:List RO:=[m 32 0,m 6 32]
def RN:jc:=⟨(.seq (.cA aEw) (.seq (.cA aEv) (.seq (.seq (.cA aEu) (.cond (t 16) (.seq (.cA aTP) .ret) .skip)) (.seq (.cA aEt) (.seq (.jG afN [[],[],[],[],[],[],[],[]]) (.seq (.cA afM) (.seq (.cA afL) .ret))))))),33,[.tmp 6]⟩
def yx (cs:List AV) (i:Nat):List AV:=cs.take (i*2)++cs.drop ((i+1)*2)
def aNe (ok:aA P T) (hf:T.fn f=some RN) {b:Nat} (hb:b<h.next) (hg:h.get b=some (.cells cs)) (hl:cs.length=(i+k+1)*2) (hn:i+k+1<2^30) (cN:i+k+1<=cap):
 ∃h1 X,al P f [.rk b 0 (i+k+1) 2 cap, .int .i64 i, .int .i64 ((i+1:Nat):Int)] h (.rk b 0 (i+k) 2 cap) h1/\h1.get b=some (.cells X)/\X.take ((i+k)*2)=yx cs i/\h1.next<=h.next+19/\ ∀x,x<h.next->x≠b->h1.get x=h.get x:=by
 have hc:=aq hg
 have h0:(0:Int)<=i:=by omega
 have h1:(0:Int)<=((i+1:Nat):Int):=by omega
 have h2:(0:Int)<=((i+k:Nat):Int):=by omega
 have h3:(0:Int)<=((i+k+1:Nat):Int):=by omega
 have LO: ¬((i:Int)=((i+1:Nat):Int)):=by omega
 have Cs: ¬i+k+1=i:=by omega
 have H4: ¬cap=0:=by omega
 have uV: ¬cap=i+k:=by omega
 have Hv:i<=i+1:=by omega
 have ac9:i+1<=i+k+1:=by omega
 have DI:i+k<=i+k+1:=by omega
 have Ko:i<=cap:=by omega
 have ez:i+k+1-(i+1)=k:=by omega
 have DH:i+k+1-(i+k)=1:=by omega
 let Z1:=ew cs (i*2) (cs.drop ((i+1)*2))
 have hZ1:Z1.length=(i+k+1)*2:=by simp only[Z1];rw[Vy _ _ _ (by simp;omega)];exact hl
 let Z2:=ew Z1 ((i+k)*2) [.int .u16 0, .int .u8 0]
 have hZ2:Z2.take ((i+k)*2)=yx cs i:=by
  have e1:Z1=yx cs i++cs.drop (i*2+(cs.drop ((i+1)*2)).length):=by simp only[Z1,ew,yx]
  have e2:(yx cs i).length=(i+k)*2:=by grind
  have e3:Z1.take ((i+k)*2)=yx cs i:=by grind
  simp only[Z2,ew,e3,eR]
  grind
 have d9: ∀x,x<h.next->(h.clean 8).get x=h.get x:=fun x hx=>by simp[aa.clean,hx]
 have fA:cellsOf (h.clean 8) b=some cs:=aq (by grind)
 let H1:=(h.clean 8).set b (some (.cells Z1))
 have du:cellsOf H1 b=some Z1:=aq (by simp[H1,aa.set])
 let H2:=H1.set b (some (.cells Z2))
 have aEp:OK [.int .u16 0, .int .u8 0] H1 (.rk b ((i+k)*2) 1 2 (cap-(i+k)))=some (.aE [],H2):=by
  simp only[OK,du,me]
  grind
 have ka:dY 8 h.next 6 H1:=fun j j1 j2=>by
  have: ¬h.next+j=b:=by omega
  simp[H1,aa.set,aa.clean,this]
  omega
 refine⟨H2,Z2,?_,by simp[H2,aa.set],hZ2,by simp[H2,H1,aa.set,aa.clean],?_⟩
 ·refine ok.calls hf (by simp[RN]) ?_
  simp+decide only[st,RN,aEw,aEv,aEu,aEt,h0,h1,h3,LO,Cs,Hv,ac9,cN]
  refine bq 8 rfl rfl ?_
  by_cases bY:cap=i+1
  ·subst bY
   have hk:k=0:=by omega
   have hdr:cs.drop ((i+1)*2)=[]:=xY (by omega)
   have ha:iS 4 2 (h.next+(1+1+1+1+1+1)) (h.clean 8) (.rk b 0 i 2 (i+1)) (some [])=some (.rk b 0 (i+k) 2 (i+1),H1):=by
    simp only[iS,fA,me,fI,List.flatten_nil]
    grind
   simp+decide only[st,afN,h0,h1,H4,Ko,ac9,cN,bM,Nat.zero_mul,qF,ak,ha]
   refine⟨ka,?_⟩
   simp+decide only[st,afM,afL,h2,h3,uV,DI,cN,DH,aEp,ak]
  ·obtain⟨rl,ru,rf⟩:=Nt (cs:=cs) (off:=(i+1)*2) (sz:=2) (n:=k) (by omega)
   have rf':(rowsOf cs ((i+1)*2) 2 k).flatten=cs.drop ((i+1)*2):=by rw[rf,bX (by simp;omega)]
   have hra:ef 2 (h.clean 8) (.rk b ((i+1)*2) k 2 (cap-(i+1)))=some (rowsOf cs ((i+1)*2) 2 k):=by
    simp only[ef,fA,dP]
    grind
   have ha:iS 4 2 (h.next+(1+1+1+1+1+1)) (h.clean 8) (.rk b 0 i 2 cap) (some (rowsOf cs ((i+1)*2) 2 k))=some (.rk b 0 (i+k) 2 cap,H1):=by
    simp only[iS,fA,me,rl,rf']
    grind
   simp+decide only[st,afN,h0,h1,H4,bY,Ko,ac9,cN,ez,bM,Nat.zero_mul,qF,ak,hra,ha]
   refine⟨ka,?_⟩
   simp+decide only[st,afM,afL,h2,h3,uV,DI,cN,DH,aEp,ak]
 ·intro x hx Ek
  simp only[H2,H1,aa.set,aj Ek]
  exact d9 x hx
def aJe (ok:aA P T) (hf:T.fn f=some RN) {b:Nat} (hb:b<h.next) (hg:h.get b=some (.cells cs)) (hl:cs.length=n*2) (hn:n<2^30) (hi:i<n):
 al P f [.rs b 0 n 2, .int .i64 i, .int .i64 ((i+1:Nat):Int)] h (.rs (h.next+19) 0 (n-1) 2) (nN h b (yx cs i)):=by
 obtain⟨k,rfl⟩: ∃k,n=i+k+1:=⟨n-i-1,by omega⟩
 refine .aEa (fun cap bY=>?_)
 obtain⟨h1,X,q1,q2,q3,q4,q5⟩:=aNe ok hf hb hg hl hn bY
 rw[<-q3]
 exact q1.fin (c:=b) ((i+k)*2) (.inr ⟨cap,rfl⟩) (.inr ⟨cap,rfl⟩) q2 (.inl rfl) q4 q5
def al.den (hc:al P f args h r h') (hn:h2.next=h'.next) (iJ:h.next<=h'.next) (hg: ∀x,x<h'.next->h2.get x=h'.get x):al P f args h r h2:=by
 intro ι I w cU H hl
 refine(hc ι I w cU H hl).mono ?_
 rintro e w' ⟨v,ι',I',rfl,hv,H',E⟩
 refine⟨v,ι',I',rfl,hv,H'.J9 (fun i l hi=>by have:=H'.dI i l hi;omega) (fun i l x hi hx=>by rw[<-hg i (H'.dI i l hi)];exact hx),{E with next:=by omega,own:=?_,lost:=?_}⟩
 ·rintro k j ⟨i,l,x,hi,hx,dG⟩
  exact E.own k j ⟨i,l,x,hi,by rw[<-hg i (H'.dI i l hi)];exact hx,dG⟩
 ·intro i hi aN
  have av:i<h.next:=by omega
  rw[hg i (by omega)]
  exact E.lost i hi aN
def aUl (rn sz:Nat) (args:List AV) (H:CH):Option (AV×CH):=
 match args with
 |[x]=>match x with
  | .cJ=>some (.vs [] .full,H)
  | .vs [] _=>some (.vs [] .full,H)
  |x=>match lF 1 x with
   |some false=>match ef sz H.den x with
    |some []=>some (.vs [] .full,H)
    |some (r::rs)=>match Nat.blt ((r::rs).length*rn) (2^40)&&Nat.blt (r::rs).length (2^40) with
     |true=>H.te H.next (some .tail) fun H1=>some (.vs (r::rs) (.own H.next),{t:=H1.t,next:=H.next+1})
     |false=>none
    |none=>none
   |_=>none
 |_=>none
def aUE (args:List AV) (H:CH):Option (AV×CH):=
 match args with
 |[.rs b 0 n 2, .int .i64 (.ofNat i), .vs [row] _]=>
  match cellsOf H.den b with
  |some cs=>match Nat.blt b H.next&&Nat.beq cs.length (n*2)&&Nat.beq row.length 2&&Nat.blt n (2^30)&&Nat.ble i n&&ade H H.next 0 20 with
   |true=>H.te b none fun H1=>H1.te (H.next+19) (some (.cells (oN cs row i))) fun H2=>some (.rs (H.next+19) 0 (n+1) 2,{t:=H2.t,next:=H.next+20})
   |false=>none
  |none=>none
 |[.vs [] .full, .int .i64 (.ofNat 0), .vs [row] _]=>
  match Nat.beq row.length 2 with
  |true=>H.te H.next (some (.cells row)) fun H1=>some (.rs H.next 0 1 2,{t:=H1.t,next:=H.next+1})
  |false=>none
 |_=>none
def aU0 (args:List AV) (H:CH):Option (AV×CH):=
 match args with
 |[.rs b 0 n 2, .int .i64 (.ofNat i), .int .i64 (.ofNat j)]=>
  match cellsOf H.den b with
  |some cs=>match Nat.blt b H.next&&Nat.beq cs.length (n*2)&&Nat.blt n (2^30)&&Nat.blt i n&&Nat.beq j (i+1)&&ade H H.next 0 20 with
   |true=>H.te b none fun H1=>H1.te (H.next+19) (some (.cells (yx cs i))) fun H2=>some (.rs (H.next+19) 0 (n-1) 2,{t:=H2.t,next:=H.next+20})
   |false=>none
  |none=>none
 |_=>none
end
section
open Go
variable {P:Program}
section
variable {R:Type}
end
def rp:Nat->List AV->List AV->List AV
 |0,_,tl=>tl
 |n+1,r,tl=>r++rp n r tl
def qx.with (T:qx) (nt:Tr (List AV->CH->Option (AV×CH))):qx:={T with nat:=fun n=>nt.get n}
def aA.with (ok:aA P T) (hn: ∀e∈nt.yw,∀args H v H',e.2 args H=some (v,H')->al P e.1 args H.den v H'.den):aA P (T.with nt) where
 follow:=ok.follow
 fn:=ok.fn
 nat f g h:=hn (f,g) (Tr.IJ h)
 dV:=ok.dV
end
section
open Go
variable {P:Program} {T:qx} {h:aa}
structure Fr where
 b:List Int
 taken:Bool
def Fr.enc (f:Fr):List AV:=f.b.map (.int .u8)++[.bool f.taken]
structure ig (h:aa) (bm bl:Nat) (fs:List Fr):Prop where
 top:h.get bm=some (.cells [.rs bl 0 fs.length 17])
 row:h.get bl=some (.cells (fs.map Fr.enc).flatten)
 ne:bm≠bl
 len: ∀f∈fs,f.b.length=16
 small:fs.length<2^40
variable {bm bl:Nat} {fs:List Fr}
def Fr.IX {f:Fr} (hf:f.b.length=16):f.enc.length=17:=by simp[Fr.enc,hf]
def Fr.ajO {f:Fr} (hf:f.b.length=16):f.enc[16]? =some (.bool f.taken):=by simp[Fr.enc,hf]
def ig.rows (M:ig h bm bl fs): ∀r∈fs.map Fr.enc,r.length=17:=by
 intro r hr
 obtain⟨f,hf,rfl⟩:=List.mem_map.1 hr
 exact Fr.IX (M.len f hf)
def ig.taken (M:ig h bm bl fs) (hi:fs[i]? =some f):(fs.map Fr.enc).flatten[i*17+16]? =some (.bool f.taken):=by
 rw[zj M.rows (row:=f.enc) (by simp[hi]) (by omega)]
 exact Fr.ajO (M.len f (iC hi))
def eX (fs:List Fr):Nat:=fs.countP (·.taken)
def aD4:List RO:=[p 2 (.tB (z 0))]
def aD3:List RO:=[p 3 (.tB (z 0))]
def aD2:List RO:=[m 6 0,p 7 (.GX 0 true (t 6))]
def aD1:List RO:=[m 8 0,p 9 (.Jg (t 8)),fa 10 0 9,ld 11 10,ln 12 11,p 13 (.tB (z 0))]
def aD0:List RO:=[b 14 .lss (t 13) (t 12)]
def aDZ:List RO:=[ia 15 17 11 13,la 16 17 15,a 5 (.alloc [(.int .u8 0),(.int .u8 0),(.int .u8 0),(.int .u8 0),(.int .u8 0),(.int .u8 0),(.int .u8 0),(.int .u8 0),(.int .u8 0),(.int .u8 0),(.int .u8 0),(.int .u8 0),(.int .u8 0),(.int .u8 0),(.int .u8 0),(.int .u8 0),(.bool false)]),sn 17 (t 5) (t 16)]
def aDY:List RO:=[fa 17 16 5,ld 18 17]
def aDX:List RO:=[m 19 3,b 20 .add (t 19) (z 1),m 3 20]
def aDW:List RO:=[b 21 .add (t 13) (z 1),m 13 21]
def aDV:List RO:=[m 22 3,m 2 22]
def Xu:jc:=⟨(.seq (.cA aD4) (.seq (.cA aD3) (.seq (.seq (.cA aD2) (.cond (t 7) (.seq (.cA aD1) (.block 0 (.loop (.seq (.cA aD0) (.seq (.cond (t 14) .skip (.exit 0)) (.seq (.block 1 (.seq (.cA aDZ) (.seq (.cA aDY) (.cond (t 18) (.cA aDX) .skip)))) (.cA aDW))))))) .skip)) (.seq (.cA aDV) .ret)))),23,[.tmp 2]⟩
def aG1 (ok:aA P T) (hf:T.fn f=some Xu) (M:ig h bm bl fs) (aS:bm<h.next/\bl<h.next):al P f [.ptr bm 0] h (.int .i64 (eX fs)) h:=by
 have hc:=aq M.top
 have Eo:=M.small
 refine ok.keeps hf (by simp[Xu]) rfl ?_
 simp+decide only[st,Xu,aD4,aD3,aD2,aD1,aD0,aDZ,aDY,aDX,aDW,aDV,hc]
 let I:Nat->Env->aa->Prop:=fun n ρ h'=>(∀b,b<h.next->h'.get b=h.get b)/\h.next<=h'.next/\ ∃i:Nat,fs.length=i+n/\ρ 11= .rs bl 0 fs.length 17/\ρ 12= .int .i64 fs.length/\ρ 13= .int .i64 i/\ρ 3= .int .i64 (eX (fs.take i))
 refine dv I ?_ fs.length ⟨fun _ _=>rfl,ak _,0,by omega,rfl,rfl,rfl,rfl⟩
 rintro n ρ h' ⟨hold,iJ,i,aN,gd,iI,fv,r3⟩
 by_cases hi:i<fs.length
 ·have hx:fs[i]? =some fs[i]:=bn hi
  have tF:=M.len _ (iC hx)
  have cI:cellsOf h' bl=some (fs.map Fr.enc).flatten:=aq (by rw[hold _ aS.2];exact M.row)
  have hlen:=Fj M.rows
  have hle:i*17+17<=(fs.map Fr.enc).flatten.length:=by grind
  have cS:=akC M.rows (i:=i) (row:=fs[i].enc) (by simp[hx])
  have MQ:=Fr.IX tF
  have eg:fs[i].enc.all AV.one=true:=by simp[Fr.enc,AV.one]
  have wN:=Fr.ajO tF
  have hd:fs[i].enc.drop 17=[]:=xY (by omega)
  have hw:IntKind.wrap .i64 ((i:Int)+1)=((i+1:Nat):Int):=by rw[bj]<;>omega
  have hu:eX (fs.take i)<=i:=fm (List.countP_le_length) (by simp;omega)
  have gP:IntKind.wrap .i64 ((eX (fs.take i):Int)+1)=((eX (fs.take i)+1:Nat):Int):=by rw[bj]<;>omega
  have hs:eX (fs.take (i+1))=eX (fs.take i)+(if fs[i].taken then 1 else 0):=by
   have e:fs.take (i+1)=fs.take i++[fs[i]]:=(lM hi).symm
   unfold eX
   grind
  simp+decide only[st,gd,iI,fv,hi,cI,hle,cS]
  cases aS0:fs[i].taken
  all_goals
   rw[aS0] at wN hs
   have aT: ∀b,b<h.next->b≠h'.next:=fun b hb=>by omega
   simp+decide only[st,fv,MQ,eg,wN,r3,hw,gP]
   refine⟨n-1,by omega,fun b hb=>?_,?_,i+1,by omega,?_,?_,?_,?_⟩
   ·simp+decide only[st,aT b hb,hold b hb]
   ·simp+decide only[st]
    omega
   ·simp+decide only[st,gd]
   ·simp+decide only[st,iI]
   ·simp+decide only[st]
   ·simp+decide only[st,r3,hs]
 ·have dN:i=fs.length:=by omega
  rw[dN,List.take_length] at r3
  simp+decide only[st,iI,fv,hi,r3]
  omega
def aTT:AV->Bool
 | .int .u8 _=>true
 |_=>false
def aEx:Nat->List AV->Option Nat
 |0,[]=>some 0
 |0,_=>none
 |n+1,cs=>match(cs.take 16).all aTT,cs.drop 16 with
  |true, .bool t::rest=>match aEx n rest with
   |some u=>match t with
    |true=>some (u+1)
    |false=>some u
   |none=>none
  |_,_=>none
def aUn (args:List AV) (H:CH):Option (AV×CH):=
 match args with
 |[.ptr bm 0]=>match cellsOf H.den bm with
  |some [.rs bl 0 n 17]=>match Nat.blt bm H.next&&Nat.blt bl H.next&&!Nat.beq bm bl&&Nat.blt n (2^40),cellsOf H.den bl with
   |true,some cs=>match aEx n cs with
    |some u=>p9 u fun u=>some (.int .i64 (.ofNat u),H)
    |none=>none
   |_,_=>none
  |_=>none
 |_=>none
end
section
open Go
section
variable {P:Program} {md:Mode} {ι:aO} {I:bR} {h:aa} {w:World}
theorem HR.alloc (H:HR ι I h w) (o):HR ι I h (w.alloc o)/\Ext (fun _=>False) ι I h w ι I h (w.alloc o):=by
 have W:=gR.push w o
 refine⟨H.Cv W (ak _) (fun _ _ h=>h) (fun _ _ _ _ _ _ _ _ h=>h) (fun _ _ h=>h.elim),?_⟩
 exact Ext.of W (fun _ _ _ h=>h.elim) (fun _ _=>rfl) (fun _ _ h=>h) (ak _) (fun _ _ h=>h) (fun _ _ h=> .inl h) (fun _ _ h=> .inl h) (fun _ _ _=>rfl)
theorem HR.named (H:HR ι I h w) {id:Nat} (aM:ι id=none) (jb:id<h'.next) (hle:h.next<=h'.next) (aN:l.block<w.heap.size) (il:h'.get id=none) (ez: ∀b x,h'.get b=some x->h.get b=some x):HR (ι.set id l) I h' w:=by
 have kI: ∀a v,VR ι I w a v->VR (ι.set id l) I w a v:=fun a v hv=>hv.mono (fun b l' hb=>by
  rw[aO.gT _ _ (fun he=>by grind)];exact hb) (fun _ _ h=>h) (fun _ _ _=>rfl)
 have key: ∀b l' x,(ι.set id l) b=some l'->h'.get b=some x->b≠id/\ι b=some l'/\h.get b=some x:=fun b l' x hb hg=>by
  have aT:b≠id:=fun he=>by grind
  exact⟨aT,by rwa [aO.gT _ _ aT] at hb,ez b x hg⟩
 exact
 {dI:=fun b l' hb=>by
   by_cases dH:b=id
   ·omega
   ·rw[aO.gT _ _ dH] at hb;exact bJ (H.dI b l' hb) hle
  inside:=fun b l' hb=>by
   by_cases dH:b=id
   ·subst dH;rw[aO.jy] at hb;grind
   ·rw[aO.gT _ _ dH] at hb;exact H.inside b l' hb
  cells:=fun b cs l' hg hb=>by
   obtain⟨_,h1,h2⟩:=key b l' _ hb hg
   obtain⟨cb,o,room,e1,e2,e3,e4⟩:=H.cells b cs l' h2 h1
   grind
  maps:=fun b es l' hg hb=>by
   obtain⟨_,h1,h2⟩:=key b l' _ hb hg
   obtain⟨cb,bE,clock,e1,e2,e3,e4⟩:=H.maps b es l' h2 h1
   grind
  iE:=fun b l' hg hb=>by
   obtain⟨_,h1,h2⟩:=key b l' _ hb hg
   exact H.iE b l' h2 h1
  eN:=fun b b' l1 l2 x x' k j aT hb cF hg dz=>by
   obtain⟨_,h1,h2⟩:=key b l1 _ hb hg
   obtain⟨_,h3,h4⟩:=key b' l2 _ cF dz
   exact H.eN b b' l1 l2 x x' k j aT h1 h3 h2 h4
  bZ:=fun b l1 x k j hb hg=>by
   obtain⟨_,h1,h2⟩:=key b l1 _ hb hg
   exact H.bZ b l1 x k j h1 h2
  eP:=H.eP
  pl:=fun b cs cb o room hg hb n=>by
   obtain⟨_,h1,h2⟩:=key b _ _ hb hg
   exact H.pl b cs cb o room h2 h1 n}
structure It (n:Nat) (ι0:aO) (I0:bR) (h:aa) (w0:World) (h0:aa) (id cm r:Nat) (e:MapEntry) (clock:Nat) (seen:Array Nat) (ρ:Env) (ι:aO) (I:bR) (w:World) (a:Act):Prop where
 A:AR ι I w n ρ a
 H:HR ι I h0 w
 E:Ext (h.next<= ·) ι0 I0 h w0 ι I h0 w
 it:w.heap[r]? =some (.mapIter (some cm) clock seen clock)
 mp:w.heap[cm]? =some (.map #[e] clock)
 born:e.born<clock
 nr: ∀j,¬fJ ι h0 r j/\ ¬I r j
 nc: ∀j,¬fJ ι h0 cm j/\ ¬I cm j
 new:w0.heap.size<=r
 named:ι id=some (.cells r 0 0)
 key:VR ι I w (.int .u64 1) e.key
variable {n:Nat} {ι0:aO} {I0:bR} {w0:World} {h0:aa} {id cm r clock:Nat} {e:MapEntry} {seen:Array Nat} {ρ:Env} {a:Act}
theorem It.next (T:It n ι0 I0 h w0 h0 id cm r e clock seen ρ ι I w a) (A':AR ι' I' w' n ρ' a') (H':HR ι' I' h0 w') (E':Ext (h0.next<= ·) ι I h0 w ι' I' h0 w'):
 It n ι0 I0 h w0 h0 id cm r e clock seen ρ' ι' I' w' a':=by
 have hr:r<w.heap.size:=(Array.getElem?_eq_some_iff.1 T.it).1
 have hc:cm<w.heap.size:=(Array.getElem?_eq_some_iff.1 T.mp).1
 have il: ∀k,k<w.heap.size->(∀j,¬fJ ι h0 k j/\ ¬I k j)-> ∀j,¬fJ ι' h0 k j/\ ¬I' k j:=fun k hk hn j=>by
  refine⟨fun ho=>?_,fun hi=>?_⟩
  ·rcases E'.own k j ho with h|h
   ·grind
   ·omega
  ·rcases E'.jW k j hi with h|h|h
   ·grind
   ·grind
   ·omega
 exact
 {A:=A',H:=H',E:=T.E.trans E' (fun b hb=>fm T.E.next hb)
  it:=by rw[E'.block r hr (fun j=>(T.nr j).1)];exact T.it
  mp:=by rw[E'.block cm hc (fun j=>(T.nc j).1)];exact T.mp
  born:=T.born,nr:=il r hr T.nr,nc:=il cm hc T.nc,new:=T.new,named:=E'.more _ _ T.named,key:=E'.vr T.H T.key}
variable {n:Nat} {ι0:aO} {I0:bR} {w0:World} {h0:aa} {id cm r clock:Nat} {e:MapEntry} {seen:Array Nat} {ρ:Env} {a:Act}
end
end
section
open Go
section
variable {P:Program} {T:qx}
structure Old (h0 h:aa):Prop where
 next:h0.next<=h.next
 get: ∀b,b<h0.next->h.get b=h0.get b
def Old.refl (h):Old h h:=⟨ak _,fun _ _=>rfl⟩
def Old.trans (a:Old h0 h1) (b:Old h1 h2):Old h0 h2:=⟨fm a.next b.next,fun x hx=>by rw[b.get x (bJ hx a.next),a.get x hx]⟩
def Old.at (o:Old h0 h) {id:Nat} (hi:h0.next<=id):Old h0 (h.at id x):=by
 refine⟨fm o.next (by simp[aa.at];omega),fun b hb=>?_⟩
 have: ¬b=id:=by omega
 simp[aa.at,this,o.get b hb]
def Old.set (o:Old h0 h) {id:Nat} (hi:h0.next<=id):Old h0 (h.set id x):=by
 refine⟨o.next,fun b hb=>?_⟩
 have: ¬b=id:=by omega
 simp[aa.set,this,o.get b hb]
def Old.clean (o:Old h0 h):Old h0 (h.clean n):=by
 refine⟨fm o.next (by simp[aa.clean]),fun b hb=>?_⟩
 have:b<h.next:=bJ hb o.next
 simp[aa.clean,this,o.get b hb]
def App (h0 h:aa) (v:AV) (rows:List (List AV)):Prop:= ∃t,v= .vs rows t/\(t= .full\/ ∃k,t= .own k/\h0.next<=k/\k<h.next/\h.get k=some .tail)
def App.nil (h0 h):App h0 h (.vs [] .full) []:=⟨_,rfl, .inl rfl⟩
def App.to (a:App h0 h v rows) (hn:h.next<=h'.next) (hk: ∀k,h0.next<=k->k<h.next->h.get k=some .tail->h'.get k=some .tail):App h0 h' v rows:=by
 obtain⟨t,rfl,rfl|⟨k,rfl,h1,h2,h3⟩⟩:=a
 ·exact⟨_,rfl, .inl rfl⟩
 ·exact⟨_,rfl, .inr ⟨k,rfl,h1,by omega,hk k h1 h2 h3⟩⟩
def App.old (a:App h0 h v rows) (o:Old h h'):App h0 h' v rows:=a.to o.next (fun k _ h2 h3=>by rw[o.get k h2];exact h3)
def App.app (a:App h0 h v rows) (o:Old h0 h) {bytes id:Nat} (aM:h0.next<=id) (ys) (hh:bQ sz rows=true) (h1:(rows.length+ys.length)*bytes<2^40) (h2:rows.length+ys.length<2^40):
 ∃v' h',qc bytes sz id h v (some ys)=some (v',h')/\App h0 h' v' (rows++ys)/\Old h0 h'/\h.next<=h'.next/\h'.next<=max h.next (id+1)/\(∀b,b≠id->h.get b≠some .tail->h'.get b=h.get b)/\(∀b,b≠id->h.get b=none->h'.get b=none):=by
 obtain⟨t,rfl,ht⟩:=a
 by_cases hy:ys=[]
 ·subst hy
  exact⟨.vs rows t,h,by simp[qc],⟨t,by simp,ht⟩,o,ak _,by omega,fun _ _ _=>rfl,fun _ _ h=>h⟩
 ·rcases ht with rfl|⟨k,rfl,q1,q2,q3⟩
  ·refine⟨.vs (rows++ys) (.own id),h.at id .tail,by simp only[qc];grind,⟨_,rfl, .inr ⟨id,rfl,aM,by simp[aa.at];omega,by simp[aa.at]⟩⟩,o.at aM,by simp[aa.at];omega,by simp[aa.at],fun b hb _=>by simp[aa.at,hb],fun b hb hn=>by simp[aa.at,hb,hn]⟩
  ·refine⟨.vs (rows++ys) (.own id),(h.set k none).at id .tail,by simp only[qc];grind,⟨_,rfl, .inr ⟨id,rfl,aM,by simp[aa.at];omega,by simp[aa.at]⟩⟩,(o.set q1).at aM,by simp[aa.at,aa.set];omega,by simp[aa.at,aa.set],fun b hb hn=>?_,fun b hb hn=>?_⟩
   ·have: ¬b=k:=fun e=>hn (by grind)
    simp[aa.at,aa.set,hb,this]
   ·by_cases UY:b=k
    ·grind
    ·simp[aa.at,aa.set,hb,UY,hn]
def App.qT (a:App h0 h v rows) (o:Old h0 h) {bytes:Nat} (hb:h0.next<=base) (hf: ∀j,j<n->h.get (base+j)=none\/j<=i) (ys) (hh:bQ sz rows=true) (h1:(rows.length+ys.length)*bytes<2^40) (h2:rows.length+ys.length<2^40):
 ∃v' h',qc bytes sz (base+i) h v (some ys)=some (v',h')/\App h0 h' v' (rows++ys)/\Old h0 h'/\h.next<=h'.next/\dY n base i h':=by
 obtain⟨v',h',e1,e2,e3,e4,e5,e6,e7⟩:=a.app o (id:=base+i) (by omega) ys hh h1 h2
 refine⟨v',h',e1,e2,e3,e4,fun j hj hn=>?_⟩
 grind
def BS (l:List UInt8):List (List AV):=l.map fun b=>[.int .u8 b.toNat]
def aY:(BS l).length=l.length:=by simp[BS]
def QI {i:Nat}:(BS l)[i]? =(l[i]?).map fun b=>[.int .u8 b.toNat]:=by simp[BS]
def vw:(BS l).drop n=BS (l.drop n):=by simp[BS]
def Fu:(BS l).take n=BS (l.take n):=by simp[BS]
def JV {m:List UInt8}:BS l++BS m=BS (l++m):=by simp[BS]
theorem iM:bQ 1 (BS l)=true:=by cases l<;>rfl
def amn {t:aL}:ef 1 h (.vs (BS l) t)=some (BS l):=by simp[ef,iM]
theorem xt: ∀{l:List UInt8},vh (BS l)=some l
 |[]=>rfl
 |b::l=>by
  have ih:=xt (l:=l)
  simp only[BS,eG] at ih ⊢
  simp[vh,byteOf,ih]
theorem iz: ∀{l:List UInt8},AV.fU (BS l)=BS l
 |[]=>rfl
 |b::l=>by
  have ih:=iz (l:=l)
  simp only[BS,eG,AV.fU,AV.a8,AV.strip] at ih ⊢
  rw[ih]
theorem vx {p:Nat->Bool}: ∀{l:List UInt8},AV.kW p (BS l)=true
 |[]=>rfl
 |b::l=>by
  have ih:=vx (p:=p) (l:=l)
  simp only[BS,eG,AV.kW,AV.cG,AV.bD,Dw,zR] at ih ⊢
  exact ih
def FJ (ok:aA P T) {z:List AV} (hf:T.fn f=some (sC z 1 1)) {t:aL} (hl:l.length<2^40):al P f [.vs (BS l) t] h (.vs (BS l) .au) h:=by
 cases l with
 |nil=>exact(VP ok hf (t:=t)).strip
 |cons b l=>
  have:=(V5 ok hf (x:= .vs (BS (b::l)) t) (h:=h) (rows:=BS (b::l)) rfl amn (by simp[BS]) (by simpa [aY] using hl) (by simpa [aY] using hl)).strip
  have h2:(AV.vs (BS (b::l)) (.own h.next)).strip= .vs (BS (b::l)) .au:=by simp only[AV.strip,iz]
  rw[h2] at this
  exact this.restore (fun x hx=>by simp[aa.at];omega) (by simp only[AV.bD,vx];rfl)
theorem aMi (bs): ∀(n i:Nat) (r:List UInt8),bs.size-i=n->ByteArray.toList.loop bs i r=r.reverse++bs.data.toList.drop i
 |0,i,r,h=>by
  rw[ByteArray.toList.loop.eq_def,aj (by omega)]
  have:bs.data.toList.length<=i:=by show bs.size<=i;omega
  simp_all
 |n+1,i,r,h=>by
  rw[ByteArray.toList.loop.eq_def,ax (by omega),aMi bs n (i+1) _ (by omega)]
  have hi:i<bs.data.toList.length:=by show i<bs.size;omega
  have hg:bs.get! i=bs.data.toList[i]:=by
   have yM:i<bs.data.size:=hi
   show bs.data[i]! =_
   grind
  rw[List.reverse_cons,eR,List.singleton_append,hg,<-List.drop_eq_getElem_cons hi]
def aUe:(ByteArray.mk l.toArray).toList=l:=by
 simp_all
def amt {m:List UInt8}:((ByteArray.mk l.toArray).toList==(ByteArray.mk m.toArray).toList)=(l==m):=by simp_all
def akN {m:List UInt8}:bH false .eql (.str ⟨l.toArray⟩) (.str ⟨m.toArray⟩)=some (.bool (l==m)):=by simp only[bH,amt]
def ajW {m:List UInt8}:bH false .neq (.str ⟨l.toArray⟩) (.str ⟨m.toArray⟩)=some (.bool (!(l==m))):=by simp only[bH,amt]
def wG (n:Int):UInt8:=UInt8.ofNat (n%256).toNat
def wrap_u8:IntKind.wrap .u8 n=((wG n).toNat:Int):=by
 have h1:IntKind.wrap .u8 n=n%256:=by simp[IntKind.wrap,IntKind.signed,IntKind.bits]
 rw[h1,wG,UInt8.toNat_ofNat']
 omega
theorem aLB: ∀{l:List Int},(∀n∈l,(Lit.int .u8 n).wf=true)-> ∃bs:List UInt8,(l.map fun n=>[AV.int .u8 n])=BS bs
 |[],_=>⟨[],rfl⟩
 |n::l,h=>by
  obtain⟨bs,AZ⟩:=aLB (l:=l) (fun x hx=>h x (eH _ hx))
  have hw:=awB (h n (by simp))
  refine⟨UInt8.ofNat n.toNat::bs,?_⟩
  simp only[eG,AZ,BS,List.cons.injEq,and_true]
  rw[UInt8.toNat_ofNat']
  grind
end
end
section
open Go
section
variable {P:Program}
def GO (h0 h h':aa):aa:={get:=fun b=>match h'.get b with|some x=>some x|none=>if b<h.next then(match h0.get b with|none=>h.get b|some _=>none) else none,next:=h'.next}
def al.sub (hc:al P f args h0 r h') (ez: ∀b x,h0.get b=some x->h.get b=some x) (hn:h.next<=h0.next):al P f args h r (GO h0 h h'):=by
 intro ι I w cU H hl
 have H0:HR ι I h0 w:=H.J9 (fun b l hb=>bJ (H.dI b l hb) hn) (fun b l x _ hx=>ez b x hx)
 refine(hc ι I w cU H0 hl).mono ?_
 rintro e w' ⟨v,ι',I',rfl,hv,H',E⟩
 have awU: ∀b x,(GO h0 h h').get b=some x->h'.get b=some x\/(h'.get b=none/\b<h.next/\h0.get b=none/\h.get b=some x):=fun b x hb=>by
  simp only[GO] at hb
  grind
 have ac6: ∀k j,fJ ι h0 k j->fJ ι h k j:=fun k j ⟨b,l,x,h1,h2,h3⟩=>⟨b,l,x,h1,ez b x h2,h3⟩
 have v8: ∀b,b<h.next->ι' b=ι b:=fun b hb=>E.fN b (by omega)
 refine⟨v,ι',I',rfl,hv,?_,?_⟩
 ·refine H.join H' E (fun b l x _ hx=>ez b x hx) (by simp[GO]) (fun b x hb=>?_)
  rcases awU b x hb with h1|⟨_,h2,h3,h4⟩
  ·exact .inl h1
  ·cases hq:ι b with
   |none=>grind
   |some l=>grind
 ·exact
  {fN:=fun b hb=>E.fN b (by omega),more:=E.more,next:=by have:=E.next;simp only[GO];omega,bZ:=E.bZ,os:=E.os,tape:=E.tape,output:=E.output,size:=E.size
   block:=fun k hk ho=>E.block k hk (fun j hj=>ho j (ac6 k j hj))
   cell:=fun k j hk ho=>E.cell k j hk (fun hj=>ho (ac6 k j hj))
   frozen:=fun k j hk ho=>E.frozen k j hk (fun hj=>ho (ac6 k j hj))
   own:=fun k j ⟨b,l,x,h1,h2,h3⟩=>by
    rcases awU b x h2 with h4|⟨_,h5,h6,h7⟩
    ·rcases E.own k j ⟨b,l,x,h1,h4,h3⟩ with h|h
     ·grind
     ·exact .inr h
    ·exact .inl ⟨b,l,x,by grind,h7,h3⟩
   jW:=fun k j hk=>by
    rcases E.jW k j hk with h|h|h
    ·exact .inl h
    ·grind
    omega
   lost:=fun b hb hi=>by
    have aS:b<h.next:=by omega
    have h1:=E.lost b (by omega) hi
    simp only[GO,h1,aS,dP]
    grind}
def al.Lp (hc:al P f args h r h') (hl:args.length=SI.length) (hw: ∀(i:Nat) (a b:AV),args[i]? =some a->SI[i]? =some b->a=b\/a= .undef\/(a= .jd/\b.one=true)\/a=b.strip):al P f SI h r h':=by
 intro ι I w cU H eF
 refine hc ι I w cU H ⟨hl.trans eF.1,fun i v c hv ju=>?_⟩
 have hi:i<SI.length:=by grind
 have hb:=bn hi
 have hr:=eF.2 i _ c hb ju
 rcases hw i v _ hv hb with h1|h1|⟨h1,h2⟩|h1
 ·grind
 ·rw[h1];exact .undef _
 ·rw[h1];exact .jd _ (hr.one h2)
 ·rw[h1];exact hr.strip
end
end
section
open Go
theorem uL {α:Type} {z w:α}:(List.replicate 1 z).set 0 w=[w]:=rfl
theorem aO5 {α:Type} {z w:α}:(List.replicate 2 z).set 0 w=[w,z]:=rfl
theorem aO4 {α:Type} {z w v:α}:[w,z].set 1 v=[w,v]:=rfl
def aNS:(n=n+1)=False:=bk (by omega)
def aMG:(n+1=n)=False:=bk (by omega)
def aMF:(n=n+1+1)=False:=bk (by omega)
def aLn:(n+1+1=n)=False:=bk (by omega)
def aME:(n=n+1+1+1)=False:=bk (by omega)
def aLm:(n+1+1+1=n)=False:=bk (by omega)
def aMD:(n=n+1+1+1+1)=False:=bk (by omega)
def aLl:(n+1+1+1+1=n)=False:=bk (by omega)
def aSP:(n<n+1+1+1+1)=True:=bW (by omega)
def aSO:(n<n+1+1+1+1+1)=True:=bW (by omega)
def aSS:(n<n+1)=True:=bW (by omega)
def aSR:(n<n+1+1)=True:=bW (by omega)
def aSQ:(n<n+1+1+1)=True:=bW (by omega)
def aMl {a b:Int}:bH u .or (.int k a) (.int k b)=(uq .or k a b).map (.int k):=by simp[bH,pH]
def aKZ {a b:Int}:bH u .and (.int k a) (.int k b)=(uq .and k a b).map (.int k):=by simp[bH,pH]
def Xq {a b:Nat} (ha:a<2^64) (hb:b<2^64):uq .or .u64 (a:Int) (b:Int)=some ((a|||b:Nat):Int):=by
 have e1:(BitVec.ofInt 64 (a:Int)).toNat=a:=by simp;omega
 have e2:(BitVec.ofInt 64 (b:Int)).toNat=b:=by simp;omega
 show some (IntKind.wrap .u64 (((BitVec.ofInt 64 (a:Int))|||(BitVec.ofInt 64 (b:Int))).toNat:Int))=_
 rw[BitVec.toNat_or,e1,e2,eo (Nat.or_lt_two_pow ha hb)]
def aMk {a b:Nat} (ha:a<2^64) (hb:b<2^64):uq .and .u64 (a:Int) (b:Int)=some ((a&&&b:Nat):Int):=by
 have e1:(BitVec.ofInt 64 (a:Int)).toNat=a:=by simp;omega
 have e2:(BitVec.ofInt 64 (b:Int)).toNat=b:=by simp;omega
 show some (IntKind.wrap .u64 (((BitVec.ofInt 64 (a:Int))&&&(BitVec.ofInt 64 (b:Int))).toNat:Int))=_
 rw[BitVec.toNat_and,e1,e2,eo (J0 Nat.and_le_left ha)]
structure aF (α:Type) where
 e:α->List AV
 sz:Nat
 len: ∀a,(e a).length=sz
 strip: ∀a,AV.a8 (e a)=e a
 all: ∀p a,AV.cG p (e a)=true
namespace aF
variable {α:Type} (E:aF α) {l m:List α}
def R (l:List α):List (List AV):=l.map E.e
def aD:(E.R l).length=l.length:=by simp[R]
def aDU {i:Nat}:(E.R l)[i]? =(l[i]?).map E.e:=by simp[R]
def awz:(E.R l).drop n=E.R (l.drop n):=by simp[R]
def awx:(E.R l).take n=E.R (l.take n):=by simp[R]
def kX:E.R l++E.R m=E.R (l++m):=by simp[R]
theorem BL {a:α}:E.R (a::l)=E.e a::E.R l:=rfl
theorem ye:E.R ([]:List α)=[]:=rfl
theorem aOX {a:α}:E.R [a]=[E.e a]:=rfl
def fl:bQ E.sz (E.R l)=true:=by
 cases l with
 |nil=>rfl
 |cons a l=>simp[R,bQ,E.len]
def awy {t:aL}:ef E.sz h (.vs (E.R l) t)=some (E.R l):=by simp[ef,E.fl]
theorem dJ: ∀{l:List α},AV.fU (E.R l)=E.R l
 |[]=>rfl
 |a::l=>by
  have ih:=dJ (l:=l)
  simp only[BL,AV.fU,E.strip,ih]
theorem jD {p:Nat->Bool}: ∀{l:List α},AV.kW p (E.R l)=true
 |[]=>rfl
 |a::l=>by
  have ih:=jD (p:=p) (l:=l)
  simp only[BL,AV.kW,E.all,ih,BX]
def iy {t:aL}:(AV.vs (E.R l) t).strip= .vs (E.R l) .au:=by simp only[AV.strip,E.dJ]
def i7 {p:Nat->Bool}:(AV.vs (E.R l) .au).bD p=true:=by simp only[AV.bD,E.jD,zR]
theorem cj (hi:i<l.length):(E.R l)[i]? =some (E.e l[i]):=by rw[E.aDU,bn hi];rfl
end aF
def dt:aF UInt8:=⟨fun b=>[.int .u8 b.toNat],1,fun _=>rfl,fun _=>rfl,fun _ _=>rfl⟩
def ay (k:IntKind):aF Nat:=⟨fun n=>[.int k n],1,fun _=>rfl,fun _=>rfl,fun _ _=>rfl⟩
def aR:aF (List UInt8):=⟨fun b=>[.vs (BS b) .au],1,fun _=>rfl,fun b=>by simp only[AV.a8,AV.strip,iz],fun p b=>by simp only[AV.cG,AV.bD,vx,BX]⟩
def aB:aF (Nat×Nat):=⟨fun p=>[.int .u16 p.1, .int .u8 p.2],2,fun _=>rfl,fun _=>rfl,fun _ _=>rfl⟩
section
variable {P:Program} {T:qx}
def XE (E:aF α) (ok:aA P T) {z:List AV} (hf:T.fn f=some (sC z rn E.sz)) {t:aL} (h1:l.length*rn<2^40) (h2:l.length<2^40):al P f [.vs (E.R l) t] h (.vs (E.R l) .au) h:=by
 cases l with
 |nil=>exact(VP ok hf (t:=t)).strip
 |cons b l=>
  have:=(V5 ok hf (x:= .vs (E.R (b::l)) t) (h:=h) (rows:=E.R (b::l)) rfl E.awy (by simp[aF.R]) (by simpa [E.aD] using h1) (by simpa [E.aD] using h2)).strip
  rw[E.iy] at this
  exact this.restore (fun x hx=>by simp[aa.at];omega) E.i7
def amO (E:aF α) (ok:aA P T) {z:List AV} (hf:T.fn f=some (sC z rn E.sz)) {t:aL} (h1:l.length*rn<2^40) (h2:l.length<2^40): ∃v h',al P f [.vs (E.R l) t] h v h'/\App h h' v (E.R l)/\Old h h'/\h'.next<=h.next+1/\(h'=h\/h'=h.at h.next .tail):=by
 cases l with
 |nil=>exact⟨_,h,VP ok hf (t:=t),App.nil h h,Old.refl h,by omega, .inl rfl⟩
 |cons b l=>
  exact⟨_,_,V5 ok hf (x:= .vs (E.R (b::l)) t) (h:=h) (rows:=E.R (b::l)) rfl E.awy (by simp[aF.R]) (by simpa [E.aD] using h1) (by simpa [E.aD] using h2),⟨_,rfl, .inr ⟨h.next,rfl,ak _,by simp[aa.at],by simp[aa.at]⟩⟩,(Old.refl h).at (ak _),by simp[aa.at], .inr rfl⟩
def ba {h:aa} {m:Nat} (hb:h.next<=base):dY n base i (h.clean m):=fun j hj hn=>by
 simp only[aa.clean]
 grind
def awE (rs:List mQ) (r:AV) (h0:aa):cC->Env->aa->Prop
 | .ret,ρ,h=> ∃r0 b cs,(ft ρ h rs).map ja=some r0/\h.get b=some (.cells cs)/\h0.next<=b/\(AV.gE b cs r0).bD (fun i=>i !=b)=true/\(AV.gE b cs r0).strip=r/\ ∀b,b<h0.next->h.get b=h0.get b
 |_,_,_=>False
theorem NZ:awE rs r h0 .ret ρ h↔ ∃r0 b cs,(ft ρ h rs).map ja=some r0/\h.get b=some (.cells cs)/\h0.next<=b/\(AV.gE b cs r0).bD (fun i=>i !=b)=true/\(AV.gE b cs r0).strip=r/\ ∀b,b<h0.next->h.get b=h0.get b:=Iff.rfl
def aA.Xy (ok:aA P T) (hf:T.fn f=some rf) (iR:args.length<=rf.ntmps)
 (hr:r.bD (fun b=>decide (b<h.next))=true) (hw:WP P rf.code (awE rf.results r h) (mK args) h):al P f args h r h:=by
 obtain⟨fn,md,h2,h3⟩:=ok.fn f rf hf
 obtain⟨e,ρ',h',hb,hk⟩:=hw
 cases e with
 |ret=>
  obtain⟨r0,b,cs,hv,hg,aS,ha,hs,hh⟩:=hk
  obtain⟨vs,hv,ht⟩:=Option.map_eq_some_iff.1 hv
  have:=ve ok.follow h2 h3 iR hb (.inr rfl) hv
  rw[ht] at this
  have:=(this.freeze hg aS ha).strip
  rw[hs] at this
  refine this.restore (fun i hi=>?_) hr
  have: ¬i=b:=by omega
  simp only[aa.set,this,fj]
  exact hh i hi
 |normal=>exact hk.elim
 |exit _=>exact hk.elim
 |goto _=>exact hk.elim
def GY (rs:List mQ) (Q:AV->aa->Prop):cC->Env->aa->Prop
 | .ret,ρ,h=> ∃r,(ft ρ h rs).map ja=some r/\Q r h
 | .normal,ρ,h=> ∃r,(ft ρ h rs).map ja=some r/\Q r h
 |_,_,_=>False
theorem eK:GY rs Q .ret ρ h↔ ∃r,(ft ρ h rs).map ja=some r/\Q r h:=Iff.rfl
def aA.aNh (ok:aA P T) (hf:T.fn f=some rf) (iR:args.length<=rf.ntmps)
 (hw:WP P rf.code (GY rf.results Q) (mK args) h): ∃v h',al P f args h v h'/\Q v h':=by
 obtain⟨fn,md,h2,h3⟩:=ok.fn f rf hf
 obtain⟨e,ρ',h',hb,hk⟩:=hw
 cases e with
 |normal=>
  obtain⟨r,hv,hq⟩:=hk
  obtain⟨vs,El,rfl⟩:=Option.map_eq_some_iff.1 hv
  exact⟨_,h',ve ok.follow h2 h3 iR hb (.inl rfl) El,hq⟩
 |ret=>
  obtain⟨r,hv,hq⟩:=hk
  obtain⟨vs,El,rfl⟩:=Option.map_eq_some_iff.1 hv
  exact⟨_,h',ve ok.follow h2 h3 iR hb (.inr rfl) El,hq⟩
 |exit _=>exact hk.elim
 |goto _=>exact hk.elim
theorem V4: ∀(os:List RO) (i:Nat) (ρ:Env) (h:aa) (done:List (Env×aa×Option AV)),(∀j,i<=j->un.getD j []=[])->
 eL P az.length base os i ρ h K->sU P az un base os i ρ h done K
 |[],i,ρ,h,done,_,he=>he
 |o::os,i,ρ,h,done,hu,⟨r,h',hs,hf,he⟩=>by
  refine⟨r,h',hs,fun k hk=>?_,hf,V4 os (i+1) _ h' _ (fun j hj=>hu j (by omega)) he⟩
  grind
theorem ajL: ∀(os:List RO) (i:Nat) (ρ:Env) (h:aa) (done:List (Env×aa×Option AV)),(∀j,i+os.length<=j->un.getD j []=[])->
 done.length=i->az.drop i=os++AB->
 (∀k d,done[k]? =some d->FC base d.2.1 h/\ ∀ok q v,az[k]? =some ok->ok.op= .p q->jS un k=true->d.2.2=some v->bt q d.1 d.2.1=some v/\DG base (q.key d.1))->
 iP P un az.length base os i ρ h (fun ρ' h'=>eL P az.length base AB (i+os.length) ρ' h' K)->sU P az un base (os++AB) i ρ h done K
 |[],i,ρ,h,done,hu,_,_,_,he=>V4 AB i ρ h done hu he
 |o::os,i,ρ,h,done,hu,hl,hd,hinv,⟨r,h',hs,hf,hk,rT,he⟩=>by
  have uQ:az[i]? =some o:=by
   have:(az.drop i)[0]? =some o:=by rw[hd];rfl
   grind
  have da: ∀k,k∈un.getD i []->jS un i=true/\jS un k=true:=fun k hk=>by
   constructor
   ·unfold jS
    grind
   ·unfold jS
    have:un.any (fun l=>l.contains k)=true:=by
     rw[List.any_eq_true]
     rw[mr] at hk
     cases hq:un[i]? with
     |none=>grind
     |some l=>rw[hq] at hk;exact⟨l,iC hq,by simpa using hk⟩
    grind
  have hval: ∀q v,o.op= .p q->r=some v->bt q ρ h=some v/\h'=h:=fun q v hq hr=>by
   unfold bS at hs
   split at hs
   ·obtain⟨v',h1,h2⟩:=hs
    rw[hr] at h1;cases h1
    rw[hq] at h2
    exact h2
   ·grind
   grind
  refine⟨r,h',hs,fun k Ev ok d bO gv=>?_,hf,?_⟩
  ·obtain⟨f1,f2⟩:=da k Ev
   obtain⟨hold,tp⟩:=hinv k d gv
   unfold tP
   split
   ·split
    ·rename_i v q hv hq
     obtain⟨h1,h2⟩:=tp ok q v bO hq f2 hv
     rw[<-h1]
     refine(xh q d.1 d.2.1 h' (fun b hb=>?_)).symm
     rw[hb] at h2
     rw[hk b h2,hold b h2]
    ·trivial
   ·split
    ·rename_i v q hq
     obtain⟨h1,rfl⟩:=hval q v hq rfl
     have h2:=rT q hq f1
     rw[<-h1]
     refine xh q ρ d.2.1 h' (fun b hb=>?_)
     rw[hb] at h2
     exact(hold b h2).symm
    ·trivial
  ·refine ajL os (i+1) _ h' _ (fun j hj=>hu j (by grind)) (by simp[hl]) ?_ ?_ (by grind)
   ·rw[<-vV,hd];rfl
   ·intro k d gv
    rw[B8] at gv
    split at gv
    ·obtain⟨g1,g2⟩:=hinv k d gv
     exact⟨fun b hb=>by rw[hk b hb,g1 b hb],g2⟩
    grind
def jk (k n) (hn:az.length=n) (hk:k<=n) (hu:(un.drop k).all (·.isEmpty)=true)
 (he:iP P un n h.next (az.take k) 0 ρ (h.clean n) (fun ρ' h'=>eL P n h.next (az.drop k) k ρ' h' (K .normal))):WP P (.jG az un) K ρ h:=by
 subst hn
 have hl:(az.take k).length=k:=by grind
 have:=ajL (P:=P) (az:=az) (AB:=az.drop k) (un:=un) (base:=h.next) (K:=K .normal) (az.take k) 0 ρ (h.clean az.length) [] (fun j hj=>by
  rw[hl,rI] at hj
  have h1:un.getD j []=(un.drop k).getD (j-k) []:=by
   grind
  rw[h1,mr]
  cases hq:(un.drop k)[j-k]? with
  |none=>rfl
  |some l=>
   have:=List.all_eq_true.1 hu l (iC hq)
   grind) rfl (by simp) (fun k d hd=>by simp at hd) (by grind)
 rw[J3] at this
 obtain⟨ρ1,h1,he,hk⟩:=E4 this
 exact⟨_,_,_, .Hq he,hk⟩
structure lz (h:aa) (v:AV) (sz:Nat) (rows:List (List AV)):Prop where
 len:jV v=some rows.length
 get: ∀i (hi:i<rows.length),∃p,kj sz v (.int .i64 i)=some p/\pC true sz h p=some (.agg rows[i])
def lz.vs (E:aF α) {t:aL}:lz h (.vs (E.R l) t) E.sz (E.R l) where
 len:=rfl
 get i hi:=by
  have hlen:((E.R l)[i]).length=E.sz:=by simp[aF.R,E.len]
  refine⟨.vp (E.R l)[i] 0,?_,?_⟩
  ·simp only[kj]
   grind
  ·simp only[pC,cut,dP]
   grind
theorem kS: ∀{rows:List (List AV)},(∀r∈rows,r.length=sz)->rows.flatten.length=rows.length*sz
 |[],_=>by simp
 |r::rows,h=>by
  have ih:=kS (rows:=rows) (fun r' hr=>h r' (eH _ hr))
  grind
theorem IA: ∀{rows:List (List AV)} {i:Nat} (hi:i<rows.length),(∀r∈rows,r.length=sz)->(rows.flatten.drop (i*sz)).take sz=rows[i]
 |r::rows,0,hi,h=>by
  grind
 |r::rows,i+1,hi,h=>by
  have hr:=h r (pY ..)
  have:=IA (rows:=rows) (i:=i) (by simpa using hi) (fun r' hr=>h r' (eH _ hr))
  rw[mG,B5,xZ (by grind),kF,hr,show(i+1)*sz-sz=i*sz by grind,this];rfl
def lz.rs {b:Nat} (hg:cellsOf h b=some cs) (ji:cs.take (rows.length*sz)=rows.flatten) (hr: ∀r∈rows,r.length=sz):lz h (.rs b 0 rows.length sz) sz rows where
 len:=rfl
 get i hi:=by
  have da:=kS hr
  have hle:(i+1)*sz<=rows.length*sz:=nu sz hi
  rw[vU,Nat.one_mul] at hle
  have d9:rows.length*sz<=cs.length:=by
   grind
  refine⟨.ptr b (0+i*sz),?_,?_⟩
  ·simp only[kj]
   grind
  ·simp only[pC,cut,hg,me,dP,rI]
   rw[ax (by omega),<-IA hi hr,<-ji,List.drop_take,List.take_take,Gu (by omega)]
def awX (P:Program) (d:Option Nat) (os:List RO) (ρ:Env) (h:aa) (K:Env->aa->Prop) (v:AV) (as:List AV):Prop:= ∃f fs cs r h',v= .fn f fs cs/\dV P f=true/\al P f (fs++as++cs) h r h'/\exec P os (put ρ d r) h' K
def aKy:exec P (⟨d,none, .dyn x as⟩::os) ρ h K↔awX P d os ρ h K (x.ev ρ) (as.map (aJ.ev ρ)):=by
 constructor
 ·rintro⟨r,h',hs,hk⟩
  simp only[bS,dc,kB] at hs
  obtain⟨v,rfl,f,fs,cs,h1,h2,h3⟩:=hs
  exact⟨f,fs,cs,v,h',h1,h2,h3,hk⟩
 ·rintro⟨f,fs,cs,v,h',h1,h2,h3,hk⟩
  refine⟨some v,h',?_,hk⟩
  simp only[bS,dc,kB]
  grind
def vm (hc:dV P f=true) (ha:al P f (fs++as++cs) h v h') (hk:exec P os (put ρ d v) h' K):awX P d os ρ h K (.fn f fs cs) as:=⟨f,fs,cs,v,h',rfl,hc,ha,hk⟩
def aA.bA {T:qx} (ok:aA P T) (rf:jc) {f:Nat} {args:List AV} {h:aa} {r:AV} (hw:WP P rf.code (Kh rf.results r h) (mK args) h) (hf:T.fn f=some rf:=by rfl) (ha:Nat.ble args.length rf.ntmps=true:=by rfl) (hr:r.bD (fun b=>decide (b<h.next))=true:=by rfl):al P f args h r h:=ok.keeps hf (bT ha) hr hw
def aA.gO {T:qx} (ok:aA P T) (rf:jc) {f:Nat} {args:List AV} {h:aa} {h1:aa} {r:AV} (hw:WP P rf.code (Kr rf.results r h1) (mK args) h) (hf:T.fn f=some rf:=by rfl) (ha:Nat.ble args.length rf.ntmps=true:=by rfl):al P f args h r h1:=ok.calls hf (bT ha) hw
def aA.dr {T:qx} (ok:aA P T) (rf:jc) {f:Nat} {args:List AV} {h:aa} {r:AV} {Q:aa->Prop} (hw:WP P rf.code (Cd rf.results r Q) (mK args) h) (hf:T.fn f=some rf:=by rfl) (ha:Nat.ble args.length rf.ntmps=true:=by rfl): ∃h',al P f args h r h'/\Q h':=ok.aNg hf (bT ha) hw
def aA.kP {T:qx} (ok:aA P T) (rf:jc) {f:Nat} {args:List AV} {h:aa} {Q:AV->aa->Prop} (hw:WP P rf.code (GY rf.results Q) (mK args) h) (hf:T.fn f=some rf:=by rfl) (ha:Nat.ble args.length rf.ntmps=true:=by rfl): ∃v h',al P f args h v h'/\Q v h':=ok.aNh hf (bT ha) hw
def xv:=aw @uL<|aw @aO5<|aw @aO4<|aw @aNS<|aw @aMG<|aw @aMF<|aw @aLn<|aw @aME<|aw @aLm<|aw @aMD<|aw @aLl<|aw @aSP<|aw @aSO<|aw @aSS<|aw @aSR<|aw @aSQ<|aw @List.length_cons.{0}<|aw @List.length_nil.{0}<|aw @i9<|aw Int.toNat_zero<|aw @aKy<|aw @aMl<|aw @aKZ @Option.map_some.{0,0}
def sv:=aw st xv
end
end
end Go.Proofs.YtoioonbabnomkaaGreat.Am
