/- An abstract machine, and that what it does the program's model does. Conditions: none. -/
import Derived.Test.YtljapedlkdfafaaGreatPa
set_option maxRecDepth 100000
set_option maxHeartbeats 8000000
set_option linter.unusedSimpArgs false
set_option linter.unusedVariables false
set_option linter.unnecessarySimpa false
namespace Go.Proofs.YtljapedlkdfafaaGreat.Am
section
open Go
section
variable {P:Program} {md:Mode} {ι:aF} {I:aP} {h:aa} {w:World}
theorem ajy {dst:Option Nat} {op:Op} {r:bX} (hc:rG P md dst op=some r) (hr:(∃f as,r= .call f as)\/ ∃x as,r= .dyn x as):
 ∃c x,op= .call c/\c.callee= .value x/\
  ((∃f as,r= .call f as/\x= .func f/\cf P f=true/\ml md.pr c.args.toList=some as)\/
   ∃ox as,r= .dyn ox as/\bj md.pr x=some ox/\ml md.pr c.args.toList=some as):=by
 have hn: ∀q,r= .p q->False:=by rintro q rfl;rcases hr with⟨_,_,h⟩|⟨_,_,h⟩<;>cases h
 have iH: ∀q,r= .a q->False:=by rintro q rfl;rcases hr with⟨_,_,h⟩|⟨_,_,h⟩<;>cases h
 have aM: ∀q,r= .e q->False:=by rintro q rfl;rcases hr with⟨_,_,h⟩|⟨_,_,h⟩<;>cases h
 unfold rG at hc
 split at hc
 case h_25 c=>
  split at hc
  ·rename_i f hf
   split at hc
   ·rename_i wJ
    simp only[Option.bind_eq_bind,Option.bind_eq_some_iff] at hc
    obtain⟨as,has,hc⟩:=hc
    cases hc
    exact⟨c,_,rfl,hf, .inl ⟨f,as,rfl,rfl,wJ,has⟩⟩
   ·cases hc
  ·rename_i x pe hx
   simp only[Option.bind_eq_bind,Option.bind_eq_some_iff] at hc
   obtain⟨ox,bk,as,has,hc⟩:=hc
   cases hc
   exact⟨c,x,rfl,hx, .inr ⟨ox,as,rfl,bk,has⟩⟩
  ·rename_i b hb
   exfalso
   unfold vS at hc
   split at hc<;>try simp only[Option.bind_eq_bind,Option.bind_eq_some_iff] at hc
   ·obtain⟨_,_,_,_,hc⟩:=hc;split at hc<;>first|(exact hn _ (Option.some.inj hc).symm)|(cases hc)
   ·obtain⟨_,_,_,_,_,_,_,_,hc⟩:=hc
    split at hc
    ·simp only[Option.bind_eq_some_iff] at hc
     obtain⟨_,_,_,_,hc⟩:=hc
     split at hc
     ·split at hc<;>exact aM _ (Option.some.inj hc).symm
     ·cases hc
    ·cases hc
   ·obtain⟨_,_,_,_,_,_,_,_,hc⟩:=hc
    split at hc
    ·simp only[Option.bind_eq_some_iff] at hc;obtain⟨_,_,hc⟩:=hc;exact aM _ (Option.some.inj hc).symm
    ·cases hc
   ·obtain⟨_,_,_,_,_,_,hc⟩:=hc
    split at hc
    ·simp only[Option.bind_eq_some_iff] at hc;obtain⟨_,_,hc⟩:=hc;split at hc<;>first|(exact aM _ (Option.some.inj hc).symm)|(cases hc)
    ·cases hc
   ·obtain⟨_,_,_,_,hc⟩:=hc;exact hn _ (Option.some.inj hc).symm
   ·obtain⟨_,_,_,_,hc⟩:=hc;exact hn _ (Option.some.inj hc).symm
   ·obtain⟨_,_,hc⟩:=hc;exact hn _ (Option.some.inj hc).symm
   ·obtain⟨_,_,hc⟩:=hc;exact hn _ (Option.some.inj hc).symm
   ·cases hc
  ·cases hc
 all_goals exfalso
 case h_7 t n parts=>
  simp only[Option.bind_eq_bind,Option.bind_eq_some_iff] at hc
  obtain⟨d,hd,hc⟩:=hc
  split at hc
  ·simp only[Option.bind_eq_some_iff] at hc
   obtain⟨_,_,_,_,hc⟩:=hc
   split at hc
   ·split at hc<;>first|(exact hn _ (Option.some.inj hc).symm)|(exact iH _ (Option.some.inj hc).symm)
   ·cases hc
  ·cases hc
 case h_13 src TB x=>
  simp only[Option.bind_eq_bind,Option.bind_eq_some_iff] at hc
  obtain⟨ox,bk,ds,vx,dd,pk,hc⟩:=hc
  split at hc
  ·first|(exact hn _ (Option.some.inj hc).symm)|(exact aM _ (Option.some.inj hc).symm)|(cases hc;done)
  ·simp only[Option.bind_eq_some_iff] at hc
   obtain⟨de,lY,hc⟩:=hc
   split at hc<;>first|(exact hn _ (Option.some.inj hc).symm)|(exact aM _ (Option.some.inj hc).symm)|(cases hc;done)
  ·simp only[Option.bind_eq_some_iff] at hc
   obtain⟨de,lY,hc⟩:=hc
   split at hc<;>first|(exact hn _ (Option.some.inj hc).symm)|(exact aM _ (Option.some.inj hc).symm)|(cases hc;done)
  ·simp only[Option.bind_eq_some_iff] at hc
   obtain⟨de,lY,hc⟩:=hc
   split at hc
   ·split at hc<;>first|(exact hn _ (Option.some.inj hc).symm)|(exact aM _ (Option.some.inj hc).symm)|(cases hc;done)
   ·cases hc
  ·cases hc
 case h_16 t l c=>
  simp only[Option.bind_eq_bind,Option.bind_eq_some_iff] at hc
  obtain⟨d,hd,hc⟩:=hc
  split at hc
  ·simp only[Option.bind_eq_some_iff] at hc
   obtain⟨_,_,_,_,hc⟩:=hc
   split at hc
   ·simp only[Option.bind_eq_some_iff] at hc
    obtain⟨_,_,_,_,hc⟩:=hc
    split at hc<;>first|(exact hn _ (Option.some.inj hc).symm)|(exact iH _ (Option.some.inj hc).symm)
   ·cases hc
  ·cases hc
 all_goals (first
  |(first|(exact hn _ (Option.some.inj hc).symm)|(exact iH _ (Option.some.inj hc).symm)|(exact aM _ (Option.some.inj hc).symm)|(cases hc;done))
  |(simp only[Option.bind_eq_bind,Option.bind_eq_some_iff] at hc
    first
    |(obtain⟨_,_,hc⟩:=hc;first|(exact hn _ (Option.some.inj hc).symm)|(exact iH _ (Option.some.inj hc).symm)|(exact aM _ (Option.some.inj hc).symm)|(cases hc;done))
    |(obtain⟨_,_,_,_,hc⟩:=hc;first|(exact hn _ (Option.some.inj hc).symm)|(exact iH _ (Option.some.inj hc).symm)|(exact aM _ (Option.some.inj hc).symm)|(cases hc;done))
    |(obtain⟨_,_,_,_,_,_,hc⟩:=hc;first|(exact hn _ (Option.some.inj hc).symm)|(exact iH _ (Option.some.inj hc).symm)|(exact aM _ (Option.some.inj hc).symm)|(cases hc;done))
    |(obtain⟨_,_,hc⟩:=hc
      split at hc<;>first
       |(first|(exact hn _ (Option.some.inj hc).symm)|(exact iH _ (Option.some.inj hc).symm)|(exact aM _ (Option.some.inj hc).symm)|(cases hc;done))
       |(simp only[Option.bind_eq_some_iff] at hc
         first
         |(obtain⟨_,_,_,_,_,_,hc⟩:=hc;first|(exact hn _ (Option.some.inj hc).symm)|(exact iH _ (Option.some.inj hc).symm)|(exact aM _ (Option.some.inj hc).symm)|(cases hc;done))
         |(obtain⟨_,_,_,_,_,_,_,_,hc⟩:=hc;first|(exact hn _ (Option.some.inj hc).symm)|(exact iH _ (Option.some.inj hc).symm)|(exact aM _ (Option.some.inj hc).symm)|(cases hc;done))
         |(obtain⟨_,_,_,_,_,_,_,_,_,_,hc⟩:=hc;first|(exact hn _ (Option.some.inj hc).symm)|(exact iH _ (Option.some.inj hc).symm)|(exact aM _ (Option.some.inj hc).symm)|(cases hc;done))
         |(obtain⟨_,_,_,_,hc⟩:=hc;first|(exact hn _ (Option.some.inj hc).symm)|(exact iH _ (Option.some.inj hc).symm)|(exact aM _ (Option.some.inj hc).symm)|(cases hc;done))
         |(obtain⟨_,_,_,_,hc⟩:=hc
           split at hc
           ·simp only[Option.bind_eq_some_iff] at hc;obtain⟨_,_,hc⟩:=hc;first|(exact hn _ (Option.some.inj hc).symm)|(exact iH _ (Option.some.inj hc).symm)|(exact aM _ (Option.some.inj hc).symm)
           ·first|(exact hn _ (Option.some.inj hc).symm)|(exact iH _ (Option.some.inj hc).symm)|(exact aM _ (Option.some.inj hc).symm)|(cases hc))
         |(obtain⟨_,_,hc⟩:=hc
           split at hc<;>first
            |(first|(exact hn _ (Option.some.inj hc).symm)|(exact iH _ (Option.some.inj hc).symm)|(exact aM _ (Option.some.inj hc).symm)|(cases hc;done))
            |(simp only[Option.bind_eq_some_iff] at hc
              first
              |(obtain⟨_,_,_,_,_,_,_,_,_,_,hc⟩:=hc;first|(exact hn _ (Option.some.inj hc).symm)|(exact iH _ (Option.some.inj hc).symm)|(exact aM _ (Option.some.inj hc).symm)|(cases hc;done))
              |(obtain⟨_,_,_,_,_,_,hc⟩:=hc;first|(exact hn _ (Option.some.inj hc).symm)|(exact iH _ (Option.some.inj hc).symm)|(exact aM _ (Option.some.inj hc).symm)|(cases hc;done))))))
    |(obtain⟨_,_,_,_,_,_,hc⟩:=hc
      split at hc<;>first
       |(first|(exact hn _ (Option.some.inj hc).symm)|(exact iH _ (Option.some.inj hc).symm)|(exact aM _ (Option.some.inj hc).symm)|(cases hc;done))
       |(simp only[Option.bind_eq_some_iff] at hc
         obtain⟨_,_,hc⟩:=hc
         split at hc<;>first|(exact hn _ (Option.some.inj hc).symm)|(exact iH _ (Option.some.inj hc).symm)|(exact aM _ (Option.some.inj hc).symm)|(cases hc)))
    |(obtain⟨_,_,_,_,hc⟩:=hc
      split at hc
      ·simp only[Option.bind_eq_some_iff] at hc;obtain⟨_,_,_,_,hc⟩:=hc;first|(exact hn _ (Option.some.inj hc).symm)|(exact iH _ (Option.some.inj hc).symm)|(exact aM _ (Option.some.inj hc).symm)
      ·first|(exact hn _ (Option.some.inj hc).symm)|(exact iH _ (Option.some.inj hc).symm)|(exact aM _ (Option.some.inj hc).symm)|(cases hc))))
theorem XJ {dst:Option Nat} {op:Op} {r:bX} (hc:so P md dst op=some r) (hr:(∃f as,r= .call f as)\/ ∃x as,r= .dyn x as):
 ∃c x,op= .call c/\c.callee= .value x/\
  ((∃f as,r= .call f as/\x= .func f/\cf P f=true/\ml md.pr c.args.toList=some as)\/
   ∃ox as,r= .dyn ox as/\bj md.pr x=some ox/\ml md.pr c.args.toList=some as):=by
 rcases Gq hc with h1|h1|h1
 ·exfalso
  rcases L3 h1 with⟨q,rfl⟩|⟨c,b',-,-,hk⟩
  ·rcases hr with⟨_,_,h⟩|⟨_,_,h⟩<;>cases h
  ·rcases GB hk with⟨_,_,_,_,_,_,_,_,_,_,_,_,_,_,_,_,_,_,_,_,rfl⟩|⟨_,_,_,_,_,_,_,_,_,rfl⟩|⟨_,_,_,_,_,_,_,_,_,_,_,_,rfl⟩|⟨_,_,_,_,_,_,_,_,_,_,_,_,_,_,_,rfl⟩<;>(rcases hr with⟨_,_,h⟩|⟨_,_,h⟩<;>cases h)
 ·exact ajy h1 hr
 ·subst h1;rcases hr with⟨_,_,h⟩|⟨_,_,h⟩<;>cases h
theorem VV {f:Nat} (hf:cf P f=true) (args:Array Value) (w:World):(callFunc f args).run P w= .ok (.enter f args) w:=by
 unfold cf at hf
 split at hf
 ·rename_i fn iU
  simp only[Bool.and_eq_true,bne_iff_ne,ne_eq] at hf
  obtain⟨h1,h2⟩:=hf
  obtain⟨c,dt⟩:=Option.isSome_iff_exists.1 h2
  simp[callFunc,iU,h1,dt]
 ·cases hf
theorem alX {n:Nat} {ρ:Env} {a:Act} (A:AR ι I w n ρ a) {o:Oper} {f:Nat} {as:List aq} (hc:so P md o.dst o.op=some (.call f as)):
 ∃bS:Array Value,(execOp a.eval o).run P w= .ok (.enter f bS) w/\LR ι I w (as.map (aq.ev ρ)) bS.toList:=by
 obtain⟨dst,op,ty,pos,after,guard⟩:=o
 obtain⟨c,x,rfl,hx,⟨f',as',h1,rfl,wJ,has⟩|⟨_,_,h1,_,_⟩⟩:=XJ hc (.inl ⟨f,as,rfl⟩)
 ·cases h1
  refine⟨c.args.map a.eval,?_,by have:=vN A has;simpa using this⟩
  simp only[execOp,resolve,hx,Act.eval,Deferred.ofValue,Sem.run_bind,Sem.run_pure,Result.andThen_ok,invoke]
  have:=VV wJ (#[]++Array.map (Act.eval a) c.args++ #[]) w
  simpa using this
 ·cases h1
theorem amO {n:Nat} {ρ:Env} {a:Act} (A:AR ι I w n ρ a) {o:Oper} {x:aq} {as:List aq} (hc:so P md o.dst o.op=some (.dyn x as)) {f:Nat} {fs cs:List AV} (hx:x.ev ρ= .fn f fs cs) (hf:cf P f=true):
 ∃bS:Array Value,(execOp a.eval o).run P w= .ok (.enter f bS) w/\LR ι I w (fs++as.map (aq.ev ρ)++cs) bS.toList:=by
 obtain⟨dst,op,ty,pos,after,guard⟩:=o
 obtain⟨c,y,rfl,hy,⟨_,_,h1,_,_,_⟩|⟨ox,as',h1,bk,has⟩⟩:=XJ hc (.inr ⟨x,as,rfl⟩)
 ·cases h1
 ·cases h1
  have hv:VR ι I w (x.ev ρ) (a.eval y):=bJ A bk
  rw[hx] at hv
  generalize hey:a.eval y=cy at hv
  cases hv
  rename_i eI bF eo vn eD jq
  refine⟨eI.toArray++c.args.map a.eval++bF.toArray,?_,?_⟩
  ·simp only[execOp,resolve,hy,hey,Deferred.ofValue,Sem.run_bind,Sem.run_pure,Result.andThen_ok,invoke]
   exact VV hf _ w
  ·have h2:=vN A has
   have h3:=(LR.append (show LR ι I w fs eI from⟨eo,vn⟩) h2).append (show LR ι I w cs bF from⟨eD,jq⟩)
   simpa using h3
end
end
section
open Go
def an (P:Program) (f:Nat) (args:List AV) (h:aa) (r:AV) (h':aa):Prop:=
 ∀(ι:aF) (I:aP) (w:World) (bS:Array Value),HR ι I h w->LR ι I w args bS.toList->
  Calls P f bS w fun e w'=> ∃v ι' I',e= .returned v/\VR ι' I' w' r v/\HR ι' I' h' w'/\Ext (h.next<= ·) ι I h w ι' I' h' w'
def bZ (o:RO) (ρ:Env):Option Bool:=
 match o.guard with
 |none=>some true
 |some (g,b)=>match ρ g with
  | .bool c=>some (c==b)
  | .ay []=>some false
  |_=>none
def gA (P:Program) (op:bX) (id:Nat) (ρ:Env) (h:aa) (v:AV) (h':aa):Prop:=
 match op with
 | .p q=>aY q ρ h=some v/\h'=h
 | .a q=> ∃b,gP q ρ id=some (b,v)/\h'=h.at id b
 | .e q=>bM q ρ id h=some (v,h')
 | .call f as=>an P f (as.map (aq.ev ρ)) h v h'
 | .dyn x as=> ∃f fs cs,x.ev ρ= .fn f fs cs/\cf P f=true/\an P f (fs++as.map (aq.ev ρ)++cs) h v h'
def bz (P:Program) (o:RO) (id:Nat) (ρ:Env) (h:aa) (r:Option AV) (h':aa):Prop:=
 match bZ o ρ with
 |some true=> ∃v,r=some v/\gA P o.op id ρ h v h'
 |some false=>r=none/\h'=h
 |none=>False
def f5 (r:Option AV):AV:=r.getD (.ay [])
def exec (P:Program):List RO->Env->aa->(Env->aa->Prop)->Prop
 |[],ρ,h,K=>K ρ h
 |o::os,ρ,h,K=> ∃r h',bz P o h.next ρ h r h'/\exec P os (put ρ o.dst (f5 r)) h' K
section
variable {P:Program} {md:Mode} {ι:aF} {I:aP} {h:aa} {w:World}
theorem AR.put {n:Nat} {ρ:Env} {a:Act} (A:AR ι I w n ρ a) {d:Option Nat} {v:AV} {c:Value} (hd: ∀x,d=some x->x<n) (hv:VR ι I w v c):AR ι I w n (put ρ d v) (a.put d c):=by
 cases d with
 |none=>exact A
 |some d=>
  have Fo:=hd d rfl
  refine⟨A.defers,by simp[Act.put,A.size],fun t=>?_⟩
  simp only[Am.put,Act.put]
  by_cases ht:t=d
  ·subst ht
   simp only[if_true]
   have:(a.tmps.setIfInBounds t c).getD t Go.undef=c:=by simp[Array.getD,A.size,Fo]
   rw[this];exact hv
  ·simp only[ht,if_false]
   have:(a.tmps.setIfInBounds d c).getD t Go.undef=a.tmps.getD t Go.undef:=by
    simp only[Array.getD_eq_getD_getElem?,Array.getElem?_setIfInBounds_ne (Ne.symm ht)]
   rw[this];exact A.get t
theorem XS:VR ι I w (.ay []) Go.undef:= .ay [] [] rfl (fun i v c h=>by simp at h)
theorem XI {n:Nat} {ops:Array Oper} {o:Oper} {ro:RO} (hc:tQ P md n ops o=some ro):so P md o.dst o.op=some ro.op/\ro.dst=o.dst/\(∀x,o.dst=some x->x<n)/\
 (match o.guard with|none=>ro.guard=none|some (j,z5)=> ∃d,(ops[j]?).bind (·.dst)=some d/\ro.guard=some (d,z5)):=by
 simp only[tQ,Option.bind_eq_some_iff] at hc
 obtain⟨op,bO,g,hg,hc⟩:=hc
 split at hc
 ·rename_i hd
  cases hc
  refine⟨bO,rfl,?_,?_⟩
  ·intro x hx
   rw[hx] at hd
   simpa [acN] using hd
  ·cases kB:o.guard with
   |none=>simp[kB,MF] at hg ⊢;exact hg.symm
   |some p=>
    obtain⟨j,z5⟩:=p
    simp only[kB,MF,Option.map_eq_some_iff] at hg ⊢
    obtain⟨d,hd1,hg⟩:=hg
    exact⟨d,hd1,hg.symm⟩
 ·cases hc
theorem Xs {n:Nat} {ρ:Env} {a:Act} (A:AR ι I w n ρ a) {ops:Array Oper} {o:Oper} {ro:RO} (hc:tQ P md n ops o=some ro) {b:Bool} (hg:bZ ro ρ=some b):Region.wanted o (yielded ops a.tmps)=b:=by
 obtain⟨_,_,_,kB⟩:=XI hc
 unfold Region.wanted
 cases hog:o.guard with
 |none=>
  rw[hog] at kB
  simp[bZ,kB] at hg
  simp[hg]
 |some p=>
  obtain⟨j,z5⟩:=p
  rw[hog] at kB
  obtain⟨d,hd,kB⟩:=kB
  simp only[bZ,kB] at hg
  have hv:=A.get d
  simp only[yielded,hd,Option.bind_some]
  split at hg
  ·rename_i c hρ
   rw[hρ] at hv
   cases hg
   have:a.tmps[d]? =some (.bool c):=by
    generalize hq:a.tmps.getD d Go.undef=u at hv
    cases hv
    cases hx:a.tmps[d]? with
    |none=>simp[Array.getD_eq_getD_getElem?,hx,Go.undef] at hq
    |some y=>simp[Array.getD_eq_getD_getElem?,hx] at hq;rw[hq]
   simp only[this]
   cases c<;>cases z5<;>rfl
  ·rename_i hρ
   rw[hρ] at hv
   cases hg
   generalize hq:a.tmps.getD d Go.undef=u at hv
   cases hv
   rename_i bF hl gl
   cases hx:a.tmps[d]? with
   |none=>rfl
   |some y=>
    simp[Array.getD_eq_getD_getElem?,hx] at hq
    rw[hq]
    rfl
  ·cases hg
theorem Lm (H:HR ι I h w) {n:Nat} {ρ:Env} {a:Act} (A:AR ι I w n ρ a) {ops:Array Oper} {o:Oper} {ro:RO} (hc:tQ P md n ops o=some ro) {id:Nat} (aJ:ι id=none)
 {r:Option AV} {h':aa} (hs:bz P ro id ρ h r h') {K:Act->World->Prop} {Q:Exit->Act->World->Prop}
 (hK: ∀a' w' ι' I',AR ι' I' w' n (put ρ ro.dst (f5 r)) a'->HR ι' I' h' w'->Ext (fun b=>b=id\/h.next<=b) ι I h w ι' I' h' w'->K a' w'):
 if Region.wanted o (yielded ops a.tmps) then o.wp P a w K Q\/(o.asks P a w/\LetsOut Q) else K (a.put o.dst Go.undef) w:=by
 obtain⟨bO,Ab,Fo,_⟩:=XI hc
 unfold bz at hs
 split at hs
 ·rename_i hg
  obtain⟨v,rfl,bT⟩:=hs
  rw[Xs A hc hg]
  simp only[if_true]
  left
  unfold Oper.wp
  have fy: ∀c w' ι' I',VR ι' I' w' v c->HR ι' I' h' w'->Ext (fun b=>b=id\/h.next<=b) ι I h w ι' I' h' w'->K (a.put o.dst c) w':=by
   intro c w' ι' I' hv H' E
   refine hK _ w' ι' I' ?_ H' E
   rw[Ab]
   exact(A.mono (fun x v=>E.vr H)).put Fo hv
  unfold gA at bT
  split at bT
  ·rename_i q hq
   obtain⟨hv,rfl⟩:=bT
   rw[hq] at bO
   obtain⟨c,w',I',hr,gF,H',E⟩:=asQ H A bO hv
   rw[hr]
   exact fy c w' ι I' gF H' (E.mono (fun _ h=>h.elim))
  ·rename_i q hq
   obtain⟨b,hv,rfl⟩:=bT
   rw[hq] at bO
   obtain⟨x,c,w',ι',I',hr,hx,gF,H',E⟩:=asS H A aJ bO hv
   rw[hr]
   rcases hx with rfl|⟨rfl,rfl⟩
   ·exact fy c w' ι' I' gF H' (E.mono (fun _ h=> .inl h))
   ·exact fy _ w' ι' I' (.undef _) H' (E.mono (fun _ h=> .inl h))
  ·rename_i q hq
   rw[hq] at bO
   obtain⟨x,c,w',ι',I',hr,hx,gF,H',E⟩:=asR H A aJ bO bT
   rw[hr]
   rcases hx with rfl|⟨rfl,rfl⟩
   ·exact fy c w' ι' I' gF H' (E.mono (fun _ h=> .inl h))
   ·exact fy _ w' ι' I' (.undef _) H' (E.mono (fun _ h=> .inl h))
  ·rename_i f as hq
   rw[hq] at bO
   obtain⟨bS,hr,hl⟩:=alX A bO
   rw[hr]
   refine(bT ι I w bS H hl).mono ?_
   rintro e w' ⟨v',ι',I',rfl,gF,H',E⟩
   exact fy v' w' ι' I' gF H' (E.mono (fun _ h=> .inr h))
  ·rename_i x as hq
   rw[hq] at bO
   obtain⟨f,fs,cs,hx,wJ,bT⟩:=bT
   obtain⟨bS,hr,hl⟩:=amO A bO hx wJ
   rw[hr]
   refine(bT ι I w bS H hl).mono ?_
   rintro e w' ⟨v',ι',I',rfl,gF,H',E⟩
   exact fy v' w' ι' I' gF H' (E.mono (fun _ h=> .inr h))
 ·rename_i hg
  obtain⟨rfl,rfl⟩:=hs
  rw[Xs A hc hg]
  simp only[Bool.false_eq_true,if_false]
  refine hK _ w ι I ?_ H (.refl _ _ _ _ _)
  rw[Ab]
  exact A.put Fo XS
 ·exact hs.elim
theorem L4 {n:Nat} {ops:Array Oper}: ∀{os:List Oper} {al:List RO},sY P md n ops os=some al->os.length=al.length/\ ∀(i:Nat) (o:Oper) (ro:RO),os[i]? =some o->al[i]? =some ro->tQ P md n ops o=some ro
 |[],al,hc=>by simp[sY] at hc;subst hc;exact⟨rfl,fun i o ro h=>by simp at h⟩
 |o::os,al,hc=>by
  simp only[sY] at hc
  split at hc
  ·rename_i ro l h1 h2
   cases hc
   obtain⟨e1,e2⟩:=L4 h2
   refine⟨by simp[e1],fun i o' Uf h3 h4=>?_⟩
   cases i with
   |zero=>simp at h3 h4;subst h3;subst h4;exact h1
   |succ i=>exact e2 i o' Uf (by simpa using h3) (by simpa using h4)
  ·cases hc
theorem W2 {n:Nat} {ops:Array Oper} {Q:Exit->Act->World->Prop} {K:Env->aa->Prop}: ∀(al:List RO) (k:Nat) {ι:aF} {I:aP} {h:aa} {w:World} {ρ:Env} {a:Act},HR ι I h w->AR ι I w n ρ a->
 (∀i ro,al[i]? =some ro-> ∃o,ops[k+i]? =some o/\tQ P md n ops o=some ro)->exec P al ρ h K->
 (∀ρ' h' a' w' ι' I',K ρ' h'->AR ι' I' w' n ρ' a'->HR ι' I' h' w'->Ext (h.next<= ·) ι I h w ι' I' h' w'->Q .normal a' w')->
 wpOps P ops Q (List.range' k al.length) a w
 |[],k,ι,I,h,w,ρ,a,H,A,_,he,hQ=>by
  simp only[List.length_nil,List.range'_zero,wpOps]
  exact hQ ρ h a w ι I he A H (.refl _ _ _ _ _)
 |ro::al,k,ι,I,h,w,ρ,a,H,A,hco,he,hQ=>by
  obtain⟨r,h',hs,dN⟩:=he
  obtain⟨o,ho,hc⟩:=hco 0 ro rfl
  simp only[List.length_cons,List.range'_succ,wpOps]
  rw[Nat.add_zero] at ho
  rw[ho]
  simp only[]
  have aJ:ι h.next=none:=by
   cases hq:ι h.next with
   |none=>rfl
   |some l=>have:=H.cE _ _ hq;omega
  refine Lm (Q:=Q) H A hc aJ hs ?_
  intro a' w' ι' I' A' H' E
  have E':Ext (h.next<= ·) ι I h w ι' I' h' w':=E.mono (fun b hb=>by rcases hb with rfl|hb;exact Nat.le_refl _;exact hb)
  refine W2 al (k+1) H' A' (fun i Uf hi=>?_) dN ?_
  ·obtain⟨o',ej,cQ⟩:=hco (i+1) Uf (by simpa using hi)
   exact⟨o',by rw[show k+1+i=k+(i+1) by omega];exact ej,cQ⟩
  ·intro ρ2 h2 a2 w2 ι2 I2 hK A2 H2 E2
   exact hQ ρ2 h2 a2 w2 ι2 I2 hK A2 H2 (E'.trans E2 (fun b hb=>Nat.le_trans E'.next hb))
end
end
section
open Go
section
variable {P:Program} {md:Mode} {ι:aF} {I:aP} {h:aa} {w:World}
theorem HR.CL (H:HR ι I h w) {h':aa} (fy: ∀b l,ι b=some l->b<h'.next) (da: ∀b l x,ι b=some l->h'.get b=some x->h.get b=some x):HR ι I h' w where
 cE:=fy
 inside:=H.inside
 cells b cs l hg hb:=H.cells b cs l (da b l _ hb hg) hb
 maps b es l hg hb:=H.maps b es l (da b l _ hb hg) hb
 fo b l hg hb:=H.fo b l (da b l _ hb hg) hb
 dz b b' l l' x x' k j aM hb bE hg cD:=H.dz b b' l l' x x' k j aM hb bE (da b l x hb hg) (da b' l' x' bE cD)
 bB b l x k j hb hg:=H.bB b l x k j hb (da b l x hb hg)
 dn:=H.dn
 pl b cs cb o room hg hb:=H.pl b cs cb o room (da b _ _ hb hg) hb
theorem HR.join {N:Nat->Prop} {ι':aF} {I':aP} {g0 g J:aa} {w':World} (H:HR ι I h w) (G:HR ι' I' g w') (E:Ext N ι I g0 w ι' I' g w')
 (h0: ∀b l x,ι b=some l->g0.get b=some x->h.get b=some x)
 (fy:g.next<=J.next)
 (hJ: ∀b x,J.get b=some x->g.get b=some x\/(h.get b=some x/\g0.get b=none/\ ∃l,ι b=some l)\/ι' b=none):HR ι' I' J w':=by
 have cI: ∀a v,VR ι I w a v->VR ι' I' w' a v:=fun a v hv=>hv.mono E.bN E.bB (fun k j hk=>E.cell k j (H.dn k j hk) (fun⟨b,l,x,hb,hg,hl⟩=>H.bB b l x k j hb (h0 b l x hb hg) hl hk))
 have rD: ∀b l x k j,ι b=some l->h.get b=some x->g0.get b=none->l.has k j-> ¬eM ι g0 k j:=by
  rintro b l x k j hb hg hn hl ⟨b',l',x',bE,cD,bn⟩
  by_cases kW:b'=b
  ·subst kW;rw[hn] at cD;cases cD
  ·exact H.dz b' b l' l x' x k j kW bE hb (h0 b' l' x' bE cD) hg bn hl
 have aC: ∀b l k j,ι b=some l->l.has k j->k<w.heap.size:=fun b l k j hb hl=>by rw[Loc.vM hl];exact H.inside b l hb
 have key: ∀b l x,ι' b=some l->J.get b=some x->g.get b=some x\/(h.get b=some x/\g0.get b=none/\ι b=some l):=by
  intro b l x hb hg
  rcases hJ b x hg with h1|⟨h1,h2,l',h3⟩|h1
  ·exact .inl h1
  ·have:=E.bN b l' h3
   rw[hb] at this
   cases this
   exact .inr ⟨h1,h2,h3⟩
  ·rw[hb] at h1;cases h1
 refine{cE:=fun b l hb=>Nat.lt_of_lt_of_le (G.cE b l hb) fy,inside:=G.inside,cells:=?_,maps:=?_,fo:=?_,dz:=?_,bB:=?_,dn:=G.dn
        pl:=fun b cs cb o room hg hb n=>by
         rcases key b _ _ hb hg with h1|⟨h1,h2,h3⟩
         ·exact G.pl b cs cb o room h1 hb n
         ·rw[E.frozen cb n (H.inside b _ h3) (rD b _ _ cb n h3 h1 h2 rfl)];exact H.pl b cs cb o room h1 h3 n}
 ·intro b cs l hg hb
  rcases key b l _ hb hg with h1|⟨h1,h2,h3⟩
  ·exact G.cells b cs l h1 hb
  ·obtain⟨cb,o,room,rfl,hle,cU,hc⟩:=H.cells b cs l h1 h3
   have aB:cb<w.heap.size:=H.inside b _ h3
   refine⟨cb,o,room,rfl,hle,cU,fun j hj=>?_⟩
   obtain⟨c,bq,aU,dE⟩:=hc j hj
   exact⟨c,by rw[E.cell _ _ aB (rD b _ _ cb (o+j) h3 h1 h2 rfl)];exact bq,by rw[E.frozen _ _ aB (rD b _ _ cb (o+j) h3 h1 h2 rfl)];exact aU,fun v hv=>cI _ _ (dE v hv)⟩
 ·intro b es l hg hb
  rcases key b l _ hb hg with h1|⟨h1,h2,h3⟩
  ·exact G.maps b es l h1 hb
  ·obtain⟨cb,aV,clock,rfl,hm,bn,hv⟩:=H.maps b es l h1 h3
   have aB:cb<w.heap.size:=H.inside b _ h3
   exact⟨cb,aV,clock,rfl,by rw[E.block cb aB (fun j=>rD b _ _ cb j h3 h1 h2 rfl)];exact hm,bn,fun i k v e e1 e2=>⟨cI _ _ (hv i k v e e1 e2).1,cI _ _ (hv i k v e e1 e2).2⟩⟩
 ·intro b l hg hb
  rcases key b l _ hb hg with h1|⟨h1,h2,h3⟩
  ·exact G.fo b l h1 hb
  ·obtain⟨cb,lo,hi,rfl,hc⟩:=H.fo b l h1 h3
   have aB:cb<w.heap.size:=H.inside b _ h3
   refine⟨cb,lo,hi,rfl,fun j e1 e2=>?_⟩
   obtain⟨c,bq,aU⟩:=hc j e1 e2
   exact⟨c,by rw[E.cell _ _ aB (rD b _ _ cb j h3 h1 h2 ⟨rfl,e1,e2⟩)];exact bq,by rw[E.frozen _ _ aB (rD b _ _ cb j h3 h1 h2 ⟨rfl,e1,e2⟩)];exact aU⟩
 ·intro b b' l l' x x' k j aM hb bE hg cD hl bn
  have mix: ∀b b' l l' x x',b≠b'->ι' b=some l->g.get b=some x->l.has k j->h.get b'=some x'->g0.get b'=none->ι b'=some l'->l'.has k j->False:=by
   intro b b' l l' x x' aM hb hg hl h1 h2 h3 bn
   rcases E.own k j ⟨b,l,x,hb,hg,hl⟩ with ho|ho
   ·exact rD b' l' x' k j h3 h1 h2 bn ho
   ·have:=aC b' l' k j h3 bn;omega
  rcases key b l x hb hg with h1|⟨h1,h2,h3⟩<;>rcases key b' l' x' bE cD with c7|⟨c7,fT,mK⟩
  ·exact G.dz b b' l l' x x' k j aM hb bE h1 c7 hl bn
  ·exact mix b b' l l' x x' aM hb h1 hl c7 fT mK bn
  ·exact mix b' b l' l x' x (Ne.symm aM) bE c7 bn h1 h2 h3 hl
  ·exact H.dz b b' l l' x x' k j aM h3 mK h1 c7 hl bn
 ·intro b l x k j hb hg hl hI
  rcases key b l x hb hg with h1|⟨h1,h2,h3⟩
  ·exact G.bB b l x k j hb h1 hl hI
  ·rcases E.gw k j hI with h4|h4|h4
   ·exact H.bB b l x k j h3 h1 hl h4
   ·exact rD b l x k j h3 h1 h2 hl h4
   ·have:=aC b l k j h3 hl;omega
def sT (ρ ρ':Env) (l:List aq):Prop:= ∀x∈l,x.ev ρ=x.ev ρ'
theorem Wu {ρ ρ':Env}: ∀(ps:List (Nat×Nat×aq)) (cs:List AV),sT ρ ρ' (ps.map fun p=>p.2.2)->jY ρ cs ps=jY ρ' cs ps
 |[],cs,_=>rfl
 |(off,sz,x)::ps,cs,ha=>by
  have hx:=ha x (by simp)
  simp only[jY,hx]
  split
  ·exact Wu ps _ (fun y hy=>ha y (by simp at hy ⊢;exact .inr hy))
  ·rfl
theorem Lh {ρ ρ':Env} {sz:Nat}: ∀(ps:List (Nat×aq)) (rows:List (List AV)),sT ρ ρ' (ps.map fun p=>p.2)->iv ρ sz rows ps=iv ρ' sz rows ps
 |[],rows,_=>rfl
 |(i,x)::ps,rows,ha=>by
  have hx:=ha x (by simp)
  simp only[iv,hx]
  split
  ·exact Lh ps _ (fun y hy=>ha y (by simp at hy ⊢;exact .inr hy))
  ·rfl
theorem map_congr {ρ ρ':Env} {l:List aq} (ha:sT ρ ρ' l):l.map (aq.ev ρ)=l.map (aq.ev ρ'):=List.map_congr_left fun x hx=>ha x hx
theorem VO {mx:Bool} {ρ ρ':Env}: ∀(ys:List aq) (x:AV),sT ρ ρ' ys->oe mx ρ x ys=oe mx ρ' x ys
 |[],x,_=>rfl
 |y::ys,x,ha=>by
  simp only[oe,ha y (by simp)]
  congr 1
  funext z
  exact VO ys z (fun y hy=>ha y (by simp[hy]))
theorem K9 {ρ ρ':Env} {d:Nat} {x:Option aq} (ha:sT ρ ρ' (BR x)):cB ρ d x=cB ρ' d x:=by
 cases x with
 |none=>rfl
 |some x=>simp only[cB,ha x (by simp[BR])]
theorem Lj (q:bd) {ρ ρ':Env} (h:aa) (ha:sT ρ ρ' q.dX):aY q ρ h=aY q ρ' h:=by
 cases q<;>simp only[aY]
 case build z ps=>rw[Wu ps _ ha]
 case d8 n z ps=>rw[Lh ps _ ha]
 case kc f a b=>rw[map_congr (fun x hx=>ha x (by simp[bd.dX,hx])),map_congr (l:=b) (fun x hx=>ha x (by simp[bd.dX,hx]))]
 case kG mx x r=>rw[ha x (by simp[bd.dX]),VO r _ (fun y hy=>ha y (by simp[bd.dX,hy]))]
 case cA sz x lo hi mx=>
  have e1:=ha x (by simp[bd.dX])
  have e2: ∀d,cB ρ d lo=cB ρ' d lo:=fun d=>K9 (fun y hy=>ha y (by simp[bd.dX,hy]))
  have e3: ∀d,cB ρ d hi=cB ρ' d hi:=fun d=>K9 (fun y hy=>ha y (by simp[bd.dX,hy]))
  have e4: ∀d,cB ρ d mx=cB ρ' d mx:=fun d=>K9 (fun y hy=>ha y (by simp[bd.dX,hy]))
  simp only[iM,e1,e2,e3,e4]
 case pick c a b=>rw[ha c (by simp[bd.dX]),ha a (by simp[bd.dX]),ha b (by simp[bd.dX])]
 all_goals first
  |rfl
  |(rename_i x y;rw[ha x (by simp[bd.dX]),ha y (by simp[bd.dX])];done)
  |(rename_i x;rw[ha x (by simp[bd.dX])];done)
theorem ah3 (q:jO) {ρ ρ':Env} (id:Nat) (ha:sT ρ ρ' q.dX):gP q ρ id=gP q ρ' id:=by
 cases q<;>simp only[gP]
 case box x=>rw[ha x (by simp[jO.dX])]
 case vR z b l c=>rw[ha l (by simp[jO.dX]),ha c (by simp[jO.dX])]
 case BN n z ps=>rw[Lh ps _ ha]
theorem ajH (q:gn) {ρ ρ':Env} (id:Nat) (h:aa) (ha:sT ρ ρ' q.dX):bM q ρ id h=bM q ρ' id h:=by
 cases q<;>simp only[bM]
 case qS m k v=>rw[ha m (by simp[gn.dX]),ha k (by simp[gn.dX]),ha v (by simp[gn.dX])]
 case oz z x=>rw[ha x (by simp[gn.dX])]
 case mark x=>rw[ha x (by simp[gn.dX])]
 all_goals (rename_i x y;rw[ha x (by simp[gn.dX]),ha y (by simp[gn.dX])])
theorem WC {o:RO} {id:Nat} {ρ ρ':Env} {h h':aa} {r:Option AV} (ha: ∀t∈o.sM,ρ t=ρ' t) (hs:bz P o id ρ h r h'):bz P o id ρ' h r h':=by
 have qy:sT ρ ρ' o.op.dX:=by
  intro x hx
  cases x with
  |const v=>rfl
  |tmp t=>exact ha t (by simp only[RO.sM,List.mem_append,List.mem_flatMap];exact .inl ⟨_,hx,by simp[aq.slot]⟩)
 have hg:bZ o ρ=bZ o ρ':=by
  unfold bZ
  cases kB:o.guard with
  |none=>rfl
  |some p=>
   obtain⟨g,b⟩:=p
   simp only[]
   rw[ha g (by simp[RO.sM,kB])]
 unfold bz at*
 rw[<-hg]
 split
 ·rename_i hq
  rw[hq] at hs
  obtain⟨v,hr,bT⟩:=hs
  refine⟨v,hr,?_⟩
  unfold gA at*
  cases bO:o.op with
  |p q=>rw[bO] at bT qy;exact⟨by rw[<-Lj q h qy];exact bT.1,bT.2⟩
  |a q=>rw[bO] at bT qy;obtain⟨b,h1,h2⟩:=bT;exact⟨b,by rw[<-ah3 q id qy];exact h1,h2⟩
  |e q=>rw[bO] at bT qy;simp only at*;rw[<-ajH q id h qy];exact bT
  |call f as=>rw[bO] at bT qy;simp only at*;rw[<-map_congr (l:=as) qy];exact bT
  |dyn x as=>
   rw[bO] at bT qy
   obtain⟨f,fs,cs,h1,h2,h3⟩:=bT
   refine⟨f,fs,cs,by rw[<-qy x (by simp[bX.dX])];exact h1,h2,?_⟩
   rw[<-map_congr (l:=as) (fun y hy=>qy y (by simp[bX.dX,hy]))]
   exact h3
 ·rename_i hq;rw[hq] at hs;exact hs
 ·rename_i hq;rw[hq] at hs;exact hs
end
end
section
open Go
def l6 (o:RO) (ρ:Env) (r:Option AV) (h':aa) (ok:RO) (d:Env×aa×Option AV):Prop:=
 if o.op.cq then(match d.2.2,ok.op with|some v, .p q=>aY q d.1 h'=some v|_,_=>True)
 else(match r,o.op with|some v, .p q=>aY q ρ d.2.1=some v|_,_=>True)
def mh (P:Program) (al:List RO) (un:List (List Nat)) (base:Nat):List RO->Nat->Env->aa->List (Env×aa×Option AV)->(Env->aa->Prop)->Prop
 |[],_,ρ,h,_,K=>K ρ h
 |o::os,i,ρ,h,done,K=> ∃r h',bz P o (base+i) ρ h r h'/\
   (∀k∈un.getD i [],∀ok d,al[k]? =some ok->done[k]? =some d->l6 o ρ r h' ok d)/\
   (o.op.cq=true-> ∀j,i<j->j<al.length->h'.get (base+j)=none)/\
   mh P al un base os (i+1) (put ρ o.dst (f5 r)) h' (done++[(ρ,h,r)]) K
def fK (tr:List (Env×aa×Option AV)) (ρ:Env) (h:aa) (i:Nat):Env×aa:=
 match tr[i]? with
 |some d=>(d.1,d.2.1)
 |none=>(ρ,h)
def S0 (P:Program) (al:List RO) (un:List (List Nat)) (base:Nat) (tr:List (Env×aa×Option AV)) (ρ:Env) (h:aa):Prop:=
 ∀(i:Nat) (ro:RO) (d:Env×aa×Option AV),al[i]? =some ro->tr[i]? =some d->
  bz P ro (base+i) (fK tr ρ h i).1 (fK tr ρ h i).2 d.2.2 (fK tr ρ h (i+1)).2/\
  (fK tr ρ h (i+1)).1=put (fK tr ρ h i).1 ro.dst (f5 d.2.2)/\
  (ro.op.cq=true-> ∀j,i<j->j<al.length->(fK tr ρ h (i+1)).2.get (base+j)=none)/\
  ∀k∈un.getD i [],∀ok dk,al[k]? =some ok->tr[k]? =some dk->k<i->l6 ro (fK tr ρ h i).1 d.2.2 (fK tr ρ h (i+1)).2 ok dk
theorem XV {P:Program} {al:List RO} {un:List (List Nat)} {base:Nat} {K:Env->aa->Prop}: ∀(os pre:List RO) (ρ:Env) (h:aa) (done:List (Env×aa×Option AV)),
 al=pre++os->done.length=pre.length->S0 P al un base done ρ h->mh P al un base os pre.length ρ h done K->
 ∃(tr:List (Env×aa×Option AV)) (ρn:Env) (hn:aa),tr.length=al.length/\K ρn hn/\S0 P al un base tr ρn hn/\(∀(i:Nat) (d:Env×aa×Option AV),done[i]? =some d->tr[i]? =some d)/\(done.length=0->fK tr ρn hn 0=(ρ,h))
 |[],pre,ρ,h,done,hr,hl,ha,he=>by
  refine⟨done,ρ,h,by rw[hl,hr];simp,he,ha,fun i d hd=>hd,fun h0=>?_⟩
  have:done=[]:=List.eq_nil_of_length_eq_zero h0
  subst this
  rfl
 |o::os,pre,ρ,h,done,hr,hl,ha,he=>by
  obtain⟨r,h',hs,hc,fh,dN⟩:=he
  have a9:al[pre.length]? =some o:=by rw[hr];simp
  have dD: ∀i,i<=done.length->fK (done++[(ρ,h,r)]) (put ρ o.dst (f5 r)) h' i=fK done ρ h i:=by
   intro i hi
   unfold fK
   by_cases aC:i<done.length
   ·rw[List.getElem?_append_left aC,List.getElem?_eq_getElem aC]
   ·have:i=done.length:=by omega
    subst this
    simp
  have xa:fK (done++[(ρ,h,r)]) (put ρ o.dst (f5 r)) h' (done.length+1)=(put ρ o.dst (f5 r),h'):=by simp[fK]
  have ha':S0 P al un base (done++[(ρ,h,r)]) (put ρ o.dst (f5 r)) h':=by
   intro i ro d hi hd
   by_cases aC:i<done.length
   ·rw[List.getElem?_append_left aC] at hd
    obtain⟨a1,a2,a4,a3⟩:=ha i ro d hi hd
    rw[dD i (by omega),dD (i+1) (by omega)]
    refine⟨a1,a2,a4,fun k hk ok dk bc dq nH=>a3 k hk ok dk bc ?_ nH⟩
    rwa [List.getElem?_append_left (by omega)] at dq
   ·have aA:=(List.getElem?_eq_some_iff.1 hd).1
    simp at aA
    have:i=done.length:=by omega
    subst this
    simp at hd
    subst hd
    rw[hl,a9] at hi
    cases hi
    rw[dD _ (Nat.le_refl _),xa]
    have h0:fK done ρ h done.length=(ρ,h):=by simp[fK]
    rw[h0]
    refine⟨by rw[hl];exact hs,rfl,by rw[hl];exact fh,fun k hk ok dk bc dq nH=>?_⟩
    rw[List.getElem?_append_left nH] at dq
    rw[hl] at hk
    exact hc k hk ok dk bc dq
  obtain⟨tr,ρn,hn,e1,e2,e3,e4,e5⟩:=XV os (pre++[o]) _ h' (done++[(ρ,h,r)]) (by rw[hr];simp) (by simp[hl]) ha' (by simpa using dN)
  refine⟨tr,ρn,hn,e1,e2,e3,fun i d hd=>e4 i d (by rw[List.getElem?_append_left (List.getElem?_eq_some_iff.1 hd).1];exact hd),fun h0=>?_⟩
  have:=e4 done.length (ρ,h,r) (by simp)
  rw[h0] at this
  simp[fK,this]
theorem VN: ∀(os:List Oper) (acc:List (List Nat)),∃rest,f0 os acc=acc++rest
 |[],acc=>⟨[],by simp[f0]⟩
 |o::os,acc=>by
  obtain⟨rest,hr⟩:=VN os (acc++[(o.after.toList.filter fun e=>Region.binds .any e).flatMap fun e=>e.on::acc.getD e.on []])
  exact⟨_,by rw[f0,hr,List.append_assoc]⟩
theorem WN: ∀(os:List Oper) (acc:List (List Nat)) (i j:Nat),acc.length<=j->i∈(f0 os acc).getD j []->
 (∀k o,os[k]? =some o-> ∀e∈o.after.toList,Region.binds .any e=true->e.on<acc.length+k)->
 ∃o e,os[j-acc.length]? =some o/\e∈o.after.toList/\Region.binds .any e=true/\(i=e.on\/i∈(f0 os acc).getD e.on [])
 |[],acc,i,j,hj,hi,_=>by
  simp[f0,List.getD,List.getElem?_eq_none hj] at hi
 |o::os,acc,i,j,hj,hi,hb=>by
  by_cases hjj:j=acc.length
  ·subst hjj
   obtain⟨rest,hr⟩:=VN os (acc++[(o.after.toList.filter fun e=>Region.binds .any e).flatMap fun e=>e.on::acc.getD e.on []])
   have ja:f0 (o::os) acc=acc++([(o.after.toList.filter fun e=>Region.binds .any e).flatMap fun e=>e.on::acc.getD e.on []]++rest):=by rw[f0,hr,List.append_assoc]
   rw[ja] at hi
   simp only[List.getD,List.getElem?_append_right (Nat.le_refl _),Nat.sub_self,List.singleton_append,List.getElem?_cons_zero,Option.getD_some,List.mem_flatMap,List.mem_filter] at hi
   obtain⟨e,⟨he1,tI⟩,he3⟩:=hi
   refine⟨o,e,by simp,he1,tI,?_⟩
   rcases List.mem_cons.1 he3 with h|h
   ·exact .inl h
   ·right
    have aC:e.on<acc.length:=by have:=hb 0 o rfl e he1 tI;omega
    rw[ja]
    simp only[List.getD]
    rw[List.getElem?_append_left aC]
    exact h
  ·have jr:acc.length+1<=j:=by omega
   obtain⟨o',e,h1,h2,h3,h4⟩:=WN os _ i j (by simp;omega) (show i∈(f0 os (acc++[(o.after.toList.filter fun e=>Region.binds .any e).flatMap fun e=>e.on::acc.getD e.on []])).getD j [] from hi)
    (fun k o' ej e he U8=>by have:=hb (k+1) o' (by simpa using ej) e he U8;simp;omega)
   refine⟨o',e,?_,h2,h3,h4⟩
   simp at h1
   rw[show j-acc.length=(j-(acc.length+1))+1 by omega,List.getElem?_cons_succ]
   exact h1
theorem yD {ops:Array Oper} (hb: ∀k o,ops.toList[k]? =some o-> ∀e∈o.after.toList,Region.binds .any e=true->e.on<k) {S:Nat->Prop}
 (hS: ∀j o,S j->ops.toList[j]? =some o-> ∀e∈o.after.toList,Region.binds .any e=true->S e.on):
 ∀(j i:Nat),ka (f0 ops.toList []) i j=true->((∃o,ops.toList[j]? =some o/\ ∀e∈o.after.toList,Region.binds .any e=true->S e.on)\/S j)->S i:=by
 intro j
 induction j using Nat.strongRecOn with
 |_ j ih=>
  intro i ho hj
  have hi:i∈(f0 ops.toList []).getD j []:=by simpa [ka] using ho
  obtain⟨o,e,h1,h2,h3,h4⟩:=WN ops.toList [] i j (by simp) hi (fun k o ho e he U8=>by simpa using hb k o ho e he U8)
  simp at h1
  have c7:ops.toList[j]? =some o:=by simpa using h1
  have hse:S e.on:=by
   rcases hj with⟨o',ej,h⟩|h
   ·rw[c7] at ej;cases ej;exact h e h2 h3
   ·exact hS j o h c7 e h2 h3
  rcases h4 with rfl|h4
  ·exact hse
  ·exact ih e.on (hb j o c7 e h2 h3) i (by simpa [ka] using h4) (.inr hse)
end
section
open Go
section
variable {P:Program} {md:Mode}
theorem Ext.step {N0 N:Nat->Prop} {ι0 ι ι':aF} {I0 I I':aP} {h0 H G G' H':aa} {w0 w w':World} (E:Ext N0 ι0 I0 h0 w0 ι I H w) (F:Ext N ι I G w ι' I' G' w')
 (hN: ∀b,N b->N0 b) (da: ∀b l x,ι b=some l->G.get b=some x-> ∃y,H.get b=some y)
 (i4: ∀b l x,ι' b=some l->H'.get b=some x->(∃y,G'.get b=some y)\/(ι b=some l/\ ∃y,H.get b=some y))
 (fy:H.next<=H'.next) (CW: ∀b,¬N0 b->ι0 b=none->H'.get b=h0.get b):Ext N0 ι0 I0 h0 w0 ι' I' H' w':=by
 have Ft: ∀k j,eM ι G k j->eM ι0 h0 k j\/w0.heap.size<=k:=by
  rintro k j ⟨b,l,x,hb,hg,hl⟩
  obtain⟨y,hy⟩:=da b l x hb hg
  exact E.own k j ⟨b,l,y,hb,hy,hl⟩
 exact
 {eZ:=fun b hb=>(F.eZ b (fun h=>hb (hN b h))).trans (E.eZ b hb)
  bN:=fun b l h=>F.bN b l (E.bN b l h)
  next:=Nat.le_trans E.next fy
  bB:=fun k j h=>F.bB k j (E.bB k j h)
  os:=F.os.trans E.os
  tape:=F.tape.trans E.tape
  output:=F.output.trans E.output
  size:=Nat.le_trans E.size F.size
  block:=fun k hk ho=>(F.block k (Nat.lt_of_lt_of_le hk E.size) (fun j hj=>(Ft k j hj).elim (ho j) (fun h=>by omega))).trans (E.block k hk ho)
  cell:=fun k j hk ho=>(F.cell k j (Nat.lt_of_lt_of_le hk E.size) (fun hj=>(Ft k j hj).elim ho (fun h=>by omega))).trans (E.cell k j hk ho)
  frozen:=fun k j hk ho=>(F.frozen k j (Nat.lt_of_lt_of_le hk E.size) (fun hj=>(Ft k j hj).elim ho (fun h=>by omega))).trans (E.frozen k j hk ho)
  own:=by
   rintro k j ⟨b,l,x,hb,hg,hl⟩
   rcases i4 b l x hb hg with⟨y,hy⟩|⟨bE,y,hy⟩
   ·rcases F.own k j ⟨b,l,y,hb,hy,hl⟩ with h|h
    ·exact Ft k j h
    ·exact .inr (Nat.le_trans E.size h)
   ·exact E.own k j ⟨b,l,y,bE,hy,hl⟩
  gw:=by
   intro k j h
   rcases F.gw k j h with h|h|h
   ·exact E.gw k j h
   ·exact .inr (Ft k j h)
   ·exact .inr (.inr (Nat.le_trans E.size h))
  lost:=CW}
structure TR (P:Program) (ops:Array Oper) (al:List RO) (un:List (List Nat)) (base:Nat) (ρs:Nat->Env) (hs:Nat->aa) (rs:Nat->Option AV):Prop where
 step: ∀(i:Nat) (ro:RO),al[i]? =some ro->bz P ro (base+i) (ρs i) (hs i) (rs i) (hs (i+1))/\ρs (i+1)=put (ρs i) ro.dst (f5 (rs i))
 l6: ∀(i k:Nat) (ro ok:RO),al[i]? =some ro->al[k]? =some ok->k<i->k∈un.getD i []->l6 ro (ρs i) (rs i) (hs (i+1)) ok (ρs k,hs k,rs k)
 ZG: ∀j,j<al.length->(hs 0).get (base+j)=none
 ZF: ∀(i:Nat) (ro:RO),al[i]? =some ro->ro.op.cq=true-> ∀j,i<j->j<al.length->(hs (i+1)).get (base+j)=none
 aqQ:base+al.length<=(hs 0).next
 d1: ∀(i j:Nat) (ri rj:RO) (t:Nat),al[i]? =some ri->al[j]? =some rj->ri.dst=some t->rj.dst=some t->i=j
 d2: ∀(k:Nat) (o:Oper),ops.toList[k]? =some o-> ∀e∈o.after.toList,Region.binds .any e=true->e.on<k
 d3: ∀(i j:Nat) (ri rj:RO) (t:Nat),al[i]? =some ri->al[j]? =some rj->i≠j->t∈ri.sM->rj.dst=some t->if j<i then ka (f0 ops.toList []) j i=true else ka (f0 ops.toList []) i j=true
 d4: ∀(i j:Nat) (ri rj:RO),i<j->al[i]? =some ri->al[j]? =some rj->ri.op.cq=true->rj.op.cq=true->ka (f0 ops.toList []) i j=true
 d5: ∀(i k:Nat) (ri rk:RO),k<i->al[i]? =some ri->al[k]? =some rk->((ri.op.reads=true/\rk.op.cq=true)\/(ri.op.cq=true/\rk.op.reads=true))->ka (f0 ops.toList []) k i=false->k∈un.getD i []
section trace
variable {ops:Array Oper} {al:List RO} {un:List (List Nat)} {base:Nat} {ρs:Nat->Env} {hs:Nat->aa} {rs:Nat->Option AV} (T:TR P ops al un base ρs hs rs)
theorem Wf {ro:RO} {id:Nat} {ρ:Env} {h h':aa} {r:Option AV} (he:ro.op.cq=false) (hs:bz P ro id ρ h r h'):h'=h\/ ∃Bf,h'=h.at id Bf:=by
 unfold bz at hs
 split at hs
 ·obtain⟨v,_,bT⟩:=hs
  unfold gA at bT
  cases bO:ro.op with
  |p q=>rw[bO] at bT;exact .inl bT.2
  |a q=>rw[bO] at bT;obtain⟨b,_,hh⟩:=bT;exact .inr ⟨b,hh⟩
  |e q=>rw[bO] at he;cases he
  |call f as=>rw[bO] at he;cases he
  |dyn x as=>rw[bO] at he;cases he
 ·exact .inl hs.2
 ·exact hs.elim
include T in
theorem TR.one {i:Nat} {ro:RO} (hi:al[i]? =some ro) (he:ro.op.cq=false) (b:Nat) (hb:b≠base+i):(hs (i+1)).get b=(hs i).get b:=by
 rcases Wf he (T.step i ro hi).1 with h|⟨Bf,h⟩
 ·rw[h]
 ·rw[h];simp[aa.at,hb]
def yG (al:List RO) (i j:Nat):Prop:= ∀k ro,i<=k->k<j->al[k]? =some ro->ro.op.cq=false
include T in
theorem TR.v3: ∀(d i:Nat),i+d<=al.length->yG al i (i+d)-> ∀b,(∀k,i<=k->k<i+d->b≠base+k)->(hs (i+d)).get b=(hs i).get b
 |0,i,_,_,b,_=>rfl
 |d+1,i,hle,hq,b,hb=>by
  have aC:i+d<al.length:=by omega
  have h1:=T.one (List.getElem?_eq_getElem aC) (hq (i+d) _ (by omega) (by omega) (List.getElem?_eq_getElem aC)) b (hb (i+d) (by omega) (by omega))
  have h2:=TR.v3 d i (by omega) (fun k ro h3 h4=>hq k ro h3 (by omega)) b (fun k h3 h4=>hb k h3 (by omega))
  rw[show i+(d+1)=i+d+1 by omega,h1,h2]
include T in
theorem TR.Lp: ∀(d i:Nat),i+d<=al.length->yG al i (i+d)->base+al.length<=(hs i).next->(hs (i+d)).next=(hs i).next
 |0,i,_,_,_=>rfl
 |d+1,i,hle,hq,hn=>by
  have aC:i+d<al.length:=by omega
  have h2:=TR.Lp d i (by omega) (fun k ro h3 h4=>hq k ro h3 (by omega)) hn
  rw[show i+(d+1)=i+d+1 by omega,<-h2]
  rcases Wf (hq (i+d) _ (by omega) (by omega) (List.getElem?_eq_getElem aC)) (T.step (i+d) _ (List.getElem?_eq_getElem aC)).1 with h|⟨Bf,h⟩
  ·rw[h]
  ·rw[h];simp only[aa.at];omega
include T in
theorem TR.fresh: ∀(i j:Nat),i<=j->j<al.length->(hs i).get (base+j)=none
 |0,j,_,hj=>T.ZG j hj
 |i+1,j,nL,hj=>by
  have aC:i<al.length:=by omega
  have hi:=List.getElem?_eq_getElem aC
  cases he:(al[i]).op.cq with
  |true=>exact T.ZF i _ hi he j (by omega) hj
  |false=>rw[T.one hi he (base+j) (by omega)];exact TR.fresh i j (by omega) hj
include T in
theorem TR.env: ∀(i:Nat),i<=al.length->(∀t,(∀j ro,j<i->al[j]? =some ro->ro.dst≠some t)->ρs i t=ρs 0 t)/\
 (∀t j ro,j<i->al[j]? =some ro->ro.dst=some t->ρs i t=f5 (rs j))
 |0,_=>⟨fun _ _=>rfl,fun t j ro h=>by omega⟩
 |i+1,hi=>by
  obtain⟨e1,e2⟩:=TR.env i (by omega)
  have aC:i<al.length:=by omega
  have a9:=List.getElem?_eq_getElem aC
  have dD:=(T.step i _ a9).2
  refine⟨fun t ht=>?_,fun t j ro hj dT Ab=>?_⟩
  ·rw[dD]
   have aM:=ht i _ (by omega) a9
   have:put (ρs i) (al[i]).dst (f5 (rs i)) t=ρs i t:=by
    cases hd:(al[i]).dst with
    |none=>rfl
    |some d=>
     have:t≠d:=fun h=>aM (by rw[hd,h])
     simp[put,this]
   rw[this]
   exact e1 t (fun j ro hj dT=>ht j ro (by omega) dT)
  ·rw[dD]
   by_cases eu:j=i
   ·subst eu
    rw[a9] at dT
    cases dT
    simp[put,Ab]
   ·have aM:(al[i]).dst≠some t:=fun h=>eu (T.d1 j i ro _ t dT a9 Ab h)
    have:put (ρs i) (al[i]).dst (f5 (rs i)) t=ρs i t:=by
     cases hd:(al[i]).dst with
     |none=>rfl
     |some d=>
      have:t≠d:=fun h=>aM (by rw[hd,h])
      simp[put,this]
    rw[this]
    exact e2 t j ro (by omega) dT Ab
end trace
end
end
section
open Go
theorem alv {o:bd} {ρ:Env} {h:aa} {v:AV} {b:Nat} (hk:o.key ρ=some b) (hv:aY o ρ h=some v): ∃x,h.get b=some x:=by
 cases hg:h.get b with
 |some x=>exact⟨x,rfl⟩
 |none=>
  exfalso
  cases o<;>simp only[bd.key] at hk<;>try cases hk
  case load ag sz x=>
   simp only[aY] at hv
   split at hk<;>cases hk
   rename_i hx
   simp only[hx,j7,cellsOf,hg] at hv
   simp at hv
  case od x=>
   simp only[aY] at hv
   split at hk<;>cases hk
   all_goals
    rename_i hx
    simp only[hx,cP,cellsOf,hg] at hv
    simp at hv
  case oV sz x y=>
   simp only[aY] at hv
   split at hk<;>cases hk
   rename_i hx
   rw[hx] at hv
   unfold uY at hv
   split at hv
   ·rename_i h1 h2
    cases h2
    simp[cellsOf,hg] at hv
   ·cases hv
  case lookup z ok m k=>
   simp only[aY] at hv
   split at hk<;>cases hk
   rename_i hx
   rw[hx] at hv
   unfold mY at hv
   simp only[] at hv
   split at hv
   ·rename_i h1 h2;cases h1
   ·rename_i h1 h2;cases h1;simp[hg] at hv
   ·cases hv
section
variable {P:Program} {md:Mode}
theorem amw {ι:aF} {I:aP} {w:World} {n:Nat} {ρ:Env} {a:Act} (A:AR ι I w n ρ a) {o:bd} (hc:o.pR=true) {b:Nat} (hk:o.key ρ=some b): ∃l,ι b=some l:=by
 have go: ∀(x:aq) (v:AV),x.ev ρ=v->(∀c,x≠ .const c)-> ∃u,VR ι I w v u:=by
  intro x v hx hn
  cases x with
  |const c=>exact(hn c rfl).elim
  |tmp t=>exact⟨_,by rw[<-hx];exact A.get t⟩
 cases o<;>simp only[bd.key] at hk<;>try cases hk
 case load ag sz x=>
  split at hk<;>cases hk
  rename_i hx
  obtain⟨v,hv⟩:=go x _ hx (by rintro c rfl;simp[bd.pR] at hc)
  cases hv;exact⟨_,by assumption⟩
 case od x=>
  split at hk<;>cases hk
  all_goals
   rename_i hx
   obtain⟨v,hv⟩:=go x _ hx (by rintro c rfl;simp[bd.pR] at hc)
   cases hv;exact⟨_,by assumption⟩
 case oV sz x y=>
  split at hk<;>cases hk
  rename_i hx
  obtain⟨v,hv⟩:=go y _ hx (by rintro c rfl;simp[bd.pR] at hc)
  cases hv;exact⟨_,by assumption⟩
 case lookup z ok m k=>
  split at hk<;>cases hk
  rename_i hx
  obtain⟨v,hv⟩:=go m _ hx (by rintro c rfl;simp[bd.pR] at hc)
  cases hv;exact⟨_,by assumption⟩
theorem aa.same {h h':aa} (hg: ∀b,h.get b=h'.get b) (hn:h.next=h'.next):h=h':=by
 cases h;cases h';simp only at hg hn;subst hn;congr;funext b;exact hg b
structure mS (P:Program) (ops:Array Oper) (al:List RO) (n base:Nat) (ρs:Nat->Env) (hs:Nat->aa) (rs:Nat->Option AV) (ι0:aF) (I0:aP) (w0:World)
 (S:Nat->Prop) (m:Nat) (ρ:Env) (H:aa) (ι:aF) (I:aP) (a:Act) (w:World):Prop where
 ar:AR ι I w n ρ a
 hr:HR ι I H w
 ext:Ext (base<= ·) ι0 I0 (hs 0) w0 ι I H w
 ρ0: ∀(t:Nat),(∀(j:Nat) (ro:RO),S j->al[j]? =some ro->ro.dst≠some t)->ρ t=ρs 0 t
 ρ1: ∀(t j:Nat) (ro:RO),S j->al[j]? =some ro->ro.dst=some t->ρ t=f5 (rs j)
 h1: ∀(j:Nat),S j->m<=j->j<al.length->H.get (base+j)=(hs (j+1)).get (base+j)
 h2: ∀(b:Nat),(∀j,b=base+j->m<=j->j<al.length-> ¬S j)->H.get b=(hs m).get b
 hn:H.next=(hs m).next
 lt: ∀(j:Nat),S j->j<al.length
 closed: ∀(j:Nat) (o:Oper),S j->ops.toList[j]? =some o-> ∀e∈o.after.toList,Region.binds .any e=true->S e.on
 xL:m<=al.length
 u9: ∀(j:Nat) (ro:RO),S j->al[j]? =some ro->ro.op.cq=true->j<m
 Ad: ∀(j:Nat) (ro:RO),j<m->al[j]? =some ro->ro.op.cq=true->S j
 zw:m=0\/ ∃ro,al[m-1]? =some ro/\ro.op.cq=true
 inj: ∀(j:Nat),j<al.length-> ¬S j->ι (base+j)=none
 pb: ∀(j:Nat),j<m-> ¬S j->(hs m).get (base+j)=(hs (j+1)).get (base+j)
 next:base+al.length<=(hs m).next
section inv
variable {ops:Array Oper} {al:List RO} {un:List (List Nat)} {n base:Nat} {ρs:Nat->Env} {hs:Nat->aa} {rs:Nat->Option AV} {ι0:aF} {I0:aP} {w0:World}
 {S:Nat->Prop} {m:Nat} {ρ:Env} {H:aa} {ι:aF} {I:aP} {a:Act} {w:World}
theorem TR.aqG (T:TR P ops al un base ρs hs rs) (V:mS P ops al n base ρs hs rs ι0 I0 w0 S m ρ H ι I a w) (hS: ∀j,j<al.length->S j):ρ=ρs al.length/\H=hs al.length:=by
 have hq:yG al m (m+(al.length-m)):=by
  intro k ro h1 h2 h3
  cases he:ro.op.cq with
  |false=>rfl
  |true=>have:=V.u9 k ro (hS k (by have:=V.xL;omega)) h3 he;omega
 have hm:m+(al.length-m)=al.length:=by have:=V.xL;omega
 constructor
 ·obtain⟨e1,e2⟩:=T.env al.length (Nat.le_refl _)
  funext t
  by_cases hx: ∃(j:Nat) (ro:RO),al[j]? =some ro/\ro.dst=some t
  ·obtain⟨j,ro,h1,h2⟩:=hx
   have hj:=(List.getElem?_eq_some_iff.1 h1).1
   rw[V.ρ1 t j ro (hS j hj) h1 h2,e2 t j ro hj h1 h2]
  ·rw[V.ρ0 t (fun j ro _ h1 h2=>hx ⟨j,ro,h1,h2⟩),e1 t (fun j ro _ h1 h2=>hx ⟨j,ro,h1,h2⟩)]
 ·refine aa.same (fun b=>?_) ?_
  ·by_cases hx: ∃j,b=base+j/\m<=j/\j<al.length
   ·obtain⟨j,rfl,h1,h2⟩:=hx
    rw[V.h1 j (hS j h2) h1 h2]
    have:=T.v3 (al.length-(j+1)) (j+1) (by omega) (fun k ro e1 e2 e3=>hq k ro (by omega) (by omega) e3) (base+j) (fun k e1 e2=>by omega)
    rw[show j+1+(al.length-(j+1))=al.length by omega] at this
    exact this.symm
   ·rw[V.h2 b (fun j h1 h2 h3 _=>hx ⟨j,h1,h2,h3⟩)]
    have:=T.v3 (al.length-m) m (by omega) hq b (fun k e1 e2 e3=>hx ⟨k,e3,e1,by omega⟩)
    rw[hm] at this
    exact this.symm
  ·rw[V.hn]
   have:=T.Lp (al.length-m) m (by omega) hq V.next
   rw[hm] at this
   exact this.symm
theorem TR.ak4 (T:TR P ops al un base ρs hs rs) (V:mS P ops al n base ρs hs rs ι0 I0 w0 S m ρ H ι I a w) {i:Nat} {ro:RO} {o:Oper} (dT:al[i]? =some ro) (ho:ops.toList[i]? =some o) (hi: ¬S i)
 (jT: ∀e∈o.after.toList,Region.binds .any e=true->S e.on): ∀t∈ro.sM,ρs i t=ρ t:=by
 intro t ht
 have iI:=(List.getElem?_eq_some_iff.1 dT).1
 obtain⟨e1,e2⟩:=T.env i (by omega)
 by_cases hx: ∃(j:Nat) (rj:RO),al[j]? =some rj/\rj.dst=some t/\j≠i
 ·obtain⟨j,rj,h1,h2,h3⟩:=hx
  have hd:=T.d3 i j ro rj t dT h1 (Ne.symm h3) ht h2
  by_cases eu:j<i
  ·simp only[eu,if_true] at hd
   have vC:=yD T.d2 V.closed i j hd (.inl ⟨o,ho,jT⟩)
   rw[e2 t j rj eu h1 h2,V.ρ1 t j rj vC h1 h2]
  ·simp only[eu,if_false] at hd
   have vC: ¬S j:=fun hsj=>hi (yD T.d2 V.closed j i hd (.inr hsj))
   rw[e1 t (fun k rk hk h4 h5=>by have:=T.d1 j k rj rk t h1 h4 h2 h5;omega),V.ρ0 t (fun k rk hk h4 h5=>by have:=T.d1 j k rj rk t h1 h4 h2 h5;subst this;exact vC hk)]
 ·rw[e1 t (fun k rk hk h4 h5=>hx ⟨k,rk,h4,h5,by omega⟩),V.ρ0 t (fun k rk hk h4 h5=>hx ⟨k,rk,h4,h5,fun e=>by subst e;exact hi hk⟩)]
theorem TR.YS (T:TR P ops al un base ρs hs rs) (V:mS P ops al n base ρs hs rs ι0 I0 w0 S m ρ H ι I a w) {r:Nat} (hmr:m<=r) (hr:r<=al.length) (hq:yG al m r)
 {b:Nat} {l:Loc} {x:cF} (hb:ι b=some l) (hx:(hs r).get b=some x):H.get b=(hs r).get b:=by
 by_cases hj: ∃j,b=base+j/\m<=j/\j<al.length
 ·obtain⟨j,rfl,h1,h2⟩:=hj
  have vC:S j:=Classical.byContradiction fun hn=>by rw[V.inj j h2 hn] at hb;cases hb
  rw[V.h1 j vC h1 h2]
  by_cases hjr:j<r
  ·have:=T.v3 (r-(j+1)) (j+1) (by omega) (fun k ro e1 e2 e3=>hq k ro (by omega) (by omega) e3) (base+j) (fun k e1 e2=>by omega)
   rw[show j+1+(r-(j+1))=r by omega] at this
   exact this.symm
  ·have:=T.fresh r j (by omega) h2
   rw[this] at hx;cases hx
 ·rw[V.h2 b (fun j e1 e2 e3 _=>hj ⟨j,e1,e2,e3⟩)]
  have:=T.v3 (r-m) m (by omega) (by rw[show m+(r-m)=r by omega];exact hq) b (fun k e1 e2 e3=>hj ⟨k,e3,e1,by omega⟩)
  rw[show m+(r-m)=r by omega] at this
  exact this.symm
theorem TR.ref (T:TR P ops al un base ρs hs rs) (V:mS P ops al n base ρs hs rs ι0 I0 w0 S m ρ H ι I a w) {i:Nat} {ro:RO} {o:Oper} (dT:al[i]? =some ro) (ho:ops.toList[i]? =some o) (hi: ¬S i)
 (jT: ∀e∈o.after.toList,Region.binds .any e=true->S e.on) {q:bd} (hq:ro.op= .p q) (jJ:q.reads=true) {v:AV} (dD:rs i=some v) (hv:aY q (ρs i) (hs i)=some v):
 ∃r,m<=r/\r<=al.length/\yG al m r/\(r<al.length->r=m\/ ¬S r)/\aY q (ρs i) (hs r)=some v:=by
 have iI:=(List.getElem?_eq_some_iff.1 dT).1
 have aM:ro.op.cq=false:=by rw[hq];rfl
 have hrr:ro.op.reads=true:=by rw[hq];exact jJ
 by_cases pg:m<=i
 ·
  by_cases hx: ∃k rk,m<=k/\k<i/\al[k]? =some rk/\rk.op.cq=true
  ·have: ∃k,(∃rk,m<=k/\k<i/\al[k]? =some rk/\rk.op.cq=true)/\ ∀k',k'<k-> ¬ ∃rk,m<=k'/\k'<i/\al[k']? =some rk/\rk.op.cq=true:=by
    obtain⟨k,hk⟩:=hx
    induction k using Nat.strongRecOn with
    |_ k ih=>
     by_cases hy: ∃k',k'<k/\ ∃rk,m<=k'/\k'<i/\al[k']? =some rk/\rk.op.cq=true
     ·obtain⟨k',h1,h2⟩:=hy
      exact ih k' h1 h2
     ·exact⟨k,hk,fun k' h1 h2=>hy ⟨k',h1,h2⟩⟩
   obtain⟨k,⟨rk,h1,h2,h3,h4⟩,h5⟩:=this
   have hkS: ¬S k:=fun h=>by have:=V.u9 k rk h h3 h4;omega
   have Ti:ka (f0 ops.toList []) k i=false:=by
    cases nD:ka (f0 ops.toList []) k i with
    |false=>rfl
    |true=>exact(hkS (yD T.d2 V.closed i k nD (.inl ⟨o,ho,jT⟩))).elim
   have E5:=T.d5 i k ro rk h2 dT h3 (.inl ⟨hrr,h4⟩) Ti
   have kN:=T.l6 i k ro rk dT h3 h2 E5
   unfold Am.l6 at kN
   rw[aM,dD,hq] at kN
   simp only[Bool.false_eq_true,if_false] at kN
   exact⟨k,h1,by omega,fun k' rk' e1 e2 e3=>by cases he:rk'.op.cq with
    |false=>rfl
    |true=>exact(h5 k' e2 ⟨rk',e1,by omega,e3,he⟩).elim,fun _=> .inr hkS,kN⟩
  ·exact⟨i,pg,by omega,fun k rk e1 e2 e3=>by cases he:rk.op.cq with
    |false=>rfl
    |true=>exact(hx ⟨k,rk,e1,e2,e3,he⟩).elim,fun _=> .inr hi,hv⟩
 ·rcases V.zw with h0|⟨rm,h1,h2⟩
  ·omega
  ·have Fs:=V.Ad (m-1) rm (by omega) h1 h2
   have En:i≠m-1:=fun e=>by subst e;exact hi Fs
   have Ti:ka (f0 ops.toList []) i (m-1)=false:=by
    cases nD:ka (f0 ops.toList []) i (m-1) with
    |false=>rfl
    |true=>exact(hi (yD T.d2 V.closed (m-1) i nD (.inr Fs))).elim
   have E5:=T.d5 (m-1) i rm ro (by omega) h1 dT (.inr ⟨h2,hrr⟩) Ti
   have kN:=T.l6 (m-1) i rm ro h1 dT (by omega) E5
   unfold Am.l6 at kN
   rw[h2,dD,hq] at kN
   simp only[if_true] at kN
   rw[show m-1+1=m by omega] at kN
   exact⟨m,Nat.le_refl _,V.xL,fun k rk e1 e2=>by omega,fun _=> .inl rfl,kN⟩
end inv
end
end
section
open Go
section
variable {P:Program} {md:Mode}
variable {ops:Array Oper} {al:List RO} {un:List (List Nat)} {n base:Nat} {ρs:Nat->Env} {hs:Nat->aa} {rs:Nat->Option AV} {ι0:aF} {I0:aP} {w0:World}
 {S:Nat->Prop} {m:Nat} {ρ:Env} {H:aa} {ι:aF} {I:aP} {a:Act} {w:World}
theorem Xg {ρ:Env} {d:Option Nat} {v:AV} {t:Nat} (h:d≠some t):put ρ d v t=ρ t:=by
 cases d with
 |none=>rfl
 |some d=>
  have:t≠d:=fun e=>h (by rw[e])
  simp[put,this]
theorem alc {ρ:Env} {d:Option Nat} {v:AV} {t:Nat} (h:d=some t):put ρ d v t=v:=by subst h;simp[put]
theorem TR.WG (T:TR P ops al un base ρs hs rs) (V:mS P ops al n base ρs hs rs ι0 I0 w0 S m ρ H ι I a w) {i:Nat} {ro:RO} (dT:al[i]? =some ro) (hi: ¬S i):
 (∀(t:Nat),(∀(j:Nat) (rj:RO),(S j\/j=i)->al[j]? =some rj->rj.dst≠some t)->put ρ ro.dst (f5 (rs i)) t=ρs 0 t)/\
 (∀(t j:Nat) (rj:RO),(S j\/j=i)->al[j]? =some rj->rj.dst=some t->put ρ ro.dst (f5 (rs i)) t=f5 (rs j)):=by
 constructor
 ·intro t ht
  rw[Xg (ht i ro (.inr rfl) dT)]
  exact V.ρ0 t (fun j rj h1 h2=>ht j rj (.inl h1) h2)
 ·intro t j rj hj rU hd
  rcases hj with hj|rfl
  ·have aM:j≠i:=fun e=>hi (e▸hj)
   rw[Xg (fun e=>aM (T.d1 j i rj ro t rU dT hd e))]
   exact V.ρ1 t j rj hj rU hd
  ·rw[dT] at rU;cases rU
   exact alc hd
theorem TR.Wy (V:mS P ops al n base ρs hs rs ι0 I0 w0 S m ρ H ι I a w) {i:Nat} {o:Oper} (ho:ops.toList[i]? =some o)
 (jT: ∀e∈o.after.toList,Region.binds .any e=true->S e.on):
 ∀(j:Nat) (oj:Oper),(S j\/j=i)->ops.toList[j]? =some oj-> ∀e∈oj.after.toList,Region.binds .any e=true->(S e.on\/e.on=i):=by
 intro j oj hj UR e he hb
 rcases hj with hj|rfl
 ·exact .inl (V.closed j oj hj UR e he hb)
 ·rw[ho] at UR;cases UR
  exact .inl (jT e he hb)
theorem TR.ai0 (T:TR P ops al un base ρs hs rs) (V:mS P ops al n base ρs hs rs ι0 I0 w0 S m ρ H ι I a w) {i:Nat} {ro:RO} {o:Oper} (dT:al[i]? =some ro) (ho:ops.toList[i]? =some o) (hi: ¬S i)
 (jT: ∀e∈o.after.toList,Region.binds .any e=true->S e.on) (he:ro.op.cq=false) {H1:aa} {ι':aF} {I':aP} {a':Act} {w':World}
 (g1: ∀b,b≠base+i->H1.get b=H.get b) (g2:H1.get (base+i)=(hs (i+1)).get (base+i)) (g3:H1.next=H.next)
 (A':AR ι' I' w' n (put ρ ro.dst (f5 (rs i))) a') (H':HR ι' I' H1 w') (E:Ext (fun b=>b=base+i\/H.next<=b) ι I H w ι' I' H1 w'):
 mS P ops al n base ρs hs rs ι0 I0 w0 (fun j=>S j\/j=i) m (put ρ ro.dst (f5 (rs i))) H1 ι' I' a' w':=by
 have iI:=(List.getElem?_eq_some_iff.1 dT).1
 obtain⟨s0,s1⟩:=T.WG V dT hi
 have AO:base+al.length<=H.next:=by rw[V.hn];exact V.next
 exact
 {ar:=A',hr:=H',ρ0:=s0,ρ1:=s1,closed:=TR.Wy V ho jT,xL:=V.xL,zw:=V.zw,next:=V.next
  ext:=V.ext.trans E (fun b hb=>by rcases hb with rfl|hb<;>omega)
  h1:=by
   intro j hj h1 h2
   rcases hj with hj|rfl
   ·have aM:j≠i:=fun e=>hi (e▸hj)
    rw[g1 _ (by omega)];exact V.h1 j hj h1 h2
   ·exact g2
  h2:=by
   intro b hb
   by_cases cp:b=base+i
   ·subst cp
    have xY: ¬m<=i:=fun h=>hb i rfl h iI (.inr rfl)
    rw[g2,V.pb i (by omega) hi]
   ·rw[g1 b cp]
    exact V.h2 b (fun j h1 h2 h3 h4=>hb j h1 h2 h3 (.inl h4))
  hn:=by rw[g3];exact V.hn
  lt:=fun j hj=>by rcases hj with hj|rfl;exact V.lt j hj;exact iI
  u9:=fun j rj hj rU Fi=>by
   rcases hj with hj|rfl
   ·exact V.u9 j rj hj rU Fi
   ·rw[dT] at rU;cases rU;rw[he] at Fi;cases Fi
  Ad:=fun j rj h1 h2 h3=> .inl (V.Ad j rj h1 h2 h3)
  inj:=by
   intro j hj hn
   have:j≠i:=fun e=>hn (.inr e)
   rw[E.eZ _ (by omega)]
   exact V.inj j hj (fun h=>hn (.inl h))
  pb:=fun j hj hn=>V.pb j hj (fun h=>hn (.inl h))}
open Classical in
theorem TR.alK (T:TR P ops al un base ρs hs rs) (V:mS P ops al n base ρs hs rs ι0 I0 w0 S m ρ H ι I a w) {i:Nat} {ro:RO} {o:Oper} (dT:al[i]? =some ro) (ho:ops.toList[i]? =some o) (hi: ¬S i)
 (jT: ∀e∈o.after.toList,Region.binds .any e=true->S e.on) (he:ro.op.cq=true):
 HR ι I (hs i) w/\base+al.length<=(hs i).next/\ ∀{ι':aF} {I':aP} {a':Act} {w':World},
 AR ι' I' w' n (put ρ ro.dst (f5 (rs i))) a'->HR ι' I' (hs (i+1)) w'->Ext (fun b=>b=base+i\/(hs i).next<=b) ι I (hs i) w ι' I' (hs (i+1)) w'->
 ∃J,mS P ops al n base ρs hs rs ι0 I0 w0 (fun j=>S j\/j=i) (i+1) (put ρ ro.dst (f5 (rs i))) J ι' I' a' w':=by
 have iI:=(List.getElem?_eq_some_iff.1 dT).1
 have Y0: ∀(k:Nat) (rk:RO),k<i->al[k]? =some rk->rk.op.cq=true->S k:=fun k rk h1 h2 h3=>
  yD T.d2 V.closed i k (T.d4 k i rk ro h1 h2 dT h3 he) (.inl ⟨o,ho,jT⟩)
 have aoT: ∀(k:Nat) (rk:RO),i<k->al[k]? =some rk->rk.op.cq=true-> ¬S k:=fun k rk h1 h2 h3 h4=>
  hi (yD T.d2 V.closed k i (T.d4 i k ro rk h1 dT h2 he h3) (.inr h4))
 have pg:m<=i:=by
  rcases V.zw with h0|⟨rm,h1,h2⟩
  ·omega
  ·by_cases hq:m<=i
   ·exact hq
   ·have Fs:=V.Ad (m-1) rm (by omega) h1 h2
    by_cases gV:m-1=i
    ·exact(hi (gV▸Fs)).elim
    ·exact(aoT (m-1) rm (by omega) h1 h2 Fs).elim
 have hq:yG al m i:=by
  intro k rk h1 h2 h3
  cases x7:rk.op.cq with
  |false=>rfl
  |true=>have:=V.u9 k rk (Y0 k rk h2 h3 x7) h3 x7;omega
 have gU:(hs i).next=(hs m).next:=by
  have:=T.Lp (i-m) m (by omega) (by rw[show m+(i-m)=i by omega];exact hq) V.next
  rwa [show m+(i-m)=i by omega] at this
 have dD: ∀b,(∀k,m<=k->k<i->b≠base+k)->(hs i).get b=(hs m).get b:=by
  intro b hb
  have:=T.v3 (i-m) m (by omega) (by rw[show m+(i-m)=i by omega];exact hq) b (fun k h1 h2=>hb k h1 (by omega))
  rwa [show m+(i-m)=i by omega] at this
 have auc: ∀j,m<=j->j<i->(hs i).get (base+j)=(hs (j+1)).get (base+j):=by
  intro j h1 h2
  have:=T.v3 (i-(j+1)) (j+1) (by omega) (fun k rk e1 e2 e3=>hq k rk (by omega) (by omega) e3) (base+j) (fun k e1 e2=>by omega)
  rwa [show j+1+(i-(j+1))=i by omega] at this
 have PH: ∀b l x,ι b=some l->(hs i).get b=some x->H.get b=(hs i).get b:=fun b l x hb hx=>
  T.YS V pg (by omega) hq hb hx
 have HH:HR ι I (hs i) w:=V.hr.CL (fun b l hb=>by rw[gU,<-V.hn];exact V.hr.cE b l hb) (fun b l x hb hx=>by rw[PH b l x hb hx];exact hx)
 refine⟨HH,by rw[gU];exact V.next,?_⟩
 intro ι' I' a' w' A' H' E
 obtain⟨s0,s1⟩:=T.WG V dT hi
 let J:aa:={get:=fun b=>if∃j,b=base+j/\i+1<=j/\j<al.length/\S j then H.get b else(hs (i+1)).get b,next:=(hs (i+1)).next}
 have Vk: ∀j,i+1<=j->j<al.length->S j->J.get (base+j)=H.get (base+j):=fun j h1 h2 h3=>if_pos ⟨j,rfl,h1,h2,h3⟩
 have Kv: ∀b,(¬ ∃j,b=base+j/\i+1<=j/\j<al.length/\S j)->J.get b=(hs (i+1)).get b:=fun b hb=>if_neg hb
 have gY: ∀j,j<al.length->j≠i->ι' (base+j)=ι (base+j):=fun j h1 h2=>E.eZ _ (by have:=V.next;omega)
 have HJ:HR ι' I' J w':=by
  refine V.hr.join H' E (fun b l x hb hx=>by rw[PH b l x hb hx];exact hx) (Nat.le_refl _) ?_
  intro b x hx
  by_cases hb: ∃j,b=base+j/\i+1<=j/\j<al.length/\S j
  ·obtain⟨j,rfl,h1,h2,h3⟩:=hb
   rw[Vk j h1 h2 h3] at hx
   cases hl:ι (base+j) with
   |none=>right;right;rw[gY j h2 (by omega)];exact hl
   |some l=>right;left;exact⟨hx,T.fresh i j (by omega) h2,l,rfl⟩
  ·rw[Kv b hb] at hx
   exact .inl hx
 refine⟨J,?_⟩
 exact
 {ar:=A',hr:=HJ,ρ0:=s0,ρ1:=s1,closed:=TR.Wy V ho jT,xL:=by omega
  zw:= .inr ⟨ro,by simpa using dT,he⟩
  next:=by have:=E.next;have:=V.next;omega
  hn:=rfl
  ext:=by
   refine V.ext.step E (fun b hb=>?_) (fun b l x hb hx=>⟨x,by rw[PH b l x hb hx];exact hx⟩) ?_ ?_ ?_
   ·have:=V.next;rcases hb with rfl|hb<;>omega
   ·intro b l x hb hx
    by_cases hbj: ∃j,b=base+j/\i+1<=j/\j<al.length/\S j
    ·obtain⟨j,rfl,h1,h2,h3⟩:=hbj
     rw[Vk j h1 h2 h3] at hx
     exact .inr ⟨by rw[<-gY j h2 (by omega)];exact hb,x,hx⟩
    ·rw[Kv b hbj] at hx
     exact .inl ⟨x,hx⟩
   ·show H.next<=(hs (i+1)).next
    have:=E.next;rw[V.hn];omega
   ·intro b hb hn
    have bE:b<base:=by simpa using hb
    rw[Kv b (by rintro⟨j,rfl,_⟩;omega),E.lost b (by have:=V.next;omega) (by rw[V.ext.eZ b hb];exact hn),dD b (fun k _ _=>by omega),<-V.h2 b (fun j h1=>by omega)]
    exact V.ext.lost b hb hn
  h1:=by
   intro j hj h1 h2
   rcases hj with hj|rfl
   ·rw[Vk j h1 h2 hj];exact V.h1 j hj (by omega) h2
   ·omega
  h2:=by
   intro b hb
   exact Kv b (by rintro⟨j,h1,h2,h3,h4⟩;exact hb j h1 h2 h3 (.inl h4))
  lt:=fun j hj=>by rcases hj with hj|rfl;exact V.lt j hj;exact iI
  u9:=fun j rj hj rU Fi=>by
   rcases hj with hj|rfl
   ·have:=V.u9 j rj hj rU Fi;omega
   ·omega
  Ad:=fun j rj h1 h2 h3=>by
   by_cases eu:j=i
   ·exact .inr eu
   ·exact .inl (Y0 j rj (by omega) h2 h3)
  inj:=by
   intro j hj hn
   rw[gY j hj (fun e=>hn (.inr e))]
   exact V.inj j hj (fun h=>hn (.inl h))
  pb:=by
   intro j hj hn
   have eu:j≠i:=fun e=>hn (.inr e)
   have vC: ¬S j:=fun h=>hn (.inl h)
   rw[E.lost (base+j) (by have:=V.next;omega) (V.inj j (by omega) vC)]
   by_cases hjm:m<=j
   ·exact auc j hjm (by omega)
   ·rw[dD (base+j) (fun k _ _=>by omega)]
    exact V.pb j (by omega) vC}
end
end
section
open Go
theorem VT {p p':Nat->Bool} (hle: ∀j,p' j=true->p j=true): ∀l:List Nat,(l.filter p').length<=(l.filter p).length
 |[]=>by simp
 |x::l=>by
  have ih:=VT hle l
  by_cases h1:p' x=true
  ·simp[h1,hle x h1];exact ih
  ·by_cases h2:p x=true
   ·simp[h1,h2];omega
   ·simp[h1,h2];exact ih
theorem VS {p p':Nat->Bool} (hle: ∀j,p' j=true->p j=true) {i:Nat} (hp:p i=true) (xV:p' i=false): ∀l:List Nat,i∈l->(l.filter p').length<(l.filter p).length
 |[],h=>by simp at h
 |x::l,h=>by
  have avz:=VT hle l
  by_cases hxi:x=i
  ·subst hxi;simp[hp,xV];omega
  ·have ih:=VS hle hp xV l (by simpa [Ne.symm hxi] using h)
   by_cases h1:p' x=true
   ·simp[h1,hle x h1];exact ih
   ·by_cases h2:p x=true
    ·simp[h1,h2];omega
    ·simp[h1,h2];exact ih
theorem mem_ready {ops:Array Oper} {eV:Array Bool} {i:Nat}:i∈Region.ready .any ops eV↔
 i<ops.size/\eV.getD i true=false/\ ∃o,ops.toList[i]? =some o/\ ∀e∈o.after.toList,Region.binds .any e=true->eV.getD e.on false=true:=by
 simp only[Region.ready,List.mem_filter,List.mem_range,Bool.and_eq_true,Bool.not_eq_true']
 refine and_congr_right fun hi=>and_congr_right fun _=>?_
 have:ops[i]? =ops.toList[i]?:=by simp
 rw[this]
 have aA:i<ops.toList.length:=by simpa using hi
 rw[List.getElem?_eq_getElem aA]
 simp only[Option.map_some,Option.getD_some,Option.some.injEq,exists_eq_left']
 rw[Array.all_eq_true_iff_forall_mem]
 constructor
 ·intro h e he hb
  have:=h e (by simpa using he)
  simpa [hb] using this
 ·intro h e he
  by_cases hb:Region.binds .any e=true
  ·simp[hb,h e (by simpa using he) hb]
  ·simp[hb]
section
variable {P:Program} {md:Mode}
variable {ops:Array Oper} {al:List RO} {un:List (List Nat)} {n base:Nat} {ρs:Nat->Env} {hs:Nat->aa} {rs:Nat->Option AV} {ι0:aF} {I0:aP} {w0:World}
 {Q:Exit->Act->World->Prop}
theorem TR.alf (T:TR P ops al un base ρs hs rs) (ya: ∀(i:Nat) (o:Oper) (ro:RO),ops.toList[i]? =some o->al[i]? =some ro->tQ P md n ops o=some ro)
 (U1: ∀ro∈al,ro.op.pR=true)
 {S:Nat->Prop} {m:Nat} {ρ:Env} {H:aa} {ι:aF} {I:aP} {a:Act} {w:World} (V:mS P ops al n base ρs hs rs ι0 I0 w0 S m ρ H ι I a w)
 {i:Nat} {ro:RO} {o:Oper} (dT:al[i]? =some ro) (ho:ops.toList[i]? =some o) (hi: ¬S i)
 (jT: ∀e∈o.after.toList,Region.binds .any e=true->S e.on) {K:Act->World->Prop}
 (hK: ∀(m':Nat) (ρ':Env) (H':aa) (ι':aF) (I':aP) (a':Act) (w':World),mS P ops al n base ρs hs rs ι0 I0 w0 (fun j=>S j\/j=i) m' ρ' H' ι' I' a' w'->K a' w'):
 if Region.wanted o (yielded ops a.tmps) then o.wp P a w K Q\/(o.asks P a w/\LetsOut Q) else K (a.put o.dst Go.undef) w:=by
 have iI:=(List.getElem?_eq_some_iff.1 dT).1
 have hc:=ya i o ro ho dT
 have rn:=(T.step i ro dT).1
 have qq:=T.ak4 V dT ho hi jT
 have aJ:=V.inj i iI hi
 cases he:ro.op.cq with
 |true=>
  obtain⟨HH,gU,Tq⟩:=T.alK V dT ho hi jT he
  refine Lm (Q:=Q) HH V.ar hc aJ (WC qq rn) ?_
  intro a' w' ι' I' A' H' E
  obtain⟨J,V'⟩:=Tq A' H' E
  exact hK _ _ _ _ _ _ _ V'
 |false=>
  have key: ∃H1,bz P ro (base+i) ρ H (rs i) H1/\(∀b,b≠base+i->H1.get b=H.get b)/\H1.get (base+i)=(hs (i+1)).get (base+i)/\H1.next=H.next:=by
   have Aa:ro∈al:=List.mem_of_getElem? dT
   have xa:=WC qq rn
   have AO:base+al.length<=H.next:=by rw[V.hn];exact V.next
   have ZD:(hs (i+1)).get (base+i)=none->H.get (base+i)=(hs (i+1)).get (base+i):=by
    intro Im
    by_cases pg:m<=i
    ·rw[V.h2 (base+i) (fun j h1 h2 h3=>by have:j=i:=by omega
                                          subst this;exact hi)]
     rw[T.fresh m i pg iI,Im]
    ·rw[V.h2 (base+i) (fun j h1 h2 h3=>by omega)]
     exact V.pb i (by omega) hi
   unfold bz at xa
   split at xa
   ·rename_i hg
    obtain⟨v,hv,bT⟩:=xa
    unfold gA at bT
    cases bO:ro.op with
    |p q=>
     rw[bO] at bT
     obtain⟨vn,hh⟩:=bT
     refine⟨H,?_,fun b _=>rfl,ZD (by rw[hh];exact T.fresh i i (Nat.le_refl _) iI),rfl⟩
     have hvH:aY q ρ H=some v:=by
      by_cases jJ:q.reads=true
      ·have Kc:aY q (ρs i) (hs i)=some v:=by
        rw[Lj q (ρ':=ρ) (hs i) ?_]
        ·exact vn
        ·intro x hx
         cases x with
         |const c=>rfl
         |tmp t=>exact qq t (by simp only[RO.sM,bO,bX.dX,List.mem_append,List.mem_flatMap];exact .inl ⟨_,hx,by simp[aq.slot]⟩)
       obtain⟨r,h1,h2,h3,h4,h5⟩:=T.ref V dT ho hi jT bO jJ hv Kc
       rw[Lj q (ρ':=ρ) (hs r) ?_] at h5
       ·rw[<-h5]
        refine ue q ρ H (hs r) (fun b hb=>?_)
        obtain⟨l,hl⟩:=amw V.ar (by have:=U1 ro Aa;rw[bO] at this;exact this) hb
        obtain⟨x,hx⟩:=alv hb h5
        exact T.YS V h1 h2 h3 hl hx
       ·intro x hx
        cases x with
        |const c=>rfl
        |tmp t=>exact qq t (by simp only[RO.sM,bO,bX.dX,List.mem_append,List.mem_flatMap];exact .inl ⟨_,hx,by simp[aq.slot]⟩)
      ·rw[<-vn]
       refine ue q ρ H (hs i) (fun b hb=>?_)
       exfalso
       cases q<;>simp[bd.key,bd.reads] at hb jJ
     unfold bz
     rw[hg]
     refine⟨v,hv,?_⟩
     unfold gA
     rw[bO]
     exact⟨hvH,rfl⟩
    |a q=>
     rw[bO] at bT
     obtain⟨Bf,vn,hh⟩:=bT
     refine⟨H.at (base+i) Bf,?_,fun b hb=>by simp[aa.at,hb],by rw[hh];simp[aa.at],by simp only[aa.at];omega⟩
     unfold bz
     rw[hg]
     refine⟨v,hv,?_⟩
     unfold gA
     rw[bO]
     exact⟨Bf,vn,rfl⟩
    |e q=>rw[bO] at he;cases he
    |call f as=>rw[bO] at he;cases he
    |dyn x as=>rw[bO] at he;cases he
   ·rename_i hg
    obtain⟨hr,hh⟩:=xa
    refine⟨H,?_,fun b _=>rfl,ZD (by rw[hh];exact T.fresh i i (Nat.le_refl _) iI),rfl⟩
    unfold bz
    rw[hg]
    exact⟨hr,rfl⟩
   ·exact xa.elim
  obtain⟨H1,UM,g1,g2,g3⟩:=key
  refine Lm (Q:=Q) V.hr V.ar hc aJ UM ?_
  intro a' w' ι' I' A' H' E
  exact hK _ _ _ _ _ _ _ (T.ai0 V dT ho hi jT he g1 g2 g3 A' H' E)
theorem TR.akG (T:TR P ops al un base ρs hs rs) (hlen:ops.toList.length=al.length) (ya: ∀(i:Nat) (o:Oper) (ro:RO),ops.toList[i]? =some o->al[i]? =some ro->tQ P md n ops o=some ro)
 (U1: ∀ro∈al,ro.op.pR=true)
 (hQ: ∀(ι:aF) (I:aP) (a:Act) (w:World),AR ι I w n (ρs al.length) a->HR ι I (hs al.length) w->Ext (base<= ·) ι0 I0 (hs 0) w0 ι I (hs al.length) w->Q .normal a w):
 ∀(fuel:Nat) (eV:Array Bool) {S:Nat->Prop} {m:Nat} {ρ:Env} {H:aa} {ι:aF} {I:aP} {a:Act} {w:World},mS P ops al n base ρs hs rs ι0 I0 w0 S m ρ H ι I a w->
 eV.size=ops.size->(∀j,S j↔eV[j]? =some true)->((List.range ops.size).filter fun j=>!eV.getD j true).length<=fuel->
 wpAny P .any ops Q fuel eV a w:=by
 have aO:ops.size=al.length:=by simpa using hlen
 have acD: ∀(eV:Array Bool) {S:Nat->Prop} {m:Nat} {ρ:Env} {H:aa} {ι:aF} {I:aP} {a:Act} {w:World},mS P ops al n base ρs hs rs ι0 I0 w0 S m ρ H ι I a w->
  eV.size=ops.size->(∀j,S j↔eV[j]? =some true)->Region.ready .any ops eV=[]->Q .normal a w:=by
  intro eV S m ρ H ι I a w V hl hS hr
  have gD: ∀j,j<al.length->S j:=by
   intro j
   induction j using Nat.strongRecOn with
   |_ j ih=>
    intro hj
    apply Classical.byContradiction
    intro hn
    have hjo:j<ops.toList.length:=by omega
    have:j∈Region.ready .any ops eV:=by
     rw[mem_ready]
     refine⟨by omega,?_,_,List.getElem?_eq_getElem hjo,fun e he hb=>?_⟩
     ·have dU:j<eV.size:=by omega
      have aM:eV[j]?≠some true:=fun h=>hn ((hS j).2 h)
      rw[Array.getElem?_eq_getElem dU] at aM
      simp only[Array.getD,dU,dif_pos]
      cases hq:eV[j] with
      |false=>simpa using hq
      |true=>exact(aM (by rw[hq])).elim
     ·have aC:=T.d2 j _ (List.getElem?_eq_getElem hjo) e he hb
      have:=(hS e.on).1 (ih e.on aC (by omega))
      simp[Array.getD_eq_getD_getElem?,this]
    rw[hr] at this
    simp at this
  obtain⟨rfl,rfl⟩:=T.aqG V gD
  exact hQ ι I a w V.ar V.hr V.ext
 intro fuel
 induction fuel with
 |zero=>
  intro eV S m ρ H ι I a w V hl hS hf
  have hr:Region.ready .any ops eV=[]:=by
   cases hq:Region.ready .any ops eV with
   |nil=>rfl
   |cons i l=>
    have hi:i∈Region.ready .any ops eV:=by rw[hq];simp
    obtain⟨h1,h2,_⟩:=mem_ready.1 hi
    have hz:=List.eq_nil_of_length_eq_zero (Nat.le_zero.1 hf)
    have:i∈(List.range ops.size).filter fun j=>!eV.getD j true:=by
     rw[List.mem_filter]
     exact⟨List.mem_range.2 h1,by rw[h2];rfl⟩
    rw[hz] at this
    simp at this
  exact⟨hr,acD eV V hl hS hr⟩
 |succ fuel ih=>
  intro eV S m ρ H ι I a w V hl hS hf
  refine⟨acD eV V hl hS,fun i hi=>?_⟩
  obtain⟨h1,h2,o,ho,jT⟩:=mem_ready.1 hi
  have asx:i<al.length:=by omega
  have dT:=List.getElem?_eq_getElem asx
  have hnS: ¬S i:=by
   intro h
   have:=(hS i).1 h
   simp[Array.getD_eq_getD_getElem?,this] at h2
  have jJ: ∀e∈o.after.toList,Region.binds .any e=true->S e.on:=by
   intro e he hb
   have hx:=jT e he hb
   rw[hS]
   cases hq:eV[e.on]? with
   |none=>simp[Array.getD_eq_getD_getElem?,hq] at hx
   |some b=>simp[Array.getD_eq_getD_getElem?,hq] at hx;rw[hx]
  have bO:ops[i]? =some o:=by simpa using ho
  unfold wpOp
  rw[bO]
  simp only[]
  refine T.alf ya U1 V dT ho hnS jJ ?_
  intro m' ρ' H' ι' I' a' w' V'
  refine ih (eV.setIfInBounds i true) V' (by simp[hl]) (fun j=>?_) ?_
  ·by_cases eu:j=i
   ·subst eu
    have:j<eV.size:=by omega
    simp[this]
   ·simp[eu,Array.getElem?_setIfInBounds_ne (Ne.symm eu),hS j]
  ·have aC:=VS (p:=fun j=>!eV.getD j true) (p':=fun j=>!(eV.setIfInBounds i true).getD j true) (i:=i) (fun j hj=>?_) (by simp[h2]) ?_ (List.range ops.size) (by simpa using h1)
   ·omega
   ·by_cases eu:j=i
    ·subst eu
     have dU:j<eV.size:=by omega
     simp[Array.getD_eq_getD_getElem?,dU] at hj
    ·simpa [Array.getD_eq_getD_getElem?,Array.getElem?_setIfInBounds_ne (Ne.symm eu)] using hj
   ·have dU:i<eV.size:=by omega
    simp[Array.getD_eq_getD_getElem?,dU]
end
end
section
open Go
section
variable {P:Program} {md:Mode}
theorem WU {s9:List Nat} {oQ:List (List Nat)} (h: ∀j i,(s9.getD j 0).testBit i=(oQ.getD j []).contains i) (i:Nat): ∀es:List Edge,
 (BU s9 es).testBit i=(es.flatMap fun e=>e.on::oQ.getD e.on []).contains i
 |[]=>by simp[BU]
 |e::es=>by
  rw[BU,Nat.testBit_or,Nat.testBit_or,WU h i es,h,Nat.testBit_two_pow,List.flatMap_cons]
  rw[Bool.eq_iff_iff]
  simp only[Bool.or_eq_true,decide_eq_true_eq,List.contains_iff_mem,List.mem_append,List.mem_cons]
  constructor
  ·rintro((h1|h1)|h1)
   ·exact .inl (.inl h1.symm)
   ·exact .inl (.inr h1)
   ·exact .inr h1
  ·rintro((h1|h1)|h1)
   ·exact .inl (.inl h1.symm)
   ·exact .inl (.inr h1)
   ·exact .inr h1
theorem WM: ∀(os:List Oper) (s9:List Nat) (oQ:List (List Nat)),s9.length=oQ.length->(∀j i,(s9.getD j 0).testBit i=(oQ.getD j []).contains i)->
 ∀j i,((qR os s9).getD j 0).testBit i=((f0 os oQ).getD j []).contains i
 |[],s9,oQ,hl,h,j,i=>h j i
 |o::os,s9,oQ,hl,h,j,i=>by
  rw[qR,f0]
  refine WM os _ _ (by simp[hl]) (fun j i=>?_) j i
  simp only[List.getD_eq_getElem?_getD]
  by_cases hj:j<s9.length
  ·rw[List.getElem?_append_left hj,List.getElem?_append_left (by omega)]
   have:=h j i
   simpa only[List.getD_eq_getElem?_getD] using this
  ·rw[List.getElem?_append_right (by omega),List.getElem?_append_right (by omega),hl]
   by_cases qw:j=oQ.length
   ·subst qw
    simpa using WU h i (o.after.toList.filter fun e=>Region.binds .any e)
   ·have:0<j-oQ.length:=by omega
    obtain⟨d,hd⟩: ∃d,j-oQ.length=d+1:=⟨j-oQ.length-1,by omega⟩
    rw[hd]
    simp
theorem Gv {ops:Array Oper} {m i j:Nat} (hm:(qR ops.toList [])[j]? =some m):m.testBit i=ka (f0 ops.toList []) i j:=by
 have:=WM ops.toList [] [] rfl (fun j i=>by simp) j i
 rw[List.getD_eq_getElem?_getD,hm] at this
 simpa [ka] using this
theorem ua {al:List RO} {ms:List Nat} (hl:ms.length=al.length) {i:Nat} {ri:RO} (hi:al[i]? =some ri): ∃m,ms[i]? =some m/\((ri,m),i)∈zt al ms:=by
 have aC:=(List.getElem?_eq_some_iff.1 hi).1
 have hm:=List.getElem?_eq_getElem (l:=ms) (i:=i) (by omega)
 refine⟨_,hm,?_⟩
 rw[zt,List.mem_zipIdx_iff_getElem?,List.getElem?_zip_eq_some]
 exact⟨hi,hm⟩
theorem aj4 {ops:Array Oper} {al:List RO} (h:EN ops al=true):
 (∀(i j:Nat) (ri rj:RO) (t:Nat),al[i]? =some ri->al[j]? =some rj->ri.dst=some t->rj.dst=some t->i=j)/\
 (∀(k:Nat) (o:Oper),ops.toList[k]? =some o-> ∀e∈o.after.toList,Region.binds .any e=true->e.on<k)/\
 (∀(i j:Nat) (ri rj:RO) (t:Nat),al[i]? =some ri->al[j]? =some rj->i≠j->t∈ri.sM->rj.dst=some t->if j<i then ka (f0 ops.toList []) j i=true else ka (f0 ops.toList []) i j=true)/\
 (∀(i j:Nat) (ri rj:RO),i<j->al[i]? =some ri->al[j]? =some rj->ri.op.cq=true->rj.op.cq=true->ka (f0 ops.toList []) i j=true)/\
 (∀ro∈al,ro.op.pR=true)/\(qR ops.toList []).length=al.length:=by
 simp only[EN,Bool.and_eq_true] at h
 obtain⟨⟨⟨⟨⟨h0,h1⟩,h2⟩,h3⟩,h4⟩,h5⟩:=h
 have hl:(qR ops.toList []).length=al.length:=by simpa using h0
 simp only[List.all_eq_true] at h1 h3 h5
 refine⟨fun i j ri rj t hi hj hdi hdj=>?_,fun k o hk e he hb=>?_,fun i j ri rj t hi hj aM ht hd=>?_,fun i j ri rj nL hi hj hei Kr=>?_,h5,hl⟩
 ·obtain⟨mi,pg,AB⟩:=ua hl hi
  obtain⟨mj,Ki,Fa⟩:=ua hl hj
  have:=h1 _ AB _ Fa
  simp only[hdi,hdj] at this
  simpa using this
 ·rw[List.all_eq_true] at h2
  have:=h2 (o,k) (by rw[List.mem_iff_getElem?];exact⟨k,by simp[List.getElem?_zipIdx,hk]⟩)
  simp only[List.all_eq_true] at this
  have:=this e he
  simpa [hb] using this
 ·obtain⟨mi,pg,AB⟩:=ua hl hi
  obtain⟨mj,Ki,Fa⟩:=ua hl hj
  have:=h3 _ AB t ht _ Fa
  simp only[hd] at this
  have En:(i==j)=false:=by simpa using aM
  rw[En] at this
  rw[<-Gv pg,<-Gv Ki]
  split
  ·rename_i aC;simpa [aC] using this
  ·rename_i aC;simpa [aC] using this
 ·obtain⟨mi,pg,AB⟩:=ua hl hi
  obtain⟨mj,Ki,Fa⟩:=ua hl hj
  rw[List.all_eq_true] at h4
  have:=h4 _ Fa
  simp only[Kr,Bool.not_true,Bool.false_or,List.all_eq_true] at this
  have:=this _ AB
  rw[<-Gv Ki]
  simpa [hei,nL] using this
theorem amc {ops:Array Oper} {al:List RO} (hl:(qR ops.toList []).length=al.length) {i k:Nat} {ri rk:RO} (hk:k<i) (hi:al[i]? =some ri) (ph:al[k]? =some rk)
 (hx:(ri.op.reads=true/\rk.op.cq=true)\/(ri.op.cq=true/\rk.op.reads=true)) (ho:ka (f0 ops.toList []) k i=false):k∈(xG ops al).getD i []:=by
 obtain⟨mi,pg,AB⟩:=ua hl hi
 obtain⟨mk,hmk,hpk⟩:=ua hl ph
 have a9:(zt al (qR ops.toList []))[i]? =some ((ri,mi),i):=by
  rw[zt,List.getElem?_zipIdx,(List.getElem?_zip_eq_some (z:=(ri,mi))).2 ⟨hi,pg⟩]
  simp
 simp only[xG,List.getD_eq_getElem?_getD,List.getElem?_map,a9,Option.map_some,Option.getD_some]
 have auG:(ri.op.reads||ri.op.cq)=true:=by rcases hx with⟨h1,_⟩|⟨h1,_⟩<;>simp[h1]
 rw[if_pos auG,List.mem_map]
 refine⟨((rk,mk),k),?_,rfl⟩
 rw[List.mem_filter]
 refine⟨hpk,?_⟩
 simp only[Gv pg,ho]
 rcases hx with⟨h1,h2⟩|⟨h1,h2⟩<;>simp[h1,h2,hk]
theorem aiB {ι:aF} {I:aP} {h:aa} {w:World} (H:HR ι I h w) (d:Nat):HR ι I h {w with drawn:=d}/\Ext (fun _=>False) ι I h w ι I h {w with drawn:=d}/\(∀x v,VR ι I w x v->VR ι I {w with drawn:=d} x v):=by
 have hv: ∀x v,VR ι I w x v->VR ι I {w with drawn:=d} x v:=fun x v hx=>VR.mono (w:=w) (w':={w with drawn:=d}) (fun _ _ h=>h) (fun _ _ h=>h) (fun _ _ _=>rfl) hx
 refine⟨{cE:=H.cE,inside:=H.inside,cells:=?_,maps:=?_,fo:=H.fo,dz:=H.dz,bB:=H.bB,dn:=H.dn,pl:=H.pl},?_,hv⟩
 ·intro b cs l hg hb
  obtain⟨cb,o,room,h1,h2,h3,h4⟩:=H.cells b cs l hg hb
  refine⟨cb,o,room,h1,h2,h3,fun j hj=>?_⟩
  obtain⟨c,e1,e2,e3⟩:=h4 j hj
  exact⟨c,e1,e2,fun v cV=>hv _ _ (e3 v cV)⟩
 ·intro b es l hg hb
  obtain⟨cb,aV,clock,h1,h2,h3,h4⟩:=H.maps b es l hg hb
  exact⟨cb,aV,clock,h1,h2,h3,fun i k v e e1 e2=>⟨hv _ _ (h4 i k v e e1 e2).1,hv _ _ (h4 i k v e e1 e2).2⟩⟩
 ·exact{eZ:=fun _ _=>rfl,bN:=fun _ _ h=>h,next:=Nat.le_refl _,bB:=fun _ _ h=>h,os:=rfl,tape:=rfl,output:=rfl,size:=Nat.le_refl _,block:=fun _ _ _=>rfl,cell:=fun _ _ _ _=>rfl,frozen:=fun _ _ _ _=>rfl,own:=fun _ _ h=> .inl h,gw:=fun _ _ h=> .inl h,lost:=fun _ _ _=>rfl}
theorem WK (hm:P.follows .mixedOrders=true) {n:Nat} {rid:Nat} {ops:Array Oper} {al:List RO} (hc:sY P md n ops ops.toList=some al) (bc:EN ops al=true)
 {ι:aF} {I:aP} {h:aa} {w:World} {ρ:Env} {a:Act} (H:HR ι I h w) (A:AR ι I w n ρ a) (uE: ∀j,j<al.length->h.get (h.next+j)=none)
 {K:Env->aa->Prop} (he:mh P al (xG ops al) h.next al 0 ρ {h with next:=h.next+al.length} [] K) {Q:Exit->Act->World->Prop}
 (hQ: ∀ρ' h' a' w' ι' I',K ρ' h'->AR ι' I' w' n ρ' a'->HR ι' I' h' w'->Ext (h.next<= ·) ι I h w ι' I' h' w'->Q .normal a' w'):
 (Code.region rid ops true).wp P Q a w:=by
 obtain⟨hlen,ya⟩:=L4 hc
 obtain⟨d1,d2,d3,d4,d6,dl⟩:=aj4 bc
 obtain⟨tr,ρn,hn,tB,Ku,gD,_,z9⟩:=XV (P:=P) (K:=K) (al:=al) (un:=xG ops al) (base:=h.next) al [] ρ {h with next:=h.next+al.length} [] rfl rfl (fun i ro d _ hd=>by simp at hd) he
 have z9:=z9 rfl
 have Ke: ∀i,i<al.length-> ∃d,tr[i]? =some d:=fun i hi=>⟨_,List.getElem?_eq_getElem (by omega)⟩
 let ρs:Nat->Env:=fun i=>(fK tr ρn hn i).1
 let hs:Nat->aa:=fun i=>(fK tr ρn hn i).2
 let rs:Nat->Option AV:=fun i=>(tr[i]?).elim none fun d=>d.2.2
 have E9: ∀i d,tr[i]? =some d->rs i=d.2.2:=fun i d hd=>by simp[rs,hd]
 have dD: ∀i d,tr[i]? =some d->fK tr ρn hn i=(d.1,d.2.1):=fun i d hd=>by simp[fK,hd]
 have T:TR P ops al (xG ops al) h.next ρs hs rs:={
  step:=by
   intro i ro hi
   obtain⟨d,hd⟩:=Ke i (List.getElem?_eq_some_iff.1 hi).1
   obtain⟨a1,a2,_,_⟩:=gD i ro d hi hd
   rw[E9 i d hd]
   exact⟨a1,a2⟩
  l6:=by
   intro i k ro ok hi hk nH Aa
   obtain⟨d,hd⟩:=Ke i (List.getElem?_eq_some_iff.1 hi).1
   obtain⟨dk,dq⟩:=Ke k (List.getElem?_eq_some_iff.1 hk).1
   obtain⟨_,_,_,a4⟩:=gD i ro d hi hd
   have:=a4 k Aa ok dk hk dq nH
   rw[E9 i d hd,E9 k dk dq]
   have e:(ρs k,hs k,dk.2.2)=dk:=by
    simp only[ρs,hs,dD k dk dq]
   rw[e]
   exact this
  ZG:=by
   intro j hj
   show(fK tr ρn hn 0).2.get (h.next+j)=none
   rw[z9]
   exact uE j hj
  ZF:=by
   intro i ro hi Ts j nL hj
   obtain⟨d,hd⟩:=Ke i (List.getElem?_eq_some_iff.1 hi).1
   obtain⟨_,_,a3,_⟩:=gD i ro d hi hd
   exact a3 Ts j nL hj
  aqQ:=by
   show h.next+al.length<=(fK tr ρn hn 0).2.next
   rw[z9];exact Nat.le_refl _
  d1:=d1,d2:=d2,d3:=d3,d4:=d4
  d5:=fun i k ri rk nH hi hk hx ho=>amc dl nH hi hk hx ho}
 refine wp_region_any hm ?_
 obtain⟨Hd,Ed,Vd⟩:=aiB H (w.drawn+1)
 have tC:hs 0={h with next:=h.next+al.length}:=by show(fK tr ρn hn 0).2=_;rw[z9]
 have ρs0:ρs 0=ρ:=by show(fK tr ρn hn 0).1=_;rw[z9]
 have hsn:hs al.length=hn:=by
  show(fK tr ρn hn al.length).2=hn
  simp[fK,List.getElem?_eq_none (show tr.length<=al.length by omega)]
 have ρsn:ρs al.length=ρn:=by
  show(fK tr ρn hn al.length).1=ρn
  simp[fK,List.getElem?_eq_none (show tr.length<=al.length by omega)]
 have E0:Ext (h.next<= ·) ι I h w ι I {h with next:=h.next+al.length} {w with drawn:=w.drawn+1}:=
  {eZ:=fun _ _=>rfl,bN:=fun _ _ h=>h,next:=by simp,bB:=fun _ _ h=>h,os:=rfl,tape:=rfl,output:=rfl,size:=Nat.le_refl _,block:=fun _ _ _=>rfl,cell:=fun _ _ _ _=>rfl,frozen:=fun _ _ _ _=>rfl,own:=fun _ _ h=> .inl h,gw:=fun _ _ h=> .inl h,lost:=fun _ _ _=>rfl}
 have H0:HR ι I (hs 0) {w with drawn:=w.drawn+1}:=by
  rw[tC]
  exact Hd.CL (fun b l hb=>by have:=H.cE b l hb;show b<h.next+al.length;omega) (fun b l x _ hx=>hx)
 refine T.akG hlen ya d6 (ι0:=ι) (I0:=I) (w0:={w with drawn:=w.drawn+1}) (Q:=Q) ?_ ops.size (Array.replicate ops.size false) (S:=fun _=>False) (m:=0) (ρ:=ρ) (H:=hs 0) (ι:=ι) (I:=I) ?_ (by simp) ?_ ?_
 ·intro ι' I' a' w' A' H' E'
  rw[ρsn] at A'
  rw[hsn] at H'
  rw[tC,hsn] at E'
  exact hQ ρn hn a' w' ι' I' Ku A' H' (E0.trans E' (fun b hb=>hb))
 ·exact
  {ar:=A.mono Vd,hr:=H0,ext:= .refl _ _ _ _ _,ρ0:=fun t _=>by rw[ρs0],ρ1:=fun t j ro hj=>hj.elim,h1:=fun j hj=>hj.elim,h2:=fun b _=>rfl,hn:=rfl
   lt:=fun j hj=>hj.elim,closed:=fun j o hj=>hj.elim,xL:=Nat.zero_le _,u9:=fun j ro hj=>hj.elim,Ad:=fun j ro hj=>by omega,zw:= .inl rfl
   inj:=fun j hj _=>by
    cases hq:ι (h.next+j) with
    |none=>rfl
    |some l=>have:=H.cE _ _ hq;omega
   pb:=fun j hj=>by omega
   next:=by rw[tC];exact Nat.le_refl _}
 ·intro j
  simp[Array.getElem?_replicate]
 ·exact Nat.le_trans (List.length_filter_le _ _) (by simp)
end
end
section
open Go
def aa.clean (h:aa) (n:Nat):aa:={get:=fun b=>if b<h.next then h.get b else none,next:=h.next+n}
def aQ.vX:aQ->Exit
 | .normal=> .normal
 | .exit id=> .exit id
 | .goto l=> .goto l
 | .ret=> .ret
def tc (n:Nat) (ι:aF) (I:aP) (h:aa) (w:World) (e:aQ) (ρ':Env) (h':aa):Exit->Act->World->Prop:=fun x a' w'=>
 x=e.vX/\ ∃ι' I',AR ι' I' w' n ρ' a'/\HR ι' I' h' w'/\Ext (h.next<= ·) ι I h w ι' I' h' w'
def atx (P:Program) (md:Mode) (m:Nat) (c:aZ) (ρ:Env) (h:aa) (e:aQ) (ρ':Env) (h':aa):Prop:=
 ∀(n:Nat) (ι:aF) (I:aP) (w:World) (a:Act),HR ι I h w->AR ι I w n ρ a->
  match c with
  | .inScope body cur=> ∀cb cc,eh P md n cb=some body->eh P md n cc=some cur-> ∀b k cs,∃x a' w',tc n ι I h w e ρ' h' x a' w'/\
     Arrives P (lone (b.at a (.code cc:: .inScope cb::k)) cs w) b k cs x a' w'
  | .loop c'=> ∀cc,eh P md n cc=some c'->Code.rounds P cc (tc n ι I h w e ρ' h') m a w
  |c=> ∀cc,eh P md n cc=some c->cc.wp P (tc n ι I h w e ρ' h') a w
def KT (P:Program) (md:Mode) (c:aZ) (ρ:Env) (h:aa) (e:aQ) (ρ':Env) (h':aa):Prop:= ∃m,atx P md m c ρ h e ρ' h'
inductive eJ (P:Program):aZ->Env->aa->aQ->Env->aa->Prop
 |skip {ρ:Env} {h:aa}:eJ P .skip ρ h .normal ρ h
 |label {l:Nat} {ρ:Env} {h:aa}:eJ P (.label l) ρ h .normal ρ h
 |exit {id:Nat} {ρ:Env} {h:aa}:eJ P (.exit id) ρ h (.exit id) ρ h
 |goto {l:Nat} {ρ:Env} {h:aa}:eJ P (.goto l) ρ h (.goto l) ρ h
 |ret {ρ:Env} {h:aa}:eJ P .ret ρ h .ret ρ h
 |af {al:List RO} {ρ ρ1:Env} {h h1:aa} (he:exec P al ρ h (fun ρ' h'=>ρ'=ρ1/\h'=h1)):eJ P (.af al) ρ h .normal ρ1 h1
 |ba {al:List RO} {un:List (List Nat)} {ρ ρ1:Env} {h h1:aa} (hf: ∀j,j<al.length->h.get (h.next+j)=none)
   (he:mh P al un h.next al 0 ρ {h with next:=h.next+al.length} [] (fun ρ' h'=>ρ'=ρ1/\h'=h1)):eJ P (.ba al un) ρ h .normal ρ1 h1
 |Eb {al:List RO} {un:List (List Nat)} {ρ ρ1:Env} {h h1:aa} (he:mh P al un h.next al 0 ρ (h.clean al.length) [] (fun ρ' h'=>ρ'=ρ1/\h'=h1)):eJ P (.ba al un) ρ h .normal ρ1 h1
 |seq {a b:aZ} {ρ ρ1 ρ2:Env} {h h1 h2:aa} {e:aQ} (b1:eJ P a ρ h .normal ρ1 h1) (b2:eJ P b ρ1 h1 e ρ2 h2):eJ P (.seq a b) ρ h e ρ2 h2
 |uX {a b:aZ} {ρ ρ1:Env} {h h1:aa} {e:aQ} (b1:eJ P a ρ h e ρ1 h1) (he:e≠ .normal):eJ P (.seq a b) ρ h e ρ1 h1
 |cond {c:aq} {x y:aZ} {ρ ρ1:Env} {h h1:aa} {e:aQ} (t:Bool) (hc:c.ev ρ= .bool t) (b1:eJ P (if t then x else y) ρ h e ρ1 h1):eJ P (.cond c x y) ρ h e ρ1 h1
 |block {id:Nat} {c:aZ} {ρ ρ1:Env} {h h1:aa} {e:aQ} (b1:eJ P c ρ h e ρ1 h1):eJ P (.block id c) ρ h (if e= .exit id then .normal else e) ρ1 h1
 |loop {c:aZ} {ρ ρ1 ρ2:Env} {h h1 h2:aa} {e:aQ} (b1:eJ P c ρ h .normal ρ1 h1) (b2:eJ P (.loop c) ρ1 h1 e ρ2 h2):eJ P (.loop c) ρ h e ρ2 h2
 |rh {c:aZ} {ρ ρ1:Env} {h h1:aa} {e:aQ} (b1:eJ P c ρ h e ρ1 h1) (he:e≠ .normal):eJ P (.loop c) ρ h e ρ1 h1
 |scope {c:aZ} {ρ ρ1:Env} {h h1:aa} {e:aQ} (b1:eJ P (.inScope c c) ρ h e ρ1 h1):eJ P (.scope c) ρ h e ρ1 h1
 |pd {body cur:aZ} {ρ ρ1:Env} {h h1:aa} {e:aQ} (b1:eJ P cur ρ h e ρ1 h1) (he: ∀l,e= .goto l->fY body l=none):eJ P (.inScope body cur) ρ h e ρ1 h1
 |Ka {body cur rest:aZ} {l:Nat} {ρ ρ1 ρ2:Env} {h h1 h2:aa} {e:aQ} (b1:eJ P cur ρ h (.goto l) ρ1 h1) (hl:fY body l=some rest) (b2:eJ P (.inScope body rest) ρ1 h1 e ρ2 h2):
   eJ P (.inScope body cur) ρ h e ρ2 h2
 |sem {a b:aZ} {ρ ρ1:Env} {h h1:aa} {e:aQ} (hs: ∀md,KT P md (.w7 a b) ρ h e ρ1 h1):eJ P (.w7 a b) ρ h e ρ1 h1
section
variable {P:Program} {md:Mode}
def ahy (P:Program) (md:Mode) (n:Nat) (cc:Code):aZ->Prop
 | .skip=>cc= .skip
 | .af al=> ∃id ops,cc= .region id ops false/\sY P md n ops ops.toList=some al
 | .ba al un=> ∃id ops,cc= .region id ops true/\sY P md n ops ops.toList=some al/\EN ops al=true/\un=xG ops al
 | .seq a b=> ∃x y,cc= .seq x y/\eh P md n x=some a/\eh P md n y=some b
 | .w7 a b=> ∃x y,cc= .seq x y/\eh P md n x=some a/\eh P md n y=some b
 | .cond c a b=> ∃o x y,cc= .cond o x y/\bj md.pr o=some c/\eh P md n x=some a/\eh P md n y=some b
 | .block id a=> ∃x,cc= .block id x/\eh P md n x=some a
 | .loop a=> ∃x,cc= .loop x/\eh P md n x=some a
 | .exit id=>cc= .exit id
 | .scope a=> ∃x,cc= .scope x/\eh P md n x=some a
 | .inScope _ _=>False
 | .label l=>cc= .label l
 | .goto l=>cc= .goto l
 | .ret=>cc= .ret
theorem kF {n:Nat} {cc:Code} {r:aZ} (hc:eh P md n cc=some r):ahy P md n cc r:=by
 cases cc<;>try(simp only[eh] at hc;first|(cases hc;rfl)|(cases hc;done))
 case region id ops d=>
  cases d with
  |false=>
   simp only[eh,Option.map_eq_some_iff] at hc
   obtain⟨al,h1,rfl⟩:=hc
   exact⟨id,ops,rfl,h1⟩
  |true=>
   simp only[eh,Option.bind_eq_bind,Option.bind_eq_some_iff] at hc
   obtain⟨al,h1,hc⟩:=hc
   split at hc
   ·rename_i bc;cases hc;exact⟨id,ops,rfl,h1,bc,rfl⟩
   ·cases hc
 case seq a b=>
  simp only[eh,Option.bind_eq_bind,Option.bind_eq_some_iff] at hc
  obtain⟨x,h1,y,h2,hc⟩:=hc
  cases hc
  cases x.z7
  ·exact⟨a,b,rfl,h1,h2⟩
  ·exact⟨a,b,rfl,h1,h2⟩
 case cond c a b=>
  simp only[eh,Option.bind_eq_bind,Option.bind_eq_some_iff] at hc
  obtain⟨o,h0,x,h1,y,h2,hc⟩:=hc
  cases hc
  exact⟨c,a,b,rfl,h0,h1,h2⟩
 case block id a=>
  simp only[eh,Option.bind_eq_bind,Option.bind_eq_some_iff] at hc
  obtain⟨x,h1,hc⟩:=hc
  cases hc
  exact⟨a,rfl,h1⟩
 case loop a=>
  simp only[eh,Option.bind_eq_bind,Option.bind_eq_some_iff] at hc
  obtain⟨x,h1,hc⟩:=hc
  cases hc
  exact⟨a,rfl,h1⟩
 case scope a=>
  simp only[eh,Option.bind_eq_bind,Option.bind_eq_some_iff] at hc
  obtain⟨x,h1,hc⟩:=hc
  cases hc
  exact⟨a,rfl,h1⟩
def FL (P:Program) (md:Mode) (n:Nat):Option Code->Option aZ->Prop
 |some x,some y=>eh P md n x=some y
 |none,none=>True
 |_,_=>False
theorem ahA {l:Nat}: ∀{c r:aZ},fY c l=some r->r.z7=false:=by
 intro c
 induction c<;>intro r h<;>simp only[fY] at h<;>try(cases h;done)
 case seq a b UC EZ=>
  split at h
  ·cases h;rfl
  ·exact EZ h
 case w7 a b UC EZ=>exact EZ h
 case label l'=>
  split at h
  ·cases h;rfl
  ·cases h
theorem ahB {l:Nat} {c:aZ} (h:c.z7=true):fY c l=none:=by
 cases c<;>simp only[aZ.z7] at h<;>first|rfl|cases h
theorem Wt {n:Nat} (l:Nat): ∀(cc:Code) (r:aZ),eh P md n cc=some r->FL P md n (findLabel cc l) (fY r l):=by
 intro cc
 induction cc
 case seq a b UC EZ=>
  intro r hc
  simp only[eh,Option.bind_eq_bind,Option.bind_eq_some_iff] at hc
  obtain⟨x,h1,y,h2,hc⟩:=hc
  cases hc
  have ha:=UC x h1
  have hb:=EZ y h2
  cases hr:x.z7 with
  |true=>
   simp only[if_true,findLabel,fY]
   rw[ahB hr] at ha
   cases h3:findLabel a l<;>simp only[h3,FL] at ha ⊢
   exact hb
  |false=>
  simp only[Bool.false_eq_true,if_false,findLabel,fY]
  cases h3:findLabel a l<;>cases h4:fY x l<;>simp only[h3,h4] at ha<;>simp only[]
  ·exact hb
  ·exact ha.elim
  ·exact ha.elim
  ·simp only[FL] at ha ⊢
   simp[eh,ha,h2,ahA h4]
 case label l'=>
  intro r hc
  simp only[eh] at hc
  cases hc
  simp only[findLabel,fY]
  by_cases h:(l'==l)=true
  ·simp[h,FL,eh]
  ·simp[h,FL]
 all_goals
  intro r hc
  have hi:=kF hc
  cases r<;>simp only[ahy] at hi<;>simp only[findLabel,fY,FL]
  all_goals (first|(cases hi;done)|(obtain⟨_,_,h,_⟩:=hi;cases h;done)|(obtain⟨_,_,_,h,_⟩:=hi;cases h;done))
end
end
section
open Go
theorem tc.trans {n:Nat} {ι ι1:aF} {I I1:aP} {h h1 h2:aa} {w w1:World} {e:aQ} {ρ2:Env} (E:Ext (h.next<= ·) ι I h w ι1 I1 h1 w1) {x:Exit} {a':Act} {w':World}
 (hp:tc n ι1 I1 h1 w1 e ρ2 h2 x a' w'):tc n ι I h w e ρ2 h2 x a' w':=by
 obtain⟨h1,ι',I',A,H,F⟩:=hp
 exact⟨h1,ι',I',A,H,E.trans F (fun b hb=>Nat.le_trans E.next hb)⟩
theorem Wb {P:Program} {c:Code} {Q Q':Exit->Act->World->Prop} (hq: ∀e a w,Q e a w->Q' e a w): ∀(n:Nat) (a:Act) (w:World),Code.rounds P c Q n a w->Code.rounds P c Q' n a w
 |0,_,_,h=>h
 |n+1,a,w,h=>by
  rw[rounds_succ] at h ⊢
  refine wp_mono h (fun e a w he=>?_)
  cases e<;>simp only[Exit.then] at he ⊢ <;>first|exact Wb hq n _ _ he|exact hq _ _ _ he
section
variable {P:Program} {md:Mode}
theorem KT.wp {c:aZ} {ρ ρ':Env} {h h':aa} {e:aQ} (hs:KT P md c ρ h e ρ' h') {n:Nat} {ι:aF} {I:aP} {w:World} {a:Act} (H:HR ι I h w) (A:AR ι I w n ρ a) {cc:Code} (hc:eh P md n cc=some c):
 cc.wp P (tc n ι I h w e ρ' h') a w:=by
 obtain⟨m,hs⟩:=hs
 have:=hs n ι I w a H A
 cases c<;>try exact this cc hc
 case loop c'=>
  obtain⟨x,rfl,hx⟩:=kF hc
  exact wp_loop_rounds m (this x hx)
 case inScope body cur=>exact(kF hc).elim
theorem HR.clean {ι:aF} {I:aP} {h:aa} {w:World} (H:HR ι I h w):HR ι I (h.clean 0) w where
 cE b l hb:=by have:=H.cE b l hb;simpa [aa.clean] using this
 inside:=H.inside
 cells b cs l hg hb:=H.cells b cs l (by have:=H.cE b l hb;simpa [aa.clean,this] using hg) hb
 maps b es l hg hb:=H.maps b es l (by have:=H.cE b l hb;simpa [aa.clean,this] using hg) hb
 fo b l hg hb:=H.fo b l (by have:=H.cE b l hb;simpa [aa.clean,this] using hg) hb
 dz b b' l l' x x' k j aM hb bE hg cD:=H.dz b b' l l' x x' k j aM hb bE (by have:=H.cE b l hb;simpa [aa.clean,this] using hg) (by have:=H.cE b' l' bE;simpa [aa.clean,this] using cD)
 bB b l x k j hb hg:=H.bB b l x k j hb (by have:=H.cE b l hb;simpa [aa.clean,this] using hg)
 dn:=H.dn
 pl b cs cb o room hg hb:=H.pl b cs cb o room (by have:=H.cE b _ hb;simpa [aa.clean,this] using hg) hb
theorem Ext.amb {ι ι':aF} {I I':aP} {h h':aa} {w w':World} (E:Ext ((h.clean 0).next<= ·) ι I (h.clean 0) w ι' I' h' w') (H:HR ι I h w):Ext (h.next<= ·) ι I h w ι' I' h' w':=by
 have ho: ∀k j,eM ι (h.clean 0) k j↔eM ι h k j:=fun k j=>by
  constructor
  ·rintro⟨b,l,x,hb,hg,hl⟩
   exact⟨b,l,x,hb,by have:=H.cE b l hb;simpa [aa.clean,this] using hg,hl⟩
  ·rintro⟨b,l,x,hb,hg,hl⟩
   exact⟨b,l,x,hb,by have:=H.cE b l hb;simpa [aa.clean,this] using hg,hl⟩
 exact
 {eZ:=fun b hb=>E.eZ b (by simpa [aa.clean] using hb),bN:=E.bN,next:=E.next,bB:=E.bB,os:=E.os,tape:=E.tape,output:=E.output,size:=E.size
  block:=fun k hk hn=>E.block k hk (fun j hj=>hn j ((ho k j).1 hj))
  cell:=fun k j hk hn=>E.cell k j hk (fun hj=>hn ((ho k j).1 hj))
  frozen:=fun k j hk hn=>E.frozen k j hk (fun hj=>hn ((ho k j).1 hj))
  own:=fun k j hj=>(E.own k j hj).imp (ho k j).1 id
  gw:=fun k j hj=>by rcases E.gw k j hj with h|h|h;exact .inl h;exact .inr (.inl ((ho k j).1 h));exact .inr (.inr h)
  lost:=fun b hb hi=>by
   rw[E.lost b (by simpa [aa.clean] using hb) hi]
   have:b<h.next:=by omega
   simp[aa.clean,this]}
theorem Xc {e:aQ} (he:e≠ .normal) {Q:Exit->Act->World->Prop} {K:Act->World->Prop} {a:Act} {w:World} (h:Q e.vX a w):Exit.then K Q e.vX a w:=by
 cases e<;>first|exact(he rfl).elim|exact h
theorem akD (hm:P.follows .mixedOrders=true) {c:aZ} {ρ ρ':Env} {h h':aa} {e:aQ} (hb:eJ P c ρ h e ρ' h'):KT P md c ρ h e ρ' h':=by
 induction hb with
 |sem hs=>exact hs md
 |skip=>
  refine⟨0,fun n ι I w a H A cc hc=>?_⟩
  obtain rfl:=kF hc
  exact wp_skip ⟨rfl,ι,I,A,H, .refl _ _ _ _ _⟩
 |label=>
  refine⟨0,fun n ι I w a H A cc hc=>?_⟩
  obtain rfl:=kF hc
  exact wp_label ⟨rfl,ι,I,A,H, .refl _ _ _ _ _⟩
 |exit=>
  refine⟨0,fun n ι I w a H A cc hc=>?_⟩
  obtain rfl:=kF hc
  exact wp_exit ⟨rfl,ι,I,A,H, .refl _ _ _ _ _⟩
 |goto=>
  refine⟨0,fun n ι I w a H A cc hc=>?_⟩
  obtain rfl:=kF hc
  exact wp_goto ⟨rfl,ι,I,A,H, .refl _ _ _ _ _⟩
 |ret=>
  refine⟨0,fun n ι I w a H A cc hc=>?_⟩
  obtain rfl:=kF hc
  exact wp_ret ⟨rfl,ι,I,A,H, .refl _ _ _ _ _⟩
 | @af al ρ ρ1 h h1 he=>
   refine⟨0,fun n ι I w a H A cc hc=>?_⟩
   obtain⟨id,ops,rfl,hr⟩:=kF hc
   obtain⟨hlen,ya⟩:=L4 hr
   refine wp_region ?_
   have:=W2 (md:=md) (Q:=tc n ι I h w .normal ρ1 h1) (ops:=ops) al 0 H A (fun i ro hi=>?_) he (fun ρ' h' a' w' ι' I' hk A' H' E=>by
    obtain⟨rfl,rfl⟩:=hk
    exact⟨rfl,ι',I',A',H',E⟩)
   ·rw[List.range_eq_range',show ops.size=al.length by simpa using hlen]
    exact this
   ·have Kn:i<ops.toList.length:=by rw[hlen];exact(List.getElem?_eq_some_iff.1 hi).1
    refine⟨ops.toList[i],?_,ya i _ ro (List.getElem?_eq_getElem Kn) hi⟩
    rw[Nat.zero_add]
    have:=List.getElem?_eq_getElem Kn
    simpa using this
 | @ba al un ρ ρ1 h h1 hf he=>
   refine⟨0,fun n ι I w a H A cc hc=>?_⟩
   obtain⟨id,ops,rfl,hr,bc,rfl⟩:=kF hc
   exact WK hm hr bc H A hf he (fun ρ' h' a' w' ι' I' hk A' H' E=>by
    obtain⟨rfl,rfl⟩:=hk
    exact⟨rfl,ι',I',A',H',E⟩)
 | @Eb al un ρ ρ1 h h1 he=>
   refine⟨0,fun n ι I w a H A cc hc=>?_⟩
   obtain⟨id,ops,rfl,hr,bc,rfl⟩:=kF hc
   refine WK (h:=h.clean 0) hm hr bc H.clean A (fun j _=>by simp only[aa.clean];rw[if_neg (by omega)]) he (fun ρ' h' a' w' ι' I' hk A' H' E=>by
    obtain⟨rfl,rfl⟩:=hk
    exact⟨rfl,ι',I',A',H',E.amb H⟩)
 | @seq x y ρ ρ1 ρ2 h h1 h2 e b1 b2 fQ jI=>
   refine⟨0,fun n ι I w a H A cc hc=>?_⟩
   obtain⟨cx,cy,rfl,hx,hy⟩:=kF hc
   refine wp_seq (wp_mono (fQ.wp H A hx) ?_)
   rintro _ a1 w1 ⟨rfl,ι1,I1,A1,H1,E1⟩
   exact wp_mono (jI.wp H1 A1 hy) (fun _ _ _ hp=>hp.trans E1)
 | @uX x y ρ ρ1 h h1 e b1 he fQ=>
   refine⟨0,fun n ι I w a H A cc hc=>?_⟩
   obtain⟨cx,cy,rfl,hx,hy⟩:=kF hc
   refine wp_seq (wp_mono (fQ.wp H A hx) ?_)
   rintro _ a1 w1 ⟨rfl,hp⟩
   exact Xc he ⟨rfl,hp⟩
 | @cond c x y ρ ρ1 h h1 e t gl b1 fQ=>
   refine⟨0,fun n ι I w a H A cc hc=>?_⟩
   obtain⟨o,cx,cy,rfl,ho,hx,hy⟩:=kF hc
   have tE:VR ι I w (c.ev ρ) (a.eval o):=bJ A ho
   rw[gl] at tE
   have:a.eval o= .bool t:=by generalize a.eval o=u at tE;cases tE;rfl
   refine wp_cond this ?_
   cases t
   ·exact fQ.wp H A hy
   ·exact fQ.wp H A hx
 | @block id c ρ ρ1 h h1 e b1 fQ=>
   refine⟨0,fun n ι I w a H A cc hc=>?_⟩
   obtain⟨cx,rfl,hx⟩:=kF hc
   refine wp_block (wp_mono (fQ.wp H A hx) ?_)
   rintro _ a1 w1 ⟨rfl,hp⟩
   cases e with
   |exit mC=>
    simp only[aQ.vX,Exit.inBlock]
    by_cases aJ:mC=id
    ·simp only[aJ,if_true];exact⟨rfl,hp⟩
    ·simp only[aJ,if_false]
     have: ¬(aQ.exit mC=aQ.exit id):=fun h=>aJ (aQ.exit.inj h)
     simp only[this,if_false]
     exact⟨rfl,hp⟩
   |normal=>simp only[aQ.vX,Exit.inBlock];exact⟨rfl,hp⟩
   |goto l=>simp only[aQ.vX,Exit.inBlock];exact⟨rfl,hp⟩
   |ret=>simp only[aQ.vX,Exit.inBlock];exact⟨rfl,hp⟩
 | @loop c ρ ρ1 ρ2 h h1 h2 e b1 b2 fQ jI=>
   obtain⟨m,jI⟩:=jI
   refine⟨m+1,fun n ι I w a H A cc hc=>?_⟩
   rw[rounds_succ]
   refine wp_mono (fQ.wp H A hc) ?_
   rintro _ a1 w1 ⟨rfl,ι1,I1,A1,H1,E1⟩
   exact Wb (fun _ _ _ hp=>tc.trans E1 hp) m a1 w1 (jI n ι1 I1 w1 a1 H1 A1 cc hc)
 | @rh c ρ ρ1 h h1 e b1 he fQ=>
   refine⟨1,fun n ι I w a H A cc hc=>?_⟩
   rw[rounds_succ]
   refine wp_mono (fQ.wp H A hc) ?_
   rintro _ a1 w1 ⟨rfl,hp⟩
   exact Xc he ⟨rfl,hp⟩
 | @scope c ρ ρ1 h h1 e b1 fQ=>
   obtain⟨m,fQ⟩:=fQ
   refine⟨0,fun n ι I w a H A cc hc=>?_⟩
   obtain⟨cx,rfl,hx⟩:=kF hc
   intro b k cs
   obtain⟨x,a',w',hp,rF⟩:=fQ n ι I w a H A cx cx hx hx b k cs
   exact⟨x,a',w',hp, .of_steps (.one step_scope) rF⟩
 | @pd body cur ρ ρ1 h h1 e b1 he fQ=>
   refine⟨0,fun n ι I w a H A cb cc dt iV b k cs=>?_⟩
   obtain⟨x,a',w',hp,rF⟩:=fQ.wp H A iV b (.inScope cb::k) cs
   obtain⟨rfl,xV⟩:=hp
   refine⟨_,a',w',⟨rfl,xV⟩,?_⟩
   cases e with
   |normal=>exact Steps.trans rF (.one step_inScope)
   |exit id=>exact fun k' hk=>rF k' (by simp[exitTo,hk])
   |ret=>exact rF
   |goto l=>
    intro k' hk
    refine rF k' ?_
    have bP:=Wt l cb body dt
    rw[he l rfl] at bP
    cases hf:findLabel cb l with
    |none=>simp[gotoIn,hf,hk]
    |some r=>rw[hf] at bP;exact bP.elim
 | @Ka body cur rest l ρ ρ1 ρ2 h h1 h2 e b1 hl b2 fQ jI=>
   obtain⟨m,jI⟩:=jI
   refine⟨0,fun n ι I w a H A cb cc dt iV b k cs=>?_⟩
   obtain⟨x,a1,w1,hp,rF⟩:=fQ.wp H A iV b (.inScope cb::k) cs
   obtain⟨rfl,ι1,I1,A1,H1,E1⟩:=hp
   have bP:=Wt l cb body dt
   rw[hl] at bP
   cases hf:findLabel cb l with
   |none=>rw[hf] at bP;exact bP.elim
   |some r=>
    rw[hf] at bP
    obtain⟨x,a2,w2,Fb,asD⟩:=jI n ι1 I1 w1 a1 H1 A1 cb r dt bP b k cs
    exact⟨x,a2,w2,Fb.trans E1, .of_steps (rF _ (by simp[gotoIn,hf])) asD⟩
end
end
section
open Go
def yU (ρ:Env) (h:aa):fN->Option AV
 | .tmp t=>some (ρ t)
 | .cell t ag sz=>j7 ag sz h (ρ t)
def dQ (ρ:Env) (h:aa):List fN->Option (List AV)
 |[]=>some []
 |x::xs=>match yU ρ h x,dQ ρ h xs with
  |some a,some l=>some (a::l)
  |_,_=>none
def fl:List AV->AV
 |[v]=>v
 |vs=> .ay vs
def jx (args:List AV):Env:=fun t=>args.getD t (.ay [])
section
variable {P:Program} {md:Mode} {ι:aF} {I:aP} {h:aa} {w:World}
theorem alW (H:HR ι I h w) {t:TypeId} {d:TypeDesc} {sz:Nat} (hu:P.underlying t=some d) (hs:(P.info? t).map (·.size)=some sz)
 {a v:AV} {c:Value} (ha:VR ι I w a c) (hl:j7 d.isRow sz h a=some v): ∃u,(do loadVar t (<-asAddr c)).run P w= .ok u w/\VR ι I w v u:=by
 have key: ∀{cb o off:Nat} {cs:List AV},sS ι I w cb o cs->cut d.isRow sz off cs=some v-> ∃u,(loadVar t ⟨cb,o+off,none⟩).run P w= .ok u w/\VR ι I w v u:=by
  intro cb o off cs hr hc
  cases hd:d.isRow with
  |true=>
   rw[hd] at hc
   simp only[cut,if_true] at hc
   split at hc
   ·rename_i hle
    cases hc
    obtain⟨l',hl,h1,h2⟩:=(hr.sub off sz).list
    have hlen:l'.length=sz:=by rw[<-hl];simp;omega
    have:=run_loadVar_mid (P:=P) w cb (o+off) t l' d h1 hu hd (by rw[hlen];exact hs)
    exact⟨_,this, .agg _ _ hl h2⟩
   ·cases hc
  |false=>
   rw[hd] at hc
   simp only[cut,Bool.false_eq_true,if_false] at hc
   obtain⟨c,h1,h2⟩:=hr off v hc
   exact⟨c,by simp[loadVar,yP hu,hd,run_load,h1],h2⟩
 cases ha<;>simp only[j7] at hl<;>try(cases hl;done)
 case ptr b off cb o room hb=>
  simp only[cellsOf] at hl
  split at hl
  ·rename_i cs hg
   obtain⟨u,h1,h2⟩:=key (H.row (by simpa using hg) hb).1 hl
   exact⟨u,by simpa [asAddr] using h1,h2⟩
  ·cases hl
 case vp xs off cb o g hI hc hv h1=>
  obtain⟨u,h1,h2⟩:=key (cs:=xs) (o:=o) (cb:=cb) (fun j v hj=>by
   have aC:=(List.getElem?_eq_some_iff.1 hj).1
   exact⟨g j,hc j aC,hv j v hj⟩) hl
  exact⟨u,by simpa [asAddr] using h1,h2⟩
def BQ (tmps:Array Value):ResultVar->Sem Value
 | .tmp t=>pure (tmps.getD t undef)
 | .cell a t=>do loadVar t (<-asAddr (tmps.getD a undef))
theorem X7 (H:HR ι I h w) {n:Nat} {ρ:Env} {a:Act} (A:AR ι I w n ρ a): ∀(rv:List ResultVar) (rs:List fN) (vs:List AV),yN P rv=some rs->dQ ρ h rs=some vs->
 ∃us:List Value,(rv.mapM (BQ a.tmps)).run P w= .ok us w/\LR ι I w vs us
 |[],rs,vs,hc,hv=>by
  simp only[yN] at hc
  cases hc
  simp only[dQ] at hv
  cases hv
  exact⟨[],by simp,⟨rfl,fun i v c h=>by simp at h⟩⟩
 |x::xs,rs,vs,hc,hv=>by
  simp only[yN] at hc
  split at hc
  ·rename_i r l h1 h2
   cases hc
   simp only[dQ] at hv
   split at hv
   ·rename_i v l' h3 h4
    cases hv
    obtain⟨us,h5,h6⟩:=X7 H A xs l l' h2 h4
    have: ∃u,(BQ a.tmps x).run P w= .ok u w/\VR ι I w v u:=by
     cases x with
     |tmp t=>
      simp only[TH] at h1
      cases h1
      simp only[yU] at h3
      cases h3
      exact⟨_,by simp[BQ],A.get t⟩
     |cell t ty=>
      simp only[TH,Option.bind_eq_bind,Option.bind_eq_some_iff] at h1
      obtain⟨d,hd,sz,aO,h1⟩:=h1
      cases h1
      exact alW H hd aO (A.get t) h3
    obtain⟨u,hu,hvu⟩:=this
    refine⟨u::us,by simp[List.mapM_cons,hu,h5],?_⟩
    exact LR.cons hvu h6
   ·cases hv
  ·cases hc
theorem aid (H:HR ι I h w) {n:Nat} {ρ:Env} {a:Act} (A:AR ι I w n ρ a) {fn:Func} {rs:List fN} {vs:List AV} (hc:yN P fn.results.toList=some rs) (hv:dQ ρ h rs=some vs):
 ∃u,(results fn a.tmps).run P w= .ok u w/\VR ι I w (fl vs) u:=by
 obtain⟨us,h1,h2⟩:=X7 H A _ rs vs hc hv
 have hm:(fn.results.mapM (BQ a.tmps)).run P w= .ok us.toArray w:=by
  rw[<-Array.toArray_toList (xs:=fn.results),List.mapM_toArray]
  simp[h1]
 have auz:results fn a.tmps=(do
  let vs <-fn.results.mapM (BQ a.tmps)
  pure (if h:vs.size=1 then vs[0] else .tuple vs)):=by
  unfold results
  congr 2
 rw[auz]
 refine⟨_,by simp only[Sem.run_bind,hm];rfl,?_⟩
 obtain⟨hl,hg⟩:=h2
 match vs,us,hl,hg with
 |[],[],_,hg=>exact .ay [] [] rfl hg
 |[v],[u],_,hg=>exact hg 0 v u rfl rfl
 |v::v'::l,u::u'::l',hl,hg=>
  have: ¬((u::u'::l').toArray.size=1):=by simp
  rw[dif_neg this]
  exact .ay _ _ hl hg
theorem mT (hm:P.follows .mixedOrders=true) {f:Nat} {fn:Func} {rf:az} (hf:P.funcs[f]? =some fn) (hc:aD P md fn=some rf) {args:List AV} (eL:args.length<=rf.ntmps)
 {h h':aa} {e:aQ} {ρ':Env} {vs:List AV} (hb:eJ P rf.code (jx args) h e ρ' h') (he:e= .normal\/e= .ret) (hr:dQ ρ' h' rf.results=some vs):an P f args h (fl vs) h':=by
 intro ι I w bS H hl
 unfold aD at hc
 simp only[Option.bind_eq_bind,Option.bind_eq_some_iff] at hc
 obtain⟨c,asC,code,asA,rs,E9,hc⟩:=hc
 cases hc
 simp only at*
 refine calls_of_wp hf asC ?_
 have aO:bS.size=args.length:=by have:=hl.1;simpa using this.symm
 have A:AR ι I w fn.ntmps (jx args) {tmps:=bS++Array.replicate (fn.ntmps-bS.size) undef,defers:=[]}:=by
  refine⟨rfl,by simp;omega,fun t=>?_⟩
  by_cases ht:t<args.length
  ·have h1:=List.getElem?_eq_getElem ht
   obtain⟨u,hu,hv⟩:=hl.get h1
   have e1:jx args t=args[t]:=by simp[jx,List.getD,h1]
   have e2:(bS++Array.replicate (fn.ntmps-bS.size) undef).getD t undef=u:=by
    rw[Array.getD_eq_getD_getElem?,Array.getElem?_append_left (by omega)]
    have:bS[t]? =some u:=by simpa using hu
    rw[this];rfl
   rw[e1,e2];exact hv
  ·have e1:jx args t= .ay []:=by simp[jx,List.getD,List.getElem?_eq_none (show args.length<=t by omega)]
   have e2:(bS++Array.replicate (fn.ntmps-bS.size) undef).getD t undef=undef:=by
    rw[Array.getD_eq_getD_getElem?,Array.getElem?_append_right (by omega),Array.getElem?_replicate]
    split<;>rfl
   rw[e1,e2];exact XS
 refine wp_mono ((akD (md:=md) hm hb).wp H A asA) ?_
 rintro _ a' w' ⟨rfl,ι',I',A',H',E⟩
 obtain⟨u,hu,hv⟩:=aid H' A' E9 hr
 have:bodyPost P fn (fun e w'=> ∃v ι' I',e= .returned v/\VR ι' I' w' (fl vs) v/\HR ι' I' h' w'/\Ext (h.next<= ·) ι I h w ι' I' h' w') .normal a' w':=
  ⟨A'.defers,u,hu,u,ι',I',rfl,hv,H',E⟩
 rcases he with rfl|rfl
 ·exact this
 ·exact this
end
end
section
open Go
inductive Tr (α:Type) where
 |leaf
 |node (l:Tr α) (v:Option α) (r:Tr α)
 deriving Inhabited
def Tr.get {α:Type}:Tr α->Nat->Option α
 | .leaf,_=>none
 | .node l v r,n=>
   match n with
   |0=>v
   | .succ n=>match Nat.mod n 2 with
     |0=>l.get (Nat.div n 2)
     |_=>r.get (Nat.div n 2)
def Tr.g9 {α R:Type}:Nat->Tr α->Nat->Option α->(Tr α->Option R)->Option R
 |0,_,_,_,_=>none
 | .succ f,t,n,v,k=>
   match t with
   | .leaf=>match n with
     |0=>k (.node .leaf v .leaf)
     | .succ n=>match Nat.mod n 2 with
       |0=>Tr.g9 f .leaf (Nat.div n 2) v fun l=>k (.node l none .leaf)
       |_=>Tr.g9 f .leaf (Nat.div n 2) v fun r=>k (.node .leaf none r)
   | .node l u r=>match n with
     |0=>k (.node l v r)
     | .succ n=>match Nat.mod n 2 with
       |0=>Tr.g9 f l (Nat.div n 2) v fun l'=>k (.node l' u r)
       |_=>Tr.g9 f r (Nat.div n 2) v fun r'=>k (.node l u r')
def Tr.env (t:Tr AV):Env:=fun n=>match t.get n with
 |some v=>v
 |none=> .ay []
structure CH where
 t:Tr cF
 next:Nat
def CH.den (H:CH):aa:={get:=fun b=>H.t.get b,next:=H.next}
section
variable {R:Type}
def jC (n:Nat) (k:Nat->Option R):Option R:=match n with
 |0=>k 0
 | .succ n=>k (.succ n)
def TA (i:Int) (k:Int->Option R):Option R:=match i with
 | .ofNat n=>jC n fun n=>k (.ofNat n)
 | .negSucc n=>jC n fun n=>k (.negSucc n)
def acK (b:Bool) (k:Bool->Option R):Option R:=match b with
 |true=>k true
 |false=>k false
def fS (v:AV) (k:AV->Option R):Option R:=match v with
 | .int kd n=>match kd with
   |kd=>TA n fun n=>k (.int kd n)
 | .bool b=>acK b fun b=>k (.bool b)
 | .ptr b o=>jC b fun b=>jC o fun o=>k (.ptr b o)
 | .rs b o l s=>jC b fun b=>jC o fun o=>jC l fun l=>jC s fun s=>k (.rs b o l s)
 | .rk b o l s c=>jC b fun b=>jC o fun o=>jC l fun l=>jC s fun s=>jC c fun c=>k (.rk b o l s c)
 |v=>k v
def fL:List AV->(List AV->Option R)->Option R
 |[],k=>k []
 |x::xs,k=>fS x fun x=>fL xs fun xs=>k (x::xs)
def KJ:List (List AV)->(List (List AV)->Option R)->Option R
 |[],k=>k []
 |x::xs,k=>fL x fun x=>KJ xs fun xs=>k (x::xs)
def PM (t:aG) (k:aG->Option R):Option R:=match t with
 | .ao=>k .ao
 | .full=>k .full
 | .own t=>jC t fun t=>k (.own t)
def AT (v:AV) (k:AV->Option R):Option R:=match v with
 | .agg l=>fL l fun l=>k (.agg l)
 | .vs xs t=>KJ xs fun xs=>PM t fun t=>k (.vs xs t)
 | .vp xs o=>fL xs fun xs=>jC o fun o=>k (.vp xs o)
 |v=>fS v k
def Fv:List AV->(List AV->Option R)->Option R
 |[],k=>k []
 |x::xs,k=>AT x fun x=>Fv xs fun xs=>k (x::xs)
def fV (v:AV) (k:AV->Option R):Option R:=match v with
 | .ay l=>Fv l fun l=>k (.ay l)
 |v=>AT v k
def KM:List (AV×AV)->(List (AV×AV)->Option R)->Option R
 |[],k=>k []
 |(x,y)::xs,k=>AT x fun x=>AT y fun y=>KM xs fun xs=>k ((x,y)::xs)
def fB (b:cF) (k:cF->Option R):Option R:=match b with
 | .cells l=>Fv l fun l=>k (.cells l)
 | .map es=>KM es fun es=>k (.map es)
 | .tail=>k .tail
theorem vU (n:Nat) (k:Nat->Option R):jC n k=k n:=by cases n<;>rfl
theorem amE (n:Int) (k:Int->Option R):TA n k=k n:=by cases n<;>simp[TA,vU]
theorem alE (n:Bool) (k:Bool->Option R):acK n k=k n:=by cases n<;>rfl
theorem acJ (v:AV) (k:AV->Option R):fS v k=k v:=by cases v<;>simp[fS,vU,amE,alE]
theorem PN: ∀(l:List AV) (k:List AV->Option R),fL l k=k l
 |[],k=>rfl
 |x::xs,k=>by simp[fL,acJ,PN xs]
theorem ZI: ∀(l:List (List AV)) (k:List (List AV)->Option R),KJ l k=k l
 |[],k=>rfl
 |x::xs,k=>by simp[KJ,PN,ZI xs]
theorem alD (t:aG) (k:aG->Option R):PM t k=k t:=by cases t<;>simp[PM,vU]
theorem MC (v:AV) (k:AV->Option R):AT v k=k v:=by cases v<;>simp[AT,acJ,PN,ZI,alD,vU]
theorem MB: ∀(l:List AV) (k:List AV->Option R),Fv l k=k l
 |[],k=>rfl
 |x::xs,k=>by simp[Fv,MC,MB xs]
theorem CY (v:AV) (k:AV->Option R):fV v k=k v:=by cases v<;>simp[fV,MC,MB]
theorem ZJ: ∀(l:List (AV×AV)) (k:List (AV×AV)->Option R),KM l k=k l
 |[],k=>rfl
 |(x,y)::xs,k=>by simp[KM,MC,ZJ xs]
theorem asI (v:cF) (k:cF->Option R):fB v k=k v:=by cases v<;>simp[fB,MB,ZJ]
def fW (v:AV) (k:AV->Option R):Option R:=match v with
 | .undef=>k .undef
 | .int a b=>k (.int a b)
 | .bool a=>k (.bool a)
 | .fU a b=>k (.fU a b)
 | .fX a b c=>k (.fX a b c)
 | .str a=>k (.str a)
 | .nil=>k .nil
 | .ptr a b=>k (.ptr a b)
 | .vp a b=>k (.vp a b)
 | .vs a b=>k (.vs a b)
 | .bA=>k .bA
 | .rs a b c d=>k (.rs a b c d)
 | .rk a b c d e=>k (.rk a b c d e)
 | .vz=>k .vz
 | .map a=>k (.map a)
 | .fn a b c=>k (.fn a b c)
 | .jk=>k .jk
 | .agg a=>k (.agg a)
 | .ay a=>k (.ay a)
 | .fD=>k .fD
theorem acI (v:AV) (k:AV->Option R):fW v k=k v:=by cases v<;>rfl
def fP (q:bd) (v:AV) (k:AV->Option R):Option R:=match q with
 | .aj _| .pick _ _ _| .ext _ _| .load false _ _| .aE _=>fW v k
 |_=>fV v k
theorem asH (q:bd) (v:AV) (k:AV->Option R):fP q v k=k v:=by
 unfold fP
 split<;>first|exact acI v k|exact CY v k
def Fw:List AV->(List AV->Option R)->Option R
 |[],k=>k []
 |x::xs,k=>fW x fun x=>Fw xs fun xs=>k (x::xs)
theorem MD: ∀(l:List AV) (k:List AV->Option R),Fw l k=k l
 |[],k=>rfl
 |x::xs,k=>by simp[Fw,acI,MD xs]
def CH.g9 (H:CH) (b:Nat) (x:Option cF) (k:CH->Option R):Option R:=
 match x with
 |none=>Tr.g9 24 H.t b none fun t=>k {t,next:=H.next}
 |some x=>fB x fun x=>Tr.g9 24 H.t b (some x) fun t=>k {t,next:=H.next}
def CH.zv (H:CH) (n:Nat) (k:CH->Option R):Option R:=jC n fun n=>k {t:=H.t,next:=n}
def m4:AV->List Nat
 | .ptr b _=>[b]
 | .vs _ (.own t)=>[t]
 | .rs b _ _ _=>[b]
 | .rk b _ _ _ _=>[b]
 | .map (some b)=>[b]
 |_=>[]
def gn.fst:gn->aq
 | .store _ x _| .append _ _ x _| .jS _ _ x _| .copy _ x _| .sJ x _| .qS x _ _| .oh _ _ x _| .m9 _ x _| .oz _ x| .mark x=>x
def S5 (h':aa):List Nat->CH->(CH->Option R)->Option R
 |[],H,k=>k H
 |b::bs,H,k=>H.g9 b (h'.get b) fun H=>S5 h' bs H k
def Tr.JD (t:Tr AV) (d:Option Nat) (v:AV) (k:Tr AV->Option R):Option R:=
 match d with
 |none=>k t
 |some d=>Tr.g9 16 t d (some v) k
structure fG where
 fn:Nat->Option az
 nat:Nat->Option (List AV->CH->Option (AV×CH))
 cf:Nat->Bool
variable (lD:Nat->List AV->CH->(AV->CH->Option R)->Option R) (cb:Nat->Bool)
def HZ (o:RO) (id:Nat) (t:Tr AV) (H:CH) (k:Option AV->CH->Option R):Option R:=
 match bZ o t.env with
 |none=>none
 |some false=>k none H
 |some true=>
  match o.op with
  | .p q=>match aY q t.env H.den with
    |some v=>fP q v fun v=>k (some v) H
    |none=>none
  | .a q=>match gP q t.env id with
    |some (b,v)=>H.g9 id (some b) fun H=>H.zv (max H.next (id+1)) fun H=>fV v fun v=>k (some v) H
    |none=>none
  | .e q=>match bM q t.env id H.den with
    |some (v,h')=>S5 h' (id::m4 (q.fst.ev t.env)) H fun H=>H.zv h'.next fun H=>fV v fun v=>k (some v) H
    |none=>none
  | .call f as=>Fw (as.map (aq.ev t.env)) fun as=>lD f as H fun v H=>k (some v) H
  | .dyn x as=>match x.ev t.env with
    | .fn f fs cs=>match cb f with
      |true=>Fw (fs++as.map (aq.ev t.env)++cs) fun as=>lD f as H fun v H=>k (some v) H
      |false=>none
    |_=>none
def S8:List RO->Tr AV->CH->(Tr AV->CH->Option R)->Option R
 |[],t,H,k=>k t H
 |o::os,t,H,k=>HZ lD cb o H.next t H fun r H=>t.JD o.dst (f5 r) fun t=>S8 os t H k
def qY {α:Type} (p:α->α->Bool) (l l':List α):Bool:=l.length==l'.length&&(l.zip l').all fun q=>p q.1 q.2
def si:Nat->AV->AV->Bool
 |0,_,_=>false
 |f+1,a,b=>
  match a,b with
  | .undef, .undef=>true
  | .int k x, .int k' y=>decide (k=k')&&x==y
  | .bool x, .bool y=>x==y
  | .nil, .nil=>true
  | .bA, .bA=>true
  | .vz, .vz=>true
  | .jk, .jk=>true
  | .ptr x y, .ptr x' y'=>x==x'&&y==y'
  | .rs x y z u, .rs x' y' z' u'=>x==x'&&y==y'&&z==z'&&u==u'
  | .rk x y z u v, .rk x' y' z' u' v'=>x==x'&&y==y'&&z==z'&&u==u'&&v==v'
  | .map none, .map none=>true
  | .map (some x), .map (some y)=>x==y
  | .agg l, .agg l'=>qY (si f) l l'
  | .ay l, .ay l'=>qY (si f) l l'
  | .vp l o, .vp l' o'=>o==o'&&qY (si f) l l'
  | .vs l t, .vs l' t'=>decide (t=t')&&qY (qY (si f)) l l'
  |_,_=>false
def TF (o:RO) (ρ:Env) (r:Option AV) (h':aa) (ok:RO) (dρ:Env) (dh:aa) (dr:Option AV):Bool:=
 if o.op.cq then(match dr,ok.op with
  |some v, .p q=>match aY q dρ h' with
   |some u=>si 6 u v
   |none=>false
  |_,_=>true)
 else(match r,o.op with
  |some v, .p q=>match aY q ρ dh with
   |some u=>si 6 u v
   |none=>false
  |_,_=>true)
def wK (H:CH) (base:Nat):Nat->Nat->Bool
 |_,0=>true
 |i,n+1=>match H.t.get (base+i) with
  |none=>wK H base (i+1) n
  |some _=>false
def BZ (al:List RO) (o:RO) (ρ:Env) (r:Option AV) (h':aa) (done:List (Tr AV×CH×Option AV)) (i:Nat):List Nat->Bool
 |[]=>true
 |k::ks=>match al[k]?,done[i-1-k]? with
  |some ok,some d=>decide (k<i)&&TF o ρ r h' ok d.1.env d.2.1.den d.2.2&&BZ al o ρ r h' done i ks
  |_,_=>false
def zu (al:List RO) (n base:Nat):List RO->List (List Nat)->Nat->Tr AV->CH->List (Tr AV×CH×Option AV)->(Tr AV->CH->Option R)->Option R
 |[],_,_,t,H,_,k=>k t H
 |o::os,us,i,t,H,done,k=>HZ lD cb o (base+i) t H fun r H'=>
  match BZ al o t.env r H'.den done i (us.headD []) with
  |false=>none
  |true=>
   match o.op.cq with
   |false=>t.JD o.dst (f5 r) fun t'=>zu al n base os us.tail (i+1) t' H' ((t,H,r)::done) k
   |true=>match wK H' base (i+1) (n-(i+1)) with
    |false=>none
    |true=>t.JD o.dst (f5 r) fun t'=>zu al n base os us.tail (i+1) t' H' ((t,H,r)::done) k
def H5 (t:Tr AV) (h:aa) (rs:List fN) (k:AV->Option R):Option R:=match dQ t.env h rs with
 |some vs=>fV (fl vs) k
 |none=>none
def initK:List AV->Nat->Tr AV->(Tr AV->Option R)->Option R
 |[],_,t,k=>k t
 |x::xs,i,t,k=>Tr.g9 16 t i (some x) fun t=>initK xs (i+1) t k
def uw (tb:fG) (run:aZ->Tr AV->CH->(aQ->Tr AV->CH->Option R)->Option R) (f:Nat) (args:List AV) (H:CH) (k:AV->CH->Option R):Option R:=
 match tb.nat f with
 |some g=>match g args H with
  |some (v,H')=>fV v fun v=>k v H'
  |none=>none
 |none=>match tb.fn f with
  |none=>none
  |some rf=>match Nat.ble args.length rf.ntmps with
   |false=>none
   |true=>initK args 0 .leaf fun t=>run rf.code t H fun e t H=>match e with
    | .normal=>H5 t H.den rf.results fun v=>k v H
    | .ret=>H5 t H.den rf.results fun v=>k v H
    |_=>none
def runK (tb:fG):Nat->aZ->Tr AV->CH->(aQ->Tr AV->CH->Option R)->Option R
 |0,_,_,_,_=>none
 | .succ f,c,t,H,k=>
   match c with
   | .skip=>k .normal t H
   | .label _=>k .normal t H
   | .exit id=>k (.exit id) t H
   | .goto l=>k (.goto l) t H
   | .ret=>k .ret t H
   | .af al=>S8 (uw tb (runK tb f)) tb.cf al t H (k .normal)
   | .ba al un=>match wK H H.next 0 al.length with
     |false=>none
     |true=>H.zv (H.next+al.length) fun H1=>zu (uw tb (runK tb f)) tb.cf al al.length H.next al un 0 t H1 [] (k .normal)
   | .seq a b=>runK tb f a t H fun e t H=>match e with
     | .normal=>runK tb f b t H k
     | .exit id=>k (.exit id) t H
     | .goto l=>k (.goto l) t H
     | .ret=>k .ret t H
   | .w7 _ _=>none
   | .cond c x y=>match c.ev t.env with
     | .bool true=>runK tb f x t H k
     | .bool false=>runK tb f y t H k
     |_=>none
   | .block id c=>runK tb f c t H fun e t H=>match e with
     | .normal=>k .normal t H
     | .exit mC=>match Nat.beq mC id with
       |true=>k .normal t H
       |false=>k (.exit mC) t H
     | .goto l=>k (.goto l) t H
     | .ret=>k .ret t H
   | .loop c=>runK tb f c t H fun e t H=>match e with
     | .normal=>runK tb f (.loop c) t H k
     | .exit id=>k (.exit id) t H
     | .goto l=>k (.goto l) t H
     | .ret=>k .ret t H
   | .scope c=>runK tb f (.inScope c c) t H k
   | .inScope body cur=>runK tb f cur t H fun e t H=>match e with
     | .goto l=>match fY body l with
       |none=>k (.goto l) t H
       |some rest=>runK tb f (.inScope body rest) t H k
     | .normal=>k .normal t H
     | .exit id=>k (.exit id) t H
     | .ret=>k .ret t H
end
end
section
open Go
theorem Tr.ug {α:Type} (l r:Tr α) (u:Option α) (m:Nat):(Tr.node l u r).get (m+1)=if m%2=0 then l.get (m/2) else r.get (m/2):=by
 show(match Nat.mod m 2 with|0=>l.get (Nat.div m 2)|_=>r.get (Nat.div m 2))=_
 have e1:Nat.mod m 2=m%2:=rfl
 have e2:Nat.div m 2=m/2:=rfl
 rw[e1,e2]
 rcases Nat.mod_two_eq_zero_or_one m with h|h<;>simp[h]
section
variable {R:Type}
theorem Tr.sC {α:Type}: ∀(f:Nat) (t:Tr α) (n:Nat) (v:Option α) (k:Tr α->Option R) (r:R),Tr.g9 f t n v k=some r-> ∃t',(∀m,t'.get m=if m=n then v else t.get m)/\k t'=some r
 |0,_,_,_,_,_,h=>by simp[Tr.g9] at h
 |f+1,t,n,v,k,r,h=>by
  have main: ∀(l:Tr α) (u:Option α) (r0:Tr α) (k:Tr α->Option R),
   Tr.g9 (f+1) (.node l u r0) n v k=some r->
   ∃t',(∀m,t'.get m=if m=n then v else(Tr.node l u r0).get m)/\k t'=some r:=by
   intro l u r0 k h
   simp only[Tr.g9] at h
   cases n with
   |zero=>
    refine⟨_,fun m=>?_,h⟩
    cases m with
    |zero=>rfl
    |succ m=>rw[Tr.ug,Tr.ug];simp
   |succ n=>
    simp only[] at h
    have e1:Nat.mod n 2=n%2:=rfl
    have e2:Nat.div n 2=n/2:=rfl
    rw[e1,e2] at h
    rcases Nat.mod_two_eq_zero_or_one n with hn|hn
    ·rw[hn] at h
     obtain⟨l',hl,hk⟩:=Tr.sC f l (n/2) v _ r h
     refine⟨_,fun m=>?_,hk⟩
     cases m with
     |zero=>rfl
     |succ m=>
      rw[Tr.ug,Tr.ug,hl]
      by_cases hm:m%2=0
      ·simp only[hm,if_true]
       by_cases rW:m/2=n/2
       ·have:m=n:=by omega
        simp[this]
       ·have: ¬m=n:=fun h=>rW (by rw[h])
        simp[rW,this]
      ·have: ¬m=n:=fun h=>hm (by rw[h];exact hn)
       simp[hm,this]
    ·rw[hn] at h
     obtain⟨l',hl,hk⟩:=Tr.sC f r0 (n/2) v _ r h
     refine⟨_,fun m=>?_,hk⟩
     cases m with
     |zero=>rfl
     |succ m=>
      rw[Tr.ug,Tr.ug,hl]
      by_cases hm:m%2=0
      ·have: ¬m=n:=fun h=>by rw[h] at hm;omega
       simp[hm,this]
      ·simp only[hm,if_false]
       by_cases rW:m/2=n/2
       ·have:m=n:=by omega
        simp[this]
       ·have: ¬m=n:=fun h=>rW (by rw[h])
        simp[rW,this]
  have asw: ∀m,(Tr.node .leaf none .leaf:Tr α).get m=(Tr.leaf:Tr α).get m:=by
   intro m
   cases m with
   |zero=>rfl
   |succ m=>rw[Tr.ug];split<;>rfl
  cases t with
  |leaf=>
   obtain⟨t',h1,h2⟩:=main .leaf none .leaf k (by rw[<-h];cases n<;>rfl)
   exact⟨t',fun m=>by rw[h1,asw],h2⟩
  |node l u r0=>exact main l u r0 k h
theorem CH.sC {H:CH} {b:Nat} {x:Option cF} {k:CH->Option R} {r:R} (h:H.g9 b x k=some r): ∃H':CH,(∀m,H'.den.get m=if m=b then x else H.den.get m)/\H'.next=H.next/\k H'=some r:=by
 cases x with
 |none=>
  obtain⟨t',h1,h2⟩:=Tr.sC _ _ _ _ _ _ h
  exact⟨{t:=t',next:=H.next},h1,rfl,h2⟩
 |some x=>
  simp only[CH.g9,asI] at h
  obtain⟨t',h1,h2⟩:=Tr.sC _ _ _ _ _ _ h
  exact⟨{t:=t',next:=H.next},h1,rfl,h2⟩
theorem WD {h':aa}: ∀{bs:List Nat} {H:CH} {k:CH->Option R} {r:R},S5 h' bs H k=some r-> ∃H':CH,(∀m,H'.den.get m=if m∈bs then h'.get m else H.den.get m)/\H'.next=H.next/\k H'=some r
 |[],H,k,r,h=>⟨H,fun m=>by simp,rfl,h⟩
 |b::bs,H,k,r,h=>by
  obtain⟨H1,h1,h2,h3⟩:=CH.sC h
  obtain⟨H2,h4,h5,h6⟩:=WD h3
  refine⟨H2,fun m=>?_,h5.trans h2,h6⟩
  rw[h4,h1]
  by_cases hm:m∈bs
  ·simp[hm]
  ·by_cases hb:m=b
   ·simp[hb]
   ·simp[hm,hb]
theorem Tr.Lo {t:Tr AV} {d:Option Nat} {v:AV} {k:Tr AV->Option R} {r:R} (h:t.JD d v k=some r): ∃t',t'.env=put t.env d v/\k t'=some r:=by
 cases d with
 |none=>exact⟨t,rfl,h⟩
 |some d=>
  obtain⟨t',h1,h2⟩:=Tr.sC _ _ _ _ _ _ h
  refine⟨t',?_,h2⟩
  funext m
  simp only[Tr.env,h1,put]
  by_cases hm:m=d<;>simp[hm]
theorem ajF {q:gn} {ρ:Env} {id:Nat} {h h':aa} {v:AV} (ha:bM q ρ id h=some (v,h')) (m:Nat) (hm:m∉id::m4 (q.fst.ev ρ)):h'.get m=h.get m:=by
 simp only[List.mem_cons,not_or] at hm
 obtain⟨aJ,hm⟩:=hm
 cases q<;>simp only[bM,gn.fst] at ha hm
 case store sz a x=>
  unfold vZ at ha
  split at ha
  ·rename_i hx
   rw[hx] at hm
   split at ha
   ·split at ha
    ·cases ha;simp[aa.set,m4] at hm ⊢;simp[hm]
    ·cases ha
   ·cases ha
  ·cases ha
 case append bytes sz x y=>
  split at ha
  ·cases ha
  ·rename_i ys hys
   split at ha
   ·rename_i xs t hx
    rw[hx] at hm
    split at ha
    ·cases ha;rfl
    ·split at ha
     ·split at ha
      ·cases ha;simp[aa.at,aJ]
      ·split at ha
       ·cases ha;simp[aa.at,aa.set,m4] at hm ⊢;simp[aJ,hm]
       ·cases ha
      ·cases ha
     ·cases ha
   ·split at ha
    ·cases ha;rfl
    ·split at ha
     ·cases ha;simp[aa.at,aJ]
     ·cases ha
   ·cases ha
 case jS bytes sz x y=>
  split at ha
  ·cases ha
  ·rename_i ys hys
   split at ha
   ·split at ha
    ·cases ha;rfl
    ·split at ha
     ·cases ha;simp[aa.at,aJ]
     ·cases ha
   ·split at ha
    ·cases ha;rfl
    ·split at ha
     ·cases ha;simp[aa.at,aJ]
     ·cases ha
   ·rename_i b off len aN hx
    rw[hx] at hm
    split at ha
    ·cases ha;rfl
    ·split at ha
     ·split at ha
      ·cases ha;simp[aa.at,aa.set,m4] at hm ⊢;simp[aJ,hm]
      ·cases ha
     ·cases ha
   ·rename_i b off len aN cap hx
    rw[hx] at hm
    split at ha
    ·split at ha
     ·cases ha;simp[aa.set,m4] at hm ⊢;simp[hm]
     ·cases ha
    ·cases ha
   ·cases ha
 case oh bytes z x n=>
  split at ha
  ·split at ha
   ·split at ha
    ·split at ha
     ·cases ha;simp[aa.at,aJ]
     ·cases ha
    ·split at ha
     ·split at ha
      ·cases ha;simp[aa.at,aJ]
      ·cases ha
     ·cases ha
    ·cases ha
   ·cases ha
  ·cases ha
 case m9 sz x y=>
  split at ha
  ·rename_i b off len aN cap mm hx hl
   rw[hx] at hm
   split at ha
   ·split at ha
    ·cases ha;simp[aa.set,m4] at hm ⊢;simp[hm]
    ·cases ha
   ·cases ha
  ·cases ha
 case mark x=>
  split at ha
  ·rename_i b off len aN hx
   rw[hx] at hm
   split at ha
   ·split at ha
    ·cases ha;simp[aa.set,m4] at hm ⊢;simp[hm]
    ·cases ha
   ·cases ha
  ·cases ha
 case oz z x=>
  split at ha
  ·rename_i b off len aN cap hx
   rw[hx] at hm
   split at ha
   ·split at ha
    ·cases ha;simp[aa.set,m4] at hm ⊢;simp[hm]
    ·cases ha
   ·cases ha
  ·cases ha;rfl
  ·cases ha;rfl
  ·cases ha
 case copy sz x y=>
  split at ha
  ·rename_i b off len aN hx
   rw[hx] at hm
   split at ha
   ·split at ha
    ·cases ha;simp[aa.set,m4] at hm ⊢;simp[hm]
    ·cases ha
   ·cases ha
  ·split at ha
   ·cases ha;rfl
   ·cases ha
  ·split at ha
   ·cases ha;rfl
   ·cases ha
  ·cases ha
 case qS x k y=>
  split at ha
  ·rename_i b kd n hx hk
   rw[hx] at hm
   split at ha
   ·simp only[Option.map_eq_some_iff] at ha
    obtain⟨es,_,ha⟩:=ha
    cases ha;simp[aa.set,m4] at hm ⊢;simp[hm]
   ·cases ha
  ·cases ha
 case sJ x k=>
  split at ha
  ·rename_i b kd n hx hk
   rw[hx] at hm
   split at ha
   ·simp only[Option.map_eq_some_iff] at ha
    obtain⟨es,_,ha⟩:=ha
    cases ha;simp[aa.set,m4] at hm ⊢;simp[hm]
   ·cases ha
  ·cases ha
def HU (P:Program) (R:Type) (lD:Nat->List AV->CH->(AV->CH->Option R)->Option R):Prop:=
 ∀g args H k r,lD g args H k=some r-> ∃v H',an P g args H.den v H'.den/\k v H'=some r
variable {P:Program} {lD:Nat->List AV->CH->(AV->CH->Option R)->Option R} {cb:Nat->Bool}
theorem V9 (hC:HU P R lD) (dt: ∀f,cb f=true->cf P f=true) {o:RO} {id:Nat} {t:Tr AV} {H:CH} {k:Option AV->CH->Option R} {r:R} (h:HZ lD cb o id t H k=some r):
 ∃x H',bz P o id t.env H.den x H'.den/\k x H'=some r:=by
 unfold HZ at h
 split at h
 ·cases h
 ·rename_i hg
  refine⟨none,H,?_,h⟩
  unfold bz
  rw[hg]
  exact⟨rfl,rfl⟩
 ·rename_i hg
  have go: ∀(v:AV) (H':CH),gA P o.op id t.env H.den v H'.den->bz P o id t.env H.den (some v) H'.den:=by
   intro v H' hr
   unfold bz
   rw[hg]
   exact⟨v,rfl,hr⟩
  split at h
  ·rename_i q bO
   split at h
   ·rename_i v hv
    rw[asH] at h
    exact⟨some v,H,go v H (by rw[bO];exact⟨hv,rfl⟩),h⟩
   ·cases h
  ·rename_i q bO
   split at h
   ·rename_i b v hv
    obtain⟨H1,h1,h2,h3⟩:=CH.sC h
    simp only[CH.zv,vU,CY] at h3
    refine⟨some v,_,go v _ ?_,h3⟩
    rw[bO]
    refine⟨b,hv,aa.same (fun m=>?_) ?_⟩
    ·show H1.den.get m=_
     rw[h1]
     by_cases hm:m=id<;>simp[aa.at,hm]
    ·show max H1.next (id+1)=_
     rw[h2];rfl
   ·cases h
  ·rename_i q bO
   split at h
   ·rename_i v h' hv
    obtain⟨H1,h1,h2,h3⟩:=WD h
    simp only[CH.zv,vU,CY] at h3
    refine⟨some v,_,go v _ ?_,h3⟩
    rw[bO]
    show bM q t.env id H.den=some (v,_)
    rw[hv]
    congr 2
    refine aa.same (fun m=>?_) rfl
    show _=H1.den.get m
    rw[h1]
    by_cases hm:m∈id::m4 (q.fst.ev t.env)
    ·rw[if_pos hm]
    ·rw[if_neg hm];exact ajF hv m hm
   ·cases h
  ·rename_i f as bO
   rw[MD] at h
   obtain⟨v,H',h1,h2⟩:=hC _ _ _ _ _ h
   exact⟨some v,H',go v H' (by rw[bO];exact h1),h2⟩
  ·rename_i x as bO
   split at h
   ·rename_i f fs cs hx
    split at h
    ·rename_i hc
     rw[MD] at h
     obtain⟨v,H',h1,h2⟩:=hC _ _ _ _ _ h
     exact⟨some v,H',go v H' (by rw[bO];exact⟨f,fs,cs,hx,dt f hc,h1⟩),h2⟩
    ·cases h
   ·cases h
theorem WQ (hC:HU P R lD) (dt: ∀f,cb f=true->cf P f=true): ∀{os:List RO} {t:Tr AV} {H:CH} {k:Tr AV->CH->Option R} {r:R},S8 lD cb os t H k=some r->
 ∃t' H',exec P os t.env H.den (fun ρ' h'=>ρ'=t'.env/\h'=H'.den)/\k t' H'=some r
 |[],t,H,k,r,h=>⟨t,H,⟨rfl,rfl⟩,h⟩
 |o::os,t,H,k,r,h=>by
  obtain⟨x,H1,h1,h2⟩:=V9 hC dt h
  obtain⟨t1,h3,h4⟩:=Tr.Lo h2
  obtain⟨t2,H2,h5,h6⟩:=WQ hC dt h4
  exact⟨t2,H2,⟨x,H1.den,h1,by rw[<-h3];exact h5⟩,h6⟩
end
end
section
open Go
theorem La {α:Type} {p:α->α->Bool} (hp: ∀a b,p a b=true->a=b): ∀(l l':List α),qY p l l'=true->l=l'
 |[],[],_=>rfl
 |[],_::_,h=>by simp[qY] at h
 |_::_,[],h=>by simp[qY] at h
 |x::l,y::l',h=>by
  simp only[qY,List.length_cons,List.zip_cons_cons,List.all_cons,Bool.and_eq_true,beq_iff_eq,Nat.add_right_cancel_iff] at h
  obtain⟨h1,h2,h3⟩:=h
  rw[hp x y h2,La hp l l' (by simp only[qY,Bool.and_eq_true,beq_iff_eq];exact⟨h1,h3⟩)]
theorem Gp: ∀(f:Nat) (a b:AV),si f a b=true->a=b
 |0,a,b,h=>by simp[si] at h
 |f+1,a,b,h=>by
  have ih:=Gp f
  have hl:=La ih
  have kU:=La hl
  unfold si at h
  split at h<;>first
   |rfl
   |(cases h;done)
   |(rw[hl _ _ h];done)
   |(simp only[Bool.and_eq_true,beq_iff_eq,decide_eq_true_eq] at h;obtain⟨h1,h2⟩:=h;first|(rw[h1,hl _ _ h2];done)|(rw[h1,kU _ _ h2];done))
   |(simp only[Bool.and_eq_true,beq_iff_eq,decide_eq_true_eq] at h;simp only[h];done)
section
variable {R:Type} {P:Program} {lD:Nat->List AV->CH->(AV->CH->Option R)->Option R} {cb:Nat->Bool}
theorem ajv {o ok:RO} {ρ dρ:Env} {r dr:Option AV} {h' dh:aa} (h:TF o ρ r h' ok dρ dh dr=true):Am.l6 o ρ r h' ok (dρ,dh,dr):=by
 unfold Am.l6
 unfold TF at h
 split
 ·rename_i he
  simp only[he,if_true] at h
  cases hd:dr with
  |none=>trivial
  |some v=>
   rw[hd] at h
   cases bO:ok.op with
   |p q=>
    rw[bO] at h
    simp only at h ⊢
    split at h
    ·rename_i u hu;rw[hu,Gp _ _ _ h]
    ·cases h
   |_=>trivial
 ·rename_i he
  simp only[he] at h
  cases hd:r with
  |none=>trivial
  |some v=>
   rw[hd] at h
   cases bO:o.op with
   |p q=>
    rw[bO] at h
    simp only[Bool.false_eq_true,if_false] at h ⊢
    split at h
    ·rename_i u hu;rw[hu,Gp _ _ _ h]
    ·cases h
   |_=>trivial
def Dn (d:Tr AV×CH×Option AV):Env×aa×Option AV:=(d.1.env,d.2.1.den,d.2.2)
theorem V4 {al:List RO} {o:RO} {ρ:Env} {r:Option AV} {h':aa} {done:List (Tr AV×CH×Option AV)}: ∀{ks:List Nat},BZ al o ρ r h' done done.length ks=true->
 ∀k∈ks,∀ok d,al[k]? =some ok->(done.reverse.map Dn)[k]? =some d->Am.l6 o ρ r h' ok d
 |[],_=>by simp
 |k0::ks,h=>by
  simp only[BZ] at h
  split at h
  ·rename_i ok0 d0 auk hd0
   simp only[Bool.and_eq_true,decide_eq_true_eq] at h
   obtain⟨⟨h1,h2⟩,h3⟩:=h
   intro k hk ok d bc hd
   rcases List.mem_cons.1 hk with rfl|hk
   ·rw[auk] at bc;cases bc
    rw[List.getElem?_map,List.getElem?_reverse (by omega),hd0] at hd
    cases hd
    exact ajv h2
   ·exact V4 h3 k hk ok d bc hd
  ·cases h
theorem Lg {H:CH} {base:Nat}: ∀{n i:Nat},wK H base i n=true-> ∀j,i<=j->j<i+n->H.den.get (base+j)=none
 |0,i,_,j,h1,h2=>by omega
 |n+1,i,h,j,h1,h2=>by
  simp only[wK] at h
  split at h
  ·rename_i hg
   by_cases hj:j=i
   ·subst hj;exact hg
   ·exact Lg h j (by omega) (by omega)
  ·cases h
theorem Wd (hC:HU P R lD) (dt: ∀f,cb f=true->cf P f=true) {al:List RO} {un:List (List Nat)} {base:Nat}: ∀{os:List RO} {i:Nat} {t:Tr AV} {H:CH} {done:List (Tr AV×CH×Option AV)} {k:Tr AV->CH->Option R} {r:R},
 i=done.length->zu lD cb al al.length base os (un.drop i) i t H done k=some r->
 ∃t' H',mh P al un base os i t.env H.den (done.reverse.map Dn) (fun ρ' h'=>ρ'=t'.env/\h'=H'.den)/\k t' H'=some r
 |[],i,t,H,done,k,r,hi,h=>⟨t,H,⟨rfl,rfl⟩,h⟩
 |o::os,i,t,H,done,k,r,hi,h=>by
  simp only[zu] at h
  obtain⟨x,H1,h1,h2⟩:=V9 hC dt h
  have E5:(un.drop i).headD []=un.getD i []:=by
   rw[List.getD_eq_getElem?_getD]
   cases hq:un.drop i with
   |nil=>
    have:=List.drop_eq_nil_iff.1 hq
    simp[List.getElem?_eq_none this]
   |cons a l=>
    have:(un.drop i)[0]? =some a:=by rw[hq];rfl
    rw[List.getElem?_drop] at this
    simp at this
    simp[this]
  have tB:(un.drop i).tail=un.drop (i+1):=by simp
  have fin: ∀{t1:Tr AV},t1.env=put t.env o.dst (f5 x)->BZ al o t.env x H1.den done i ((un.drop i).headD [])=true->(o.op.cq=true-> ∀j,i<j->j<al.length->H1.den.get (base+j)=none)->
   zu lD cb al al.length base os (un.drop i).tail (i+1) t1 H1 ((t,H,x)::done) k=some r->
   ∃t' H',mh P al un base (o::os) i t.env H.den (done.reverse.map Dn) (fun ρ' h'=>ρ'=t'.env/\h'=H'.den)/\k t' H'=some r:=by
   intro t1 ht1 kN fh hgo
   rw[tB] at hgo
   obtain⟨t2,H2,h5,h6⟩:=Wd hC dt (by simp[hi]) hgo
   refine⟨t2,H2,⟨x,H1.den,h1,?_,fh,?_⟩,h6⟩
   ·rw[E5,hi] at kN
    rw[hi]
    exact V4 kN
   ·rw[<-ht1]
    simp only[List.reverse_cons,List.map_append,List.map_cons,List.map_nil] at h5
    exact h5
  split at h2
  ·cases h2
  ·rename_i kN
   split at h2
   ·rename_i Ts
    obtain⟨t1,h3,h4⟩:=Tr.Lo h2
    exact fin h3 kN (fun h=>by rw[Ts] at h;cases h) h4
   ·split at h2
    ·cases h2
    ·rename_i fh
     obtain⟨t1,h3,h4⟩:=Tr.Lo h2
     exact fin h3 kN (fun _ j h5 h6=>Lg fh j (by omega) (by omega)) h4
theorem Wm: ∀{args:List AV} {i:Nat} {t:Tr AV} {k:Tr AV->Option R} {r:R},initK args i t k=some r-> ∃t',(∀m,t'.env m=if i<=m/\m<i+args.length then args.getD (m-i) (.ay []) else t.env m)/\k t'=some r
 |[],i,t,k,r,h=>⟨t,fun m=>by simp;omega,h⟩
 |x::xs,i,t,k,r,h=>by
  simp only[initK] at h
  obtain⟨t1,h1,h2⟩:=Tr.sC _ _ _ _ _ _ h
  obtain⟨t2,h3,h4⟩:=Wm h2
  refine⟨t2,fun m=>?_,h4⟩
  rw[h3]
  by_cases hm:m=i
  ·subst hm
   rw[if_neg (by omega),if_pos ⟨Nat.le_refl _,by simp⟩]
   simp[Tr.env,h1]
  ·by_cases mI:i<=m/\m<i+(x::xs).length
   ·obtain⟨a1,a2⟩:=mI
    simp at a2
    rw[if_pos ⟨by omega,by omega⟩,if_pos ⟨a1,by simp;omega⟩]
    rw[show m-i=(m-(i+1))+1 by omega]
    simp
   ·have: ¬(i+1<=m/\m<i+1+xs.length):=by simp at mI ⊢;omega
    rw[if_neg this,if_neg mI]
    simp[Tr.env,h1,hm]
theorem Wc {t:Tr AV} {h:aa} {rs:List fN} {k:AV->Option R} {r:R} (hh:H5 t h rs k=some r): ∃vs,dQ t.env h rs=some vs/\k (fl vs)=some r:=by
 unfold H5 at hh
 split at hh
 ·rename_i vs hv;rw[CY] at hh;exact⟨vs,hv,hh⟩
 ·cases hh
structure ax (P:Program) (tb:fG):Prop where
 follow:P.follows .mixedOrders=true
 fn: ∀(f:Nat) (rf:az),tb.fn f=some rf-> ∃fn md,P.funcs[f]? =some fn/\aD P md fn=some rf
 nat: ∀(f:Nat) (g:List AV->CH->Option (AV×CH)),tb.nat f=some g-> ∀args H v H',g args H=some (v,H')->an P f args H.den v H'.den
 cf: ∀(f:Nat),tb.cf f=true->cf P f=true
def agH (P:Program) (R:Type) (run:aZ->Tr AV->CH->(aQ->Tr AV->CH->Option R)->Option R):Prop:=
 ∀c t H k r,run c t H k=some r-> ∃e t' H',eJ P c t.env H.den e t'.env H'.den/\k e t' H'=some r
theorem V5 {tb:fG} (hT:ax P tb) {run:aZ->Tr AV->CH->(aQ->Tr AV->CH->Option R)->Option R} (hR:agH P R run):HU P R (uw tb run):=by
 intro f args H k r h
 unfold uw at h
 split at h
 ·rename_i g hg
  split at h
  ·rename_i v H' hv
   rw[CY] at h
   exact⟨v,H',hT.nat f g hg args H v H' hv,h⟩
  ·cases h
 ·split at h
  ·cases h
  ·rename_i rf hrf
   split at h
   ·cases h
   ·rename_i hle
    obtain⟨t0,h1,h2⟩:=Wm h
    obtain⟨e,t',H',h3,h4⟩:=hR _ _ _ _ _ h2
    obtain⟨fn,md,h5,h6⟩:=hT.fn f rf hrf
    have auB:t0.env=jx args:=by
     funext m
     rw[h1]
     by_cases hm:m<args.length
     ·rw[if_pos ⟨Nat.zero_le _,by omega⟩];rfl
     ·rw[if_neg (by omega)]
      simp[Tr.env,Tr.get,jx,List.getD,List.getElem?_eq_none (show args.length<=m by omega)]
    rw[auB] at h3
    have rE:args.length<=rf.ntmps:=Nat.le_of_ble_eq_true hle
    split at h4
    ·obtain⟨vs,h7,h8⟩:=Wc h4
     exact⟨_,H',mT hT.follow h5 h6 rE h3 (.inl rfl) h7,h8⟩
    ·obtain⟨vs,h7,h8⟩:=Wc h4
     exact⟨_,H',mT hT.follow h5 h6 rE h3 (.inr rfl) h7,h8⟩
    ·cases h4
theorem WI {tb:fG} (hT:ax P tb): ∀(f:Nat),agH P R (runK tb f)
 |0=>fun c t H k r h=>by simp[runK] at h
 |f+1=>by
  have ih:=WI hT f
  have hC:=V5 hT ih
  intro c t H k r h
  simp only[runK] at h
  split at h
  ·exact⟨_,_,_, .skip,h⟩
  ·exact⟨_,_,_, .label,h⟩
  ·exact⟨_,_,_, .exit,h⟩
  ·exact⟨_,_,_, .goto,h⟩
  ·exact⟨_,_,_, .ret,h⟩
  ·obtain⟨t',H',h1,h2⟩:=WQ hC hT.cf h
   exact⟨_,_,_, .af h1,h2⟩
  ·rename_i al un
   split at h
   ·cases h
   ·rename_i fh
    simp only[CH.zv,vU] at h
    obtain⟨t',H',h1,h2⟩:=Wd (P:=P) (un:=un) (i:=0) (done:=[]) hC hT.cf rfl h
    exact⟨_,_,_, .ba (fun j hj=>Lg fh j (Nat.zero_le _) (by omega)) h1,h2⟩
  ·obtain⟨e,t1,H1,h1,h2⟩:=ih _ _ _ _ _ h
   cases e with
   |normal=>
    obtain⟨e2,t2,H2,h3,h4⟩:=ih _ _ _ _ _ h2
    exact⟨_,_,_, .seq h1 h3,h4⟩
   |exit id=>exact⟨_,_,_, .uX h1 (by simp),h2⟩
   |goto l=>exact⟨_,_,_, .uX h1 (by simp),h2⟩
   |ret=>exact⟨_,_,_, .uX h1 (by simp),h2⟩
  ·cases h
  ·split at h
   ·rename_i hc
    obtain⟨e,t1,H1,h1,h2⟩:=ih _ _ _ _ _ h
    exact⟨_,_,_, .cond true hc h1,h2⟩
   ·rename_i hc
    obtain⟨e,t1,H1,h1,h2⟩:=ih _ _ _ _ _ h
    exact⟨_,_,_, .cond false hc h1,h2⟩
   ·cases h
  ·rename_i id c
   obtain⟨e,t1,H1,h1,h2⟩:=ih _ _ _ _ _ h
   have hb:=eJ.block (id:=id) h1
   cases e with
   |normal=>exact⟨_,_,_,by simpa using hb,h2⟩
   |exit mC=>
    simp only[] at h2
    split at h2
    ·rename_i aJ
     have:mC=id:=Nat.eq_of_beq_eq_true aJ
     subst this
     exact⟨_,_,_,by simpa using hb,h2⟩
    ·rename_i aJ
     have: ¬(aQ.exit mC=aQ.exit id):=fun h=>by
      have:=aQ.exit.inj h
      subst this
      simp at aJ
     rw[if_neg this] at hb
     exact⟨_,_,_,hb,h2⟩
   |goto l=>exact⟨_,_,_,by simpa using hb,h2⟩
   |ret=>exact⟨_,_,_,by simpa using hb,h2⟩
  ·obtain⟨e,t1,H1,h1,h2⟩:=ih _ _ _ _ _ h
   cases e with
   |normal=>
    obtain⟨e2,t2,H2,h3,h4⟩:=ih _ _ _ _ _ h2
    exact⟨_,_,_, .loop h1 h3,h4⟩
   |exit id=>exact⟨_,_,_, .rh h1 (by simp),h2⟩
   |goto l=>exact⟨_,_,_, .rh h1 (by simp),h2⟩
   |ret=>exact⟨_,_,_, .rh h1 (by simp),h2⟩
  ·obtain⟨e,t1,H1,h1,h2⟩:=ih _ _ _ _ _ h
   exact⟨_,_,_, .scope h1,h2⟩
  ·rename_i body cur
   obtain⟨e,t1,H1,h1,h2⟩:=ih _ _ _ _ _ h
   cases e with
   |goto l=>
    simp only[] at h2
    split at h2
    ·rename_i hl
     exact⟨_,_,_, .pd h1 (fun l' h=>by cases h;exact hl),h2⟩
    ·rename_i rest hl
     obtain⟨e2,t2,H2,h3,h4⟩:=ih _ _ _ _ _ h2
     exact⟨_,_,_, .Ka h1 hl h3,h4⟩
   |normal=>exact⟨_,_,_, .pd h1 (by simp),h2⟩
   |exit id=>exact⟨_,_,_, .pd h1 (by simp),h2⟩
   |ret=>exact⟨_,_,_, .pd h1 (by simp),h2⟩
theorem ajs {tb:fG} (hT:ax P tb) {fuel f:Nat} {args:List AV} {H:CH} {k:AV->CH->Option R} {r:R} (h:uw tb (runK tb fuel) f args H k=some r):
 ∃v H',an P f args H.den v H'.den/\k v H'=some r:=V5 hT (WI hT fuel) f args H k r h
end
def Tr.sW {α:Type}:Tr α->List (Nat×α)
 | .leaf=>[]
 | .node l v r=>(match v with|some v=>[(0,v)]|none=>[])++(l.sW.map fun p=>(2*p.1+1,p.2))++(r.sW.map fun p=>(2*p.1+2,p.2))
theorem Tr.BB {α:Type}: ∀{t:Tr α} {n:Nat} {v:α},t.get n=some v->(n,v)∈t.sW
 | .leaf,n,v,h=>by simp[Tr.get] at h
 | .node l u r,n,v,h=>by
   cases n with
   |zero=>
    simp only[Tr.get] at h
    subst h
    simp[Tr.sW]
   |succ m=>
    rw[Tr.ug] at h
    simp only[Tr.sW,List.mem_append,List.mem_map]
    split at h
    ·exact .inl (.inr ⟨(m/2,v),Tr.BB h,by simp;omega⟩)
    ·exact .inr ⟨(m/2,v),Tr.BB h,by simp;omega⟩
end
section
open Go Go.ChangeShapes Go.WideShapes Go.ChangeAt Go.RowKit
def Kept (w w':World):Prop:=w'.os=w.os/\w'.output=w.output/\w.heap.size<=w'.heap.size/\ ∀k,k<w.heap.size->w'.heap[k]? =w.heap[k]?
theorem Kept.keptBut {w w':World} (h:Kept w w') (may:MemPlace->Prop):w.keptBut w' may:=by
 obtain⟨h1,h2,h3,h4⟩:=h
 refine⟨h1,h2,fun i hi=>?_⟩
 rw[h4 i hi]
 split
 ·rename_i c t fr c' t' fr' e1 e2
  rw[e1] at e2;cases e2
  exact⟨rfl,rfl,rfl,fun _ _=>rfl⟩
 ·rename_i es cl aV cl' e1 e2
  rw[e1] at e2;cases e2
  exact .inr ⟨rfl,rfl⟩
 ·rfl
theorem Kept.frozen {w w':World} (h:Kept w w') {a:Addr} (ha:a.block<w.heap.size):w'.frozen? a=w.frozen? a:=by
 simp only[World.frozen?,h.2.2.2 _ ha]
section
variable {H:Type} {enc:TypeId×Value->H} {P:Program}
theorem ahM {f:Func} {s:ChangeSpec} {apart fresh handsOn again:Bool} {W W':World} {args:Array Value} {v:Value} {ds gs:List (DataW H)} {before pa pv:List MemPlace}
 (hW:DataW.Whole enc P f.params.toList s.vars apart W args.toList ds gs before)
 (Ek: ∀(b:Nat) (sp:Nat->Bool) (hd:Bool),DataW.TrodAll enc P W' b sp hd f.resultTypes.toList (v.resultList f.resultTypes.size) (s.fn H (ds++gs)).results [])
 (eL: ∀sp:Nat->Bool,(∀p∈before,sp p.block=true)->DataW.TrodAll enc P W' 0 sp true f.params.toList args.toList (s.fn H (ds++gs)).args pa)
 (CR: ∀sp:Nat->Bool,(∀p∈before,sp p.block=true)->DataW.TrodVars enc P W' sp s.vars (s.fn H (ds++gs)).vars pv)
 (nF:before=pa++pv) (hk:Kept W W')
 (bc: ∀(j:Nat) (t:TypeId) (r:Value),f.resultTypes[j]? =some t->(v.resultList f.resultTypes.size)[j]? =some r->Value.okWide P W' .any 0 t r):
 s.post enc P f apart fresh handsOn again W args v W':=by
 have hold: ∀p∈before,(fun b=>decide (b<W.heap.size)) p.block=true:=fun p hp=>by simpa using hW.lt p hp
 refine⟨ds,gs,before,[],pa,pv,hW,Ek _ _ _,eL _ hold,CR _ hold,World.keptBut_mono (fun p hp=>⟨hp,?_⟩) (hk.keptBut (· ∈before)),fun _=>?_⟩
 ·rw[nF,List.mem_append] at hp
  exact Or.inr hp
 ·have aC:=fun p hp=>hW.lt p hp
  obtain⟨_,_,_,_,_,hz,hn⟩:=hW
  refine⟨bc,_,_,([]++pa)++pv,⟨[]++pa,pv,trodAll_append (eL _ (fun _ _=>rfl)) (Ek _ _ _),CR _ (fun _ _=>rfl),rfl,?_,?_⟩,?_⟩
  ·intro b off hp
   have xV:MemPlace.cell b off∈before:=by rw[nF];simpa using hp
   rw[hk.frozen (a:=⟨b,off,none⟩) (aC _ xV)]
   exact hz b off xV
  ·intro ha
   have:=hn ha
   rw[nF] at this
   simpa using this
  ·intro p hp _
   rw[nF]
   simpa using hp
end
section
variable {P:Program} {w:World}
theorem YA (I:aP) (hI: ∀k j,I k j->k<w.heap.size):HR (fun _=>none) I aa.empty w where
 cE b l h:=by cases h
 inside b l h:=by cases h
 cells b cs l h:=by cases h
 maps b es l h:=by cases h
 fo b l h:=by cases h
 dz b b' l l' x x' k j _ h:=by cases h
 bB b l x k j h:=by cases h
 dn:=hI
 pl b cs cb o room h:=by cases h
theorem trod_bool {H:Type} {enc:TypeId×Value->H} {base:Nat} {sp:Nat->Bool} {hd:Bool} {t:TypeId} (hu:P.underlying t=some .bool) (b:Bool):DataW.Trod enc P w base sp hd t (.bool b) (.lit (.bool b)) []:=
 ⟨1,by simp[DataW.trod,Value.cells,hu]⟩
theorem okWide_bool {t:TypeId} (hu:P.underlying t=some .bool) (b:Bool):Value.okWide P w .any 0 t (.bool b):=by
 simp[Value.okWide,hu,Cell.okWide,Cell.ok]
theorem ajw {f:Nat} {args:List AV} {h':aa} (hc:an P f args aa.empty (.bool true) h') {I:aP} (hI: ∀k j,I k j->k<w.heap.size) {bS:Array Value} (hl:LR (fun _=>none) I w args bS.toList):
 Calls P f bS w fun e w'=>e= .returned (.bool true)/\Kept w w':=by
 refine(hc (fun _=>none) I w bS (YA I hI) hl).mono ?_
 rintro e w' ⟨v,ι',I',rfl,hv,H',E⟩
 cases hv
 exact⟨rfl,E.os,E.output,E.size,fun k hk=>E.block k hk (fun j ⟨b,l,x,hb,_⟩=>by cases hb)⟩
end
end
section
open Go
section
variable {P:Program}
theorem Xw {K:Env->aa->Prop}: ∀{al:List RO} {ρ:Env} {h:aa},exec P al ρ h K-> ∃ρ1 h1,exec P al ρ h (fun ρ' h'=>ρ'=ρ1/\h'=h1)/\K ρ1 h1
 |[],ρ,h,hk=>⟨ρ,h,⟨rfl,rfl⟩,hk⟩
 |o::os,ρ,h,⟨r,h',hs,hk⟩=>by
  obtain⟨ρ1,h1,he,hk⟩:=Xw hk
  exact⟨ρ1,h1,⟨r,h',hs,he⟩,hk⟩
theorem Bn {K:Env->aa->Prop} {all:List RO} {un:List (List Nat)} {base:Nat}: ∀{al:List RO} {i:Nat} {ρ:Env} {h:aa} {done:List (Env×aa×Option AV)},mh P all un base al i ρ h done K->
 ∃ρ1 h1,mh P all un base al i ρ h done (fun ρ' h'=>ρ'=ρ1/\h'=h1)/\K ρ1 h1
 |[],i,ρ,h,done,hk=>⟨ρ,h,⟨rfl,rfl⟩,hk⟩
 |o::os,i,ρ,h,done,⟨r,h',hs,hc,hf,hk⟩=>by
  obtain⟨ρ1,h1,he,hk⟩:=Bn hk
  exact⟨ρ1,h1,⟨r,h',hs,hc,hf,he⟩,hk⟩
def WP (P:Program) (c:aZ) (K:aQ->Env->aa->Prop) (ρ:Env) (h:aa):Prop:= ∃e ρ' h',eJ P c ρ h e ρ' h'/\K e ρ' h'
variable {K:aQ->Env->aa->Prop} {ρ:Env} {h:aa}
theorem WP.mono {c:aZ} {K':aQ->Env->aa->Prop} (hw:WP P c K ρ h) (hk: ∀e ρ h,K e ρ h->K' e ρ h):WP P c K' ρ h:=by
 obtain⟨e,ρ',h',hb,ph⟩:=hw
 exact⟨e,ρ',h',hb,hk _ _ _ ph⟩
def jj (k:Env->aa->Prop) (K:aQ->Env->aa->Prop):aQ->Env->aa->Prop
 | .normal,ρ,h=>k ρ h
 |e,ρ,h=>K e ρ h
def jU (id:Nat) (K:aQ->Env->aa->Prop):aQ->Env->aa->Prop
 | .exit i,ρ,h=>if i=id then K .normal ρ h else K (.exit i) ρ h
 |e,ρ,h=>K e ρ h
theorem XP (hk:K .normal ρ h):WP P .skip K ρ h:=⟨_,_,_, .skip,hk⟩
theorem Xa {l:Nat} (hk:K .normal ρ h):WP P (.label l) K ρ h:=⟨_,_,_, .label,hk⟩
theorem akT {id:Nat} (hk:K (.exit id) ρ h):WP P (.exit id) K ρ h:=⟨_,_,_, .exit,hk⟩
theorem akS {l:Nat} (hk:K (.goto l) ρ h):WP P (.goto l) K ρ h:=⟨_,_,_, .goto,hk⟩
theorem al7 (hk:K .ret ρ h):WP P .ret K ρ h:=⟨_,_,_, .ret,hk⟩
theorem ang {al:List RO} (he:exec P al ρ h (K .normal)):WP P (.af al) K ρ h:=by
 obtain⟨ρ1,h1,he,hk⟩:=Xw he
 exact⟨_,_,_, .af he,hk⟩
theorem GD {a b:aZ} (hw:WP P a (jj (WP P b K) K) ρ h):WP P (.seq a b) K ρ h:=by
 obtain⟨e,ρ',h',hb,hk⟩:=hw
 cases e with
 |normal=>obtain⟨e2,ρ2,h2,b9,nI⟩:=hk;exact⟨_,_,_, .seq hb b9,nI⟩
 |exit id=>exact⟨_,_,_, .uX hb (by simp),hk⟩
 |goto l=>exact⟨_,_,_, .uX hb (by simp),hk⟩
 |ret=>exact⟨_,_,_, .uX hb (by simp),hk⟩
theorem akU {c:aq} {x y:aZ} {t:Bool} (hc:c.ev ρ= .bool t) (hw:WP P (if t then x else y) K ρ h):WP P (.cond c x y) K ρ h:=by
 obtain⟨e,ρ',h',hb,hk⟩:=hw
 exact⟨_,_,_, .cond t hc hb,hk⟩
theorem ajO {id:Nat} {c:aZ} (hw:WP P c (jU id K) ρ h):WP P (.block id c) K ρ h:=by
 obtain⟨e,ρ',h',hb,hk⟩:=hw
 refine⟨_,_,_, .block hb,?_⟩
 cases e with
 |exit i=>
  simp only[jU] at hk
  by_cases hi:i=id
  ·subst hi;simpa using hk
  ·rw[if_neg hi] at hk
   have: ¬(aQ.exit i=aQ.exit id):=fun h=>hi (aQ.exit.inj h)
   rw[if_neg this];exact hk
 |normal=>simpa [jU] using hk
 |goto l=>simpa [jU] using hk
 |ret=>simpa [jU] using hk
theorem dO {c:aZ} (I:Nat->Env->aa->Prop) (round: ∀n ρ h,I n ρ h->WP P c (jj (fun ρ' h'=> ∃m,m<n/\I m ρ' h') K) ρ h): ∀(n:Nat) {ρ:Env} {h:aa},I n ρ h->WP P (.loop c) K ρ h:=by
 intro n
 induction n using Nat.strongRecOn with
 |_ n ih=>
  intro ρ h hI
  obtain⟨e,ρ',h',hb,hk⟩:=round n ρ h hI
  cases e with
  |normal=>
   obtain⟨m,hm,nO⟩:=hk
   obtain⟨e2,ρ2,h2,b9,nI⟩:=ih m hm nO
   exact⟨_,_,_, .loop hb b9,nI⟩
  |exit id=>exact⟨_,_,_, .rh hb (by simp),hk⟩
  |goto l=>exact⟨_,_,_, .rh hb (by simp),hk⟩
  |ret=>exact⟨_,_,_, .rh hb (by simp),hk⟩
def qm (k:Nat->Option (Env->aa->Prop)) (K:aQ->Env->aa->Prop):aQ->Env->aa->Prop
 | .goto l,ρ,h=>match k l with
   |some k=>k ρ h
   |none=>K (.goto l) ρ h
 |e,ρ,h=>K e ρ h
theorem HW {body cur:aZ} (hw:WP P cur (qm (fun l=>(fY body l).map fun rest=>WP P (.inScope body rest) K) K) ρ h):WP P (.inScope body cur) K ρ h:=by
 obtain⟨e,ρ',h',hb,hk⟩:=hw
 cases e with
 |goto l=>
  simp only[qm] at hk
  cases hf:fY body l with
  |none=>rw[hf] at hk;exact⟨_,_,_, .pd hb (fun l' h=>by cases h;exact hf),hk⟩
  |some rest=>
   rw[hf] at hk
   obtain⟨e2,ρ2,h2,b9,nI⟩:=hk
   exact⟨_,_,_, .Ka hb hf b9,nI⟩
 |normal=>exact⟨_,_,_, .pd hb (by simp),hk⟩
 |exit id=>exact⟨_,_,_, .pd hb (by simp),hk⟩
 |ret=>exact⟨_,_,_, .pd hb (by simp),hk⟩
theorem Lx {c:aZ} (hw:WP P (.inScope c c) K ρ h):WP P (.scope c) K ρ h:=by
 obtain⟨e,ρ',h',hb,hk⟩:=hw
 exact⟨_,_,_, .scope hb,hk⟩
theorem akR {body rest:aZ} (l:Nat) (hf:fY body l=some rest) (J:Nat->Env->aa->Prop)
 (pass: ∀n ρ h,J n ρ h->WP P rest (qm (fun l'=>if l'=l then some (fun ρ' h'=> ∃m,m<n/\J m ρ' h') else none) K) ρ h)
 (dL: ∀l' ρ h,l'≠l->K (.goto l') ρ h->False): ∀(n:Nat) {ρ:Env} {h:aa},J n ρ h->WP P (.inScope body rest) K ρ h:=by
 intro n
 induction n using Nat.strongRecOn with
 |_ n ih=>
  intro ρ h hJ
  obtain⟨e,ρ',h',hb,hk⟩:=pass n ρ h hJ
  cases e with
  |goto l'=>
   simp only[qm] at hk
   by_cases hl:l'=l
   ·subst hl
    simp only[if_true] at hk
    obtain⟨m,hm,hJ'⟩:=hk
    obtain⟨e2,ρ2,h2,b9,nI⟩:=ih m hm hJ'
    exact⟨_,_,_, .Ka hb hf b9,nI⟩
   ·simp only[hl,if_false] at hk
    exact(dL l' ρ' h' hl hk).elim
  |normal=>exact⟨_,_,_, .pd hb (by simp),hk⟩
  |exit id=>exact⟨_,_,_, .pd hb (by simp),hk⟩
  |ret=>exact⟨_,_,_, .pd hb (by simp),hk⟩
def Iu (rs:List fN) (r:AV) (h1:aa):aQ->Env->aa->Prop
 | .normal,ρ,h=>(dQ ρ h rs).map fl=some r/\h=h1
 | .ret,ρ,h=>(dQ ρ h rs).map fl=some r/\h=h1
 |_,_,_=>False
theorem ah2 {md:Mode} (hm:P.follows .mixedOrders=true) {f:Nat} {fn:Func} {rf:az} (hf:P.funcs[f]? =some fn) (hc:aD P md fn=some rf) {args:List AV} (eL:args.length<=rf.ntmps)
 {h1:aa} {r:AV} (hw:WP P rf.code (Iu rf.results r h1) (jx args) h):an P f args h r h1:=by
 obtain⟨e,ρ',h',hb,hk⟩:=hw
 cases e with
 |normal=>
  obtain⟨hr,rfl⟩:=hk
  obtain⟨vs,hv,rfl⟩:=Option.map_eq_some_iff.1 hr
  exact mT hm hf hc eL hb (.inl rfl) hv
 |ret=>
  obtain⟨hr,rfl⟩:=hk
  obtain⟨vs,hv,rfl⟩:=Option.map_eq_some_iff.1 hr
  exact mT hm hf hc eL hb (.inr rfl) hv
 |exit id=>exact hk.elim
 |goto l=>exact hk.elim
end
end
section
open Go
mutual
def AV.bD (p:Nat->Bool):AV->Bool
 | .ptr b _=>p b
 | .rs b _ _ _=>p b
 | .rk b _ _ _ _=>p b
 | .map (some b)=>p b
 | .vs xs t=>AV.gZ p xs&&(match t with| .own t=>p t|_=>true)
 | .vp xs _=>AV.b8 p xs
 | .agg xs=>AV.b8 p xs
 | .ay xs=>AV.b8 p xs
 | .fn _ a b=>AV.b8 p a&&AV.b8 p b
 |_=>true
def AV.b8 (p:Nat->Bool):List AV->Bool
 |[]=>true
 |x::xs=>x.bD p&&AV.b8 p xs
def AV.gZ (p:Nat->Bool):List (List AV)->Bool
 |[]=>true
 |x::xs=>AV.b8 p x&&AV.gZ p xs
end
theorem uh {p:Nat->Bool}: ∀{l:List AV} {i:Nat} {v:AV},AV.b8 p l=true->l[i]? =some v->v.bD p=true
 |[],i,v,_,h=>by simp at h
 |x::xs,i,v,ha,h=>by
  simp only[AV.b8,Bool.and_eq_true] at ha
  cases i with
  |zero=>simp at h;subst h;exact ha.1
  |succ i=>exact uh ha.2 (by simpa using h)
theorem XM {p:Nat->Bool}: ∀{l:List (List AV)} {i:Nat} {v:List AV},AV.gZ p l=true->l[i]? =some v->AV.b8 p v=true
 |[],i,v,_,h=>by simp at h
 |x::xs,i,v,ha,h=>by
  simp only[AV.gZ,Bool.and_eq_true] at ha
  cases i with
  |zero=>simp at h;subst h;exact ha.1
  |succ i=>exact XM ha.2 (by simpa using h)
theorem vV {p:Nat->Bool}: ∀{l:List AV},(∀(i:Nat) (v:AV),l[i]? =some v->v.bD p=true)->AV.b8 p l=true
 |[],_=>rfl
 |x::xs,h=>by
  simp only[AV.b8,Bool.and_eq_true]
  exact⟨h 0 x rfl,vV (fun i v hv=>h (i+1) v (by simpa using hv))⟩
theorem YE {p:Nat->Bool}: ∀{l:List (List AV)},(∀(i:Nat) (v:List AV),l[i]? =some v->AV.b8 p v=true)->AV.gZ p l=true
 |[],_=>rfl
 |x::xs,h=>by
  simp only[AV.gZ,Bool.and_eq_true]
  exact⟨h 0 x rfl,YE (fun i v hv=>h (i+1) v (by simpa using hv))⟩
theorem VR.change {ι ι2:aF} {I:aP} {w:World} {p:Nat->Bool} (hp: ∀b l,p b=true->ι b=some l->ι2 b=some l) {v:AV} {c:Value} (h:VR ι I w v c):v.bD p=true->VR ι2 I w v c:=by
 induction h with
 |undef v=>intro _;exact .undef v
 |fD v h=>intro _;exact .fD v h
 |int k n=>intro _;exact .int k n
 |bool b=>intro _;exact .bool b
 |fU k b=>intro _;exact .fU k b
 |fX k a b=>intro _;exact .fX k a b
 |str s=>intro _;exact .str s
 |nil=>intro _;exact .nil
 |ptr b off cb o room h=>intro ha;exact .ptr b off cb o room (hp _ _ ha h)
 |vp xs off cb o g hI hc hv h1 ih=>intro ha;exact .vp xs off cb o g hI hc (fun j v hj=>ih j v hj (uh ha hj)) h1
 |vs xs t cb o s cap g hs hI hc hv h1 bw ht ih=>
  intro ha
  simp only[AV.bD,Bool.and_eq_true] at ha
  refine .vs xs t cb o s cap g hs hI hc (fun i row j v hi hj=>ih i row j v hi hj (uh (XM ha.1 hi) hj)) h1 bw ?_
  cases t with
  |ao=>exact ht
  |full=>exact ht
  |own t=>exact⟨ht.1,hp _ _ ha.2 ht.2⟩
 |gr t ht=>intro _;exact .gr t ht
 |gi t a cap ht=>intro _;exact .gi t a cap ht
 |bA=>intro _;exact .bA
 |rs b off len sz cb o room cap h h1 h2=>intro ha;exact .rs b off len sz cb o room cap (hp _ _ ha h) h1 h2
 |rk b off len sz cap cb o room h h1 h2=>intro ha;exact .rk b off len sz cap cb o room (hp _ _ ha h) h1 h2
 |vz a cap=>intro _;exact .vz a cap
 |pO=>intro _;exact .pO
 |map b cb h=>intro ha;exact .map b cb (hp _ _ ha h)
 |fn f fs cs eI bF hf hc Kq gl fQ jI=>
  intro ha
  simp only[AV.bD,Bool.and_eq_true] at ha
  exact .fn f fs cs eI bF hf hc (fun i v c h1 h2=>fQ i v c h1 h2 (uh ha.1 h1)) (fun i v c h1 h2=>jI i v c h1 h2 (uh ha.2 h1))
 |jk=>intro _;exact .jk
 |agg cs bF hl hv ih=>intro ha;exact .agg cs bF hl (fun i v c h1 h2=>ih i v c h1 h2 (uh ha h1))
 |ay cs bF hl hv ih=>intro ha;exact .ay cs bF hl (fun i v c h1 h2=>ih i v c h1 h2 (uh ha h1))
theorem VR.cE {ι:aF} {I:aP} {w:World} {p:Nat->Bool} (hp: ∀b l,ι b=some l->p b=true) {v:AV} {c:Value} (h:VR ι I w v c):v.bD p=true:=by
 induction h with
 |ptr b off cb o room h=>exact hp _ _ h
 |vp xs off cb o g hI hc hv h1 ih=>exact vV (fun j v hj=>ih j v hj)
 |vs xs t cb o s cap g hs hI hc hv h1 bw ht ih=>
  simp only[AV.bD,Bool.and_eq_true]
  refine⟨YE (fun i row hi=>vV (fun j v hj=>ih i row j v hi hj)),?_⟩
  cases t with
  |ao=>rfl
  |full=>rfl
  |own t=>exact hp _ _ ht.2
 |gr t ht=>rcases ht with rfl|rfl<;>rfl
 |gi t a cap ht=>rcases ht with rfl|⟨rfl,_⟩<;>rfl
 |rs b off len sz cb o room cap h h1 h2=>exact hp _ _ h
 |rk b off len sz cap cb o room h h1 h2=>exact hp _ _ h
 |map b cb h=>exact hp _ _ h
 |fn f fs cs eI bF hf hc Kq gl fQ jI=>
  simp only[AV.bD,Bool.and_eq_true]
  refine⟨vV (fun i v hi=>?_),vV (fun i v hi=>?_)⟩
  ·have:=(List.getElem?_eq_some_iff.1 hi).1
   exact fQ i v _ hi (List.getElem?_eq_getElem (by omega))
  ·have:=(List.getElem?_eq_some_iff.1 hi).1
   exact jI i v _ hi (List.getElem?_eq_getElem (by omega))
 |agg cs bF hl hv ih=>
  refine vV (fun i v hi=>?_)
  have:=(List.getElem?_eq_some_iff.1 hi).1
  exact ih i v _ hi (List.getElem?_eq_getElem (by omega))
 |ay cs bF hl hv ih=>
  refine vV (fun i v hi=>?_)
  have:=(List.getElem?_eq_some_iff.1 hi).1
  exact ih i v _ hi (List.getElem?_eq_getElem (by omega))
 |_=>rfl
section
variable {P:Program}
theorem LR.change {ι ι2:aF} {I:aP} {w:World} {p:Nat->Bool} (hp: ∀b l,p b=true->ι b=some l->ι2 b=some l) {l:List AV} {l':List Value} (h:LR ι I w l l') (ha:AV.b8 p l=true):LR ι2 I w l l':=
 ⟨h.1,fun i v c h1 h2=>(h.2 i v c h1 h2).change hp (uh ha h1)⟩
theorem an.frame {f:Nat} {args:List AV} {r:AV} {h':aa} (hc:an P f args aa.empty r h') (ha:AV.b8 (fun _=>false) args=true) (hr:r.bD (fun _=>false)=true) (h:aa):an P f args h r h:=by
 intro ι I w bS H hl
 have xX:LR (fun _=>none) I w args bS.toList:=hl.change (p:=fun _=>false) (fun b l hb=>by cases hb) ha
 refine(hc (fun _=>none) I w bS (YA I H.dn) xX).mono ?_
 rintro e w' ⟨v,ι',I',rfl,hv,H',E⟩
 have dL: ∀k j,¬eM (fun _=>none) aa.empty k j:=fun k j ⟨b,l,x,hb,_⟩=>by cases hb
 have br: ∀k j,k<w.heap.size->w'.cell? ⟨k,j,none⟩=w.cell? ⟨k,j,none⟩:=fun k j hk=>E.cell k j hk (dL k j)
 have nO: ∀k j,I' k j->I k j\/w.heap.size<=k:=fun k j hk=>by
  rcases E.gw k j hk with h|h|h
  ·exact .inl h
  ·exact(dL k j h).elim
  ·exact .inr h
 have aC: ∀b l k j,ι b=some l->l.has k j->k<w.heap.size:=fun b l k j hb hl=>by rw[Loc.vM hl];exact H.inside b l hb
 have cI: ∀a c,VR ι I w a c->VR ι I' w' a c:=fun a c hx=>hx.mono (fun _ _ h=>h) E.bB (fun k j hk=>br k j (H.dn k j hk))
 refine⟨v,ι,I',rfl,hv.change (p:=fun _=>false) (fun b l hb=>by cases hb) hr,?_,?_⟩
 ·exact
  {cE:=H.cE,inside:=fun b l hb=>Nat.lt_of_lt_of_le (H.inside b l hb) E.size
   cells:=fun b cs l hg hb=>by
    obtain⟨cb,o,room,rfl,h1,h2,h3⟩:=H.cells b cs l hg hb
    refine⟨cb,o,room,rfl,h1,h2,fun j hj=>?_⟩
    obtain⟨c,e1,e2,e3⟩:=h3 j hj
    have aB:cb<w.heap.size:=H.inside b _ hb
    exact⟨c,by rw[br _ _ aB];exact e1,by rw[E.frozen _ _ aB (dL _ _)];exact e2,fun v hv=>cI _ _ (e3 v hv)⟩
   maps:=fun b es l hg hb=>by
    obtain⟨cb,aV,clock,rfl,h1,h2,h3⟩:=H.maps b es l hg hb
    have aB:cb<w.heap.size:=H.inside b _ hb
    exact⟨cb,aV,clock,rfl,by rw[E.block cb aB (fun j=>dL cb j)];exact h1,h2,fun i k v e e1 e2=>⟨cI _ _ (h3 i k v e e1 e2).1,cI _ _ (h3 i k v e e1 e2).2⟩⟩
   fo:=fun b l hg hb=>by
    obtain⟨cb,lo,hi,rfl,h1⟩:=H.fo b l hg hb
    have aB:cb<w.heap.size:=H.inside b _ hb
    refine⟨cb,lo,hi,rfl,fun j e1 e2=>?_⟩
    obtain⟨c,e3,e4⟩:=h1 j e1 e2
    exact⟨c,by rw[br _ _ aB];exact e3,by rw[E.frozen _ _ aB (dL _ _)];exact e4⟩
   dz:=H.dz
   bB:=fun b l x k j hb hg hl hk=>by
    rcases nO k j hk with h1|h1
    ·exact H.bB b l x k j hb hg hl h1
    ·have:=aC b l k j hb hl;omega
   dn:=H'.dn
   pl:=fun b cs cb o room hg hb n=>by rw[E.frozen cb n (H.inside b _ hb) (dL _ _)];exact H.pl b cs cb o room hg hb n}
 ·exact
  {eZ:=fun _ _=>rfl,bN:=fun _ _ h=>h,next:=Nat.le_refl _,bB:=E.bB,os:=E.os,tape:=E.tape,output:=E.output,size:=E.size
   block:=fun k hk _=>E.block k hk (fun j=>dL k j)
   cell:=fun k j hk _=>br k j hk
   frozen:=fun k j hk _=>E.frozen k j hk (dL k j)
   own:=fun k j h=> .inl h
   gw:=fun k j hk=>by rcases nO k j hk with h1|h1;exact .inl h1;exact .inr (.inr h1)
   lost:=fun _ _ _=>rfl}
theorem an.restore {f:Nat} {args:List AV} {r:AV} {h h':aa} (hc:an P f args h r h') (ir: ∀b,b<h.next->h'.get b=h.get b) (hr:r.bD (fun b=>decide (b<h.next))=true):an P f args h r h:=by
 intro ι I w bS H hl
 refine(hc ι I w bS H hl).mono ?_
 rintro e w' ⟨v,ι',I',rfl,hv,H',E⟩
 let ι2:aF:=fun b=>if b<h.next then ι' b else none
 have eE: ∀b l,decide (b<h.next)=true->ι' b=some l->ι2 b=some l:=fun b l hb hl=>by
  have:b<h.next:=by simpa using hb
  simp only[ι2,this,if_true];exact hl
 have l5: ∀b l,ι2 b=some l->b<h.next/\ι' b=some l:=fun b l hb=>by
  simp only[ι2] at hb
  split at hb
  ·rename_i aC;exact⟨aC,hb⟩
  ·cases hb
 have hold: ∀b,b<h.next->ι' b=ι b:=fun b hb=>E.eZ b (by omega)
 have gF: ∀a c c',VR ι I w a c->VR ι' I' w' a c'->VR ι2 I' w' a c':=fun a c c' hx hy=>
  hy.change eE (hx.cE (fun b l hb=>by simpa using H.cE b l hb))
 refine⟨v,ι2,I',rfl,hv.change eE hr,?_,?_⟩
 ·exact
  {cE:=fun b l hb=>(l5 b l hb).1
   inside:=fun b l hb=>H'.inside b l (l5 b l hb).2
   cells:=fun b cs l hg hb=>by
    obtain⟨aC,bE⟩:=l5 b l hb
    obtain⟨cb,o,room,rfl,h1,h2,h3⟩:=H'.cells b cs l (by rw[ir b aC];exact hg) bE
    refine⟨cb,o,room,rfl,h1,h2,fun j hj=>?_⟩
    obtain⟨c,e1,e2,e3⟩:=h3 j hj
    refine⟨c,e1,e2,fun v hv=>?_⟩
    obtain⟨cb0,o0,avo,heq,g1,g2,g3⟩:=H.cells b cs _ hg (by rw[<-hold b aC];exact bE)
    cases heq
    obtain⟨c0,f1,f2,f3⟩:=g3 j hj
    exact gF v c0 c (f3 v hv) (e3 v hv)
   maps:=fun b es l hg hb=>by
    obtain⟨aC,bE⟩:=l5 b l hb
    obtain⟨cb,aV,clock,rfl,h1,h2,h3⟩:=H'.maps b es l (by rw[ir b aC];exact hg) bE
    obtain⟨cb0,es0,avk,heq,g1,g2,g3⟩:=H.maps b es _ hg (by rw[<-hold b aC];exact bE)
    cases heq
    refine⟨cb,aV,clock,rfl,h1,h2,fun i k v e e1 e2=>?_⟩
    have hi:=(List.getElem?_eq_some_iff.1 e1).1
    have h0:=g3 i k v _ e1 (Array.getElem?_eq_getElem (by omega))
    have h4:=h3 i k v e e1 e2
    exact⟨gF _ _ _ h0.1 h4.1,gF _ _ _ h0.2 h4.2⟩
   fo:=fun b l hg hb=>by
    obtain⟨aC,bE⟩:=l5 b l hb
    exact H'.fo b l (by rw[ir b aC];exact hg) bE
   dz:=fun b b' l l' x x' k j aM hb bE hg cD=>H'.dz b b' l l' x x' k j aM (l5 b l hb).2 (l5 b' l' bE).2 (by rw[ir b (l5 b l hb).1];exact hg) (by rw[ir b' (l5 b' l' bE).1];exact cD)
   bB:=fun b l x k j hb hg=>H'.bB b l x k j (l5 b l hb).2 (by rw[ir b (l5 b l hb).1];exact hg)
   dn:=H'.dn
   pl:=fun b cs cb o room hg hb=>H'.pl b cs cb o room (by rw[ir b (l5 b _ hb).1];exact hg) (l5 b _ hb).2}
 ·exact
  {eZ:=fun b hb=>by
    have aC:b<h.next:=by simpa using hb
    simp only[ι2,aC,if_true]
    exact E.eZ b hb
   bN:=fun b l hb=>eE b l (by simpa using H.cE b l hb) (E.bN b l hb)
   next:=Nat.le_refl _,bB:=E.bB,os:=E.os,tape:=E.tape,output:=E.output,size:=E.size,block:=E.block,cell:=E.cell,frozen:=E.frozen
   own:=fun k j ⟨b,l,x,hb,hg,hl⟩=>E.own k j ⟨b,l,x,(l5 b l hb).2,by rw[ir b (l5 b l hb).1];exact hg,hl⟩
   gw:=E.gw
   lost:=fun _ _ _=>rfl}
end
end
section
open Go
section
variable {P:Program} {ρ:Env} {h:aa} {K:Env->aa->Prop}
theorem aoW {d:Option Nat} {q:bd} {os:List RO}:exec P (⟨d,none, .p q⟩::os) ρ h K↔ ∃v,aY q ρ h=some v/\exec P os (put ρ d v) h K:=by
 constructor
 ·rintro⟨r,h',hs,hk⟩
  simp only[bz,bZ,gA] at hs
  obtain⟨v,rfl,hv,rfl⟩:=hs
  exact⟨v,hv,hk⟩
 ·rintro⟨v,hv,hk⟩
  exact⟨some v,h,⟨v,rfl,hv,rfl⟩,hk⟩
def gK (v:AV) (b:Bool) (A B:Prop):Prop:=match v with
 | .bool c=>if c=b then A else B
 | .ay []=>B
 |_=>False
theorem aoY {d:Option Nat} {q:jO} {os:List RO}:exec P (⟨d,none, .a q⟩::os) ρ h K↔ ∃b v,gP q ρ h.next=some (b,v)/\exec P os (put ρ d v) (h.at h.next b) K:=by
 constructor
 ·rintro⟨r,h',hs,hk⟩
  simp only[bz,bZ,gA] at hs
  obtain⟨v,rfl,b,hv,rfl⟩:=hs
  exact⟨b,v,hv,hk⟩
 ·rintro⟨b,v,hv,hk⟩
  exact⟨some v,_,⟨v,rfl,b,hv,rfl⟩,hk⟩
theorem aoX {d:Option Nat} {q:gn} {os:List RO}:exec P (⟨d,none, .e q⟩::os) ρ h K↔ ∃v h',bM q ρ h.next h=some (v,h')/\exec P os (put ρ d v) h' K:=by
 constructor
 ·rintro⟨r,h',hs,hk⟩
  simp only[bz,bZ,gA] at hs
  obtain⟨v,rfl,hv⟩:=hs
  exact⟨v,h',hv,hk⟩
 ·rintro⟨v,h',hv,hk⟩
  exact⟨some v,h',⟨v,rfl,hv⟩,hk⟩
theorem akq {d:Option Nat} {f:Nat} {as:List aq} {os:List RO} {v:AV} {h':aa} (hc:an P f (as.map (aq.ev ρ)) h v h') (hk:exec P os (put ρ d v) h' K):exec P (⟨d,none, .call f as⟩::os) ρ h K:=
 ⟨some v,h',⟨v,rfl,hc⟩,hk⟩
section
variable {P:Program} {ρ:Env} {h:aa} {K:aQ->Env->aa->Prop}
def jX (l:Nat) (J:Env->aa->Prop) (K:aQ->Env->aa->Prop):aQ->Env->aa->Prop
 | .goto l',ρ,h=>if l'=l then J ρ h else K (.goto l') ρ h
 |e,ρ,h=>K e ρ h
theorem ahI {c rest:aZ} (l:Nat) (hf:fY c l=some rest) (J:Nat->Env->aa->Prop) (dL: ∀l' ρ h,K (.goto l') ρ h->False)
 (first:WP P c (jX l (fun ρ' h'=> ∃m,J m ρ' h') K) ρ h)
 (pass: ∀n ρ h,J n ρ h->WP P rest (jX l (fun ρ' h'=> ∃m,m<n/\J m ρ' h') K) ρ h):WP P (.scope c) K ρ h:=by
 have loop: ∀(n:Nat) (ρ:Env) (h:aa),J n ρ h->WP P (.inScope c rest) K ρ h:=fun n ρ h hJ=>
  akR l hf J (fun n ρ h hJ=>(pass n ρ h hJ).mono (fun e ρ h hk=>by
   cases e with
   |goto l'=>
    simp only[jX,qm] at hk ⊢
    by_cases hl:l'=l
    ·simpa [hl] using hk
    ·simpa [hl] using hk
   |normal=>exact hk
   |exit id=>exact hk
   |ret=>exact hk)) (fun l' ρ h _ hk=>dL l' ρ h hk) n hJ
 refine Lx (HW (first.mono (fun e ρ h hk=>?_)))
 cases e with
 |goto l'=>
  simp only[jX,qm] at hk ⊢
  by_cases hl:l'=l
  ·subst hl
   rw[hf]
   simp only[if_true] at hk
   obtain⟨m,hm⟩:=hk
   exact loop m ρ h hm
  ·rw[if_neg hl] at hk
   exact(dL l' ρ h hk).elim
 |normal=>exact hk
 |exit id=>exact hk
 |ret=>exact hk
end
end
section
variable {P:Program}
def Ih (rs:List fN) (r:AV) (h:aa):aQ->Env->aa->Prop
 | .normal,ρ,h'=>(dQ ρ h' rs).map fl=some r/\ ∀b,b<h.next->h'.get b=h.get b
 | .ret,ρ,h'=>(dQ ρ h' rs).map fl=some r/\ ∀b,b<h.next->h'.get b=h.get b
 |_,_,_=>False
theorem aiL {md:Mode} (hm:P.follows .mixedOrders=true) {f:Nat} {fn:Func} {rf:az} (hf:P.funcs[f]? =some fn) (hc:aD P md fn=some rf) {args:List AV} (eL:args.length<=rf.ntmps)
 {h:aa} {r:AV} (hr:r.bD (fun b=>decide (b<h.next))=true) (hw:WP P rf.code (Ih rf.results r h) (jx args) h):an P f args h r h:=by
 obtain⟨e,ρ',h',hb,hk⟩:=hw
 cases e with
 |normal=>
  obtain⟨hv,hs⟩:=hk
  obtain⟨vs,jq,rfl⟩:=Option.map_eq_some_iff.1 hv
  exact(mT hm hf hc eL hb (.inl rfl) jq).restore hs hr
 |ret=>
  obtain⟨hv,hs⟩:=hk
  obtain⟨vs,jq,rfl⟩:=Option.map_eq_some_iff.1 hv
  exact(mT hm hf hc eL hb (.inr rfl) jq).restore hs hr
 |exit id=>exact hk.elim
 |goto l=>exact hk.elim
end
theorem aa.HT {h:aa} {id j:Nat} {b:cF}:(h.at id b).get j=if j=id then some b else h.get j:=rfl
theorem aa.GX {h:aa} {id:Nat} {b:cF}:(h.at id b).next=max h.next (id+1):=rfl
theorem ajZ {cs vs:List AV} (h:cs.length=vs.length):df cs 0 vs=vs:=by
 simp[df,List.drop_eq_nil_of_le,h]
end
section
open Go Go.ChangeShapes
section
variable {P:Program} {H:Type} {enc:TypeId×Value->H} {w:World} {base:Nat} {sp:Nat->Bool} {held:Bool}
theorem Gw {α β:Type} {f:α->Option β}: ∀{l:List α} {r:List β},l.mapM f=some r-> ∀x∈l,∃y,f x=some y
 |[],r,h,x,hx=>by simp at hx
 |a::l,r,h,x,hx=>by
  rw[List.mapM_cons] at h
  simp only[Option.bind_eq_bind,Option.bind_eq_some_iff] at h
  obtain⟨b,hb,bs,AN,_⟩:=h
  rcases List.mem_cons.1 hx with rfl|hx
  ·exact⟨b,hb⟩
  ·exact Gw AN x hx
end
end
section
open Go Go.ChangeShapes
def uU (w:World):aP:=fun k _=>k<w.heap.size
def Hd (P:Program):Nat->TypeId->List AV->Prop
 |0,_,_=>False
 |f+1,t,as=>
  match P.underlying t with
  |some .bool=> ∃b,as=[.bool b]
  |some (.int k)=> ∃n,as=[.int k n]/\(Lit.int k n).wf=true
  |some .string=> ∃s:ByteArray,as=[.str s]/\s.size<=maxLen
  |some (.slice e)=> ∃xs,as=[.vs xs .ao]/\xs.length<=maxLen/\ ∀row∈xs,Hd P f e row/\row.all AV.one=true
  |some (.struct fs)=>as.length=P.cellsOf t/\ ∀fd∈fs.toList,Hd P f fd.type ((as.drop fd.offset).take (P.cellsOf fd.type))
  |some (.array n e)=>as.length=n*P.cellsOf e/\ ∀i,i<n->Hd P f e ((as.drop (i*P.cellsOf e)).take (P.cellsOf e))
  |_=>as=[.fD]
def ow (P:Program):Nat->List Field->Option Nat
 |o,[]=>some o
 |o,f::fs=>if f.offset=o/\f.type<P.types.size then ow P (o+P.cellsOf f.type) fs else none
def JG (P:Program):Bool:=(List.range P.types.size).all fun t=>match P.underlying t with
 |some (.struct fs)=>ow P 0 fs.toList==some (P.cellsOf t)
 |some (.array n e)=>decide (e<P.types.size)&&P.cellsOf t==n*P.cellsOf e
 |some (.slice e)=>decide (e<P.types.size)&&decide (0<P.cellsOf e)
 |_=>true
section
variable {P:Program} {H:Type} {enc:TypeId×Value->H} {w:World} {sp:Nat->Bool} {held:Bool}
theorem ry {ι:aF} {I:aP} {a:AV} {v:Value} (h:VR ι I w a v):LR ι I w [a] [v]:=LR.cons h LR.nil
theorem LR.app {ι:aF} {I:aP}: ∀{a b:List AV} {c d:List Value},LR ι I w a c->LR ι I w b d->LR ι I w (a++b) (c++d)
 |[],b,[],d,_,h=>h
 |[],b,c::cs,d,h,_=>by have:=h.1;simp at this
 |a::as,b,[],d,h,_=>by have:=h.1;simp at this
 |a::as,b,c::cs,d,h,h2=>by
  have h1:VR ι I w a c:=h.2 0 a c rfl rfl
  have h3:LR ι I w as cs:=⟨by have:=h.1;simpa using this,fun i v c e1 e2=>h.2 (i+1) v c (by simpa using e1) (by simpa using e2)⟩
  exact LR.cons h1 (LR.app h3 h2)
theorem Ww {n:Nat} {G:Nat->TypeId->List AV->Prop} {ι:aF} {I:aP}: ∀(fs:List Field) (o e:Nat) (cs:List Value),ow P o fs=some e->cs.length+o=e->
 (∀f∈fs,∀l,l=((cs.drop (f.offset-o)).take (P.cellsOf f.type))->f.offset+P.cellsOf f.type<=e-> ∃as,G n f.type as/\LR ι I w as l/\ ∀v∈as,v.one=true)->
 ∃as,LR ι I w as cs/\(∀v∈as,v.one=true)/\ ∀f∈fs,o<=f.offset/\G n f.type ((as.drop (f.offset-o)).take (P.cellsOf f.type))
 |[],o,e,cs,hc,hl,_=>by
  simp[ow] at hc
  subst hc
  have:cs=[]:=List.length_eq_zero_iff.1 (by omega)
  subst this
  exact⟨[],LR.nil,by simp,by simp⟩
 |f::fs,o,e,cs,hc,hl,hf=>by
  simp only[ow] at hc
  split at hc
  ·rename_i h1
   obtain⟨h1,_⟩:=h1
   have hle: ∀(fs:List Field) (o e:Nat),ow P o fs=some e->o<=e:=by
    intro fs
    induction fs with
    |nil=>intro o e h;simp[ow] at h;omega
    |cons g gs ih=>intro o e h;simp only[ow] at h;split at h;exact Nat.le_trans (Nat.le_add_right _ _) (ih _ _ h);cases h
   have h2:=hle _ _ _ hc
   obtain⟨a,sh,tM,Vf⟩:=hf f (by simp) _ rfl (by omega)
   have hlen:a.length=P.cellsOf f.type:=by rw[tM.1,List.length_take,List.length_drop];omega
   obtain⟨b,ew,b9,U9⟩:=Ww fs (o+P.cellsOf f.type) e (cs.drop (P.cellsOf f.type)) hc (by simp;omega) (fun g hg l hl rE=>by
    have AI: ∀(fs:List Field) (o e:Nat),ow P o fs=some e-> ∀g∈fs,o<=g.offset:=by
     intro fs
     induction fs with
     |nil=>intro o e h g hg;simp at hg
     |cons q qs ih=>
      intro o e h g hg
      simp only[ow] at h
      split at h
      ·rename_i hq
       rcases List.mem_cons.1 hg with rfl|hg
       ·omega
       ·have:=ih _ _ h g hg;omega
      ·cases h
    have:=AI _ _ _ hc g hg
    refine hf g (List.mem_cons_of_mem _ hg) l ?_ rE
    rw[hl,List.drop_drop]
    congr 2
    omega)
   refine⟨a++b,?_,?_,?_⟩
   ·have:=LR.app tM ew
    rw[h1,Nat.sub_self,List.drop_zero,List.take_append_drop] at this
    exact this
   ·intro v hv
    rcases List.mem_append.1 hv with hv|hv
    ·exact Vf v hv
    ·exact b9 v hv
   ·intro g hg
    rcases List.mem_cons.1 hg with rfl|hg
    ·refine⟨by omega,?_⟩
     rw[h1,Nat.sub_self,List.drop_zero,List.take_append_of_le_length (by omega),List.take_of_length_le (by omega)]
     exact sh
    ·obtain⟨h3,h4⟩:=U9 g hg
     refine⟨by omega,?_⟩
     have:g.offset-o=a.length+(g.offset-(o+P.cellsOf f.type)):=by omega
     rw[this,List.drop_append,List.drop_eq_nil_of_le (by omega),Nat.add_sub_cancel_left,List.nil_append]
     exact h4
  ·cases hc
theorem aiT {b off:Nat} {v:Value} (h:w.cell? ⟨b,off,none⟩=some v):uU w b off:=by
 apply Classical.byContradiction
 intro hn
 have:w.heap[b]? =none:=by
  have jb: ¬b<w.heap.size:=hn
  simp;omega
 simp[World.cell?,this] at h
theorem WO {G:List AV->Prop} {ι:aF} {I:aP} {s:Nat}: ∀(n:Nat) (cs:List Value),cs.length=n*s->
 (∀i,i<n-> ∃as,G as/\LR ι I w as ((cs.drop (i*s)).take s)/\ ∀v∈as,v.one=true)->
 ∃as,LR ι I w as cs/\(∀v∈as,v.one=true)/\ ∀i,i<n->G ((as.drop (i*s)).take s)
 |0,cs,hl,_=>by
  have:cs=[]:=List.length_eq_zero_iff.1 (by simpa using hl)
  subst this
  exact⟨[],LR.nil,by simp,by omega⟩
 |n+1,cs,hl,hf=>by
  have hs:(n+1)*s=n*s+s:=Nat.succ_mul n s
  obtain⟨a,sh,tM,Vf⟩:=hf 0 (by omega)
  have hlen:a.length=s:=by rw[tM.1,List.length_take,List.length_drop];omega
  obtain⟨b,ew,b9,U9⟩:=WO (G:=G) (s:=s) n (cs.drop s) (by rw[List.length_drop];omega) (fun i hi=>by
   obtain⟨x,h1,h2,h3⟩:=hf (i+1) (by omega)
   refine⟨x,h1,?_,h3⟩
   rw[List.drop_drop]
   rw[Nat.succ_mul,Nat.add_comm] at h2
   exact h2)
  refine⟨a++b,?_,?_,?_⟩
  ·have:=LR.app tM ew
   rw[Nat.zero_mul,List.drop_zero,List.take_append_drop] at this
   exact this
  ·intro v hv
   rcases List.mem_append.1 hv with hv|hv
   ·exact Vf v hv
   ·exact b9 v hv
  ·intro i hi
   cases i with
   |zero=>
    rw[Nat.zero_mul,List.drop_zero,List.take_append_of_le_length (by omega),List.take_of_length_le (by omega)]
    exact sh
   |succ i=>
    have:(i+1)*s=a.length+i*s:=by rw[Nat.succ_mul];omega
    rw[this,List.drop_append,List.drop_eq_nil_of_le (by omega),Nat.add_sub_cancel_left,List.nil_append]
    exact U9 i (by omega)
theorem ai1 (hl:JG P=true): ∀{fuel:Nat} {t:TypeId} {cs:List Value} {x:DataW H×List MemPlace},t<P.types.size->DataW.trod enc P w 0 sp held fuel t cs=some x->
 ∃as,Hd P fuel t as/\LR (fun _=>none) (uU w) w as cs/\ ∀v∈as,v.one=true:=by
 intro fuel
 induction fuel with
 |zero=>intro t cs x _ h;simp[DataW.trod] at h
 |succ n ih=>
  intro t cs x ht h
  have np:=List.all_eq_true.1 hl t (List.mem_range.2 ht)
  unfold DataW.trod at h
  unfold Hd
  split at h
  ·rename_i b hu
   rw[hu];exact⟨[.bool b],⟨b,rfl⟩,ry (.bool b),by simp[AV.one]⟩
  ·rename_i k k' m hu
   rw[hu]
   split at h
   ·rename_i hc
    obtain⟨rfl,hc⟩:=hc
    exact⟨[.int k' m],⟨m,rfl,hc⟩,ry (.int k' m),by simp[AV.one]⟩
   ·cases h
  ·rename_i hu;rw[hu];exact⟨[.fD],rfl,ry (.fD _ rfl),by simp[AV.one]⟩
  ·rename_i s hu
   rw[hu]
   split at h
   ·rename_i hc
    exact⟨[.str s],⟨s,rfl,hc⟩,ry (.str s),by simp[AV.one]⟩
   ·cases h
  ·rename_i hu;rw[hu];exact⟨[.fD],rfl,ry (.fD _ rfl),by simp[AV.one]⟩
  ·rename_i hu;rw[hu];exact⟨[.fD],rfl,ry (.fD _ rfl),by simp[AV.one]⟩
  ·rename_i hu
   rw[hu]
   exact⟨[.vs [] .ao],⟨[],rfl,by simp,by simp⟩,ry (.gr _ (.inl rfl)),by simp[AV.one]⟩
  ·rename_i e a len cap hu
   rw[hu] at np ⊢
   simp only[Bool.and_eq_true,decide_eq_true_eq] at np
   obtain⟨UI,iy⟩:=np
   split at h
   ·rename_i hc
    obtain⟨_,hlc,Ks⟩:=hc
    simp only[Option.bind_eq_some_iff] at h
    obtain⟨elems,Fm,_⟩:=h
    rcases Nat.eq_zero_or_pos len with h0|h0
    ·subst h0
     exact⟨[.vs [] .ao],⟨[],rfl,by simp,by simp⟩,ry (.gi _ _ _ (.inl rfl)),by simp[AV.one]⟩
    ·have key: ∀i,∃as:List AV,i<len->Hd P n e as/\as.length=P.cellsOf e/\(∀v∈as,v.one=true)/\
      ∀j,j<P.cellsOf e-> ∃u,w.cell? ((a.add (i*P.cellsOf e)).add j)=some u/\ ∀v,as[j]? =some v->VR (fun _=>none) (uU w) w v u:=by
      intro i
      by_cases hi:i<len
      ·obtain⟨y,hy⟩:=Gw Fm i (List.mem_range.2 hi)
       obtain⟨csi,h1,h2⟩:=Option.bind_eq_some_iff.1 hy
       obtain⟨_,di,iV⟩:=World.cells?_some h1
       obtain⟨as,h3,h4,h5⟩:=ih UI h2
       refine⟨as,fun _=>⟨h3,by rw[h4.1,di],h5,fun j hj=>?_⟩⟩
       have dU:j<csi.length:=by omega
       refine⟨csi[j],by rw[iV j hj,List.getElem?_eq_getElem dU],fun v hv=>h4.2 j v _ hv (List.getElem?_eq_getElem dU)⟩
      ·exact⟨[],fun h=>absurd h hi⟩
     obtain⟨f,hf⟩:=Classical.skolem.1 key
     have acx:a.spot=none:=by
      obtain⟨_,_,_,h4⟩:=hf 0 h0
      obtain⟨u,ig,_⟩:=h4 0 iy
      have:=World.cell?_spot ig
      simpa [Addr.add] using this
     obtain⟨cb,o,spt⟩:=a
     simp only at acx
     subst acx
     have cu: ∀(i:Nat) (row:List AV),((List.range len).map f)[i]? =some row->i<len/\row=f i:=by
      intro i row hi
      have aC:i<len:=by have:=(List.getElem?_eq_some_iff.1 hi).1;simpa using this
      simp[List.getElem?_map,List.getElem?_range aC] at hi
      exact⟨aC,hi.symm⟩
     have br: ∀i j,i<len->j<P.cellsOf e-> ∃u,w.cell? ⟨cb,o+i*P.cellsOf e+j,none⟩=some u/\ ∀v,(f i)[j]? =some v->VR (fun _=>none) (uU w) w v u:=by
      intro i j hi hj
      obtain⟨_,_,_,h4⟩:=hf i hi
      have:=h4 j hj
      rw[Addr.add_mid,Addr.add_mid] at this
      exact this
     have hv:=VR.vs (ι:=fun _=>none) (I:=uU w) (w:=w) ((List.range len).map f) .ao cb o (P.cellsOf e) cap (fun i j=>(w.cell? ⟨cb,o+i*P.cellsOf e+j,none⟩).getD undef)
      (fun i row hi=>by obtain⟨h1,rfl⟩:=cu i row hi;exact(hf i h1).2.1)
      (fun i j hi hj=>by obtain⟨u,hu,_⟩:=br i j (by simpa using hi) hj;exact aiT hu)
      (fun i j hi hj=>by obtain⟨u,hu,_⟩:=br i j (by simpa using hi) hj;simp[hu])
      (fun i row j v hi hj=>by
        obtain⟨h1,rfl⟩:=cu i row hi
        have jr:j<P.cellsOf e:=by rw[<-(hf i h1).2.1];exact(List.getElem?_eq_some_iff.1 hj).1
        obtain⟨u,hu,hv⟩:=br i j h1 jr
        simp only[hu,Option.getD_some]
        exact hv v hj)
      (fun row hr v hv=>by
        obtain⟨i,hi⟩:=List.mem_iff_getElem?.1 hr
        obtain⟨h1,rfl⟩:=cu i row hi
        exact(hf i h1).2.2.1 v hv)
      (by simpa using hlc) trivial
     have mD:((List.range len).map f).length=len:=by simp
     rw[mD] at hv
     refine⟨[.vs ((List.range len).map f) .ao],⟨_,rfl,by rw[mD];omega,fun row hr=>?_⟩,ry hv,by simp[AV.one]⟩
     obtain⟨i,hi⟩:=List.mem_iff_getElem?.1 hr
     obtain⟨h1,rfl⟩:=cu i row hi
     exact⟨(hf i h1).1,List.all_eq_true.2 (hf i h1).2.2.1⟩
   ·cases h
  ·rename_i cs _ _ fs hu
   rw[hu] at np ⊢
   simp only[beq_iff_eq] at np
   split at h
   ·rename_i hlen
    obtain⟨xs,UE,_⟩:=Option.map_eq_some_iff.1 h
    have at9: ∀(fs:List Field) (o e:Nat),ow P o fs=some e-> ∀g∈fs,g.type<P.types.size:=by
     intro fs
     induction fs with
     |nil=>intro o e h g hg;simp at hg
     |cons q qs ih=>
      intro o e h g hg
      simp only[ow] at h
      split at h
      ·rename_i hq
       rcases List.mem_cons.1 hg with rfl|hg
       ·exact hq.2
       ·exact ih _ _ h g hg
      ·cases h
    obtain⟨as,h1,h2,h3⟩:=Ww (P:=P) (w:=w) (n:=n) (G:=fun f t as=>Hd P f t as) fs.toList 0 _ cs np (by omega) (fun f hf l hl _=>by
     obtain⟨y,hy⟩:=Gw UE f hf
     rw[Nat.sub_zero] at hl
     rw[<-hl] at hy
     exact ih (at9 _ _ _ np f hf) hy)
    exact⟨as,⟨by rw[h1.1,hlen],fun f hf=>by have:=(h3 f hf).2;rwa [Nat.sub_zero] at this⟩,h1,h2⟩
   ·cases h
  ·rename_i cs _ _ m e hu
   rw[hu] at np ⊢
   simp only[beq_iff_eq,Bool.and_eq_true,decide_eq_true_eq] at np
   obtain⟨UI,np⟩:=np
   split at h
   ·rename_i hlen
    obtain⟨xs,UE,_⟩:=Option.map_eq_some_iff.1 h
    obtain⟨as,h1,h2,h3⟩:=WO (w:=w) (G:=Hd P n e) m cs (by rw[hlen,np]) (fun i hi=>by
     obtain⟨y,hy⟩:=Gw UE i (List.mem_range.2 hi)
     exact ih UI hy)
    exact⟨as,⟨by rw[h1.1,hlen,np],h3⟩,h1,h2⟩
   ·cases h
  all_goals first
   |(cases h;done)
   |(rename_i hu;rw[hu];exact⟨[.fD],rfl,ry (.fD _ rfl),by simp[AV.one]⟩)
   |skip
end
end
section
open Go Go.ChangeShapes Go.WideShapes Go.ChangeAt Go.RowKit
def t5 (P:Program) (t:TypeId) (a:AV):Prop:=
 ∃f,match P.underlying t with
 |some (.struct _)|some (.array _ _)=> ∃cs,a= .agg cs/\Hd P f t cs/\cs.all AV.one=true
 |_=>Hd P f t [a]
def SZ (P:Program):List TypeId->List AV->Prop
 |[],as=>as=[]
 |t::ts,as=> ∃a bs,as=a::bs/\t5 P t a/\SZ P ts bs
section
variable {P:Program} {H:Type} {enc:TypeId×Value->H} {w w':World}
theorem t5.Yc {t:TypeId} {d:TypeDesc} {a:AV} (hu:P.underlying t=some d) (hd:d.isRow=false) (h:t5 P t a): ∃f,Hd P f t [a]:=by
 obtain⟨f,h⟩:=h
 rw[hu] at h
 cases d<;>first|(simp[TypeDesc.isRow] at hd;done)|exact⟨f,h⟩
theorem ale (hl:JG P=true) {t:TypeId} {v:Value} {base:Nat} (ht:t<P.types.size) (bc:Value.okWide P w .any base t v) {sp:Nat->Bool} {held:Bool} {d:DataW H} {p:List MemPlace}
 (h:DataW.Trod enc P w 0 sp held t v d p): ∃a,t5 P t a/\VR (fun _=>none) (uU w) w a v:=by
 obtain⟨n,hn⟩:=h
 obtain⟨as,h1,h2,h3⟩:=ai1 hl ht hn
 unfold t5
 unfold Value.okWide at bc
 split at bc
 ·rename_i hu
  obtain⟨cs,rfl,aO,_⟩:=bc
  refine⟨.agg as,⟨n,?_⟩,?_⟩
  ·rw[hu];exact⟨as,rfl,h1,List.all_eq_true.2 h3⟩
  ·have:(Value.agg cs).cells.toList=cs.toList:=rfl
   rw[this] at h2
   have:=VR.agg as cs.toList h2.1 h2.2
   simpa using this
 ·rename_i hu
  obtain⟨cs,rfl,aO,_⟩:=bc
  refine⟨.agg as,⟨n,?_⟩,?_⟩
  ·rw[hu];exact⟨as,rfl,h1,List.all_eq_true.2 h3⟩
  ·have:(Value.agg cs).cells.toList=cs.toList:=rfl
   rw[this] at h2
   have:=VR.agg as cs.toList h2.1 h2.2
   simpa using this
 ·rename_i hns iH
  have hc:v.cells.toList=[v]:=by
   cases v<;>first|rfl|(unfold Cell.okWide Cell.ok at bc;split at bc<;>simp_all)
  rw[hc] at h2
  have hlen:=h2.1
  match as,hlen,h1,h2,h3 with
  |[a],_,h1,h2,h3=>
   refine⟨a,⟨n,?_⟩,h2.2 0 a v rfl rfl⟩
   split
   ·rename_i hu;exact(hns _ hu).elim
   ·rename_i hu;exact(iH _ _ hu).elim
   ·exact h1
theorem Yb (hl:JG P=true) {base:Nat} {sp:Nat->Bool} {held:Bool}: ∀{ts:List TypeId} {vs:List Value} {ds:List (DataW H)} {p:List MemPlace},(∀t∈ts,t<P.types.size)->
 (∀(j:Nat) t v,ts[j]? =some t->vs[j]? =some v->Value.okWide P w .any base t v)->DataW.TrodAll enc P w 0 sp held ts vs ds p->
 ∃as,SZ P ts as/\LR (fun _=>none) (uU w) w as vs
 |[],vs,ds,p,_,_,h=>by
  obtain⟨rfl,_,_⟩:=trodAll_nil h
  exact⟨[],rfl,LR.nil⟩
 |t::ts,vs,ds,p,ht,bc,h=>by
  obtain⟨v,vs',d,ds',p',q,rfl,rfl,rfl,h1,h2⟩:=trodAll_cons h
  obtain⟨a,sh,tM⟩:=ale hl (ht t (by simp)) (bc 0 t v rfl rfl) h1
  obtain⟨as,ew,b9⟩:=Yb hl (fun x hx=>ht x (List.mem_cons_of_mem _ hx)) (fun j t v e1 e2=>bc (j+1) t v (by simpa using e1) (by simpa using e2)) h2
  exact⟨a::as,⟨a,as,rfl,sh,ew⟩,LR.cons tM b9⟩
theorem V8 {base:Nat} {sp:Nat->Bool} {held:Bool}: ∀{ts:List TypeId} {vs:List Value} {ds:List (DataW H)} {ps:List MemPlace},DataW.TrodAll enc P w base sp held ts vs ds ps->vs.length=ts.length/\ds.length=ts.length
 |[],_,_,_,h=>by
  obtain⟨rfl,rfl,_⟩:=trodAll_nil h
  exact⟨rfl,rfl⟩
 |_::_,_,_,_,h=>by
  obtain⟨v,vs1,d,ds1,a,b,rfl,rfl,rfl,_,h2⟩:=trodAll_cons h
  have:=V8 h2
  simp[this.1,this.2]
theorem Kept.same (h:Kept w w') {p:MemPlace} (hp:p.block<w.heap.size):w.sameAt w' p:=by
 cases p with
 |cell b off=>
  have:=h.2.2.2 b hp
  simp only[World.sameAt,World.cell?,this]
 |map b=>exact h.2.2.2 b hp
theorem VJ (hl:laidOutB P=true) {sp:Nat->Bool} (hk:Kept w w'): ∀{ts:List TypeId} {vs:List Value} {ds:List (DataW H)} {p:List MemPlace},
 (∀t∈ts,P.readableRec t=true/\t<P.types.size)->(∀x∈p,x.block<w.heap.size)->(∀x∈p,sp x.block=true)->
 DataW.TrodAll enc P w 0 (fun _=>true) true ts vs ds p->DataW.TrodAll enc P w' 0 sp true ts vs ds p
 |[],vs,ds,p,_,_,_,h=>by
  obtain⟨rfl,rfl,rfl⟩:=trodAll_nil h
  exact trodAll_mk0
 |t::ts,vs,ds,p,ht,aC,vt,h=>by
  obtain⟨v,vs',d,ds',p',q,rfl,rfl,rfl,h1,h2⟩:=trodAll_cons h
  refine⟨p',q,?_,?_,rfl⟩
  ·exact WideElems.Trod_stays hl (ht t (by simp)).1 (ht t (by simp)).2 h1 (fun x hx=>hk.same (aC x (by simp[hx]))) (fun x hx=>vt x (by simp[hx]))
  ·exact VJ hl hk (fun x hx=>ht x (List.mem_cons_of_mem _ hx)) (fun x hx=>aC x (by simp[hx])) (fun x hx=>vt x (by simp[hx])) h2
end
section
variable {C:Checked} {os:Os} {f:FuncId} {fn:Func} {s:ChangeSpec} {conds:List PathCond} {H:Type} {enc:TypeId×Value->H}
theorem avd (own:ownKnob C.prog.godebug=none) (started:os.Started) (anu:C.prog.inits.idxOf? f=none) (iU:C.prog.funcs[f]? =some fn)
 (witness: ∃(w:World) (tape:Tape) (i:Input),w.os=os/\(w.forCall tape i).Shaped C.prog/\i.vars=[]/\Input.okWide C.prog (w.forCall tape i) .any w.heap.size f i/\
   s.pre6 enc C.prog fn conds false (w.forCall tape i).memory i.args/\({}:Assume).holds C.prog (lone (Frame.enter C.prog f i.args .normal) [] (w.forCall tape i)))
 (eo:laidOutB C.prog=true) (eD:JG C.prog=true) (CR:s.vars=[])
 (asp: ∀ds:List (DataW H),ds.length=fn.params.size->s.fn H ds={results:=[.lit (.bool true)],args:=ds})
 {tb:TypeId} (Ek:fn.resultTypes= #[tb]) (hb:C.prog.underlying tb=some .bool)
 (auh:(fn.params.toList.all fun t=>C.prog.readableRec t&&decide (t<C.prog.types.size))=true)
 (wJ: ∀as,SZ C.prog fn.params.toList as-> ∃h',an C.prog f as aa.empty (.bool true) h'):
 ReturnsInHanded {} C os f .any (s.pre6 enc C.prog fn conds false) (s.post enc C.prog fn false true false false):=by
 have acy: ∀t∈fn.params.toList,C.prog.readableRec t=true/\t<C.prog.types.size:=fun t ht=>by
  have:=List.all_eq_true.1 auh t ht
  simpa using this
 refine returnsInHanded_of_change (C:=C) own started anu iU witness ?_
 intro W base args ds gs before rC hW avG _
 have kX:=hW
 obtain⟨p,q,hA,hV,rfl,pj,hnd⟩:=hW
 rw[CR] at hV
 obtain⟨rfl,rfl⟩:=trodVars_none hV
 simp only[List.append_nil] at kX
 have aC: ∀x∈p,x.block<W.heap.size:=fun x hx=>kX.lt x hx
 obtain⟨as,h1,h2⟩:=Yb eD (fun t ht=>(acy t ht).2) (fun j t v e1 e2=>rC j t v (by simpa using e1) (by simpa using e2)) hA
 obtain⟨h',hc⟩:=wJ as h1
 have hlen:=(V8 hA).2
 have vt:s.fn H (ds++[])={results:=[.lit (.bool true)],args:=ds}:=by
  rw[List.append_nil];exact asp ds (by simpa using hlen)
 refine(ajw hc (I:=uU W) (fun k j h=>h) h2).mono fun e W' ⟨he,hk⟩=>?_
 subst he
 refine⟨_,rfl,ahM (pa:=p) (pv:=[]) kX ?_ ?_ ?_ (by simp) hk ?_⟩
 ·intro b sp hd
  rw[vt,Ek]
  exact trodAll_mk1 (trod_bool hb true)
 ·intro sp hs
  rw[vt]
  exact VJ eo hk acy aC hs hA
 ·intro sp hs
  rw[CR]
  rw[vt]
  exact rfl
 ·exact ok_one Ek rfl (okWide_bool hb true)
end
end
section
open Go
section
variable {P:Program} {K:aQ->Env->aa->Prop} {ρ:Env} {h:aa}
theorem LH {K K':Env->aa->Prop} (hk: ∀ρ h,K ρ h->K' ρ h): ∀{al:List RO} {ρ:Env} {h:aa},exec P al ρ h K->exec P al ρ h K'
 |[],ρ,h,he=>hk _ _ he
 |o::os,ρ,h,⟨r,h',hs,he⟩=>⟨r,h',hs,LH hk he⟩
theorem Zr:WP P .skip K ρ h↔K .normal ρ h:=⟨fun⟨_,_,_,hb,hk⟩=>by cases hb;exact hk,XP⟩
theorem al5 {l:Nat}:WP P (.label l) K ρ h↔K .normal ρ h:=⟨fun⟨_,_,_,hb,hk⟩=>by cases hb;exact hk,Xa⟩
theorem ana {i:Nat}:WP P (.exit i) K ρ h↔K (.exit i) ρ h:=⟨fun⟨_,_,_,hb,hk⟩=>by cases hb;exact hk,akT⟩
theorem am9 {i:Nat}:WP P (.goto i) K ρ h↔K (.goto i) ρ h:=⟨fun⟨_,_,_,hb,hk⟩=>by cases hb;exact hk,akS⟩
theorem aqI:WP P .ret K ρ h↔K .ret ρ h:=⟨fun⟨_,_,_,hb,hk⟩=>by cases hb;exact hk,al7⟩
theorem uy {al:List RO}:WP P (.af al) K ρ h↔exec P al ρ h (K .normal):=
 ⟨fun⟨_,_,_,hb,hk⟩=>by cases hb;rename_i he;exact LH (fun ρ h ⟨e1,e2⟩=>by subst e1;subst e2;exact hk) he,ang⟩
theorem sL {a b:aZ}:WP P (.seq a b) K ρ h↔WP P a (jj (WP P b K) K) ρ h:=by
 constructor
 ·rintro⟨e,ρ',h',hb,hk⟩
  cases hb with
  |seq b1 b2=>exact⟨_,_,_,b1,_,_,_,b2,hk⟩
  |uX b1 he=>
   refine⟨_,_,_,b1,?_⟩
   cases e with
   |normal=>exact absurd rfl he
   |_=>exact hk
 ·exact GD
def C1 (v:AV) (A B:Prop):Prop:=match v with
 | .bool c=>if c=true then A else B
 |_=>False
theorem anb {c:aq} {x y:aZ}:WP P (.cond c x y) K ρ h↔C1 (c.ev ρ) (WP P x K ρ h) (WP P y K ρ h):=by
 constructor
 ·rintro⟨e,ρ',h',hb,hk⟩
  cases hb with
  |cond t hc b1=>
   rw[hc]
   cases t
   ·exact⟨_,_,_,b1,hk⟩
   ·exact⟨_,_,_,b1,hk⟩
 ·intro hc
  unfold C1 at hc
  split at hc
  ·rename_i t ht
   refine akU ht ?_
   cases t<;>simpa using hc
  ·exact hc.elim
theorem al6 {id:Nat} {c:aZ}:WP P (.block id c) K ρ h↔WP P c (jU id K) ρ h:=by
 constructor
 ·rintro⟨e,ρ',h',hb,hk⟩
  cases hb with
  |block b1=>
   rename_i e1
   refine⟨_,_,_,b1,?_⟩
   cases e1 with
   |exit i=>
    simp only[jU]
    by_cases hi:i=id
    ·subst hi;simpa using hk
    ·have: ¬(aQ.exit i=aQ.exit id):=fun h=>hi (aQ.exit.inj h)
     rw[if_neg this] at hk
     rw[if_neg hi];exact hk
   |normal=>simpa [jU] using hk
   |goto l=>simpa [jU] using hk
   |ret=>simpa [jU] using hk
 ·exact ajO
section
variable {K:Env->aa->Prop}
theorem ahH {d:Option Nat} {f:Nat} {as:List aq} {os:List RO}:exec P (⟨d,none, .call f as⟩::os) ρ h K↔ ∃v h',an P f (as.map (aq.ev ρ)) h v h'/\exec P os (put ρ d v) h' K:=by
 constructor
 ·rintro⟨r,h',hs,hk⟩
  simp only[bz,bZ,gA] at hs
  obtain⟨v,rfl,hv⟩:=hs
  exact⟨v,h',hv,hk⟩
 ·rintro⟨v,h',hv,hk⟩
  exact akq hv hk
theorem ajo {d:Option Nat} {g:Nat} {b:Bool} {op:bX} {os:List RO}:exec P (⟨d,some (g,b),op⟩::os) ρ h K↔gK (ρ g) b (exec P (⟨d,none,op⟩::os) ρ h K) (exec P os (put ρ d (.ay [])) h K):=by
 unfold gK
 split
 ·rename_i c hc
  by_cases dt:c=b
  ·subst dt
   simp only[if_true]
   constructor
   ·rintro⟨r,h',hs,hk⟩
    simp only[bz,bZ,hc,beq_self_eq_true] at hs
    exact⟨r,h',hs,hk⟩
   ·rintro⟨r,h',hs,hk⟩
    refine⟨r,h',?_,hk⟩
    simp only[bz,bZ,hc,beq_self_eq_true]
    exact hs
  ·have sV:(c==b)=false:=by simpa using dt
   rw[if_neg dt]
   constructor
   ·rintro⟨r,h',hs,hk⟩
    simp only[bz,bZ,hc,sV] at hs
    obtain⟨rfl,rfl⟩:=hs
    exact hk
   ·intro hk
    refine⟨none,h,?_,hk⟩
    simp only[bz,bZ,hc,sV]
    trivial
 ·rename_i hc
  constructor
  ·rintro⟨r,h',hs,hk⟩
   simp only[bz,bZ,hc] at hs
   obtain⟨rfl,rfl⟩:=hs
   exact hk
  ·intro hk
   refine⟨none,h,?_,hk⟩
   simp only[bz,bZ,hc]
   trivial
 ·rename_i h1 h2
  constructor
  ·rintro⟨r,h',hs,hk⟩
   unfold bz at hs
   have:bZ ⟨d,some (g,b),op⟩ ρ=none:=by
    unfold bZ
    simp only[]
   rw[this] at hs
   exact hs
  ·exact fun h=>h.elim
end
end
section
variable {P:Program} {ρ:Env} {h:aa} {K:Env->aa->Prop} {d:Option Nat} {os:List RO}
def Ir (P:Program) (d:Option Nat) (os:List RO) (ρ:Env) (h:aa) (K:Env->aa->Prop) (o:Option AV):Prop:= ∃v,o=some v/\exec P os (put ρ d v) h K
def PQ (P:Program) (d:Option Nat) (os:List RO) (ρ:Env) (h:aa) (K:Env->aa->Prop) (o:Option (cF×AV)):Prop:= ∃b v,o=some (b,v)/\exec P os (put ρ d v) (h.at h.next b) K
def PO (P:Program) (d:Option Nat) (os:List RO) (ρ:Env) (K:Env->aa->Prop) (o:Option (AV×aa)):Prop:= ∃v h',o=some (v,h')/\exec P os (put ρ d v) h' K
def acM (P:Program) (d:Option Nat) (os:List RO) (ρ:Env) (h:aa) (K:Env->aa->Prop) (f:Nat) (as:List AV):Prop:= ∃v h',an P f as h v h'/\exec P os (put ρ d v) h' K
def lB (P:Program) (d:Option Nat) (op:bX) (os:List RO) (ρ:Env) (h:aa) (K:Env->aa->Prop) (b:Bool) (v:AV):Prop:=gK v b (exec P (⟨d,none,op⟩::os) ρ h K) (exec P os (put ρ d (.ay [])) h K)
def yr (P:Program) (x y:aZ) (K:aQ->Env->aa->Prop) (ρ:Env) (h:aa) (v:AV):Prop:=C1 v (WP P x K ρ h) (WP P y K ρ h)
theorem ajp {v:AV}:Ir P d os ρ h K (some v)↔exec P os (put ρ d v) h K:=by simp[Ir]
theorem ajr {b:cF} {v:AV}:PQ P d os ρ h K (some (b,v))↔exec P os (put ρ d v) (h.at h.next b) K:=
 ⟨fun⟨_,_,e,h⟩=>by cases e;exact h,fun h=>⟨_,_,rfl,h⟩⟩
theorem ajq {v:AV} {h':aa}:PO P d os ρ K (some (v,h'))↔exec P os (put ρ d v) h' K:=
 ⟨fun⟨_,_,e,h⟩=>by cases e;exact h,fun h=>⟨_,_,rfl,h⟩⟩
theorem au {f:Nat} {as:List AV} {v:AV} {h':aa} (hc:an P f as h v h') (hk:exec P os (put ρ d v) h' K):acM P d os ρ h K f as:=⟨v,h',hc,hk⟩
theorem alG {op:bX}:lB P d op os ρ h K true (.bool true)↔exec P (⟨d,none,op⟩::os) ρ h K:=by simp[lB,gK]
theorem alJ {op:bX}:lB P d op os ρ h K false (.bool false)↔exec P (⟨d,none,op⟩::os) ρ h K:=by simp[lB,gK]
theorem alH {op:bX}:lB P d op os ρ h K true (.bool false)↔exec P os (put ρ d (.ay [])) h K:=by simp[lB,gK]
theorem alI {op:bX}:lB P d op os ρ h K false (.bool true)↔exec P os (put ρ d (.ay [])) h K:=by simp[lB,gK]
theorem akr {op:bX} {b:Bool}:lB P d op os ρ h K b (.ay [])↔exec P os (put ρ d (.ay [])) h K:=Iff.rfl
variable {K:aQ->Env->aa->Prop} {x y:aZ}
theorem atv:yr P x y K ρ h (.bool true)↔WP P x K ρ h:=by simp[yr,C1]
theorem atw:yr P x y K ρ h (.bool false)↔WP P y K ρ h:=by simp[yr,C1]
end
def bQ (P:Program) (n base:Nat):List RO->Nat->Env->aa->(Env->aa->Prop)->Prop
 |[],_,ρ,h,K=>K ρ h
 |o::os,i,ρ,h,K=> ∃r h',bz P o (base+i) ρ h r h'/\(o.op.cq=true-> ∀j,i<j->j<n->h'.get (base+j)=none)/\bQ P n base os (i+1) (put ρ o.dst (f5 r)) h' K
theorem XA {P:Program} {al:List RO} {un:List (List Nat)} {base:Nat} {K:Env->aa->Prop} (hu:un.all (·.isEmpty)=true): ∀(os:List RO) (i:Nat) (ρ:Env) (h:aa) (done:List (Env×aa×Option AV)),
 bQ P al.length base os i ρ h K->mh P al un base os i ρ h done K
 |[],i,ρ,h,done,he=>he
 |o::os,i,ρ,h,done,⟨r,h',hs,hf,he⟩=>by
  refine⟨r,h',hs,fun k hk=>?_,hf,XA hu os (i+1) _ h' _ he⟩
  have:un.getD i []=[]:=by
   rw[List.getD_eq_getElem?_getD]
   cases hq:un[i]? with
   |none=>rfl
   |some l=>
    have:=List.all_eq_true.1 hu l (List.mem_of_getElem? hq)
    cases l with
    |nil=>rfl
    |cons a b=>simp at this
  rw[this] at hk
  cases hk
theorem GC {P:Program} {al:List RO} {un:List (List Nat)} {K:aQ->Env->aa->Prop} {ρ:Env} {h:aa} (hu:un.all (·.isEmpty)=true) (he:bQ P al.length h.next al 0 ρ (h.clean al.length) (K .normal)):WP P (.ba al un) K ρ h:=by
 obtain⟨ρ1,h1,he,hk⟩:=Bn (XA hu al 0 ρ _ [] he)
 exact⟨_,_,_, .Eb he,hk⟩
section
variable {P:Program} {n base i:Nat} {ρ:Env} {h:aa} {K:Env->aa->Prop} {d:Option Nat} {os:List RO}
def Fx (P:Program) (n base:Nat) (os:List RO) (i:Nat) (d:Option Nat) (ρ:Env) (h:aa) (K:Env->aa->Prop) (o:Option AV):Prop:= ∃v,o=some v/\bQ P n base os (i+1) (put ρ d v) h K
def KO (P:Program) (n base:Nat) (os:List RO) (i:Nat) (d:Option Nat) (ρ:Env) (h:aa) (K:Env->aa->Prop) (o:Option (cF×AV)):Prop:= ∃b v,o=some (b,v)/\bQ P n base os (i+1) (put ρ d v) (h.at (base+i) b) K
def dP (n base i:Nat) (h:aa):Prop:= ∀j,i<j->j<n->h.get (base+j)=none
def KN (P:Program) (n base:Nat) (os:List RO) (i:Nat) (d:Option Nat) (ρ:Env) (K:Env->aa->Prop) (o:Option (AV×aa)):Prop:= ∃v h',o=some (v,h')/\dP n base i h'/\bQ P n base os (i+1) (put ρ d v) h' K
def Vw (P:Program) (n base:Nat) (os:List RO) (i:Nat) (d:Option Nat) (ρ:Env) (h:aa) (K:Env->aa->Prop) (f:Nat) (as:List AV):Prop:= ∃v h',an P f as h v h'/\dP n base i h'/\bQ P n base os (i+1) (put ρ d v) h' K
def jt (P:Program) (n base:Nat) (op:bX) (os:List RO) (i:Nat) (d:Option Nat) (ρ:Env) (h:aa) (K:Env->aa->Prop) (b:Bool) (v:AV):Prop:=
 gK v b (bQ P n base (⟨d,none,op⟩::os) i ρ h K) (dP n base i h/\bQ P n base os (i+1) (put ρ d (.ay [])) h K)
theorem auJ {q:bd}:bQ P n base (⟨d,none, .p q⟩::os) i ρ h K↔Fx P n base os i d ρ h K (aY q ρ h):=by
 constructor
 ·rintro⟨r,h',hs,_,he⟩
  simp only[bz,bZ,gA] at hs
  obtain⟨v,rfl,hv,rfl⟩:=hs
  exact⟨v,hv,he⟩
 ·rintro⟨v,hv,he⟩
  exact⟨some v,h,⟨v,rfl,hv,rfl⟩,fun hh=>by simp[bX.cq] at hh,he⟩
theorem auO {q:jO}:bQ P n base (⟨d,none, .a q⟩::os) i ρ h K↔KO P n base os i d ρ h K (gP q ρ (base+i)):=by
 constructor
 ·rintro⟨r,h',hs,_,he⟩
  simp only[bz,bZ,gA] at hs
  obtain⟨v,rfl,b,hv,rfl⟩:=hs
  exact⟨b,v,hv,he⟩
 ·rintro⟨b,v,hv,he⟩
  exact⟨some v,_,⟨v,rfl,b,hv,rfl⟩,fun hh=>by simp[bX.cq] at hh,he⟩
theorem auM {q:gn}:bQ P n base (⟨d,none, .e q⟩::os) i ρ h K↔KN P n base os i d ρ K (bM q ρ (base+i) h):=by
 constructor
 ·rintro⟨r,h',hs,hf,he⟩
  simp only[bz,bZ,gA] at hs
  obtain⟨v,rfl,hv⟩:=hs
  exact⟨v,h',hv,hf rfl,he⟩
 ·rintro⟨v,h',hv,hf,he⟩
  exact⟨some v,h',⟨v,rfl,hv⟩,fun _=>hf,he⟩
theorem auN {f:Nat} {as:List aq}:bQ P n base (⟨d,none, .call f as⟩::os) i ρ h K↔Vw P n base os i d ρ h K f (as.map (aq.ev ρ)):=by
 constructor
 ·rintro⟨r,h',hs,hf,he⟩
  simp only[bz,bZ,gA] at hs
  obtain⟨v,rfl,hv⟩:=hs
  exact⟨v,h',hv,hf rfl,he⟩
 ·rintro⟨v,h',hv,hf,he⟩
  exact⟨some v,h',⟨v,rfl,hv⟩,fun _=>hf,he⟩
theorem auL {g:Nat} {b:Bool} {op:bX} (he:jt P n base op os i d ρ h K b (ρ g)):bQ P n base (⟨d,some (g,b),op⟩::os) i ρ h K:=by
 unfold jt gK at he
 split at he
 ·rename_i c hc
  by_cases dt:c=b
  ·subst dt
   rw[if_pos rfl] at he
   obtain⟨r,h',hs,hf,he⟩:=he
   refine⟨r,h',?_,hf,he⟩
   simp only[bz,bZ,hc,beq_self_eq_true]
   exact hs
  ·have sV:(c==b)=false:=by simpa using dt
   rw[if_neg dt] at he
   refine⟨none,h,?_,fun _=>he.1,he.2⟩
   simp only[bz,bZ,hc,sV]
   trivial
 ·rename_i hc
  refine⟨none,h,?_,fun _=>he.1,he.2⟩
  simp only[bz,bZ,hc]
  trivial
 ·exact he.elim
theorem asK {g:Nat} {b:Bool} {q:bd}:bQ P n base (⟨d,some (g,b), .p q⟩::os) i ρ h K↔gK (ρ g) b (bQ P n base (⟨d,none, .p q⟩::os) i ρ h K) (bQ P n base os (i+1) (put ρ d (.ay [])) h K):=by
 unfold gK
 split
 ·rename_i c hc
  by_cases dt:c=b
  ·subst dt
   rw[if_pos rfl]
   constructor
   ·rintro⟨r,h',hs,hf,he⟩
    simp only[bz,bZ,hc,beq_self_eq_true] at hs
    exact⟨r,h',hs,hf,he⟩
   ·rintro⟨r,h',hs,hf,he⟩
    refine⟨r,h',?_,hf,he⟩
    simp only[bz,bZ,hc,beq_self_eq_true]
    exact hs
  ·have sV:(c==b)=false:=by simpa using dt
   rw[if_neg dt]
   constructor
   ·rintro⟨r,h',hs,hf,he⟩
    simp only[bz,bZ,hc,sV] at hs
    obtain⟨rfl,rfl⟩:=hs
    exact he
   ·intro he
    refine⟨none,h,?_,fun hh=>by simp[bX.cq] at hh,he⟩
    simp only[bz,bZ,hc,sV]
    trivial
 ·rename_i hc
  constructor
  ·rintro⟨r,h',hs,hf,he⟩
   simp only[bz,bZ,hc] at hs
   obtain⟨rfl,rfl⟩:=hs
   exact he
  ·intro he
   refine⟨none,h,?_,fun hh=>by simp[bX.cq] at hh,he⟩
   simp only[bz,bZ,hc]
   trivial
 ·constructor
  ·rintro⟨r,h',hs,hf,he⟩
   unfold bz at hs
   have:bZ ⟨d,some (g,b), .p q⟩ ρ=none:=by unfold bZ;simp only[]
   rw[this] at hs
   exact hs
  ·exact fun h=>h.elim
theorem asL {g:Nat} {b:Bool} {f:Nat} {as:List aq}:bQ P n base (⟨d,some (g,b), .call f as⟩::os) i ρ h K↔jt P n base (.call f as) os i d ρ h K b (ρ g):=by
 refine⟨?_,auL⟩
 rintro⟨r,h',hs,hf,he⟩
 unfold jt gK
 split
 ·rename_i c hc
  by_cases dt:c=b
  ·subst dt
   rw[if_pos rfl]
   simp only[bz,bZ,hc,beq_self_eq_true] at hs
   exact⟨r,h',hs,hf,he⟩
  ·have sV:(c==b)=false:=by simpa using dt
   rw[if_neg dt]
   simp only[bz,bZ,hc,sV] at hs
   obtain⟨rfl,rfl⟩:=hs
   exact⟨hf rfl,he⟩
 ·rename_i hc
  simp only[bz,bZ,hc] at hs
  obtain⟨rfl,rfl⟩:=hs
  exact⟨hf rfl,he⟩
 ·unfold bz at hs
  have:bZ ⟨d,some (g,b), .call f as⟩ ρ=none:=by unfold bZ;simp only[]
  rw[this] at hs
  exact hs.elim
theorem ao3 {op:bX}:jt P n base op os i d ρ h K true (.bool true)↔bQ P n base (⟨d,none,op⟩::os) i ρ h K:=by simp[jt,gK]
theorem ao6 {op:bX}:jt P n base op os i d ρ h K false (.bool false)↔bQ P n base (⟨d,none,op⟩::os) i ρ h K:=by simp[jt,gK]
theorem ao4 {op:bX}:jt P n base op os i d ρ h K true (.bool false)↔dP n base i h/\bQ P n base os (i+1) (put ρ d (.ay [])) h K:=by simp[jt,gK]
theorem ao5 {op:bX}:jt P n base op os i d ρ h K false (.bool true)↔dP n base i h/\bQ P n base os (i+1) (put ρ d (.ay [])) h K:=by simp[jt,gK]
theorem amH {op:bX} {b:Bool}:jt P n base op os i d ρ h K b (.ay [])↔dP n base i h/\bQ P n base os (i+1) (put ρ d (.ay [])) h K:=Iff.rfl
def kY (P:Program) (n base:Nat) (q:bd) (os:List RO) (i:Nat) (d:Option Nat) (ρ:Env) (h:aa) (K:Env->aa->Prop) (b:Bool) (v:AV):Prop:=
 gK v b (bQ P n base (⟨d,none, .p q⟩::os) i ρ h K) (bQ P n base os (i+1) (put ρ d (.ay [])) h K)
theorem auK {g:Nat} {b:Bool} {q:bd}:bQ P n base (⟨d,some (g,b), .p q⟩::os) i ρ h K↔kY P n base q os i d ρ h K b (ρ g):=asK
theorem aoZ {q:bd}:kY P n base q os i d ρ h K true (.bool true)↔bQ P n base (⟨d,none, .p q⟩::os) i ρ h K:=by simp[kY,gK]
theorem ao2 {q:bd}:kY P n base q os i d ρ h K false (.bool false)↔bQ P n base (⟨d,none, .p q⟩::os) i ρ h K:=by simp[kY,gK]
theorem ao0 {q:bd}:kY P n base q os i d ρ h K true (.bool false)↔bQ P n base os (i+1) (put ρ d (.ay [])) h K:=by simp[kY,gK]
theorem ao1 {q:bd}:kY P n base q os i d ρ h K false (.bool true)↔bQ P n base os (i+1) (put ρ d (.ay [])) h K:=by simp[kY,gK]
theorem amG {q:bd} {b:Bool}:kY P n base q os i d ρ h K b (.ay [])↔bQ P n base os (i+1) (put ρ d (.ay [])) h K:=Iff.rfl
theorem aix {n m:Nat} {h:aa}:dP n h.next i (h.clean m)↔True:=by
 simp only[dP,iff_true,aa.clean]
 intro j _ _
 rw[if_neg (by omega)]
theorem jv {b:Nat} {x:Option cF} (hb:b<base):dP n base i (h.set b x)↔dP n base i h:=by
 simp only[dP,aa.set]
 exact⟨fun hh j h1 h2=>by have:=hh j h1 h2;rwa [if_neg (by omega)] at this,fun hh j h1 h2=>by rw[if_neg (by omega)];exact hh j h1 h2⟩
theorem alL {v:AV}:Fx P n base os i d ρ h K (some v)↔bQ P n base os (i+1) (put ρ d v) h K:=by simp[Fx]
theorem alN {b:cF} {v:AV}:KO P n base os i d ρ h K (some (b,v))↔bQ P n base os (i+1) (put ρ d v) (h.at (base+i) b) K:=
 ⟨fun⟨_,_,e,h⟩=>by cases e;exact h,fun h=>⟨_,_,rfl,h⟩⟩
theorem alM {v:AV} {h':aa}:KN P n base os i d ρ K (some (v,h'))↔dP n base i h'/\bQ P n base os (i+1) (put ρ d v) h' K:=
 ⟨fun⟨_,_,e,h⟩=>by cases e;exact h,fun h=>⟨_,_,rfl,h⟩⟩
theorem eX {f:Nat} {as:List AV} {v:AV} {h':aa} (hc:an P f as h v h') (hf:dP n base i h') (hk:bQ P n base os (i+1) (put ρ d v) h' K):Vw P n base os i d ρ h K f as:=⟨v,h',hc,hf,hk⟩
end
def iu (un:List (List Nat)) (k:Nat):Bool:=!(un.getD k []).isEmpty||un.any (·.contains k)
def sQ (base:Nat):Option Nat->Prop
 |none=>True
 |some b=>b<base
def v9 (base:Nat) (h h':aa):Prop:= ∀b,b<base->h'.get b=h.get b
def d7 (P:Program) (un:List (List Nat)) (n base:Nat):List RO->Nat->Env->aa->(Env->aa->Prop)->Prop
 |[],_,ρ,h,K=>K ρ h
 |o::os,i,ρ,h,K=> ∃r h',bz P o (base+i) ρ h r h'/\(o.op.cq=true-> ∀j,i<j->j<n->h'.get (base+j)=none)/\v9 base h h'/\
   (∀q,o.op= .p q->iu un i=true->sQ base (q.key ρ))/\d7 P un n base os (i+1) (put ρ o.dst (f5 r)) h' K
theorem Xz {P:Program} {al:List RO} {un:List (List Nat)} {base:Nat} {K:Env->aa->Prop}: ∀(os:List RO) (i:Nat) (ρ:Env) (h:aa) (done:List (Env×aa×Option AV)),
 done.length=i->al.drop i=os->
 (∀k d,done[k]? =some d->v9 base d.2.1 h/\ ∀ok q v,al[k]? =some ok->ok.op= .p q->iu un k=true->d.2.2=some v->aY q d.1 d.2.1=some v/\sQ base (q.key d.1))->
 d7 P un al.length base os i ρ h K->mh P al un base os i ρ h done K
 |[],i,ρ,h,done,_,_,_,he=>he
 |o::os,i,ρ,h,done,hl,hd,hinv,⟨r,h',hs,hf,hk,iO,he⟩=>by
  have mE:al[i]? =some o:=by
   have:(al.drop i)[0]? =some o:=by rw[hd];rfl
   rw[List.getElem?_drop] at this
   simpa using this
  have bP: ∀k,k∈un.getD i []->iu un i=true/\iu un k=true:=fun k hk=>by
   constructor
   ·unfold iu
    cases hq:un.getD i [] with
    |nil=>rw[hq] at hk;cases hk
    |cons a b=>rfl
   ·unfold iu
    have:un.any (fun l=>l.contains k)=true:=by
     rw[List.any_eq_true]
     rw[List.getD_eq_getElem?_getD] at hk
     cases hq:un[i]? with
     |none=>rw[hq] at hk;cases hk
     |some l=>rw[hq] at hk;exact⟨l,List.mem_of_getElem? hq,by simpa using hk⟩
    rw[this,Bool.or_true]
  have rC: ∀q v,o.op= .p q->r=some v->aY q ρ h=some v/\h'=h:=fun q v hq hr=>by
   unfold bz at hs
   split at hs
   ·obtain⟨v',h1,h2⟩:=hs
    rw[hr] at h1;cases h1
    rw[hq] at h2
    exact h2
   ·rw[hr] at hs;cases hs.1
   ·exact hs.elim
  refine⟨r,h',hs,fun k Fh ok d bc dq=>?_,hf,?_⟩
  ·obtain⟨f1,f2⟩:=bP k Fh
   obtain⟨hold,lK⟩:=hinv k d dq
   unfold l6
   split
   ·split
    ·rename_i v q hv hq
     obtain⟨h1,h2⟩:=lK ok q v bc hq f2 hv
     rw[<-h1]
     refine(ue q d.1 d.2.1 h' (fun b hb=>?_)).symm
     rw[hb] at h2
     rw[hk b h2,hold b h2]
    ·trivial
   ·split
    ·rename_i v q hq
     obtain⟨h1,rfl⟩:=rC q v hq rfl
     have h2:=iO q hq f1
     rw[<-h1]
     refine ue q ρ d.2.1 h' (fun b hb=>?_)
     rw[hb] at h2
     exact(hold b h2).symm
    ·trivial
  ·refine Xz os (i+1) _ h' _ (by simp[hl]) ?_ ?_ he
   ·rw[<-List.drop_drop,hd];rfl
   ·intro k d dq
    rw[List.getElem?_append] at dq
    split at dq
    ·obtain⟨g1,g2⟩:=hinv k d dq
     exact⟨fun b hb=>by rw[hk b hb,g1 b hb],g2⟩
    ·rename_i aC
     have nH:k=i:=by
      have:=(List.getElem?_eq_some_iff.1 dq).1
      simp at this;omega
     subst nH
     simp[hl] at dq
     subst dq
     refine⟨hk,fun ok q v bc hq bP hv=>?_⟩
     rw[mE] at bc;cases bc
     exact⟨(rC q v hq hv).1,iO q hq bP⟩
theorem yO {P:Program} {al:List RO} {un:List (List Nat)} {K:aQ->Env->aa->Prop} {ρ:Env} {h:aa} (he:d7 P un al.length h.next al 0 ρ (h.clean al.length) (K .normal)):WP P (.ba al un) K ρ h:=by
 obtain⟨ρ1,h1,he,hk⟩:=Bn (Xz al 0 ρ _ [] rfl rfl (fun k d hd=>by simp at hd) he)
 exact⟨_,_,_, .Eb he,hk⟩
section
variable {P:Program} {un:List (List Nat)} {n base i:Nat} {ρ:Env} {h:aa} {K:Env->aa->Prop} {d:Option Nat} {os:List RO}
def vF (P:Program) (un:List (List Nat)) (n base:Nat) (os:List RO) (i:Nat) (d:Option Nat) (ρ:Env) (h:aa) (K:Env->aa->Prop) (o:Option AV):Prop:= ∃v,o=some v/\d7 P un n base os (i+1) (put ρ d v) h K
def Fy (P:Program) (un:List (List Nat)) (n base:Nat) (os:List RO) (i:Nat) (d:Option Nat) (ρ:Env) (h:aa) (K:Env->aa->Prop) (o:Option (cF×AV)):Prop:= ∃b v,o=some (b,v)/\d7 P un n base os (i+1) (put ρ d v) (h.at (base+i) b) K
def KP (P:Program) (un:List (List Nat)) (n base:Nat) (os:List RO) (i:Nat) (d:Option Nat) (ρ:Env) (h:aa) (K:Env->aa->Prop) (o:Option (AV×aa)):Prop:= ∃v h',o=some (v,h')/\dP n base i h'/\v9 base h h'/\d7 P un n base os (i+1) (put ρ d v) h' K
def AU (P:Program) (un:List (List Nat)) (n base:Nat) (os:List RO) (i:Nat) (d:Option Nat) (ρ:Env) (h:aa) (K:Env->aa->Prop) (f:Nat) (as:List AV):Prop:= ∃v h',an P f as h v h'/\dP n base i h'/\v9 base h h'/\d7 P un n base os (i+1) (put ρ d v) h' K
theorem auR {q:bd}:d7 P un n base (⟨d,none, .p q⟩::os) i ρ h K↔(iu un i=true->sQ base (q.key ρ))/\vF P un n base os i d ρ h K (aY q ρ h):=by
 constructor
 ·rintro⟨r,h',hs,_,_,hk,he⟩
  simp only[bz,bZ,gA] at hs
  obtain⟨v,rfl,hv,rfl⟩:=hs
  exact⟨hk q rfl,v,hv,he⟩
 ·rintro⟨hk,v,hv,he⟩
  exact⟨some v,h,⟨v,rfl,hv,rfl⟩,fun hh=>by simp[bX.cq] at hh,fun _ _=>rfl,(fun q' hq=>by cases hq;exact hk),he⟩
theorem auU {q:jO} (he:Fy P un n base os i d ρ h K (gP q ρ (base+i))):d7 P un n base (⟨d,none, .a q⟩::os) i ρ h K:=by
 obtain⟨b,v,hv,he⟩:=he
 exact⟨some v,_,⟨v,rfl,b,hv,rfl⟩,fun hh=>by simp[bX.cq] at hh,fun b hb=>by simp only[aa.at];rw[if_neg (by omega)],(fun q' hq=>by cases hq),he⟩
theorem asM {q:jO}:d7 P un n base (⟨d,none, .a q⟩::os) i ρ h K↔Fy P un n base os i d ρ h K (gP q ρ (base+i)):=by
 refine⟨?_,auU⟩
 rintro⟨r,h',hs,_,_,hk,he⟩
 simp only[bz,bZ,gA] at hs
 obtain⟨v,rfl,b,hv,rfl⟩:=hs
 exact⟨b,v,hv,he⟩
theorem auS {q:gn}:d7 P un n base (⟨d,none, .e q⟩::os) i ρ h K↔KP P un n base os i d ρ h K (bM q ρ (base+i) h):=by
 constructor
 ·rintro⟨r,h',hs,hf,hk,_,he⟩
  simp only[bz,bZ,gA] at hs
  obtain⟨v,rfl,hv⟩:=hs
  exact⟨v,h',hv,hf rfl,hk,he⟩
 ·rintro⟨v,h',hv,hf,hk,he⟩
  exact⟨some v,h',⟨v,rfl,hv⟩,fun _=>hf,hk,(fun q' hq=>by cases hq),he⟩
theorem auT {f:Nat} {as:List aq}:d7 P un n base (⟨d,none, .call f as⟩::os) i ρ h K↔AU P un n base os i d ρ h K f (as.map (aq.ev ρ)):=by
 constructor
 ·rintro⟨r,h',hs,hf,hk,_,he⟩
  simp only[bz,bZ,gA] at hs
  obtain⟨v,rfl,hv⟩:=hs
  exact⟨v,h',hv,hf rfl,hk,he⟩
 ·rintro⟨v,h',hv,hf,hk,he⟩
  exact⟨some v,h',⟨v,rfl,hv⟩,fun _=>hf,hk,fun q' hq=>(by cases hq),he⟩
theorem gX {f:Nat} {as:List AV} {v:AV} (hc:an P f as h v h) (hf:dP n base i h) (he:d7 P un n base os (i+1) (put ρ d v) h K):AU P un n base os i d ρ h K f as:=⟨v,h,hc,hf,fun _ _=>rfl,he⟩
def po (P:Program) (un:List (List Nat)) (n base:Nat) (q:bd) (os:List RO) (i:Nat) (d:Option Nat) (ρ:Env) (h:aa) (K:Env->aa->Prop) (b:Bool) (v:AV):Prop:=
 gK v b (vF P un n base os i d ρ h K (aY q ρ h)) (d7 P un n base os (i+1) (put ρ d (.ay [])) h K)
def pq (P:Program) (un:List (List Nat)) (n base:Nat) (f:Nat) (as:List AV) (os:List RO) (i:Nat) (d:Option Nat) (ρ:Env) (h:aa) (K:Env->aa->Prop) (b:Bool) (v:AV):Prop:=
 gK v b (AU P un n base os i d ρ h K f as) (dP n base i h/\d7 P un n base os (i+1) (put ρ d (.ay [])) h K)
theorem Yt {v:AV} {b:Bool} {A B:Prop} (hg:gK v b A B):(v= .bool b/\A)\/((v= .bool (!b)\/v= .ay [])/\B):=by
 unfold gK at hg
 split at hg
 ·rename_i c
  by_cases hc:c=b
  ·subst hc;rw[if_pos rfl] at hg;exact .inl ⟨rfl,hg⟩
  ·rw[if_neg hc] at hg
   refine .inr ⟨.inl ?_,hg⟩
   cases c<;>cases b<;>first|rfl|exact(hc rfl).elim
 ·exact .inr ⟨.inr rfl,hg⟩
 ·exact hg.elim
theorem ZE {v:AV} {b:Bool} {A B:Prop} (hv:v= .bool b) (ha:A):gK v b A B:=by subst hv;simp[gK,ha]
theorem acH {v:AV} {b:Bool} {A B:Prop} (hv:v= .bool (!b)\/v= .ay []) (hb:B):gK v b A B:=by
 rcases hv with rfl|rfl
 ·cases b<;>simp[gK,hb]
 ·simp[gK,hb]
theorem Xr {ro:RO} {g:Nat} {b:Bool} (hr:ro.guard=some (g,b)) (hv:ρ g= .bool b):bZ ro ρ=some true:=by simp[bZ,hr,hv]
theorem Yq {ro:RO} {g:Nat} {b:Bool} (hr:ro.guard=some (g,b)) (hv:ρ g= .bool (!b)\/ρ g= .ay []):bZ ro ρ=some false:=by
 rcases hv with hv|hv
 ·cases b<;>simp[bZ,hr,hv]
 ·simp[bZ,hr,hv]
theorem F7 {ro:RO} {g:Nat} {b:Bool} (hr:ro.guard=some (g,b)) {c:Bool} (h:bZ ro ρ=some c):(c=true/\ρ g= .bool b)\/(c=false/\(ρ g= .bool (!b)\/ρ g= .ay [])):=by
 unfold bZ at h
 rw[hr] at h
 simp only at h
 split at h
 ·rename_i x hx
  cases h
  cases x<;>cases b<;>simp[hx]
 ·rename_i hx;cases h;exact .inr ⟨rfl, .inr hx⟩
 ·cases h
theorem auP {g:Nat} {b:Bool} {q:bd}:d7 P un n base (⟨d,some (g,b), .p q⟩::os) i ρ h K↔(iu un i=true->sQ base (q.key ρ))/\po P un n base q os i d ρ h K b (ρ g):=by
 constructor
 ·rintro⟨r,h',hs,_,_,hk,he⟩
  refine⟨hk q rfl,?_⟩
  unfold bz at hs
  split at hs
  ·rename_i hg
   obtain⟨v,rfl,hv,rfl⟩:=hs
   rcases F7 rfl hg with⟨_,cV⟩|⟨hf,_⟩
   ·exact ZE cV ⟨v,hv,he⟩
   ·cases hf
  ·rename_i hg
   obtain⟨rfl,rfl⟩:=hs
   rcases F7 rfl hg with⟨hf,_⟩|⟨_,cV⟩
   ·cases hf
   ·exact acH cV he
  ·exact hs.elim
 ·rintro⟨hk,he⟩
  rcases Yt he with⟨hv,v,jq,he⟩|⟨hv,he⟩
  ·exact⟨some v,h,by unfold bz;rw[Xr rfl hv];exact⟨v,rfl,jq,rfl⟩,fun hh=>by simp[bX.cq] at hh,fun _ _=>rfl,(fun q' hq=>by cases hq;exact hk),he⟩
  ·exact⟨none,h,by unfold bz;rw[Yq rfl hv];exact⟨rfl,rfl⟩,fun hh=>by simp[bX.cq] at hh,fun _ _=>rfl,(fun q' hq=>by cases hq;exact hk),he⟩
theorem auQ {g:Nat} {b:Bool} {f:Nat} {as:List aq}:d7 P un n base (⟨d,some (g,b), .call f as⟩::os) i ρ h K↔pq P un n base f (as.map (aq.ev ρ)) os i d ρ h K b (ρ g):=by
 constructor
 ·rintro⟨r,h',hs,hf,U2,hk,he⟩
  unfold bz at hs
  split at hs
  ·rename_i hg
   obtain⟨v,rfl,hv⟩:=hs
   rcases F7 rfl hg with⟨_,cV⟩|⟨hf,_⟩
   ·exact ZE cV ⟨v,h',hv,hf rfl,U2,he⟩
   ·cases hf
  ·rename_i hg
   obtain⟨rfl,rfl⟩:=hs
   rcases F7 rfl hg with⟨hf,_⟩|⟨_,cV⟩
   ·cases hf
   ·exact acH cV ⟨hf rfl,he⟩
  ·exact hs.elim
 ·intro he
  rcases Yt he with⟨hv,v,h',hc,hf,U2,he⟩|⟨hv,hf,he⟩
  ·exact⟨some v,h',by unfold bz;rw[Xr rfl hv];exact⟨v,rfl,hc⟩,fun _=>hf,U2,(fun q' hq=>by cases hq),he⟩
  ·exact⟨none,h,by unfold bz;rw[Yq rfl hv];exact⟨rfl,rfl⟩,fun _=>hf,fun _ _=>rfl,(fun q' hq=>by cases hq),he⟩
theorem alP {v:AV} {h':aa}:KP P un n base os i d ρ h K (some (v,h'))↔dP n base i h'/\v9 base h h'/\d7 P un n base os (i+1) (put ρ d v) h' K:=
 ⟨fun⟨_,_,e,h⟩=>by cases e;exact h,fun h=>⟨_,_,rfl,h⟩⟩
def kv:AV->Option Nat
 | .ptr b _=>some b
 |_=>none
theorem alw {ag:Bool} {sz:Nat} {x:aq}:(bd.load ag sz x).key ρ=kv (x.ev ρ):=by
 simp only[bd.key]
 cases x.ev ρ<;>rfl
theorem alO {v:AV}:vF P un n base os i d ρ h K (some v)↔d7 P un n base os (i+1) (put ρ d v) h K:=by simp[vF]
theorem alQ {b:cF} {v:AV}:Fy P un n base os i d ρ h K (some (b,v))↔d7 P un n base os (i+1) (put ρ d v) (h.at (base+i) b) K:=
 ⟨fun⟨_,_,e,h⟩=>by cases e;exact h,fun h=>⟨_,_,rfl,h⟩⟩
end
def mapOf (h:aa) (b:Nat):Option (List (AV×AV)):=match h.get b with
 |some (.map es)=>some es
 |_=>none
theorem LV {h:aa} {b:Nat} {es:List (AV×AV)} (e:h.get b=some (.map es)):mapOf h b=some es:=by simp[mapOf,e]
def HV (z:AV) (ok:Bool) (r:Option AV):AV:=match r with
 |some v=>if ok then .ay [v, .bool true] else v
 |none=>if ok then .ay [z, .bool false] else z
theorem KZ {z:AV} {ok:Bool} {h:aa} {b:Nat} {kd:IntKind} {n:Int}:mY z ok h (.map (some b)) (.int kd n)=(mapOf h b).bind fun es=>(ui (.int kd n) es).map (HV z ok):=by
 unfold mY mapOf
 simp only[]
 split
 ·rename_i es he;rw[he];simp only[Option.bind_some];congr 1
 ·rename_i he
  split
  ·rename_i es hes;exact absurd hes (he es)
  ·rfl
def GL (h:aa) (m k v:AV):Option (AV×aa):=match m,k with
 | .map (some b), .int kd n=>match h.get b with
   |some (.map es)=>(qT (.int kd n) v.strip es).map fun aV=>(.undef,h.set b (some (.map aV)))
   |_=>none
 |_,_=>none
theorem ahQ {h:aa} {b:Nat} {kd:IntKind} {n:Int} {v:AV}:GL h (.map (some b)) (.int kd n) v=(mapOf h b).bind fun es=>(qT (.int kd n) v.strip es).map fun aV=>(.undef,h.set b (some (.map aV))):=by
 unfold GL mapOf
 cases hg:h.get b with
 |none=>simp[hg]
 |some x=>cases x<;>simp[hg]
def GM (h:aa) (m k:AV):Option (AV×aa):=match m,k with
 | .map (some b), .int kd n=>match h.get b with
   |some (.map es)=>(qU (.int kd n) es).map fun aV=>(.ay [],h.set b (some (.map aV)))
   |_=>none
 |_,_=>none
theorem ahR {h:aa} {b:Nat} {kd:IntKind} {n:Int}:GM h (.map (some b)) (.int kd n)=(mapOf h b).bind fun es=>(qU (.int kd n) es).map fun aV=>(.ay [],h.set b (some (.map aV))):=by
 unfold GM mapOf
 cases hg:h.get b with
 |none=>simp[hg]
 |some x=>cases x<;>simp[hg]
def my (bytes sz id:Nat) (h:aa) (x:AV):Option (List (List AV))->Option (AV×aa)
 |none=>none
 |some ys=>match x with
  | .vs xs t=>
    if ys=[] then some (.vs xs t,h) else
    if dH sz xs/\(xs.length+ys.length)*bytes<2^40/\xs.length+ys.length<2^40 then
     match t with
     | .full=>some (.vs (xs++ys) (.own id),h.at id .tail)
     | .own t=>match h.get t with
       |some .tail=>some (.vs (xs++ys) (.own id),(h.set t none).at id .tail)
       |_=>none
     | .ao=>none
    else none
  | .bA=>
    if ys=[] then some (.bA,h) else
    if ys.length*bytes<2^40/\ys.length<2^40 then some (.vs ys (.own id),h.at id .tail) else none
  |_=>none
theorem aiK {ρ:Env} {id bytes sz:Nat} {h:aa} {x y:aq}:bM (.append bytes sz x y) ρ id h=my bytes sz id h (x.ev ρ) (cP sz h (y.ev ρ)):=by
 simp only[bM]
 cases cP sz h (y.ev ρ)<;>rfl
def pZ (base:Nat) (h:aa) (a:AV) (xs:List (List AV)):Prop:=(a= .vs [] .full/\xs=[])\/ ∃t,a= .vs xs (.own t)/\h.get t=some .tail/\base<=t/\t<h.next
theorem pZ.nil {base:Nat} {h:aa}:pZ base h (.vs [] .full) []:= .inl ⟨rfl,rfl⟩
theorem pZ.vs {base:Nat} {h:aa} {a:AV} {xs:List (List AV)} (A:pZ base h a xs): ∃t,a= .vs xs t:=by
 rcases A with⟨rfl,rfl⟩|⟨t,rfl,_⟩
 ·exact⟨_,rfl⟩
 ·exact⟨_,rfl⟩
theorem pZ.of {base:Nat} {h h':aa} {a:AV} {xs:List (List AV)} (A:pZ base h a xs) (hn:h.next<=h'.next) (hk: ∀t,h.get t=some .tail->h'.get t=some .tail):pZ base h' a xs:=by
 rcases A with⟨rfl,rfl⟩|⟨t,rfl,h1,h2,h3⟩
 ·exact .nil
 ·exact .inr ⟨t,rfl,hk t h1,h2,by omega⟩
theorem ajI {base bytes sz id:Nat} {h:aa} {a:AV} {xs ys:List (List AV)} (A:pZ base h a xs) (aJ:h.next<=id) (hb:base<=id) (hy:ys≠[]) (hh:dH sz xs=true) (h1:(xs.length+ys.length)*bytes<2^40) (h2:xs.length+ys.length<2^40):
 ∃a' h',my bytes sz id h a (some ys)=some (a',h')/\pZ base h' a' (xs++ys)/\h'.next=id+1/\(∀b,b≠id->h.get b≠some .tail->h'.get b=h.get b)/\ ∀b,b<base->h'.get b=h.get b:=by
 rcases A with⟨rfl,rfl⟩|⟨t,rfl,h3,h4,h5⟩
 ·refine⟨.vs ([]++ys) (.own id),h.at id .tail,?_, .inr ⟨id,rfl,by simp[aa.at],hb,by simp[aa.at];omega⟩,by simp[aa.at];omega,fun b hb _=>by simp[aa.at,hb],fun b hb=>by simp[aa.at];omega⟩
  simp only[my]
  rw[if_neg hy,if_pos ⟨hh,h1,h2⟩]
 ·refine⟨.vs (xs++ys) (.own id),(h.set t none).at id .tail,?_, .inr ⟨id,rfl,by simp[aa.at],hb,by simp[aa.at,aa.set];omega⟩,by simp[aa.at,aa.set];omega,fun b hb hn=>?_,fun b hb=>?_⟩
  ·simp only[my]
   rw[if_neg hy,if_pos ⟨hh,h1,h2⟩]
   simp only[h3]
  ·have:b≠t:=fun e=>hn (by rw[e];exact h3)
   simp[aa.at,aa.set,hb,this]
  ·have e1:b≠t:=by omega
   have e2:b≠id:=by omega
   simp[aa.at,aa.set,e1,e2]
def JV:AV->Option Nat
 | .int _ i=>if 0<=i then some i.toNat else none
 |_=>none
theorem aiF {ρ:Env} {d:Nat} {x:aq}:cB ρ d (some x)=JV (x.ev ρ):=by
 unfold cB JV
 generalize e:x.ev ρ=y
 cases y<;>simp only[e]
theorem akE {ρ:Env} {sz:Nat} {xs:List (List AV)} {t:aG} {lo hi:Option aq}:iM ρ sz (.vs xs t) lo hi none=(cB ρ xs.length hi).bind fun h=>(cB ρ 0 lo).bind fun l=>
 if l<=h/\h<=xs.length/\dH sz xs=true then some (.vs ((xs.drop l).take (h-l)) (nX t xs.length l h)) else none:=rfl
def fJ (bytes sz id:Nat) (h:aa) (x:AV):Option (List (List AV))->Option (AV×aa)
 |none=>none
 |some ys=>match x with
  | .vs [] .full=>if ys=[] then some (.vs [] .full,h) else if ys.length*bytes<2^40/\ys.length<2^40 then some (.rs id 0 ys.length sz,h.at id (.cells ys.flatten)) else none
  | .bA=>if ys=[] then some (.bA,h) else if ys.length*bytes<2^40/\ys.length<2^40 then some (.rs id 0 ys.length sz,h.at id (.cells ys.flatten)) else none
  | .rs b off len aN=>
    if ys=[] then some (.rs b off len aN,h) else
    (cellsOf h b).bind fun cs=>if aN=sz/\off=0/\len*sz<=cs.length/\(len+ys.length)*bytes<2^40/\len+ys.length<2^40 then
      some (.rs id 0 (len+ys.length) sz,(h.set b none).at id (.cells (cs.take (len*sz)++ys.flatten)))
      else none
  | .rk b off len aN cap=>(cellsOf h b).bind fun cs=>if aN=sz/\len+ys.length<=cap/\off+len*sz<=cs.length then
     some (.rk b off (len+ys.length) sz cap,h.set b (some (.cells (df cs (off+len*sz) ys.flatten))))
     else none
  |_=>none
theorem yy {ρ:Env} {id bytes sz:Nat} {h:aa} {x y:aq}:bM (.jS bytes sz x y) ρ id h=fJ bytes sz id h (x.ev ρ) (cP sz h (y.ev ρ)):=by
 simp only[bM]
 generalize x.ev ρ=v
 cases cP sz h (y.ev ρ) with
 |none=>rfl
 |some ys=>
  cases v<;>try rfl
  case vs xs t=>cases xs<;>cases t<;>rfl
  case rs b off len aN=>simp only[fJ];cases cellsOf h b<;>rfl
  case rk b off len aN cap=>simp only[fJ];cases cellsOf h b<;>rfl
def uS (bytes:Nat) (z:List AV) (id:Nat) (h:aa) (x n:AV):Option (AV×aa):=
 match n with
 | .int _ m=>
   if 0<m/\m<2^40 then
    match x with
    | .bA=>if m.toNat*bytes<2^40 then some (.rs id 0 m.toNat z.length,h.at id (.cells (List.replicate m.toNat z).flatten)) else none
    | .rk b off len aN cap=>(cellsOf h b).bind fun cs=>
       if aN=z.length/\cap<len+m.toNat/\off+len*z.length<=cs.length/\(len+m.toNat)*bytes<2^40/\len+m.toNat<2^40 then
        some (.rs id 0 (len+m.toNat) z.length,h.at id (.cells (rowsOf cs off z.length len++List.replicate m.toNat z).flatten))
       else none
    |_=>none
   else none
 |_=>none
theorem ah1 {ρ:Env} {id bytes:Nat} {z:List AV} {h:aa} {x n:aq}:bM (.oh bytes z x n) ρ id h=uS bytes z id h (x.ev ρ) (n.ev ρ):=by
 simp only[bM,uS]
 generalize x.ev ρ=v
 generalize n.ev ρ=u
 cases u<;>try rfl
 cases v<;>try rfl
 case rk b off len aN cap=>simp only[];cases cellsOf h b<;>rfl
def we (sz:Nat) (h:aa) (x y:AV):Option (AV×aa):=
 match x with
 | .rk b off len aN _=>(gC y).bind fun m=>(oD sz (min m len) h y).bind fun ys=>(cellsOf h b).bind fun cs=>
    if aN=sz/\off<=cs.length then some (.int .i64 (min m len:Nat),h.set b (some (.cells (df cs off ys.flatten)))) else none
 |_=>none
theorem ajG {ρ:Env} {id sz:Nat} {h:aa} {x y:aq}:bM (.m9 sz x y) ρ id h=we sz h (x.ev ρ) (y.ev ρ):=by
 simp only[bM,we]
 cases x.ev ρ<;>try rfl
 rename_i b off len aN cap
 cases gC (y.ev ρ) with
 |none=>rfl
 |some m=>
  simp only[Option.bind_some]
  cases oD sz (min m len) h (y.ev ρ) with
  |none=>rfl
  |some ys=>cases cellsOf h b<;>rfl
def zC (sz:Nat) (h:aa) (x y:AV):Option (AV×aa):=
 match x with
 | .rs b off len aN=>(cP sz h y).bind fun ys=>(cellsOf h b).bind fun cs=>
    if aN=sz/\off+len*sz<=cs.length then some (.int .i64 (min ys.length len:Nat),h.set b (some (.cells (df cs off (ys.take (min ys.length len)).flatten)))) else none
 | .vs [] _=>(cP sz h y).bind fun _=>some (.int .i64 0,h)
 | .bA=>(cP sz h y).bind fun _=>some (.int .i64 0,h)
 |_=>none
theorem XN {ρ:Env} {id sz:Nat} {h:aa} {x y:aq}:bM (.copy sz x y) ρ id h=zC sz h (x.ev ρ) (y.ev ρ):=by
 simp only[bM,zC]
 generalize x.ev ρ=v
 generalize cP sz h (y.ev ρ)=r
 cases v<;>try rfl
 case vs xs t=>cases xs<;>cases r<;>rfl
 case rs b off len aN=>simp only[];cases r<;>cases cellsOf h b<;>rfl
 case bA=>cases r<;>rfl
def PC (h:aa) (x:AV):Option (AV×aa):=
 match x with
 | .rs b off len sz=>(cellsOf h b).bind fun cs=>if off+len*sz<=cs.length then some (.vs (rowsOf cs off sz len) .ao,h.set b none) else none
 |_=>none
theorem akI {ρ:Env} {id:Nat} {h:aa} {x:aq}:bM (.mark x) ρ id h=PC h (x.ev ρ):=by
 simp only[bM,PC]
 generalize x.ev ρ=v
 cases v<;>try rfl
 case rs b off len sz=>simp only[];cases cellsOf h b<;>rfl
def BL (z:List AV) (h:aa) (x:AV):Option (AV×aa):=
 match x with
 | .rk b off len aN _=>(cellsOf h b).bind fun cs=>if aN=z.length/\off+len*z.length<=cs.length then some (.ay [],h.set b (some (.cells (df cs off (List.replicate len z).flatten)))) else none
 | .vs [] _=>some (.ay [],h)
 | .bA=>some (.ay [],h)
 |_=>none
theorem aiJ {ρ:Env} {id:Nat} {z:List AV} {h:aa} {x:aq}:bM (.oz z x) ρ id h=BL z h (x.ev ρ):=by
 simp only[bM,BL]
 generalize x.ev ρ=v
 cases v<;>try rfl
 case vs xs t=>cases xs<;>rfl
 case rk b off len aN cap=>simp only[];cases cellsOf h b<;>rfl
theorem akF {ρ:Env} {sz b off len aN cap:Nat} {lo hi mx:Option aq}:iM ρ sz (.rk b off len aN cap) lo hi mx=(cB ρ len hi).bind fun h=>(cB ρ 0 lo).bind fun l=>(cB ρ cap mx).bind fun m=>
 if l<=h/\h<=m/\m<=cap/\aN=sz/\(mx.isSome->hi.isSome) then(if m=l then some (.vs [] .full) else some (.rk b (off+l*sz) (h-l) sz (m-l))) else none:=rfl
theorem LJ {ρ:Env} {sz b off len aN:Nat} {lo hi:Option aq}:iM ρ sz (.rs b off len aN) lo hi none=(cB ρ len hi).bind fun h=>(cB ρ 0 lo).bind fun l=>
 if l<=h/\h<=len/\aN=sz then(if l=h then(if lo.isNone then some (.rs b off 0 sz) else some (.vs [] .ao)) else some (.rs b (off+l*sz) (h-l) sz)) else none:=by
 simp[iM]
theorem ala {sz b off len aN cap:Nat} {h:aa}:cP sz h (.rk b off len aN cap)=if aN=sz then(cellsOf h b).bind fun cs=>if off+len*sz<=cs.length then some (rowsOf cs off sz len) else none else none:=by
 simp only[cP]
 split
 ·cases cellsOf h b<;>rfl
 ·rfl
theorem ak9 {sz n b off len aN cap:Nat} {h:aa}:oD sz n h (.rk b off len aN cap)=if aN=sz/\n<=len then(cellsOf h b).bind fun cs=>if off+n*sz<=cs.length then some (rowsOf cs off sz n) else none else none:=by
 simp only[oD]
 split
 ·cases cellsOf h b<;>rfl
 ·rfl
end
section
open Go
theorem st:((∀{P:Program} {K:aQ->Env->aa->Prop} {ρ:Env} {h:aa},WP P .skip K ρ h↔K .normal ρ h)
 /\(∀{P:Program} {K:aQ->Env->aa->Prop} {ρ:Env} {h:aa} {l:Nat},WP P (.label l) K ρ h↔K .normal ρ h)
 /\(∀{P:Program} {K:aQ->Env->aa->Prop} {ρ:Env} {h:aa} {l:Nat},WP P (.exit l) K ρ h↔K (.exit l) ρ h)
 /\(∀{P:Program} {K:aQ->Env->aa->Prop} {ρ:Env} {h:aa} {l:Nat},WP P (.goto l) K ρ h↔K (.goto l) ρ h)
 /\(∀{P:Program} {K:aQ->Env->aa->Prop} {ρ:Env} {h:aa},WP P .ret K ρ h↔K .ret ρ h)
 /\(∀{P:Program} {K:aQ->Env->aa->Prop} {ρ:Env} {h:aa} {al:List RO},WP P (.af al) K ρ h↔exec P al ρ h (K .normal))
 /\(∀{P:Program} {K:aQ->Env->aa->Prop} {ρ:Env} {h:aa} {a b:aZ},WP P (.seq a b) K ρ h↔WP P a (jj (WP P b K) K) ρ h)
 /\(∀{P:Program} {K:aQ->Env->aa->Prop} {ρ:Env} {h:aa} {c:aq} {a b:aZ},WP P (.cond c a b) K ρ h↔yr P a b K ρ h (c.ev ρ))
 /\(∀{P:Program} {K:aQ->Env->aa->Prop} {ρ:Env} {h:aa} {a b:aZ},yr P a b K ρ h (.bool true)↔WP P a K ρ h)
 /\(∀{P:Program} {K:aQ->Env->aa->Prop} {ρ:Env} {h:aa} {a b:aZ},yr P a b K ρ h (.bool false)↔WP P b K ρ h)
 /\(∀{P:Program} {K:aQ->Env->aa->Prop} {ρ:Env} {h:aa} {id:Nat} {c:aZ},WP P (.block id c) K ρ h↔WP P c (jU id K) ρ h)
 /\(∀{k:Env->aa->Prop} {K:aQ->Env->aa->Prop} {ρ:Env} {h:aa},jj k K .normal ρ h=k ρ h)
 /\(∀{k:Env->aa->Prop} {K:aQ->Env->aa->Prop} {ρ:Env} {h:aa},jj k K .ret ρ h=K .ret ρ h)
 /\(∀{k:Env->aa->Prop} {K:aQ->Env->aa->Prop} {ρ:Env} {h:aa} {i:Nat},jj k K (.exit i) ρ h=K (.exit i) ρ h)
 /\(∀{k:Env->aa->Prop} {K:aQ->Env->aa->Prop} {ρ:Env} {h:aa} {i:Nat},jj k K (.goto i) ρ h=K (.goto i) ρ h)
 /\(∀{id:Nat} {K:aQ->Env->aa->Prop} {ρ:Env} {h:aa},jU id K .normal ρ h=K .normal ρ h)
 /\(∀{id:Nat} {K:aQ->Env->aa->Prop} {ρ:Env} {h:aa},jU id K .ret ρ h=K .ret ρ h)
 /\(∀{id i:Nat} {K:aQ->Env->aa->Prop} {ρ:Env} {h:aa},jU id K (.exit i) ρ h=if i=id then K .normal ρ h else K (.exit i) ρ h))
 /\((∀{id i:Nat} {K:aQ->Env->aa->Prop} {ρ:Env} {h:aa},jU id K (.goto i) ρ h=K (.goto i) ρ h)
 /\(∀{l:Nat} {J:Env->aa->Prop} {K:aQ->Env->aa->Prop} {ρ:Env} {h:aa},jX l J K .normal ρ h=K .normal ρ h)
 /\(∀{l:Nat} {J:Env->aa->Prop} {K:aQ->Env->aa->Prop} {ρ:Env} {h:aa},jX l J K .ret ρ h=K .ret ρ h)
 /\(∀{l i:Nat} {J:Env->aa->Prop} {K:aQ->Env->aa->Prop} {ρ:Env} {h:aa},jX l J K (.exit i) ρ h=K (.exit i) ρ h)
 /\(∀{l i:Nat} {J:Env->aa->Prop} {K:aQ->Env->aa->Prop} {ρ:Env} {h:aa},jX l J K (.goto i) ρ h=if i=l then J ρ h else K (.goto i) ρ h)
 /\(∀{P:Program} {K:Env->aa->Prop} {ρ:Env} {h:aa},exec P [] ρ h K↔K ρ h)
 /\(∀{P:Program} {K:Env->aa->Prop} {ρ:Env} {h:aa} {d:Option Nat} {os:List RO} {q:bd},exec P (⟨d,none, .p q⟩::os) ρ h K↔Ir P d os ρ h K (aY q ρ h))
 /\(∀{P:Program} {K:Env->aa->Prop} {ρ:Env} {h:aa} {d:Option Nat} {os:List RO} {v:AV},Ir P d os ρ h K (some v)↔exec P os (put ρ d v) h K)
 /\(∀{P:Program} {K:Env->aa->Prop} {ρ:Env} {h:aa} {d:Option Nat} {os:List RO} {q:jO},exec P (⟨d,none, .a q⟩::os) ρ h K↔PQ P d os ρ h K (gP q ρ h.next))
 /\(∀{P:Program} {K:Env->aa->Prop} {ρ:Env} {h:aa} {d:Option Nat} {os:List RO} {b:cF} {v:AV},PQ P d os ρ h K (some (b,v))↔exec P os (put ρ d v) (h.at h.next b) K)
 /\(∀{P:Program} {K:Env->aa->Prop} {ρ:Env} {h:aa} {d:Option Nat} {os:List RO} {q:gn},exec P (⟨d,none, .e q⟩::os) ρ h K↔PO P d os ρ K (bM q ρ h.next h))
 /\(∀{P:Program} {K:Env->aa->Prop} {ρ:Env} {d:Option Nat} {os:List RO} {v:AV} {h':aa},PO P d os ρ K (some (v,h'))↔exec P os (put ρ d v) h' K)
 /\(∀{P:Program} {K:Env->aa->Prop} {ρ:Env} {h:aa} {d:Option Nat} {os:List RO} {f:Nat} {as:List aq},exec P (⟨d,none, .call f as⟩::os) ρ h K↔acM P d os ρ h K f (as.map (aq.ev ρ)))
 /\(∀{P:Program} {K:Env->aa->Prop} {ρ:Env} {h:aa} {d:Option Nat} {os:List RO} {g:Nat} {b:Bool} {op:bX},exec P (⟨d,some (g,b),op⟩::os) ρ h K↔lB P d op os ρ h K b (ρ g))
 /\(∀{P:Program} {K:Env->aa->Prop} {ρ:Env} {h:aa} {d:Option Nat} {os:List RO} {op:bX},lB P d op os ρ h K true (.bool true)↔exec P (⟨d,none,op⟩::os) ρ h K)
 /\(∀{P:Program} {K:Env->aa->Prop} {ρ:Env} {h:aa} {d:Option Nat} {os:List RO} {op:bX},lB P d op os ρ h K false (.bool false)↔exec P (⟨d,none,op⟩::os) ρ h K)
 /\(∀{P:Program} {K:Env->aa->Prop} {ρ:Env} {h:aa} {d:Option Nat} {os:List RO} {op:bX},lB P d op os ρ h K true (.bool false)↔exec P os (put ρ d (.ay [])) h K)
 /\(∀{P:Program} {K:Env->aa->Prop} {ρ:Env} {h:aa} {d:Option Nat} {os:List RO} {op:bX},lB P d op os ρ h K false (.bool true)↔exec P os (put ρ d (.ay [])) h K))
 /\((∀{P:Program} {K:Env->aa->Prop} {ρ:Env} {h:aa} {d:Option Nat} {os:List RO} {op:bX} {b:Bool},lB P d op os ρ h K b (.ay [])↔exec P os (put ρ d (.ay [])) h K)
 /\(∀{P:Program} {n base i:Nat} {ρ:Env} {h:aa} {K:Env->aa->Prop},bQ P n base [] i ρ h K↔K ρ h)
 /\(∀{P:Program} {n base i:Nat} {ρ:Env} {h:aa} {K:Env->aa->Prop} {d:Option Nat} {os:List RO} {q:bd},bQ P n base (⟨d,none, .p q⟩::os) i ρ h K↔Fx P n base os i d ρ h K (aY q ρ h))
 /\(∀{P:Program} {n base i:Nat} {ρ:Env} {h:aa} {K:Env->aa->Prop} {d:Option Nat} {os:List RO} {q:jO},bQ P n base (⟨d,none, .a q⟩::os) i ρ h K↔KO P n base os i d ρ h K (gP q ρ (base+i)))
 /\(∀{P:Program} {n base i:Nat} {ρ:Env} {h:aa} {K:Env->aa->Prop} {d:Option Nat} {os:List RO} {q:gn},bQ P n base (⟨d,none, .e q⟩::os) i ρ h K↔KN P n base os i d ρ K (bM q ρ (base+i) h))
 /\(∀{P:Program} {n base i:Nat} {ρ:Env} {h:aa} {K:Env->aa->Prop} {d:Option Nat} {os:List RO} {f:Nat} {as:List aq},bQ P n base (⟨d,none, .call f as⟩::os) i ρ h K↔Vw P n base os i d ρ h K f (as.map (aq.ev ρ)))
 /\(∀{P:Program} {n base i:Nat} {ρ:Env} {h:aa} {K:Env->aa->Prop} {d:Option Nat} {os:List RO} {g:Nat} {b:Bool} {q:bd},bQ P n base (⟨d,some (g,b), .p q⟩::os) i ρ h K↔kY P n base q os i d ρ h K b (ρ g))
 /\(∀{P:Program} {n base i:Nat} {ρ:Env} {h:aa} {K:Env->aa->Prop} {d:Option Nat} {os:List RO} {g:Nat} {b:Bool} {f:Nat} {as:List aq},bQ P n base (⟨d,some (g,b), .call f as⟩::os) i ρ h K↔jt P n base (.call f as) os i d ρ h K b (ρ g))
 /\(∀{P:Program} {n base i:Nat} {ρ:Env} {h:aa} {K:Env->aa->Prop} {d:Option Nat} {os:List RO} {q:bd},kY P n base q os i d ρ h K true (.bool true)↔bQ P n base (⟨d,none, .p q⟩::os) i ρ h K)
 /\(∀{P:Program} {n base i:Nat} {ρ:Env} {h:aa} {K:Env->aa->Prop} {d:Option Nat} {os:List RO} {op:bX},jt P n base op os i d ρ h K true (.bool true)↔bQ P n base (⟨d,none,op⟩::os) i ρ h K)
 /\(∀{P:Program} {n base i:Nat} {ρ:Env} {h:aa} {K:Env->aa->Prop} {d:Option Nat} {os:List RO} {q:bd},kY P n base q os i d ρ h K false (.bool false)↔bQ P n base (⟨d,none, .p q⟩::os) i ρ h K)
 /\(∀{P:Program} {n base i:Nat} {ρ:Env} {h:aa} {K:Env->aa->Prop} {d:Option Nat} {os:List RO} {op:bX},jt P n base op os i d ρ h K false (.bool false)↔bQ P n base (⟨d,none,op⟩::os) i ρ h K)
 /\(∀{P:Program} {n base i:Nat} {ρ:Env} {h:aa} {K:Env->aa->Prop} {d:Option Nat} {os:List RO} {q:bd},kY P n base q os i d ρ h K true (.bool false)↔bQ P n base os (i+1) (put ρ d (.ay [])) h K)
 /\(∀{P:Program} {n base i:Nat} {ρ:Env} {h:aa} {K:Env->aa->Prop} {d:Option Nat} {os:List RO} {op:bX},jt P n base op os i d ρ h K true (.bool false)↔dP n base i h/\bQ P n base os (i+1) (put ρ d (.ay [])) h K)
 /\(∀{P:Program} {n base i:Nat} {ρ:Env} {h:aa} {K:Env->aa->Prop} {d:Option Nat} {os:List RO} {q:bd},kY P n base q os i d ρ h K false (.bool true)↔bQ P n base os (i+1) (put ρ d (.ay [])) h K)
 /\(∀{P:Program} {n base i:Nat} {ρ:Env} {h:aa} {K:Env->aa->Prop} {d:Option Nat} {os:List RO} {op:bX},jt P n base op os i d ρ h K false (.bool true)↔dP n base i h/\bQ P n base os (i+1) (put ρ d (.ay [])) h K)
 /\(∀{P:Program} {n base i:Nat} {ρ:Env} {h:aa} {K:Env->aa->Prop} {d:Option Nat} {os:List RO} {q:bd} {b:Bool},kY P n base q os i d ρ h K b (.ay [])↔bQ P n base os (i+1) (put ρ d (.ay [])) h K)
 /\(∀{P:Program} {n base i:Nat} {ρ:Env} {h:aa} {K:Env->aa->Prop} {d:Option Nat} {os:List RO} {op:bX} {b:Bool},jt P n base op os i d ρ h K b (.ay [])↔dP n base i h/\bQ P n base os (i+1) (put ρ d (.ay [])) h K))
 /\((∀{P:Program} {n base i:Nat} {ρ:Env} {h:aa} {K:Env->aa->Prop} {d:Option Nat} {os:List RO} {v:AV},Fx P n base os i d ρ h K (some v)↔bQ P n base os (i+1) (put ρ d v) h K)
 /\(∀{P:Program} {n base i:Nat} {ρ:Env} {h:aa} {K:Env->aa->Prop} {d:Option Nat} {os:List RO} {b:cF} {v:AV},KO P n base os i d ρ h K (some (b,v))↔bQ P n base os (i+1) (put ρ d v) (h.at (base+i) b) K)
 /\(∀{P:Program} {n base i:Nat} {ρ:Env} {K:Env->aa->Prop} {d:Option Nat} {os:List RO} {v:AV} {h':aa},KN P n base os i d ρ K (some (v,h'))↔dP n base i h'/\bQ P n base os (i+1) (put ρ d v) h' K)
 /\(∀{P:Program} {un:List (List Nat)} {n base i:Nat} {ρ:Env} {h:aa} {K:Env->aa->Prop},d7 P un n base [] i ρ h K↔K ρ h)
 /\(∀{P:Program} {un:List (List Nat)} {n base i:Nat} {ρ:Env} {h:aa} {K:Env->aa->Prop} {d:Option Nat} {os:List RO} {q:bd},d7 P un n base (⟨d,none, .p q⟩::os) i ρ h K↔(iu un i=true->sQ base (q.key ρ))/\vF P un n base os i d ρ h K (aY q ρ h))
 /\(∀{P:Program} {un:List (List Nat)} {n base i:Nat} {ρ:Env} {h:aa} {K:Env->aa->Prop} {d:Option Nat} {os:List RO} {q:jO},d7 P un n base (⟨d,none, .a q⟩::os) i ρ h K↔Fy P un n base os i d ρ h K (gP q ρ (base+i)))
 /\(∀{P:Program} {un:List (List Nat)} {n base i:Nat} {ρ:Env} {h:aa} {K:Env->aa->Prop} {d:Option Nat} {os:List RO} {f:Nat} {as:List aq},d7 P un n base (⟨d,none, .call f as⟩::os) i ρ h K↔AU P un n base os i d ρ h K f (as.map (aq.ev ρ)))
 /\(∀{P:Program} {un:List (List Nat)} {n base i:Nat} {ρ:Env} {h:aa} {K:Env->aa->Prop} {d:Option Nat} {os:List RO} {g:Nat} {b:Bool} {q:bd},d7 P un n base (⟨d,some (g,b), .p q⟩::os) i ρ h K↔(iu un i=true->sQ base (q.key ρ))/\po P un n base q os i d ρ h K b (ρ g))
 /\(∀{P:Program} {un:List (List Nat)} {n base i:Nat} {ρ:Env} {h:aa} {K:Env->aa->Prop} {d:Option Nat} {os:List RO} {g:Nat} {b:Bool} {f:Nat} {as:List aq},d7 P un n base (⟨d,some (g,b), .call f as⟩::os) i ρ h K↔pq P un n base f (as.map (aq.ev ρ)) os i d ρ h K b (ρ g))
 /\(∀{P:Program} {un:List (List Nat)} {n base i:Nat} {ρ:Env} {h:aa} {K:Env->aa->Prop} {d:Option Nat} {os:List RO} {q:gn},d7 P un n base (⟨d,none, .e q⟩::os) i ρ h K↔KP P un n base os i d ρ h K (bM q ρ (base+i) h))
 /\(∀{P:Program} {un:List (List Nat)} {n base i:Nat} {ρ:Env} {h:aa} {K:Env->aa->Prop} {d:Option Nat} {os:List RO} {q:bd},po P un n base q os i d ρ h K true (.bool true)↔vF P un n base os i d ρ h K (aY q ρ h))
 /\(∀{P:Program} {un:List (List Nat)} {n base i:Nat} {ρ:Env} {h:aa} {K:Env->aa->Prop} {d:Option Nat} {os:List RO} {q:bd},po P un n base q os i d ρ h K true (.bool false)↔d7 P un n base os (i+1) (put ρ d (.ay [])) h K)
 /\(∀{P:Program} {un:List (List Nat)} {n base i:Nat} {ρ:Env} {h:aa} {K:Env->aa->Prop} {d:Option Nat} {os:List RO} {f:Nat} {as:List AV},pq P un n base f as os i d ρ h K true (.bool true)↔AU P un n base os i d ρ h K f as)
 /\(∀{P:Program} {un:List (List Nat)} {n base i:Nat} {ρ:Env} {h:aa} {K:Env->aa->Prop} {d:Option Nat} {os:List RO} {f:Nat} {as:List AV},pq P un n base f as os i d ρ h K true (.bool false)↔dP n base i h/\d7 P un n base os (i+1) (put ρ d (.ay [])) h K)
 /\(∀{P:Program} {un:List (List Nat)} {n base i:Nat} {ρ:Env} {h:aa} {K:Env->aa->Prop} {d:Option Nat} {os:List RO} {q:bd},po P un n base q os i d ρ h K false (.bool false)↔vF P un n base os i d ρ h K (aY q ρ h))
 /\(∀{P:Program} {un:List (List Nat)} {n base i:Nat} {ρ:Env} {h:aa} {K:Env->aa->Prop} {d:Option Nat} {os:List RO} {q:bd},po P un n base q os i d ρ h K false (.bool true)↔d7 P un n base os (i+1) (put ρ d (.ay [])) h K)
 /\(∀{P:Program} {un:List (List Nat)} {n base i:Nat} {ρ:Env} {h:aa} {K:Env->aa->Prop} {d:Option Nat} {os:List RO} {f:Nat} {as:List AV},pq P un n base f as os i d ρ h K false (.bool false)↔AU P un n base os i d ρ h K f as)
 /\(∀{P:Program} {un:List (List Nat)} {n base i:Nat} {ρ:Env} {h:aa} {K:Env->aa->Prop} {d:Option Nat} {os:List RO} {f:Nat} {as:List AV},pq P un n base f as os i d ρ h K false (.bool true)↔dP n base i h/\d7 P un n base os (i+1) (put ρ d (.ay [])) h K))
 /\((∀{P:Program} {un:List (List Nat)} {n base i:Nat} {ρ:Env} {h:aa} {K:Env->aa->Prop} {d:Option Nat} {os:List RO} {q:bd} {b:Bool},po P un n base q os i d ρ h K b (.ay [])↔d7 P un n base os (i+1) (put ρ d (.ay [])) h K)
 /\(∀{P:Program} {un:List (List Nat)} {n base i:Nat} {ρ:Env} {h:aa} {K:Env->aa->Prop} {d:Option Nat} {os:List RO} {f:Nat} {as:List AV} {b:Bool},pq P un n base f as os i d ρ h K b (.ay [])↔dP n base i h/\d7 P un n base os (i+1) (put ρ d (.ay [])) h K)
 /\(∀{P:Program} {un:List (List Nat)} {n base i:Nat} {ρ:Env} {h:aa} {K:Env->aa->Prop} {d:Option Nat} {os:List RO} {v:AV} {h':aa},KP P un n base os i d ρ h K (some (v,h'))↔dP n base i h'/\v9 base h h'/\d7 P un n base os (i+1) (put ρ d v) h' K)
 /\(∀{ρ:Env} {ag:Bool} {sz:Nat} {x:aq},(bd.load ag sz x).key ρ=kv (x.ev ρ))
 /\(∀{b o:Nat},kv (.ptr b o)=some b)
 /\(∀{l:List AV} {o:Nat},kv (.vp l o)=none)
 /\(∀{P:Program} {un:List (List Nat)} {n base i:Nat} {ρ:Env} {h:aa} {K:Env->aa->Prop} {d:Option Nat} {os:List RO} {v:AV},vF P un n base os i d ρ h K (some v)↔d7 P un n base os (i+1) (put ρ d v) h K)
 /\(∀{P:Program} {un:List (List Nat)} {n base i:Nat} {ρ:Env} {h:aa} {K:Env->aa->Prop} {d:Option Nat} {os:List RO} {b:cF} {v:AV},Fy P un n base os i d ρ h K (some (b,v))↔d7 P un n base os (i+1) (put ρ d v) (h.at (base+i) b) K)
 /\(∀{base:Nat},sQ base none↔True)
 /\(∀{base b:Nat},sQ base (some b)↔b<base)
 /\(∀{ρ:Env} {ag:Bool} {sz:Nat} {x:aq},bd.key (.load ag sz x) ρ=(match x.ev ρ with| .ptr b _=>some b|_=>none))
 /\(∀{n m i:Nat} {h:aa},dP n h.next i (h.clean m)↔True)
 /\(∀{h:aa} {n b:Nat},(h.clean n).get b=if b<h.next then h.get b else none)
 /\(∀{h:aa} {n:Nat},(h.clean n).next=h.next+n)
 /\(∀{h:aa} {n b:Nat},cellsOf (h.clean n) b=if b<h.next then cellsOf h b else none)
 /\(∀{t:Nat} {ρ:Env},aq.ev ρ (.tmp t)=ρ t)
 /\(∀{v:AV} {ρ:Env},aq.ev ρ (.const v)=v)
 /\(∀{ρ:Env} {d i:Nat} {v:AV},put ρ (some d) v i=if i=d then v else ρ i))
 /\((∀{ρ:Env} {v:AV},put ρ none v=ρ)
 /\(∀{ρ:Env},List.map (aq.ev ρ) []=[])
 /\(∀{ρ:Env} {x:aq} {xs:List aq},List.map (aq.ev ρ) (x::xs)=x.ev ρ::List.map (aq.ev ρ) xs)
 /\(∀{ρ:Env} {h:aa} {x:aq},aY (.aj x) ρ h=some (x.ev ρ))
 /\(∀{ρ:Env} {h:aa} {c a b:aq},aY (.pick c a b) ρ h=H6 (c.ev ρ) (a.ev ρ) (b.ev ρ))
 /\(∀{ρ:Env} {h:aa} {z:List AV} {ps:List (Nat×Nat×aq)},aY (.build z ps) ρ h=(jY ρ z ps).map .agg)
 /\(∀{ρ:Env} {h:aa} {n:Nat} {z:List AV} {ps:List (Nat×aq)},aY (.d8 n z ps) ρ h=(iv ρ z.length (List.replicate n z) ps).map (.vs · .full))
 /\(∀{ρ:Env} {h:aa} {ag:Bool} {sz:Nat} {x:aq},aY (.load ag sz x) ρ h=j7 ag sz h (x.ev ρ))
 /\(∀{ρ:Env} {h:aa} {x:aq},aY (.aE x) ρ h=notNil (x.ev ρ))
 /\(∀{ρ:Env} {h:aa} {tb:Bool} {op:BinOp} {x y:aq},aY (.bin tb op x y) ρ h=cw tb op (x.ev ρ) (y.ev ρ))
 /\(∀{ρ:Env} {h:aa} {kd:Nat} {neg:Bool} {x:aq},aY (.fA kd neg x) ρ h=(il kd (x.ev ρ)).map fun b=> .bool (if neg then !b else b))
 /\(∀{ρ:Env} {h:aa} {neg:Bool} {os:List Nat} {x y:aq},aY (.Is neg os x y) ρ h=BX neg os (x.ev ρ) (y.ev ρ))
 /\(∀{ρ:Env} {h:aa} {op:UnOp} {x:aq},aY (.un op x) ρ h=Bg op (x.ev ρ))
 /\(∀{ρ:Env} {h:aa} {k:IntKind} {x:aq},aY (.toInt k x) ρ h=BO k (x.ev ρ))
 /\(∀{ρ:Env} {h:aa} {x:aq},aY (.od x) ρ h=((cP 1 h (x.ev ρ)).bind pG).map fun bs=> .str ⟨bs.toArray⟩)
 /\(∀{ρ:Env} {h:aa} {x:aq},aY (.Gr x) ρ h=Gc (x.ev ρ))
 /\(∀{ρ:Env} {h:aa} {off:Nat} {x:aq},aY (.zA off x) ρ h=yZ off (x.ev ρ))
 /\(∀{ρ:Env} {h:aa} {ag:Bool} {sz off:Nat} {x:aq},aY (.KG ag sz off x) ρ h=Es ag sz off (x.ev ρ)))
 /\((∀{ρ:Env} {h:aa} {sz:Nat} {x i:aq},aY (.gO sz x i) ρ h=pL sz (x.ev ρ) (i.ev ρ))
 /\(∀{ρ:Env} {h:aa} {sz len:Nat} {x i:aq},aY (.BW sz len x i) ρ h=yR sz len (x.ev ρ) (i.ev ρ))
 /\(∀{ρ:Env} {h:aa} {ag:Bool} {sz len:Nat} {x i:aq},aY (.JI ag sz len x i) ρ h=CQ ag sz len (x.ev ρ) (i.ev ρ))
 /\(∀{ρ:Env} {h:aa} {sz:Nat} {x:aq} {lo hi mx:Option aq},aY (.cA sz x lo hi mx) ρ h=iM ρ sz (x.ev ρ) lo hi mx)
 /\(∀{ρ:Env} {h:aa} {i:Nat} {x:aq},aY (.ext i x) ρ h=Et i (x.ev ρ))
 /\(∀{ρ:Env} {h:aa} {x:aq},aY (.ix x) ρ h=(gC (x.ev ρ)).map fun(n:Nat)=>AV.int .i64 n)
 /\(∀{ρ:Env} {h:aa} {x:aq},aY (.G0 x) ρ h=GO (x.ev ρ))
 /\(∀{ρ:Env} {h:aa} {n:Nat},aY (.JF n) ρ h=some (.int .i64 n))
 /\(∀{ρ:Env} {h:aa} {z:AV} {ok:Bool} {m k:aq},aY (.lookup z ok m k) ρ h=mY z ok h (m.ev ρ) (k.ev ρ))
 /\(∀{ρ:Env} {h:aa} {f:Nat} {a b:List aq},aY (.kc f a b) ρ h=some (.fn f (a.map (aq.ev ρ)) (b.map (aq.ev ρ))))
 /\(∀{ρ:Env} {h:aa} {mx:Bool} {x:aq} {r:List aq},aY (.kG mx x r) ρ h=oe mx ρ (x.ev ρ) r)
 /\(∀{ρ:Env} {h:aa} {im:Bool} {x:aq},aY (.part im x) ρ h=H7 im (x.ev ρ))
 /\(∀{ρ:Env} {h:aa} {z:List AV} {b:Nat} {l c:aq},aY (.BH z b l c) ρ h=(ll b (l.ev ρ) (c.ev ρ)).map fun n=> .vs (List.replicate n z) .full)
 /\(∀{a:aZ} {l:List aZ},List.foldr aZ.seq .skip (a::l)= .seq a (List.foldr aZ.seq .skip l))
 /\(List.foldr aZ.seq .skip []= .skip)
 /\(∀{ρ:Env} {d:Nat},cB ρ d none=some d)
 /\(∀{ρ:Env} {d:Nat} {x:aq},cB ρ d (some x)=JV (x.ev ρ))
 /\(∀{k:IntKind} {i:Int},JV (.int k i)=if 0<=i then some i.toNat else none))
 /\((∀{ρ:Env} {sz:Nat} {xs:List (List AV)} {t:aG} {lo hi:Option aq},iM ρ sz (.vs xs t) lo hi none=(cB ρ xs.length hi).bind fun h=>(cB ρ 0 lo).bind fun l=>if l<=h/\h<=xs.length/\dH sz xs=true then some (.vs ((xs.drop l).take (h-l)) (nX t xs.length l h)) else none)
 /\(∀{n l h:Nat},nX .ao n l h= .ao)
 /\(∀{ρ:Env} {id:Nat} {x:aq},gP (.box x) ρ id=if(x.ev ρ).cells.all AV.one then some (.cells (x.ev ρ).cells, .ptr id 0) else none)
 /\(∀{ρ:Env} {id:Nat} {z:List AV},gP (.alloc z) ρ id=some (.cells z, .ptr id 0))
 /\(∀{ρ:Env} {id:Nat} {z:List AV} {b:Nat} {l c:aq},gP (.vR z b l c) ρ id=(ll b (l.ev ρ) (c.ev ρ)).map fun n=>(.cells (List.replicate n z).flatten, .rs id 0 n z.length))
 /\(∀{ρ:Env} {id n:Nat} {z:List AV} {ps:List (Nat×aq)},gP (.BN n z ps) ρ id=(iv ρ z.length (List.replicate n z) ps).map fun rows=>(.cells rows.flatten, .rs id 0 n z.length))
 /\(∀{ρ:Env} {id:Nat},gP .uz ρ id=some (.map [], .map (some id)))
 /\(∀{ρ:Env} {id sz:Nat} {h:aa} {a v:aq},bM (.store sz a v) ρ id h=vZ sz h (a.ev ρ) (v.ev ρ))
 /\(∀{ρ:Env} {id:Nat} {h:aa} {m k v:aq},bM (.qS m k v) ρ id h=GL h (m.ev ρ) (k.ev ρ) (v.ev ρ))
 /\(∀{ρ:Env} {id:Nat} {h:aa} {m k:aq},bM (.sJ m k) ρ id h=GM h (m.ev ρ) (k.ev ρ))
 /\(∀{h:aa} {b:Nat} {kd:IntKind} {n:Int} {v:AV},GL h (.map (some b)) (.int kd n) v=(mapOf h b).bind fun es=>(qT (.int kd n) v.strip es).map fun aV=>(.undef,h.set b (some (.map aV))))
 /\(∀{h:aa} {b:Nat} {kd:IntKind} {n:Int},GM h (.map (some b)) (.int kd n)=(mapOf h b).bind fun es=>(qU (.int kd n) es).map fun aV=>(.ay [],h.set b (some (.map aV))))
 /\(∀{ρ:Env} {id bytes sz:Nat} {h:aa} {x y:aq},bM (.append bytes sz x y) ρ id h=my bytes sz id h (x.ev ρ) (cP sz h (y.ev ρ)))
 /\(∀{sz:Nat} {h:aa} {xs:List (List AV)} {t:aG},cP sz h (.vs xs t)=if dH sz xs=true then some xs else none)
 /\(∀{sz:Nat},dH sz []=true)
 /\(∀{sz:Nat} {r:List AV} {rs:List (List AV)},(dH sz (r::rs)=true)↔r.length=sz)
 /\(∀{h:aa} {id j:Nat} {cs:List AV},mapOf (h.at id (.cells cs)) j=if j=id then none else mapOf h j)
 /\(∀{h:aa} {id j:Nat} {cs:List AV},mapOf (h.set id (some (.cells cs))) j=if j=id then none else mapOf h j))
 /\((∀{h:aa} {id j:Nat} {es:List (AV×AV)},mapOf (h.at id (.map es)) j=if j=id then some es else mapOf h j)
 /\(∀{h:aa} {id j:Nat} {es:List (AV×AV)},mapOf (h.set id (some (.map es))) j=if j=id then some es else mapOf h j)
 /\(∀{h:aa} {n b:Nat},mapOf (h.clean n) b=if b<h.next then mapOf h b else none)
 /\(∀{ρ:Env} {h:aa} {x:aq},aY (.sX x) ρ h=(va (x.ev ρ)).map fun(n:Nat)=>AV.int .i64 n)
 /\(∀{ρ:Env} {h:aa} {x i:aq},aY (.yW x i) ρ h=BI (x.ev ρ) (i.ev ρ))
 /\(∀{ρ:Env} {h:aa} {sz:Nat} {x y:aq},aY (.oV sz x y) ρ h=uY sz h (x.ev ρ) (y.ev ρ))
 /\(va .bA=some 0)
 /\(∀{xs:List (List AV)},va (.vs xs .full)=some xs.length)
 /\(∀{b o n s c:Nat},va (.rk b o n s c)=some c)
 /\(∀{b o n s c:Nat},gC (.rk b o n s c)=some n)
 /\(∀{b o n s c:Nat},AV.one (.rk b o n s c)=true)
 /\(∀{b o n s c:Nat},AV.cells (.rk b o n s c)=[.rk b o n s c])
 /\(∀{s:ByteArray} {k:IntKind} {i:Int},BI (.str s) (.int k i)=if 0<=i then(s[i.toNat]?).map fun b=>AV.int .u8 b.toNat else none)
 /\(∀{ρ:Env} {sz b off len aN cap:Nat} {lo hi mx:Option aq},iM ρ sz (.rk b off len aN cap) lo hi mx=(cB ρ len hi).bind fun h=>(cB ρ 0 lo).bind fun l=>(cB ρ cap mx).bind fun m=>if l<=h/\h<=m/\m<=cap/\aN=sz/\(mx.isSome->hi.isSome) then(if m=l then some (.vs [] .full) else some (.rk b (off+l*sz) (h-l) sz (m-l))) else none)
 /\(∀{sz b off len aN cap:Nat} {h:aa},cP sz h (.rk b off len aN cap)=if aN=sz then(cellsOf h b).bind fun cs=>if off+len*sz<=cs.length then some (rowsOf cs off sz len) else none else none)
 /\(∀{sz n b off len aN cap:Nat} {h:aa},oD sz n h (.rk b off len aN cap)=if aN=sz/\n<=len then(cellsOf h b).bind fun cs=>if off+n*sz<=cs.length then some (rowsOf cs off sz n) else none else none)
 /\(∀{sz n:Nat} {h:aa} {xs:List (List AV)} {t:aG},oD sz n h (.vs xs t)=if dH sz xs=true then some (xs.take n) else none)
 /\(∀{ρ:Env} {id bytes sz:Nat} {h:aa} {x y:aq},bM (.jS bytes sz x y) ρ id h=fJ bytes sz id h (x.ev ρ) (cP sz h (y.ev ρ))))
 /\((∀{ρ:Env} {id bytes:Nat} {z:List AV} {h:aa} {x n:aq},bM (.oh bytes z x n) ρ id h=uS bytes z id h (x.ev ρ) (n.ev ρ))
 /\(∀{ρ:Env} {id sz:Nat} {h:aa} {x y:aq},bM (.m9 sz x y) ρ id h=we sz h (x.ev ρ) (y.ev ρ))
 /\(∀{ρ:Env} {id:Nat} {h:aa} {x:aq},bM (.mark x) ρ id h=PC h (x.ev ρ))
 /\(∀{ρ:Env} {id:Nat} {z:List AV} {h:aa} {x:aq},bM (.oz z x) ρ id h=BL z h (x.ev ρ))
 /\(gC .vz=some 0)
 /\(∀{sz:Nat} {h:aa},cP sz h .vz=some [])
 /\(∀{sz:Nat} {h:aa},cP sz h .bA=some [])
 /\(il 1 .vz=some false)
 /\(∀{b o n s c:Nat},il 1 (.rk b o n s c)=some false)
 /\(∀{tb:Bool} {k:IntKind} {a b:Int},cw tb .add (.int k a) (.int k b)=some (.int k (k.wrap (a+b))))
 /\(∀{tb:Bool} {k:IntKind} {a b:Int},cw tb .sub (.int k a) (.int k b)=some (.int k (k.wrap (a-b))))
 /\(∀{tb:Bool} {k:IntKind} {a b:Int},cw tb .mul (.int k a) (.int k b)=some (.int k (k.wrap (a*b))))
 /\(∀{tb:Bool} {k:IntKind} {a b:Int},cw tb .quo (.int k a) (.int k b)=if b=0 then none else some (.int k (k.wrap (a.tdiv b))))
 /\(∀{tb:Bool} {k:IntKind} {a b:Int},cw tb .rem (.int k a) (.int k b)=if b=0 then none else some (.int k (a.tmod b)))
 /\(∀{tb:Bool} {k:IntKind} {a b:Int},cw tb .eql (.int k a) (.int k b)=some (.bool (decide (a=b))))
 /\(∀{tb:Bool} {k:IntKind} {a b:Int},cw tb .lss (.int k a) (.int k b)=some (.bool (decide (a<b))))
 /\(∀{tb:Bool} {k:IntKind} {a b:Int},cw tb .leq (.int k a) (.int k b)=some (.bool (decide (a<=b))))
 /\(∀{tb:Bool} {k:IntKind} {a b:Int},cw tb .gtr (.int k a) (.int k b)=some (.bool (decide (b<a)))))
 /\((∀{tb:Bool} {k:IntKind} {a b:Int},cw tb .geq (.int k a) (.int k b)=some (.bool (decide (b<=a))))
 /\(∀{tb:Bool} {k:IntKind} {a b:Int},cw tb .neq (.int k a) (.int k b)=some (.bool (decide (¬a=b))))
 /\(∀{a b:Bool},cw true .eql (.bool a) (.bool b)=some (.bool (a==b)))
 /\(∀{a b:Bool},cw true .neq (.bool a) (.bool b)=some (.bool (!(a==b))))
 /\(∀{tb:Bool} {k k':IntKind} {a b:Int},cw tb .shl (.int k a) (.int k' b)=if b<0 then none else some (.int k (k.wrap (a*2^(min b.toNat k.bits)))))
 /\(∀{tb:Bool} {k k':IntKind} {a b:Int},cw tb .shr (.int k a) (.int k' b)=if b<0 then none else some (.int k (a.fdiv (2^(min b.toNat k.bits)))))
 /\(∀{b:Bool},Bg .not (.bool b)=some (.bool !b))
 /\(∀{k:IntKind} {n:Int},Bg .neg (.int k n)=some (.int k (k.wrap (0-n))))
 /\(∀{k k':IntKind} {n:Int},BO k (.int k' n)=some (.int k (k.wrap n)))
 /\(∀{c:Bool} {a b:AV},H6 (.bool c) a b=some (if c=true then a else b))
 /\(∀{xs:List (List AV)} {t:aG},gC (.vs xs t)=some xs.length)
 /\(gC .bA=some 0)
 /\(∀{b o n s:Nat},gC (.rs b o n s)=some n)
 /\(∀{sz:Nat} {xs:List (List AV)} {t:aG} {k:IntKind} {i:Int},pL sz (.vs xs t) (.int k i)=if 0<=i then(xs[i.toNat]?).bind (fun row=>if row.length=sz then some (.vp row 0) else none) else none)
 /\(∀{sz b off len aN:Nat} {k:IntKind} {i:Int},pL sz (.rs b off len aN) (.int k i)=if 0<=i then(if aN=sz/\i<len then some (.ptr b (off+i.toNat*sz)) else none) else none)
 /\(∀{sz len b o:Nat} {k:IntKind} {i:Int},yR sz len (.ptr b o) (.int k i)=if 0<=i/\i<len then some (.ptr b (o+i.toNat*sz)) else none)
 /\(∀{sz len o:Nat} {xs:List AV} {k:IntKind} {i:Int},yR sz len (.vp xs o) (.int k i)=if 0<=i/\i<len then some (.vp xs (o+i.toNat*sz)) else none)
 /\(∀{ag:Bool} {sz len:Nat} {cs:List AV} {k:IntKind} {i:Int},CQ ag sz len (.agg cs) (.int k i)=if 0<=i/\i<len then cut ag sz (i.toNat*sz) cs else none))
 /\((∀{off b o:Nat},yZ off (.ptr b o)=some (.ptr b (o+off)))
 /\(∀{off o:Nat} {xs:List AV},yZ off (.vp xs o)=some (.vp xs (o+off)))
 /\(∀{ag:Bool} {sz off:Nat} {cs:List AV},Es ag sz off (.agg cs)=cut ag sz off cs)
 /\(∀{sz off:Nat} {cs:List AV},cut false sz off cs=cs[off]?)
 /\(∀{sz off:Nat} {cs:List AV},cut true sz off cs=if off+sz<=cs.length then some (.agg ((cs.drop off).take sz)) else none)
 /\(∀{ag:Bool} {sz:Nat} {h:aa} {b o:Nat},j7 ag sz h (.ptr b o)=(cellsOf h b).bind (cut ag sz o))
 /\(∀{ag:Bool} {sz:Nat} {h:aa} {xs:List AV} {o:Nat},j7 ag sz h (.vp xs o)=cut ag sz o xs)
 /\(∀{sz:Nat} {h:aa} {b o:Nat} {v:AV},vZ sz h (.ptr b o) v=(cellsOf h b).bind fun cs=>if v.cells.length=sz/\o+sz<=cs.length/\v.cells.all AV.one=true then some (.undef,h.set b (some (.cells (df cs o v.cells)))) else none)
 /\(∀{i:Nat} {vs:List AV},Et i (.ay vs)=vs[i]?)
 /\(∀{b o:Nat},notNil (.ptr b o)=some (.ptr b o))
 /\(∀{xs:List AV} {o:Nat},notNil (.vp xs o)=some (.vp xs o))
 /\(∀{f:Nat} {a b:List AV},notNil (.fn f a b)=some (.fn f a b))
 /\(∀{cs:List AV},AV.cells (.agg cs)=cs)
 /\(∀{k:IntKind} {n:Int},AV.cells (.int k n)=[.int k n])
 /\(∀{b:Bool},AV.cells (.bool b)=[.bool b])
 /\(∀{b o:Nat},AV.cells (.ptr b o)=[.ptr b o])
 /\(∀{xs:List (List AV)} {t:aG},AV.cells (.vs xs t)=[.vs xs t])
 /\(∀{b o n s:Nat},AV.cells (.rs b o n s)=[.rs b o n s]))
 /\((∀{m:Option Nat},AV.cells (.map m)=[.map m])
 /\(∀{f:Nat} {a b:List AV},AV.cells (.fn f a b)=[.fn f a b])
 /\(AV.cells .nil=[.nil])
 /\(AV.cells .bA=[.bA])
 /\(AV.cells .fD=[.fD])
 /\(∀{k:IntKind} {n:Int},AV.one (.int k n)=true)
 /\(∀{b:Bool},AV.one (.bool b)=true)
 /\(∀{b o:Nat},AV.one (.ptr b o)=true)
 /\(∀{xs:List (List AV)} {t:aG},AV.one (.vs xs t)=true)
 /\(∀{b o n s:Nat},AV.one (.rs b o n s)=true)
 /\(∀{m:Option Nat},AV.one (.map m)=true)
 /\(∀{f:Nat} {a b:List AV},AV.one (.fn f a b)=true)
 /\(AV.one .nil=true)
 /\(AV.one .bA=true)
 /\(AV.one .fD=true)
 /\(∀{h:aa} {b:Nat} {cs:List AV},h.get b=some (.cells cs)->cellsOf h b=some cs)
 /\(∀{h:aa} {id j:Nat} {cs:List AV},cellsOf (h.at id (.cells cs)) j=if j=id then some cs else cellsOf h j)
 /\(∀{h:aa} {id j:Nat} {cs:List AV},cellsOf (h.set id (some (.cells cs))) j=if j=id then some cs else cellsOf h j))
 /\((∀{h:aa} {id j:Nat},cellsOf (h.at id .tail) j=if j=id then none else cellsOf h j)
 /\(∀{h:aa} {id j:Nat} {es:List (AV×AV)},cellsOf (h.at id (.map es)) j=if j=id then none else cellsOf h j)
 /\(∀{h:aa} {id j:Nat} {es:List (AV×AV)},cellsOf (h.set id (some (.map es))) j=if j=id then none else cellsOf h j)
 /\(∀{h:aa} {id j:Nat},cellsOf (h.set id none) j=if j=id then none else cellsOf h j)
 /\(∀{h:aa} {id j:Nat} {b:cF},(h.at id b).get j=if j=id then some b else h.get j)
 /\(∀{h:aa} {id j:Nat} {b:Option cF},(h.set id b).get j=if j=id then b else h.get j)
 /\(∀{h:aa} {id:Nat} {b:cF},(h.at id b).next=max h.next (id+1))
 /\(∀{h:aa} {id:Nat} {b:Option cF},(h.set id b).next=h.next)
 /\(∀{ρ:Env} {x:AV} {mx:Bool},oe mx ρ x []=some x)
 /\(∀{ρ:Env} {x:AV} {mx:Bool} {y:aq} {ys:List aq},oe mx ρ x (y::ys)=(pK mx x (y.ev ρ)).bind fun z=>oe mx ρ z ys)
 /\(∀{k:IntKind} {a b:Int},pK true (.int k a) (.int k b)=some (.int k (max a b)))
 /\(∀{k:IntKind} {a b:Int},pK false (.int k a) (.int k b)=some (.int k (min a b)))
 /\(∀{ρ:Env} {z:List AV},jY ρ z []=some z)
 /\(∀{ρ:Env} {z:List AV} {off sz:Nat} {x:aq} {ps:List (Nat×Nat×aq)},jY ρ z ((off,sz,x)::ps)=if(x.ev ρ).cells.length=sz/\off+sz<=z.length/\(x.ev ρ).cells.all AV.one=true then jY ρ (df z off (x.ev ρ).cells) ps else none)
 /\(∀{ρ:Env} {sz:Nat} {z:List (List AV)},iv ρ sz z []=some z)
 /\(∀{ρ:Env} {sz i:Nat} {z:List (List AV)} {x:aq} {ps:List (Nat×aq)},iv ρ sz z ((i,x)::ps)=if(x.ev ρ).cells.length=sz/\i<z.length/\(x.ev ρ).cells.all AV.one=true then iv ρ sz (z.set i (x.ev ρ).cells) ps else none)
 /\(∀{rs:List fN} {r:AV} {h1:aa} {ρ:Env} {h:aa},Iu rs r h1 .normal ρ h↔(dQ ρ h rs).map fl=some r/\h=h1)
 /\(∀{rs:List fN} {r:AV} {h1:aa} {ρ:Env} {h:aa},Iu rs r h1 .ret ρ h↔(dQ ρ h rs).map fl=some r/\h=h1))
 /\((∀{rs:List fN} {r:AV} {h1:aa} {ρ:Env} {h:aa},Ih rs r h1 .normal ρ h↔(dQ ρ h rs).map fl=some r/\ ∀b,b<h1.next->h.get b=h1.get b)
 /\(∀{rs:List fN} {r:AV} {h1:aa} {ρ:Env} {h:aa},Ih rs r h1 .ret ρ h↔(dQ ρ h rs).map fl=some r/\ ∀b,b<h1.next->h.get b=h1.get b)
 /\(il 0 .nil=some true)
 /\(∀{b o:Nat},il 0 (.ptr b o)=some false)
 /\(∀{o:Nat} {xs:List AV},il 0 (.vp xs o)=some false)
 /\(il 1 .bA=some true)
 /\(∀{b o n s:Nat},il 1 (.rs b o n s)=some false)
 /\(il 2 .jk=some true)
 /\(∀{f:Nat} {a c:List AV},il 2 (.fn f a c)=some false)
 /\(il 3 (.map none)=some true)
 /\(∀{b:Nat},il 3 (.map (some b))=some false)
 /\(∀{ρ:Env} {h:aa},dQ ρ h []=some [])
 /\(∀{ρ:Env} {h:aa} {t:Nat} {rs:List fN},dQ ρ h (.tmp t::rs)=(dQ ρ h rs).map (ρ t:: ·))
 /\(∀{ρ:Env} {h:aa} {t sz:Nat} {ag:Bool} {rs:List fN},dQ ρ h (.cell t ag sz::rs)=(j7 ag sz h (ρ t)).bind fun v=>(dQ ρ h rs).map (v:: ·))
 /\(fl []= .ay [])
 /\(∀{v:AV},fl [v]=v)
 /\(∀{v u:AV} {l:List AV},fl (v::u::l)= .ay (v::u::l))
 /\(∀{as:List AV} {i:Nat},jx as i=as.getD i (.ay [])))
 /\((∀{a:AV} {l:List AV} {d:AV},(a::l).getD 0 d=a)
 /\(∀{a:AV} {l:List AV} {d:AV} {i:Nat},(a::l).getD (i+1) d=l.getD i d)
 /\(∀{α β:Type} {f:α->Option β} {a:α},(some a).bind f=f a)
 /\(∀{α β:Type} {f:α->β} {a:α},(some a).map f=some (f a))
 /\(∀{α:Type} {a b:α},(some a=some b)↔a=b)
 /\(∀{α:Type} {a:α},(some a=none)↔False)
 /\(∀{α:Type} {a:α},(none=some a)↔False)
 /\(∀{α β:Type} {a c:α} {b d:β},((a,b)=(c,d))↔a=c/\b=d)
 /\(∀{α:Type} {p:α->Prop} {a:α},(∃x,a=x/\p x)↔p a)
 /\(∀{α β:Type} {p:α->β->Prop} {a:α} {b:β},(∃x y,(a=x/\b=y)/\p x y)↔p a b)
 /\(∀{n:Nat},(0<=(n:Int))↔True)
 /\(∀{n:Nat},(n:Int).toNat=n)
 /\(∀{n:Nat},((n:Int)<0)↔False)
 /\(∀{a b:Nat},((a:Int)<(b:Int))↔a<b)
 /\(∀{a b:Nat},((a:Int)<=(b:Int))↔a<=b)
 /\(∀{a b:Nat},((a:Int)=(b:Int))↔a=b)
 /\(∀{α:Type} {a:α} {l:List α},(a::l)[0]? =some a)
 /\(∀{α:Type} {a:α} {l:List α} {i:Nat},(a::l)[i+1]? =l[i]?))
 /\((∀{α:Type} {a:α} {l:List α},(a::l).length=l.length+1)
 /\(∀{α:Type},([]:List α).length=0)
 /\(∀{p:AV->Bool} {a:AV} {l:List AV},(a::l).all p=(p a&&l.all p))
 /\(∀{p:AV->Bool},([]:List AV).all p=true)
 /\(∀{α:Type} {l:List α},List.take 0 l=[])
 /\(∀{α:Type} {a:α} {l:List α} {n:Nat},List.take (n+1) (a::l)=a::List.take n l)
 /\(∀{α:Type} {l:List α},List.drop 0 l=l)
 /\(∀{α:Type} {a:α} {l:List α} {n:Nat},List.drop (n+1) (a::l)=List.drop n l)
 /\(∀{α:Type} {l:List α},l++[]=l)
 /\(∀{α:Type} {l:List α},[]++l=l)
 /\(∀{α:Type} {a:α} {l m:List α},(a::l)++m=a::(l++m))
 /\(∀{cs vs:List AV} {off:Nat},df cs off vs=cs.take off++vs++cs.drop (off+vs.length))
 /\(∀{p:Prop},(p/\True)↔p)
 /\(∀{p:Prop},(True/\p)↔p)
 /\(∀{p:Prop},(p/\False)↔False)
 /\(∀{p:Prop},(False/\p)↔False)
 /\(∀{p q r:Prop},((p/\q)/\r)↔p/\q/\r)
 /\(∀{p:Prop} [Decidable p],(decide p=true)↔p))
 /\((∀{p:Prop} [Decidable p],(decide p=false)↔ ¬p)
 /\(∀{α:Sort 1} {p:Prop} [Decidable p] {a b:α},(if¬p then a else b)=if p then b else a)
 /\(∀{α:Sort 1} {a b:α},(if True then a else b)=a)
 /\(∀{α:Sort 1} {a b:α},(if False then a else b)=b)
 /\(∀{p:Prop},¬ ¬p↔p)
 /\((¬True)↔False)
 /\((¬False)↔True)
 /\((false=true)↔False)
 /\((true=false)↔False)
 /\((!true)=false)
 /\((!false)=true)
 /\(∀{b:Bool},(true&&b)=b)
 /\(∀{b:Bool},(b&&true)=b)
 /\(∀{b:Bool},((!b)=true)↔b=false)
 /\(∀{b:Bool},((!b)=false)↔b=true)
 /\(∀{a b:Bool},((a&&b)=true)↔a=true/\b=true)
 /\(∀{α:Type} {a:α},(a=a)↔True)
 /\(((0:Nat):Int)=0))
 /\((((1:Nat):Int)=1)
 /\(∀{n:Nat},max n (n+1)=n+1)
 /\(∀{n:Nat},0+n=n)
 /\(∀{n:Nat},n+0=n)
 /\(∀{n:Nat},(n<=n)↔True)
 /\(∀{p q r:Prop},(p/\q->r)↔(p->q->r))
 /\(∀{p:Prop},(False->p)↔True)
 /\(∀{p:Prop},(True->p)↔p)
 /\(∀{p:Prop},(p->True)↔True)
 /\(∀{α:Type},(α->True)↔True)
 /\(decide True=true)
 /\(decide False=false)):=⟨⟨Zr,
  al5,
  ana,
  am9,
  aqI,
  uy,
  sL,
  anb,
  atv,
  atw,
  al6,
  by intros;rfl,
  by intros;rfl,
  by intros;rfl,
  by intros;rfl,
  by intros;rfl,
  by intros;rfl,
  by intros;rfl⟩,
  ⟨by intros;rfl,
  by intros;rfl,
  by intros;rfl,
  by intros;rfl,
  by intros;rfl,
  Iff.rfl,
  aoW,
  ajp,
  aoY,
  ajr,
  aoX,
  ajq,
  ahH,
  ajo,
  alG,
  alJ,
  alH,
  alI⟩,
  ⟨akr,
  Iff.rfl,
  auJ,
  auO,
  auM,
  auN,
  auK,
  asL,
  aoZ,
  ao3,
  ao2,
  ao6,
  ao0,
  ao4,
  ao1,
  ao5,
  amG,
  amH⟩,
  ⟨alL,
  alN,
  alM,
  Iff.rfl,
  auR,
  asM,
  auT,
  auP,
  auQ,
  auS,
  by intros;simp[po,gK],
  by intros;simp[po,gK],
  by intros;simp[pq,gK],
  by intros;simp[pq,gK],
  by intros;simp[po,gK],
  by intros;simp[po,gK],
  by intros;simp[pq,gK],
  by intros;simp[pq,gK]⟩,
  ⟨by intros;simp[po,gK],
  by intros;simp[pq,gK],
  alP,
  alw,
  by intros;rfl,
  by intros;rfl,
  alO,
  alQ,
  Iff.rfl,
  Iff.rfl,
  by intros;rfl,
  aix,
  by intros;rfl,
  by intros;rfl,
  by intro h n b;unfold cellsOf aa.clean;by_cases e:b<h.next<;>simp[e],
  by intros;rfl,
  by intros;rfl,
  by intros;rfl⟩,
  ⟨by intros;rfl,
  by intros;rfl,
  by intros;rfl,
  by intros;rfl,
  by intros;rfl,
  by intros;rfl,
  by intros;rfl,
  by intros;rfl,
  by intros;rfl,
  by intros;rfl,
  by intros;rfl,
  by intros;rfl,
  by intros;rfl,
  by intros;rfl,
  by intros;rfl,
  by intros;rfl,
  by intros;rfl,
  by intros;rfl⟩,
  ⟨by intros;rfl,
  by intros;rfl,
  by intros;rfl,
  by intros;rfl,
  by intros;rfl,
  by intros;rfl,
  by intros;rfl,
  by intros;rfl,
  by intros;rfl,
  by intros;rfl,
  by intros;rfl,
  by intros;rfl,
  by intros;rfl,
  by intros;rfl,
  by intros;rfl,
  by intros;rfl,
  aiF,
  by intros;rfl⟩,
  ⟨akE,
  by intros;rfl,
  by intros;rfl,
  by intros;rfl,
  by intros;rfl,
  by intros;rfl,
  by intros;rfl,
  by intros;rfl,
  by intros;rfl,
  by intros;rfl,
  ahQ,
  ahR,
  aiK,
  by intros;rfl,
  by intros;rfl,
  by simp[dH],
  by intro h id j cs;unfold mapOf aa.at;by_cases e:j=id<;>simp[e],
  by intro h id j cs;unfold mapOf aa.set;by_cases e:j=id<;>simp[e]⟩,
  ⟨by intro h id j es;unfold mapOf aa.at;by_cases e:j=id<;>simp[e],
  by intro h id j es;unfold mapOf aa.set;by_cases e:j=id<;>simp[e],
  by intro h n b;unfold mapOf aa.clean;by_cases e:b<h.next<;>simp[e],
  by intros;rfl,
  by intros;rfl,
  by intros;rfl,
  by intros;rfl,
  by intros;rfl,
  by intros;rfl,
  by intros;rfl,
  by intros;rfl,
  by intros;rfl,
  by intros;rfl,
  akF,
  ala,
  ak9,
  by intros;rfl,
  yy⟩,
  ⟨ah1,
  ajG,
  akI,
  aiJ,
  by intros;rfl,
  by intros;rfl,
  by intros;rfl,
  by intros;rfl,
  by intros;rfl,
  by intros;simp[cw,kj],
  by intros;simp[cw,kj],
  by intros;simp[cw,kj],
  by intros;simp[cw,kj],
  by intros;simp[cw,kj],
  by intros;simp[cw,kj]<;>rfl,
  by intros;simp[cw,kj]<;>rfl,
  by intros;simp[cw,kj]<;>rfl,
  by intros;simp[cw,kj]<;>rfl⟩,
  ⟨by intros;simp[cw,kj]<;>rfl,
  by intros tb k a b;simp only[cw,kj,if_true];by_cases h:a=b<;>simp[h],
  by intros;rfl,
  by intros;rfl,
  by intros;rfl,
  by intros;rfl,
  by intros;rfl,
  by intros;rfl,
  by intros;rfl,
  by intros;rfl,
  by intros;rfl,
  by intros;rfl,
  by intros;rfl,
  by intros sz xs t k i;simp only[pL];by_cases hi:0<=i<;>simp only[hi,if_true,if_false]<;>cases xs[i.toNat]?<;>rfl,
  by intros;rfl,
  by intros;rfl,
  by intros;rfl,
  by intros;rfl⟩,
  ⟨by intros;rfl,
  by intros;rfl,
  by intros;rfl,
  by intros;rfl,
  by intros;rfl,
  by intros;rfl,
  by intros;rfl,
  by intros sz h b o v;simp only[vZ];cases cellsOf h b<;>rfl,
  by intros;rfl,
  by intros;rfl,
  by intros;rfl,
  by intros;rfl,
  by intros;rfl,
  by intros;rfl,
  by intros;rfl,
  by intros;rfl,
  by intros;rfl,
  by intros;rfl⟩,
  ⟨by intros;rfl,
  by intros;rfl,
  by intros;rfl,
  by intros;rfl,
  by intros;rfl,
  by intros;rfl,
  by intros;rfl,
  by intros;rfl,
  by intros;rfl,
  by intros;rfl,
  by intros;rfl,
  by intros;rfl,
  by intros;rfl,
  by intros;rfl,
  by intros;rfl,
  by intros h b cs e;simp[cellsOf,e],
  by intro h id j cs;unfold cellsOf aa.at;by_cases e:j=id<;>simp[e],
  by intro h id j cs;unfold cellsOf aa.set;by_cases e:j=id<;>simp[e]⟩,
  ⟨by intro h id j;unfold cellsOf aa.at;by_cases e:j=id<;>simp[e],
  by intro h id j es;unfold cellsOf aa.at;by_cases e:j=id<;>simp[e],
  by intro h id j es;unfold cellsOf aa.set;by_cases e:j=id<;>simp[e],
  by intro h id j;unfold cellsOf aa.set;by_cases e:j=id<;>simp[e],
  by intros;rfl,
  by intros;rfl,
  by intros;rfl,
  by intros;rfl,
  by intros;rfl,
  by intros;rfl,
  by intros k a b;simp only[pK,if_true];congr 2;simp only[Int.max_def,gt_iff_lt];split<;>split<;>omega,
  by intros k a b;simp only[pK,if_true,Bool.false_eq_true,if_false];congr 2;simp only[Int.min_def];split<;>split<;>omega,
  by intros;rfl,
  by intros;rfl,
  by intros;rfl,
  by intros;rfl,
  Iff.rfl,
  Iff.rfl⟩,
  ⟨Iff.rfl,
  Iff.rfl,
  by intros;rfl,
  by intros;rfl,
  by intros;rfl,
  by intros;rfl,
  by intros;rfl,
  by intros;rfl,
  by intros;rfl,
  by intros;rfl,
  by intros;rfl,
  by intros;rfl,
  by intro ρ h t rs;simp only[dQ,yU];cases dQ ρ h rs<;>rfl,
  by intro ρ h t sz ag rs;simp only[dQ,yU];cases j7 ag sz h (ρ t)<;>cases dQ ρ h rs<;>rfl,
  by intros;rfl,
  by intros;rfl,
  by intros;rfl,
  by intros;rfl⟩,
  ⟨by intros;rfl,
  by intros;rfl,
  by intros;rfl,
  by intros;rfl,
  by intros;exact Option.some_inj,
  by intros;simp,
  by intros;simp,
  by intros;simp,
  by intros;simp,
  by intro α β p a b;exact⟨fun⟨_,_,⟨e1,e2⟩,h⟩=>by subst e1;subst e2;exact h,fun h=>⟨_,_,⟨rfl,rfl⟩,h⟩⟩,
  by intros;simp,
  by intros;simp,
  by intros;simp,
  by intros;omega,
  by intros;omega,
  by intros;omega,
  by intros;rfl,
  by intros;rfl⟩,
  ⟨by intros;simp,
  by intros;rfl,
  by intros;simp,
  by intros;rfl,
  by intros;simp,
  by intros;simp,
  by intros;simp,
  by intros;simp,
  by intros;simp,
  by intros;simp,
  by intros;simp,
  by intros;rfl,
  by intros;simp,
  by intros;simp,
  by intros;simp,
  by intros;simp,
  by intros;exact and_assoc,
  by intros;exact decide_eq_true_iff⟩,
  ⟨by intros;exact decide_eq_false_iff_not,
  by intros;simp,
  by intros;exact if_pos trivial,
  by intros;exact if_neg id,
  by intros;exact Classical.not_not,
  by intros;exact not_true,
  by intros;exact not_false_iff,
  by intros;simp,
  by intros;simp,
  by intros;rfl,
  by intros;rfl,
  by intros;simp,
  by intros;simp,
  by intros;simp,
  by intros;simp,
  by intros;simp,
  by intros;simp,
  by intros;rfl⟩,
  ⟨by intros;rfl,
  by intros;omega,
  by intros;exact Nat.zero_add _,
  by intros;exact Nat.add_zero _,
  by intros;simp,
  by intros;exact and_imp,
  by intros;simp,
  by intros;simp,
  by intros;simp,
  by intros;simp,
  by intros;rfl,
  by intros;rfl⟩⟩
end
section
open Go
section
variable {P:Program}
theorem Wn {t:TypeId} {k:IntKind} {f:Nat} {as:List AV} (hu:P.underlying t=some (.int k)) (h:Hd P f t as): ∃n,as=[.int k n]/\(Lit.int k n).wf=true:=by
 cases f with
 |zero=>exact h.elim
 |succ f=>unfold Hd at h;rw[hu] at h;exact h
theorem aoR {t:TypeId} {k:IntKind} {a:AV} (hu:P.underlying t=some (.int k)) (h:t5 P t a): ∃n,a= .int k n/\(Lit.int k n).wf=true:=by
 obtain⟨f,h⟩:=h.Yc hu rfl
 obtain⟨n,h1,h2⟩:=Wn hu h
 cases h1
 exact⟨n,rfl,h2⟩
theorem ack {n:Int} (h:(Lit.int .u8 n).wf=true):0<=n/\n<256:=by
 have h1:IntKind.min .u8=0:=rfl
 have h2:IntKind.max .u8=255:=by decide
 simp[Lit.wf,h1,h2] at h
 omega
theorem avu {t:TypeId} {a:AV} (hu:P.underlying t=some (.int .u8)) (h:t5 P t a): ∃n:Nat,n<256/\a= .int .u8 n:=by
 obtain⟨n,rfl,h2⟩:=aoR hu h
 have:=ack h2
 exact⟨n.toNat,by omega,by rw[Int.toNat_of_nonneg this.1]⟩
theorem VQ {t e:TypeId} {f:Nat} {as:List AV} (hu:P.underlying t=some (.slice e)) (h:Hd P f t as): ∃xs,as=[.vs xs .ao]/\xs.length<=maxLen/\ ∃f,∀row∈xs,Hd P f e row/\row.all AV.one=true:=by
 cases f with
 |zero=>exact h.elim
 |succ f=>unfold Hd at h;rw[hu] at h;obtain⟨xs,h1,h2,h3⟩:=h;exact⟨xs,h1,h2,f,h3⟩
theorem alC {t e:TypeId} {a:AV} (hu:P.underlying t=some (.slice e)) (h:t5 P t a): ∃xs,a= .vs xs .ao/\xs.length<=maxLen/\ ∃f,∀row∈xs,Hd P f e row/\row.all AV.one=true:=by
 obtain⟨f,h⟩:=h.Yc hu rfl
 obtain⟨xs,h1,h2⟩:=VQ hu h
 cases h1
 exact⟨xs,rfl,h2⟩
theorem Lv {α β:Type} {f:α->β} {p:α->Prop}: ∀{l:List β},(∀x∈l,∃a,x=f a/\p a)-> ∃m:List α,l=m.map f/\ ∀a∈m,p a
 |[],_=>⟨[],rfl,by simp⟩
 |x::xs,h=>by
  obtain⟨a,rfl,ha⟩:=h x (by simp)
  obtain⟨m,rfl,hm⟩:=Lv (l:=xs) (fun y hy=>h y (List.mem_cons_of_mem _ hy))
  exact⟨a::m,rfl,fun b hb=>by rcases List.mem_cons.1 hb with rfl|hb;exact ha;exact hm b hb⟩
end
end
section
open Go
section
variable {P:Program}
theorem an.strip {f:Nat} {args:List AV} {h h':aa} {r:AV} (hc:an P f args h r h'):an P f args h r.strip h':=by
 intro ι I w bS H hl
 refine(hc ι I w bS H hl).mono ?_
 rintro e w' ⟨v,ι',I',rfl,hv,H',E⟩
 exact⟨v,ι',I',rfl,hv.strip,H',E⟩
theorem an.freeze {f:Nat} {args:List AV} {h h':aa} {r:AV} (hc:an P f args h r h') {b:Nat} {cs:List AV} (hg:h'.get b=some (.cells cs)) (hb:h.next<=b)
 (hr:(AV.fv b cs r).bD (fun i=>i !=b)=true):an P f args h (AV.fv b cs r) (h'.set b none):=by
 intro ι I w bS H hl
 refine(hc ι I w bS H hl).mono ?_
 rintro e w' ⟨v,ι',I',rfl,hv,H',E⟩
 cases cp:ι' b with
 |none=>
  have jq:VR ι' I' w' (AV.fv b cs r) v:=by
   clear hr hc
   induction hv with
   |rs b' off len sz gW o' oF cap h1 h2 h3=>
    unfold AV.fv
    by_cases kW:b'=b
    ·subst kW;rw[cp] at h1;cases h1
    ·rw[if_neg kW];exact .rs b' off len sz gW o' oF cap h1 h2 h3
   |rk b' off len sz cap gW o' oF h1 h2 h3=>
    unfold AV.fv
    by_cases kW:b'=b
    ·rw[if_pos kW];exact .undef _
    ·rw[if_neg kW];exact .rk b' off len sz cap gW o' oF h1 h2 h3
   |agg xs rN hl hv ih=>exact .agg _ _ (by rw[BC];exact hl) (fun i v c h1 h2=>by obtain⟨u,e1,rfl⟩:=BD h1;exact ih i u c e1 h2)
   |ay xs rN hl hv ih=>exact .ay _ _ (by rw[BC];exact hl) (fun i v c h1 h2=>by obtain⟨u,e1,rfl⟩:=BD h1;exact ih i u c e1 h2)
   |vs xs t gW o' s cap g hs hI hc hv h1 bw ht ih=>exact .vs xs t gW o' s cap g hs hI hc hv h1 bw ht
   |gr t ht=>exact .gr t ht
   |gi t a cap ht=>exact .gi t a cap ht
   |undef v=>exact .undef v
   |int k n=>exact .int k n
   |bool b=>exact .bool b
   |fU k b=>exact .fU k b
   |fX k a b=>exact .fX k a b
   |str s=>exact .str s
   |nil=>exact .nil
   |ptr b off cb o room h=>exact .ptr b off cb o room h
   |vp xs off gW o' g hI hc hv h1 ih=>exact .vp xs off gW o' g hI hc hv h1
   |bA=>exact .bA
   |vz a cap=>exact .vz a cap
   |pO=>exact .pO
   |map b cb h=>exact .map b cb h
   |fn f fs cs eI bF hf hc h1 h2 fQ jI=>exact .fn f fs cs eI bF hf hc h1 h2
   |jk=>exact .jk
   |fD v h=>exact .fD v h
  have a9: ∀i l x,ι' i=some l->(h'.set b none).get i=some x->h'.get i=some x:=fun i l x hi hx=>by
   have:i≠b:=fun e=>by rw[e,cp] at hi;cases hi
   simpa [aa.set,this] using hx
  refine⟨v,ι',I',rfl,jq,?_,?_⟩
  ·exact{cE:=H'.cE,inside:=H'.inside,cells:=fun i cs l hg hi=>H'.cells i cs l (a9 i l _ hi hg) hi,maps:=fun i es l hg hi=>H'.maps i es l (a9 i l _ hi hg) hi,fo:=fun i l hg hi=>H'.fo i l (a9 i l _ hi hg) hi
         dz:=fun i j l l' x x' k j' aM hi hj hg cD=>H'.dz i j l l' x x' k j' aM hi hj (a9 i l _ hi hg) (a9 j l' _ hj cD)
         bB:=fun i l x k j hi hg=>H'.bB i l x k j hi (a9 i l _ hi hg),dn:=H'.dn,pl:=fun i cs cb o room hg hi=>H'.pl i cs cb o room (a9 i _ _ hi hg) hi}
  ·exact{E with
         own:=fun k j ⟨i,l,x,hi,hg,hl⟩=>E.own k j ⟨i,l,x,hi,a9 i l _ hi hg,hl⟩
         lost:=fun i hn hi=>by
          have:i≠b:=by omega
          simp only[aa.set,this,if_false];exact E.lost i hn hi}
 |some l=>
  obtain⟨cb,o,room,rfl,_,_,_⟩:=H'.cells b cs l hg cp
  have jq:=hv.fv H' hg cp
  have a9: ∀i x,(h'.set b none).get i=some x->i≠b/\h'.get i=some x:=fun i x hx=>by
   by_cases qx:i=b
   ·subst qx;simp[aa.set] at hx
   ·exact⟨qx,by simpa [aa.set,qx] using hx⟩
  have cI: ∀a c,VR ι' I' w' a c->VR ι' (xp I' cb o room) w' a c:=fun a c h=>h.mono (fun _ _ h=>h) (fun _ _ h=> .inl h) (fun _ _ _=>rfl)
  refine⟨v,ι',xp I' cb o room,rfl,jq,?_,?_⟩
  ·exact
   {cE:=H'.cE,inside:=H'.inside
    cells:=fun i cs l hg hi=>by
     obtain⟨gW,o',oF,e1,e2,e3,e4⟩:=H'.cells i cs l (a9 i _ hg).2 hi
     exact⟨gW,o',oF,e1,e2,e3,fun j hj=>by obtain⟨c,g1,g2,g3⟩:=e4 j hj;exact⟨c,g1,g2,fun v hv=>cI _ _ (g3 v hv)⟩⟩
    maps:=fun i es l hg hi=>by
     obtain⟨gW,aV,clock,e1,e2,e3,e4⟩:=H'.maps i es l (a9 i _ hg).2 hi
     exact⟨gW,aV,clock,e1,e2,e3,fun j k v e h1 h2=>⟨cI _ _ (e4 j k v e h1 h2).1,cI _ _ (e4 j k v e h1 h2).2⟩⟩
    fo:=fun i l hg hi=>H'.fo i l (a9 i _ hg).2 hi
    dz:=fun i j l l' x x' k j' aM hi hj hg cD=>H'.dz i j l l' x x' k j' aM hi hj (a9 i _ hg).2 (a9 j _ cD).2
    bB:=fun i l x k j hi hg hl hk=>by
     rcases hk with hk|⟨rfl,h1,h2⟩
     ·exact H'.bB i l x k j hi (a9 i _ hg).2 hl hk
     ·exact H'.dz i b l _ x _ k j (a9 i _ hg).1 hi cp (a9 i _ hg).2 ‹_› hl rfl
    dn:=fun k j hk=>by
     rcases hk with hk|⟨rfl,_,_⟩
     ·exact H'.dn k j hk
     ·exact H'.inside b _ cp
    pl:=fun i cs cb o room hg hi=>H'.pl i cs cb o room (a9 i _ hg).2 hi}
  ·exact{E with
         bB:=fun k j h=> .inl (E.bB k j h)
         own:=fun k j ⟨i,l,x,hi,hg,hl⟩=>E.own k j ⟨i,l,x,hi,(a9 i _ hg).2,hl⟩
         gw:=fun k j hk=>by
          rcases hk with hk|⟨rfl,h1,h2⟩
          ·exact E.gw k j hk
          ·rcases E.own k j ⟨b,_,_,cp,‹_›,rfl⟩ with h|h
           ·exact .inr (.inl h)
           ·exact .inr (.inr h)
         lost:=fun i hn hi=>by
          have:i≠b:=by omega
          simp only[aa.set,this,if_false];exact E.lost i hn hi}
end
end
section
open Go
section
variable {α:Type}
theorem yL {sz:Nat}: ∀{rows:List (List α)},(∀r∈rows,r.length=sz)->rows.flatten.length=rows.length*sz
 |[],_=>by simp
 |r::rs,h=>by
  have h0:=h r (by simp)
  have:=yL (rows:=rs) (fun x hx=>h x (List.mem_cons_of_mem _ hx))
  simp[h0,this,Nat.succ_mul,Nat.add_comm]
theorem uj {sz:Nat}: ∀{rows:List (List α)} {i j:Nat} {row:List α},(∀r∈rows,r.length=sz)->rows[i]? =some row->j<sz->rows.flatten[i*sz+j]? =row[j]?
 |[],i,j,row,_,h,_=>by simp at h
 |r::rs,0,j,row,hl,h,hj=>by
  have h0:=hl r (by simp)
  simp at h;subst h
  simp only[List.flatten_cons,Nat.zero_mul,Nat.zero_add]
  rw[List.getElem?_append_left (by omega)]
 |r::rs,i+1,j,row,hl,h,hj=>by
  have h0:=hl r (by simp)
  have ih:=uj (rows:=rs) (i:=i) (j:=j) (row:=row) (fun x hx=>hl x (List.mem_cons_of_mem _ hx)) (by simpa using h) hj
  simp only[List.flatten_cons]
  rw[List.getElem?_append_right (by rw[Nat.succ_mul];omega)]
  rw[show(i+1)*sz+j-r.length=i*sz+j by rw[Nat.succ_mul];omega]
  exact ih
theorem Yw {sz:Nat}: ∀{rows:List (List α)} {i:Nat} {row:List α},(∀r∈rows,r.length=sz)->rows[i]? =some row->(rows.flatten.drop (i*sz)).take sz=row
 |[],i,row,_,h=>by simp at h
 |r::rs,0,row,hl,h=>by
  have h0:=hl r (by simp)
  simp at h;subst h
  simp only[List.flatten_cons,Nat.zero_mul,List.drop_zero]
  rw[List.take_append_of_le_length (by omega),List.take_of_length_le (by omega)]
 |r::rs,i+1,row,hl,h=>by
  have h0:=hl r (by simp)
  have ih:=Yw (rows:=rs) (i:=i) (row:=row) (fun x hx=>hl x (List.mem_cons_of_mem _ hx)) (by simpa using h)
  simp only[List.flatten_cons]
  rw[show(i+1)*sz=r.length+i*sz by rw[Nat.succ_mul];omega,List.drop_append,List.drop_eq_nil_of_le (by omega),Nat.add_sub_cancel_left,List.nil_append]
  exact ih
theorem BE {sz:Nat}: ∀{rows:List (List α)} {i j:Nat} {row v:List α},(∀r∈rows,r.length=sz)->rows[i]? =some row->j+v.length<=sz->
 rows.flatten.take (i*sz+j)++v++rows.flatten.drop (i*sz+j+v.length)=(rows.set i (row.take j++v++row.drop (j+v.length))).flatten
 |[],i,j,row,v,_,h,_=>by simp at h
 |r::rs,0,j,row,v,hl,h,hj=>by
  have h0:=hl r (by simp)
  simp at h;subst h
  simp only[List.flatten_cons,Nat.zero_mul,Nat.zero_add,List.set_cons_zero]
  rw[List.take_append_of_le_length (by omega),List.drop_append_of_le_length (by omega)]
  simp[List.append_assoc]
 |r::rs,i+1,j,row,v,hl,h,hj=>by
  have h0:=hl r (by simp)
  have ih:=BE (rows:=rs) (i:=i) (j:=j) (row:=row) (v:=v) (fun x hx=>hl x (List.mem_cons_of_mem _ hx)) (by simpa using h) hj
  simp only[List.flatten_cons,List.set_cons_succ]
  rw[<-ih]
  have e1:(i+1)*sz+j=r.length+(i*sz+j):=by rw[Nat.succ_mul];omega
  rw[e1,List.take_append,List.take_of_length_le (by omega),Nat.add_sub_cancel_left]
  rw[show r.length+(i*sz+j)+v.length=r.length+(i*sz+j+v.length) by omega,List.drop_append,List.drop_eq_nil_of_le (by omega),Nat.add_sub_cancel_left]
  simp[List.append_assoc]
end
section
variable {P:Program}
theorem ax.calls {T:fG} (ok:ax P T) {f:Nat} {rf:az} (hf:T.fn f=some rf) {args:List AV} (eL:args.length<=rf.ntmps)
 {h h1:aa} {r:AV} (hw:WP P rf.code (Iu rf.results r h1) (jx args) h):an P f args h r h1:=by
 obtain⟨fn,md,h2,h3⟩:=ok.fn f rf hf
 exact ah2 ok.follow h2 h3 eL hw
theorem ax.keeps {T:fG} (ok:ax P T) {f:Nat} {rf:az} (hf:T.fn f=some rf) {args:List AV} (eL:args.length<=rf.ntmps)
 {h:aa} {r:AV} (hr:r.bD (fun b=>decide (b<h.next))=true) (hw:WP P rf.code (Ih rf.results r h) (jx args) h):an P f args h r h:=by
 obtain⟨fn,md,h2,h3⟩:=ok.fn f rf hf
 exact aiL ok.follow h2 h3 eL hr hw
theorem av {h:aa} {b:Nat} {cs:List AV} (e:h.get b=some (.cells cs)):cellsOf h b=some cs:=by simp[cellsOf,e]
theorem aa.gq {h:aa} {b:Nat} {x:Option cF} (e:h.get b=x):h.set b x=h:=by
 unfold aa.set
 have:(fun i=>if i=b then x else h.get i)=h.get:=by funext i;by_cases hi:i=b<;>simp[hi,e]
 rw[this]
theorem BF {al:List RO} {ρ:Env} {h:aa} {K:Env->aa->Prop} (Q:Env->Prop) (h1:exec P al ρ h (fun ρ' h'=>Q ρ'/\h'=h)) (h2: ∀ρ',Q ρ'->K ρ' h):exec P al ρ h K:=
 LH (fun ρ' h' ⟨e1,e2⟩=>by rw[e2];exact h2 ρ' e1) h1
def uB (rs:List fN) (r:AV) (h0:aa):aQ->Env->aa->Prop
 | .normal,ρ,h=> ∃r0,(dQ ρ h rs).map fl=some r0/\r0.strip=r/\ ∀b,b<h0.next->h.get b=h0.get b
 | .ret,ρ,h=> ∃r0,(dQ ρ h rs).map fl=some r0/\r0.strip=r/\ ∀b,b<h0.next->h.get b=h0.get b
 |_,_,_=>False
theorem bG {rs:List fN} {r:AV} {h0:aa} {ρ:Env} {h:aa}:uB rs r h0 .ret ρ h↔ ∃r0,(dQ ρ h rs).map fl=some r0/\r0.strip=r/\ ∀b,b<h0.next->h.get b=h0.get b:=Iff.rfl
theorem ax.eW {T:fG} (ok:ax P T) {f:Nat} {rf:az} (hf:T.fn f=some rf) {args:List AV} (eL:args.length<=rf.ntmps)
 {h:aa} {r:AV} (hr:r.bD (fun b=>decide (b<h.next))=true) (hw:WP P rf.code (uB rf.results r h) (jx args) h):an P f args h r h:=by
 obtain⟨fn,md,h2,h3⟩:=ok.fn f rf hf
 obtain⟨e,ρ',h',hb,hk⟩:=hw
 cases e with
 |normal=>
  obtain⟨r0,hv,hs,hh⟩:=hk
  obtain⟨vs,hv,ht⟩:=Option.map_eq_some_iff.1 hv
  have:=(mT ok.follow h2 h3 eL hb (.inl rfl) hv).strip
  rw[ht,hs] at this
  exact this.restore hh hr
 |ret=>
  obtain⟨r0,hv,hs,hh⟩:=hk
  obtain⟨vs,hv,ht⟩:=Option.map_eq_some_iff.1 hv
  have:=(mT ok.follow h2 h3 eL hb (.inr rfl) hv).strip
  rw[ht,hs] at this
  exact this.restore hh hr
 |exit id=>exact hk.elim
 |goto l=>exact hk.elim
def CZ (rs:List fN) (r:AV) (Q:aa->Prop):aQ->Env->aa->Prop
 | .ret,ρ,h=>(dQ ρ h rs).map fl=some r/\Q h
 | .normal,ρ,h=>(dQ ρ h rs).map fl=some r/\Q h
 |_,_,_=>False
theorem jP {rs:List fN} {r:AV} {Q:aa->Prop} {ρ:Env} {h:aa}:CZ rs r Q .ret ρ h↔(dQ ρ h rs).map fl=some r/\Q h:=Iff.rfl
theorem V2 {rs:List fN} {r:AV} {Q:aa->Prop} {ρ:Env} {h:aa}:CZ rs r Q .normal ρ h↔(dQ ρ h rs).map fl=some r/\Q h:=Iff.rfl
theorem ax.dI {T:fG} (ok:ax P T) {f:Nat} {rf:az} (hf:T.fn f=some rf) {args:List AV} (eL:args.length<=rf.ntmps) {h:aa} {r:AV} {Q:aa->Prop}
 (hw:WP P rf.code (CZ rf.results r Q) (jx args) h): ∃h',an P f args h r h'/\Q h':=by
 obtain⟨fn,md,h2,h3⟩:=ok.fn f rf hf
 obtain⟨e,ρ',h',hb,hk⟩:=hw
 cases e with
 |normal=>
  obtain⟨hv,hq⟩:=hk
  obtain⟨vs,xR,rfl⟩:=Option.map_eq_some_iff.1 hv
  exact⟨h',mT ok.follow h2 h3 eL hb (.inl rfl) xR,hq⟩
 |ret=>
  obtain⟨hv,hq⟩:=hk
  obtain⟨vs,xR,rfl⟩:=Option.map_eq_some_iff.1 hv
  exact⟨h',mT ok.follow h2 h3 eL hb (.inr rfl) xR,hq⟩
 |exit id=>exact hk.elim
 |goto l=>exact hk.elim
theorem aiR {c body:aZ} {K:aQ->Env->aa->Prop} (l:Nat) (hf:fY c l=some (.seq .skip body)) (J:Nat->Env->aa->Prop) (dL: ∀l' ρ h,K (.goto l') ρ h->False)
 (pass: ∀n ρ h,J n ρ h->WP P body (jX l (fun ρ' h'=> ∃m,m<n/\J m ρ' h') K) ρ h) {n:Nat} {ρ:Env} {h:aa} (hJ:J n ρ h):WP P body (jX l (fun ρ' h'=> ∃m,J m ρ' h') K) ρ h:=
 (pass n ρ h hJ).mono (fun e ρ h hk=>by
   cases e with
   |goto l'=>
    simp only[jX] at hk ⊢
    split at hk
    ·rename_i hl;rw[if_pos hl];obtain⟨m,_,hm⟩:=hk;exact⟨m,hm⟩
    ·rename_i hl;rw[if_neg hl];exact hk
   |normal=>exact hk
   |exit id=>exact hk
   |ret=>exact hk)
theorem al8 {body:aZ} {K:aQ->Env->aa->Prop} {l:Nat} {J:Nat->Env->aa->Prop} (pass: ∀n ρ h,J n ρ h->WP P body (jX l (fun ρ' h'=> ∃m,m<n/\J m ρ' h') K) ρ h):
 ∀n ρ h,J n ρ h->WP P (.seq .skip body) (jX l (fun ρ' h'=> ∃m,m<n/\J m ρ' h') K) ρ h:=fun n ρ h hJ=>GD (XP (pass n ρ h hJ))
def FX:aZ->Nat->Option (List aZ×aZ)
 | .seq a b,l=>match a with
   | .label l'=>match Nat.beq l' l with
     |true=>some ([],b)
     |false=>none
   |a=>match FX b l with
    |some (i,c)=>some (a::i,c)
    |none=>none
 |_,_=>none
def L9 (l:Nat) (inits:List aZ):Bool:=inits.all fun c=>(fY c l).isNone
def j9 (inits:List aZ):aZ:=inits.foldr .seq .skip
theorem VG {l:Nat} {body:aZ}: ∀{inits:List aZ} {c:aZ},FX c l=some (inits,body)->L9 l inits=true->fY c l=some (.seq .skip body)/\c=inits.foldr .seq (.seq (.label l) body)
 |inits, .seq a b,hs,hn=>by
  unfold FX at hs
  split at hs
  ·split at hs
   ·rename_i l' hb
    cases hs
    have:=Nat.eq_of_beq_eq_true hb
    subst this
    exact⟨by simp[fY],rfl⟩
   ·cases hs
  ·rename_i aM
   split at hs
   ·rename_i i c vt
    cases hs
    simp only[L9,List.all_cons,Bool.and_eq_true] at hn
    obtain⟨h1,h2⟩:=VG (inits:=i) (c:=b) vt hn.2
    refine⟨?_,by rw[h2];rfl⟩
    simp only[fY]
    rw[Option.isNone_iff_eq_none.1 hn.1,h1]
   ·cases hs
theorem l8 {c body:aZ} {inits:List aZ} {K:aQ->Env->aa->Prop} {ρ:Env} {h:aa} (l:Nat) (hs:FX c l=some (inits,body)) (hn:L9 l inits=true) (J:Nat->Env->aa->Prop) (dL: ∀l' ρ h,K (.goto l') ρ h->False)
 (first:WP P (j9 inits) (jj (fun ρ' h'=> ∃n,J n ρ' h') K) ρ h) (pass: ∀n ρ h,J n ρ h->WP P body (jX l (fun ρ' h'=> ∃m,m<n/\J m ρ' h') K) ρ h):WP P (.scope c) K ρ h:=by
 obtain⟨hf,hc⟩:=VG hs hn
 refine ahI l hf J dL ?_ (al8 pass)
 rw[hc]
 clear hs hn hc
 induction inits generalizing ρ h with
 |nil=>
  obtain⟨n,hJ⟩:=(Zr.1 first: ∃n,J n ρ h)
  exact GD (Xa (aiR l hf J dL pass hJ))
 |cons a i ih=>
  have aoV:WP P a (jj (WP P (j9 i) (jj (fun ρ' h'=> ∃n,J n ρ' h') K)) (jj (fun ρ' h'=> ∃n,J n ρ' h') K)) ρ h:=sL.1 first
  refine GD (aoV.mono (fun e ρ h hk=>?_))
  cases e with
  |normal=>exact ih hk
  |goto l'=>exact(dL l' ρ h hk).elim
  |exit id=>exact hk
  |ret=>exact hk
theorem bu {n:Int} (h0: -(2^62)<=n) (h1:n<2^62):IntKind.wrap .i64 n=n:=by
 rw[IntKind.wrap_i64];omega
theorem qZ {n:Nat} (h1:n<2^62):IntKind.wrap .i64 (n:Int)=n:=bu (by omega) (by omega)
theorem dF {n:Nat} (h1:n<2^61):IntKind.wrap .i64 ((n:Int)+1)=((n+1:Nat):Int):=by rw[bu]<;>omega
theorem eQ {n:Nat} (h1:n<2^64):IntKind.wrap .u64 (n:Int)=n:=by
 rw[IntKind.wrap];simp[IntKind.signed,IntKind.bits];omega
end
end
section
open Go
abbrev t (n:Nat):aq:= .tmp n
abbrev z (n:Int):aq:= .const (.int .i64 n)
abbrev kb (b:Bool):aq:= .const (.bool b)
abbrev u8 (n:Int):aq:= .const (.int .u8 n)
abbrev u16 (n:Int):aq:= .const (.int .u16 n)
abbrev u64 (n:Int):aq:= .const (.int .u64 n)
abbrev p (d:Nat) (q:bd):RO:=⟨some d,none, .p q⟩
abbrev m (d s:Nat):RO:=⟨some d,none, .p (.aj (.tmp s))⟩
abbrev b (d:Nat) (op:BinOp) (x y:aq):RO:=⟨some d,none, .p (.bin false op x y)⟩
abbrev fa (d off s:Nat):RO:=⟨some d,none, .p (.zA off (.tmp s))⟩
abbrev ld (d s:Nat):RO:=⟨some d,none, .p (.load false 1 (.tmp s))⟩
abbrev la (d n s:Nat):RO:=⟨some d,none, .p (.load true n (.tmp s))⟩
abbrev ia (d n s i:Nat):RO:=⟨some d,none, .p (.gO n (.tmp s) (.tmp i))⟩
abbrev ln (d s:Nat):RO:=⟨some d,none, .p (.ix (.tmp s))⟩
abbrev ex (d i s:Nat):RO:=⟨some d,none, .p (.ext i (.tmp s))⟩
abbrev gp (d g:Nat) (w:Bool) (q:bd):RO:=⟨some d,some (g,w), .p q⟩
abbrev gm (d g:Nat) (w:Bool) (s:Nat):RO:=⟨some d,some (g,w), .p (.aj (.tmp s))⟩
abbrev gb (d g:Nat) (w:Bool) (op:BinOp) (x y:aq):RO:=⟨some d,some (g,w), .p (.bin false op x y)⟩
abbrev dc (d g:Nat) (w:Bool) (off s:Nat):RO:=⟨some d,some (g,w), .p (.zA off (.tmp s))⟩
abbrev cM (d g:Nat) (w:Bool) (s:Nat):RO:=⟨some d,some (g,w), .p (.load false 1 (.tmp s))⟩
abbrev tP (d g:Nat) (w:Bool) (n s i:Nat):RO:=⟨some d,some (g,w), .p (.gO n (.tmp s) (.tmp i))⟩
abbrev gc (d g:Nat) (w:Bool) (f:Nat) (as:List aq):RO:=⟨some d,some (g,w), .call f as⟩
abbrev s1 (a v:aq):RO:=⟨none,none, .e (.store 1 a v)⟩
abbrev sn (n:Nat) (a v:aq):RO:=⟨none,none, .e (.store n a v)⟩
abbrev c (d f:Nat) (as:List aq):RO:=⟨some d,none, .call f as⟩
abbrev c0 (f:Nat) (as:List aq):RO:=⟨none,none, .call f as⟩
abbrev e (d:Nat) (o:gn):RO:=⟨some d,none, .e o⟩
abbrev a (d:Nat) (o:jO):RO:=⟨some d,none, .a o⟩
end
section
open Go
variable {P:Program} {T:fG} {h:aa}
def mZ (z:List AV) (iW sz:Nat):az:=⟨(.seq (.af [p 2 (.aj (.const (.vs [] .full)))]) (.seq (.seq (.af [m 3 0,p 4 (.fA 1 false (t 3))]) (.cond (t 4) (.seq (.af [p 2 (.aj (.const (.vs [] .full)))]) .ret) .skip)) (.seq (.af [p 5 (.d8 0 z []),m 6 0,e 7 (.append iW sz (t 5) (t 6)),m 2 7]) .ret))),8,[.tmp 2]⟩
theorem ajt (ok:ax P T) {f iW sz:Nat} {z:List AV} (hf:T.fn f=some (mZ z iW sz)):an P f [.bA] h (.vs [] .full) h:=by
 refine ok.calls hf (by simp[mZ]) ?_
 simp+decide only[st,mZ]
theorem alV (ok:ax P T) {f iW sz:Nat} {z:List AV} (hf:T.fn f=some (mZ z iW sz)):an P f [.vz] h (.vs [] .full) h:=by
 refine ok.calls hf (by simp[mZ]) ?_
 have h0:iv (put (put (put (put (jx [AV.vz]) (some 2) (.vs [] .full)) (some 3) .vz) (some 4) (.bool false)) none .undef) z.length (List.replicate 0 z) []=some []:=rfl
 simp+decide only[st,mZ,iv,List.replicate_zero,my]
theorem an.vs0 {f:Nat} {as:List AV} {r:AV} {h':aa} (t:aG) (h1:an P f (.bA::as) h r h') (h2:an P f (.vz::as) h r h'):an P f (.vs [] t::as) h r h':=by
 intro ι I w bS H hl
 have h0:0<bS.toList.length:=by rw[<-hl.1];simp
 obtain⟨c,cs,eP⟩: ∃c cs,bS.toList=c::cs:=by
  cases hq:bS.toList with
  |nil=>rw[hq] at h0;simp at h0
  |cons c cs=>exact⟨c,cs,rfl⟩
 have hv:VR ι I w (.vs [] t) c:=hl.2 0 _ _ rfl (by rw[eP];rfl)
 have go: ∀a,VR ι I w a c->LR ι I w (a::as) bS.toList:=fun a ha=>⟨by rw[<-hl.1];rfl,fun i v u hi hu=>by
  cases i with
  |zero=>simp at hi;subst hi;rw[eP] at hu;simp at hu;subst hu;exact ha
  |succ i=>exact hl.2 (i+1) v u (by simpa using hi) hu⟩
 generalize hx:AV.vs [] t=x at hv
 cases hv<;>first|(cases hx;done)|skip
 case gr t' ht=>exact h1 ι I w bS H (go _ .bA)
 case gi t' a cap ht=>exact h2 ι I w bS H (go _ (.vz a cap))
 case vs xs t' cb o s cap g hs hI hc cV cU bw ht=>
  cases hx
  exact h2 ι I w bS H (go _ (.vz _ cap))
theorem Li (ok:ax P T) {f iW sz:Nat} {z:List AV} (hf:T.fn f=some (mZ z iW sz)) {t:aG}:an P f [.vs [] t] h (.vs [] .full) h:=
 .vs0 t (ajt ok hf) (alV ok hf)
theorem Lw (ok:ax P T) {f iW sz:Nat} {z:List AV} (hf:T.fn f=some (mZ z iW sz)) {x:AV} {rows:List (List AV)} (hx:il 1 x=some false) (hr:cP sz h x=some rows) (aM:rows≠[])
 (h1:rows.length*iW<2^40) (h2:rows.length<2^40):an P f [x] h (.vs rows (.own h.next)) (h.at h.next .tail):=by
 refine ok.calls hf (by simp[mZ]) ?_
 have ha:my iW sz h.next h (.vs [] .full) (some rows)=some (.vs rows (.own h.next),h.at h.next .tail):=by
  simp only[my,List.nil_append,List.length_nil,Nat.zero_add]
  rw[if_neg aM,if_pos ⟨rfl,h1,h2⟩]
 simp+decide only[st,mZ,iv,List.replicate_zero,hx,hr,ha]
theorem an.agL {f b off n sz:Nat} {as:List AV} {r:AV} {h':aa} (hc: ∀cap,n<=cap->an P f (.rk b off n sz cap::as) h r h'):an P f (.rs b off n sz::as) h r h':=by
 intro ι I w bS H hl
 have h0:0<bS.toList.length:=by rw[<-hl.1];simp
 obtain⟨c,cs,eP⟩: ∃c cs,bS.toList=c::cs:=by
  cases hq:bS.toList with
  |nil=>rw[hq] at h0;simp at h0
  |cons c cs=>exact⟨c,cs,rfl⟩
 have hv:VR ι I w (.rs b off n sz) c:=hl.2 0 _ _ rfl (by rw[eP];rfl)
 have go: ∀a,VR ι I w a c->LR ι I w (a::as) bS.toList:=fun a ha=>⟨by rw[<-hl.1];rfl,fun i v u hi hu=>by
  cases i with
  |zero=>simp at hi;subst hi;rw[eP] at hu;simp at hu;subst hu;exact ha
  |succ i=>exact hl.2 (i+1) v u (by simpa using hi) hu⟩
 cases hv
 rename_i cb o room cap h1 h2 h3
 exact hc cap h2 ι I w bS H (go _ (.rk b off n sz cap cb o room h1 h2 h3))
def jo (h:aa) (b:Nat) (cs:List AV):aa:=((h.set b none).clean 19).at (h.next+19) (.cells cs)
theorem an.fin {f b o0 n m c sz sz0:Nat} {a0 r0:AV} {as:List AV} {cs:List AV} {h1:aa} (j:Nat) (hc:an P f (a0::as) h r0 h1) (ha:a0= .rs b o0 n sz0\/ ∃cap,a0= .rk b o0 n sz0 cap) (hr:r0= .rs c 0 m sz\/ ∃cap,r0= .rk c 0 m sz cap)
 (hg:h1.get c=some (.cells cs)) (dt:c=b\/h.next<=c) (hn:h1.next<=h.next+19) (hk: ∀x,x<h.next->x≠b->h1.get x=h.get x):
 an P f (a0::as) h (.rs (h.next+19) 0 m sz) (jo h b (cs.take j)):=by
 intro ι I w bS H hl
 have h0:0<bS.toList.length:=by rw[<-hl.1];simp
 have Kc:VR ι I w a0 bS.toList[0]:=hl.2 0 _ _ rfl (List.getElem?_eq_getElem h0)
 have AN: ∃l,ι b=some l:=by
  generalize bS.toList[0]=c at Kc
  rcases ha with rfl|⟨cap,rfl⟩<;>(cases Kc;exact⟨_,by assumption⟩)
 obtain⟨l0,vA⟩:=AN
 refine(hc ι I w bS H hl).mono ?_
 rintro e w' ⟨v,ι',I',rfl,hv,H',E⟩
 have xe: ∃cb o room cap,ι' c=some (.cells cb o room)/\m<=cap/\0+cap*sz<=room/\v= .slice (some ⟨cb,o+0,none⟩) m cap:=by
  rcases hr with rfl|⟨cap,rfl⟩<;>(cases hv;exact⟨_,_,_,_,by assumption,by assumption,by assumption,rfl⟩)
 obtain⟨cb,o,room,cap,e1,e2,e3,rfl⟩:=xe
 obtain⟨_,_,_,xe,eY,cU,br⟩:=H'.cells c cs _ hg e1
 cases xe
 have Ku:ι' (h.next+19)=none:=by
  cases hq:ι' (h.next+19) with
  |none=>rfl
  |some l=>have:=H'.cE _ l hq;omega
 have a9: ∀x y,((h.set b none).clean 19).get x=some y->x<h.next/\x≠b/\h1.get x=some y:=fun x y hx=>by
  by_cases aC:x<h.next
  ·by_cases aM:x=b
   ·simp[aa.clean,aa.set,aM] at hx
   ·have kS:h.get x=some y:=by simpa [aa.clean,aa.set,aC,aM] using hx
    exact⟨aC,aM,by rw[hk x aC aM];exact kS⟩
  ·have mr: ¬x<(h.set b none).next:=aC
   simp[aa.clean,mr] at hx
 have gU:((h.set b none).clean 19).next=h.next+19:=rfl
 have HB:HR ι' I' ((h.set b none).clean 19) w':=H'.CL (fun i l hi=>by have:=H'.cE i l hi;omega) (fun i l x hi hx=>(a9 i x hx).2.2)
 have aB:cb<w'.heap.size:=H'.inside c _ e1
 have H3:=HB.wN (id:=h.next+19) (l:= .cells cb o room) (x:= .cells (cs.take j)) (fun l' bn=>by rw[Ku] at bn;cases bn) aB
  ⟨by simp;omega,fun v hv=>cU v (List.mem_of_mem_take hv),fun j' hj=>(by
    obtain⟨u,g1,g2,g3⟩:=br j' hj
    refine⟨u,g1,g2,fun v hv=>g3 v ?_⟩
    rw[List.getElem?_take] at hv
    split at hv
    ·exact hv
    ·cases hv),H'.pl c cs cb o room hg e1⟩
  (fun k' j' bn=>⟨fun⟨i,l',y,hi,dZ,iT⟩=>by
    obtain⟨q1,q2,q3⟩:=a9 i y dZ
    exact H'.dz i c l' _ y _ k' j' (by omega) hi e1 q3 hg iT bn,H'.bB c _ _ k' j' e1 hg bn⟩)
 refine⟨_,_,I',rfl,?_,H3,?_⟩
 ·exact .rs (h.next+19) 0 m sz cb o room cap (aF.gq _ _ _) e2 e3
 ·refine{eZ:=fun i hi=>?_,bN:=fun i l hi=>?_,next:=by simp[jo,aa.at,aa.set,aa.clean];omega,bB:=E.bB,os:=E.os,tape:=E.tape,output:=E.output,size:=E.size,block:=E.block,cell:=E.cell,frozen:=E.frozen,own:=?_,gw:=E.gw,lost:=?_}
  ·rw[aF.fk _ _ (by omega)];exact E.eZ i hi
  ·have:=E.bN i l hi
   rw[aF.fk _ _ (fun he=>by rw[he,Ku] at this;cases this)];exact this
  ·rintro k' j' ⟨i,l,x,hi,dZ,bn⟩
   by_cases ij:i=h.next+19
   ·subst ij;rw[aF.gq] at hi;cases hi
    exact E.own k' j' ⟨c,_,_,e1,hg,bn⟩
   ·rw[aF.fk _ _ ij] at hi
    have Ep:((h.set b none).clean 19).get i=some x:=by simpa [jo,aa.at,ij] using dZ
    exact E.own k' j' ⟨i,l,x,hi,(a9 i x Ep).2.2,bn⟩
  ·intro i hi u2
   have qx:i≠b:=fun he=>by rw[he,vA] at u2;cases u2
   have hih: ¬i=h.next+19:=by omega
   have aC:i<h.next:=by omega
   simp[jo,aa.at,aa.clean,aa.set,hih,qx,aC]
theorem bU {al:List RO} {un:List (List Nat)} {K:aQ->Env->aa->Prop} {ρ:Env} (n:Nat) (hn:al.length=n) (hu:un.all (·.isEmpty)=true) (he:bQ P n h.next al 0 ρ (h.clean n) (K .normal)):WP P (.ba al un) K ρ h:=by
 subst hn
 exact GC hu he
end
end Go.Proofs.YtljapedlkdfafaaGreat.Am
