/- An abstract machine, and that what it does the program's model does. Conditions: none. -/
import Derived.Test.YtljapedlkdfafaaGreatPa
set_option maxRecDepth 100000
set_option maxHeartbeats 8000000
set_option linter.unusedSimpArgs false
set_option linter.unusedVariables false
set_option linter.unnecessarySimpa false
namespace Go.Proofs.YtljapedlkdfafaaGreat.Am
section
open Go
section
variable {P:Program} {md:Mode} {ι:aG} {I:aQ} {h:aa} {w:World}
theorem ajG {dst:Option Nat} {op:Op} {r:b7} (hc:rO P md dst op=some r) (hr:(∃f as,r= .call f as)\/ ∃x as,r= .dyn x as):
 ∃c x,op= .call c/\c.callee= .value x/\
  ((∃f as,r= .call f as/\x= .func f/\cj P f=true/\mo md.pr c.args.toList=some as)\/
   ∃ox as,r= .dyn ox as/\bk md.pr x=some ox/\mo md.pr c.args.toList=some as):=by
 have hn: ∀q,r= .p q->False:=by rintro q rfl;rcases hr with⟨_,_,h⟩|⟨_,_,h⟩<;>cases h
 have iJ: ∀q,r= .a q->False:=by rintro q rfl;rcases hr with⟨_,_,h⟩|⟨_,_,h⟩<;>cases h
 have aM: ∀q,r= .e q->False:=by rintro q rfl;rcases hr with⟨_,_,h⟩|⟨_,_,h⟩<;>cases h
 unfold rO at hc
 split at hc
 case h_25 c=>
  split at hc
  ·rename_i f hf
   split at hc
   ·rename_i w7
    simp only[Option.bind_eq_bind,Option.bind_eq_some_iff] at hc
    obtain⟨as,has,hc⟩:=hc
    cases hc
    exact⟨c,_,rfl,hf, .inl ⟨f,as,rfl,rfl,w7,has⟩⟩
   ·cases hc
  ·rename_i x pj hx
   simp only[Option.bind_eq_bind,Option.bind_eq_some_iff] at hc
   obtain⟨ox,bq,as,has,hc⟩:=hc
   cases hc
   exact⟨c,x,rfl,hx, .inr ⟨ox,as,rfl,bq,has⟩⟩
  ·rename_i b hb
   exfalso
   unfold wg at hc
   split at hc<;>try simp only[Option.bind_eq_bind,Option.bind_eq_some_iff] at hc
   ·obtain⟨_,_,_,_,hc⟩:=hc;split at hc<;>first|(exact hn _ (Option.some.inj hc).symm)|(cases hc)
   ·obtain⟨_,_,_,_,_,_,_,_,hc⟩:=hc
    split at hc
    ·simp only[Option.bind_eq_some_iff] at hc
     obtain⟨_,_,_,_,hc⟩:=hc
     split at hc
     ·split at hc<;>exact aM _ (Option.some.inj hc).symm
     ·cases hc
    ·cases hc
   ·obtain⟨_,_,_,_,_,_,_,_,hc⟩:=hc
    split at hc
    ·simp only[Option.bind_eq_some_iff] at hc;obtain⟨_,_,hc⟩:=hc;exact aM _ (Option.some.inj hc).symm
    ·cases hc
   ·obtain⟨_,_,_,_,_,_,hc⟩:=hc
    split at hc
    ·simp only[Option.bind_eq_some_iff] at hc;obtain⟨_,_,hc⟩:=hc;split at hc<;>first|(exact aM _ (Option.some.inj hc).symm)|(cases hc)
    ·cases hc
   ·obtain⟨_,_,_,_,hc⟩:=hc;exact hn _ (Option.some.inj hc).symm
   ·obtain⟨_,_,_,_,hc⟩:=hc;exact hn _ (Option.some.inj hc).symm
   ·obtain⟨_,_,hc⟩:=hc;exact hn _ (Option.some.inj hc).symm
   ·obtain⟨_,_,hc⟩:=hc;exact hn _ (Option.some.inj hc).symm
   ·cases hc
  ·cases hc
 all_goals exfalso
 case h_7 t n parts=>
  simp only[Option.bind_eq_bind,Option.bind_eq_some_iff] at hc
  obtain⟨d,hd,hc⟩:=hc
  split at hc
  ·simp only[Option.bind_eq_some_iff] at hc
   obtain⟨_,_,_,_,hc⟩:=hc
   split at hc
   ·split at hc<;>first|(exact hn _ (Option.some.inj hc).symm)|(exact iJ _ (Option.some.inj hc).symm)
   ·cases hc
  ·cases hc
 case h_13 src TJ x=>
  simp only[Option.bind_eq_bind,Option.bind_eq_some_iff] at hc
  obtain⟨ox,bq,ds,vN,dd,pt,hc⟩:=hc
  split at hc
  ·first|(exact hn _ (Option.some.inj hc).symm)|(exact aM _ (Option.some.inj hc).symm)|(cases hc;done)
  ·simp only[Option.bind_eq_some_iff] at hc
   obtain⟨de,lY,hc⟩:=hc
   split at hc<;>first|(exact hn _ (Option.some.inj hc).symm)|(exact aM _ (Option.some.inj hc).symm)|(cases hc;done)
  ·simp only[Option.bind_eq_some_iff] at hc
   obtain⟨de,lY,hc⟩:=hc
   split at hc<;>first|(exact hn _ (Option.some.inj hc).symm)|(exact aM _ (Option.some.inj hc).symm)|(cases hc;done)
  ·simp only[Option.bind_eq_some_iff] at hc
   obtain⟨de,lY,hc⟩:=hc
   split at hc
   ·split at hc<;>first|(exact hn _ (Option.some.inj hc).symm)|(exact aM _ (Option.some.inj hc).symm)|(cases hc;done)
   ·cases hc
  ·cases hc
 case h_16 t l c=>
  simp only[Option.bind_eq_bind,Option.bind_eq_some_iff] at hc
  obtain⟨d,hd,hc⟩:=hc
  split at hc
  ·simp only[Option.bind_eq_some_iff] at hc
   obtain⟨_,_,_,_,hc⟩:=hc
   split at hc
   ·simp only[Option.bind_eq_some_iff] at hc
    obtain⟨_,_,_,_,hc⟩:=hc
    split at hc<;>first|(exact hn _ (Option.some.inj hc).symm)|(exact iJ _ (Option.some.inj hc).symm)
   ·cases hc
  ·cases hc
 all_goals (first
  |(first|(exact hn _ (Option.some.inj hc).symm)|(exact iJ _ (Option.some.inj hc).symm)|(exact aM _ (Option.some.inj hc).symm)|(cases hc;done))
  |(simp only[Option.bind_eq_bind,Option.bind_eq_some_iff] at hc
    first
    |(obtain⟨_,_,hc⟩:=hc;first|(exact hn _ (Option.some.inj hc).symm)|(exact iJ _ (Option.some.inj hc).symm)|(exact aM _ (Option.some.inj hc).symm)|(cases hc;done))
    |(obtain⟨_,_,_,_,hc⟩:=hc;first|(exact hn _ (Option.some.inj hc).symm)|(exact iJ _ (Option.some.inj hc).symm)|(exact aM _ (Option.some.inj hc).symm)|(cases hc;done))
    |(obtain⟨_,_,_,_,_,_,hc⟩:=hc;first|(exact hn _ (Option.some.inj hc).symm)|(exact iJ _ (Option.some.inj hc).symm)|(exact aM _ (Option.some.inj hc).symm)|(cases hc;done))
    |(obtain⟨_,_,hc⟩:=hc
      split at hc<;>first
       |(first|(exact hn _ (Option.some.inj hc).symm)|(exact iJ _ (Option.some.inj hc).symm)|(exact aM _ (Option.some.inj hc).symm)|(cases hc;done))
       |(simp only[Option.bind_eq_some_iff] at hc
         first
         |(obtain⟨_,_,_,_,_,_,hc⟩:=hc;first|(exact hn _ (Option.some.inj hc).symm)|(exact iJ _ (Option.some.inj hc).symm)|(exact aM _ (Option.some.inj hc).symm)|(cases hc;done))
         |(obtain⟨_,_,_,_,_,_,_,_,hc⟩:=hc;first|(exact hn _ (Option.some.inj hc).symm)|(exact iJ _ (Option.some.inj hc).symm)|(exact aM _ (Option.some.inj hc).symm)|(cases hc;done))
         |(obtain⟨_,_,_,_,_,_,_,_,_,_,hc⟩:=hc;first|(exact hn _ (Option.some.inj hc).symm)|(exact iJ _ (Option.some.inj hc).symm)|(exact aM _ (Option.some.inj hc).symm)|(cases hc;done))
         |(obtain⟨_,_,_,_,hc⟩:=hc;first|(exact hn _ (Option.some.inj hc).symm)|(exact iJ _ (Option.some.inj hc).symm)|(exact aM _ (Option.some.inj hc).symm)|(cases hc;done))
         |(obtain⟨_,_,_,_,hc⟩:=hc
           split at hc
           ·simp only[Option.bind_eq_some_iff] at hc;obtain⟨_,_,hc⟩:=hc;first|(exact hn _ (Option.some.inj hc).symm)|(exact iJ _ (Option.some.inj hc).symm)|(exact aM _ (Option.some.inj hc).symm)
           ·first|(exact hn _ (Option.some.inj hc).symm)|(exact iJ _ (Option.some.inj hc).symm)|(exact aM _ (Option.some.inj hc).symm)|(cases hc))
         |(obtain⟨_,_,hc⟩:=hc
           split at hc<;>first
            |(first|(exact hn _ (Option.some.inj hc).symm)|(exact iJ _ (Option.some.inj hc).symm)|(exact aM _ (Option.some.inj hc).symm)|(cases hc;done))
            |(simp only[Option.bind_eq_some_iff] at hc
              first
              |(obtain⟨_,_,_,_,_,_,_,_,_,_,hc⟩:=hc;first|(exact hn _ (Option.some.inj hc).symm)|(exact iJ _ (Option.some.inj hc).symm)|(exact aM _ (Option.some.inj hc).symm)|(cases hc;done))
              |(obtain⟨_,_,_,_,_,_,hc⟩:=hc;first|(exact hn _ (Option.some.inj hc).symm)|(exact iJ _ (Option.some.inj hc).symm)|(exact aM _ (Option.some.inj hc).symm)|(cases hc;done))))))
    |(obtain⟨_,_,_,_,_,_,hc⟩:=hc
      split at hc<;>first
       |(first|(exact hn _ (Option.some.inj hc).symm)|(exact iJ _ (Option.some.inj hc).symm)|(exact aM _ (Option.some.inj hc).symm)|(cases hc;done))
       |(simp only[Option.bind_eq_some_iff] at hc
         obtain⟨_,_,hc⟩:=hc
         split at hc<;>first|(exact hn _ (Option.some.inj hc).symm)|(exact iJ _ (Option.some.inj hc).symm)|(exact aM _ (Option.some.inj hc).symm)|(cases hc)))
    |(obtain⟨_,_,_,_,hc⟩:=hc
      split at hc
      ·simp only[Option.bind_eq_some_iff] at hc;obtain⟨_,_,_,_,hc⟩:=hc;first|(exact hn _ (Option.some.inj hc).symm)|(exact iJ _ (Option.some.inj hc).symm)|(exact aM _ (Option.some.inj hc).symm)
      ·first|(exact hn _ (Option.some.inj hc).symm)|(exact iJ _ (Option.some.inj hc).symm)|(exact aM _ (Option.some.inj hc).symm)|(cases hc))))
theorem XO {dst:Option Nat} {op:Op} {r:b7} (hc:sA P md dst op=some r) (hr:(∃f as,r= .call f as)\/ ∃x as,r= .dyn x as):
 ∃c x,op= .call c/\c.callee= .value x/\
  ((∃f as,r= .call f as/\x= .func f/\cj P f=true/\mo md.pr c.args.toList=some as)\/
   ∃ox as,r= .dyn ox as/\bk md.pr x=some ox/\mo md.pr c.args.toList=some as):=by
 rcases Gn hc with h1|h1|h1
 ·exfalso
  rcases L4 h1 with⟨q,rfl⟩|⟨c,b',-,-,hk⟩
  ·rcases hr with⟨_,_,h⟩|⟨_,_,h⟩<;>cases h
  ·rcases Gz hk with⟨_,_,_,_,_,_,_,_,_,_,_,_,_,_,_,_,_,_,_,_,rfl⟩|⟨_,_,_,_,_,_,_,_,_,rfl⟩|⟨_,_,_,_,_,_,_,_,_,_,_,_,rfl⟩|⟨_,_,_,_,_,_,_,_,_,_,_,_,_,_,_,rfl⟩<;>(rcases hr with⟨_,_,h⟩|⟨_,_,h⟩<;>cases h)
 ·exact ajG h1 hr
 ·subst h1;rcases hr with⟨_,_,h⟩|⟨_,_,h⟩<;>cases h
theorem VV {f:Nat} (hf:cj P f=true) (args:Array Value) (w:World):(callFunc f args).run P w= .ok (.enter f args) w:=by
 unfold cj at hf
 split at hf
 ·rename_i fn iV
  simp only[Bool.and_eq_true,bne_iff_ne,ne_eq] at hf
  obtain⟨h1,h2⟩:=hf
  obtain⟨c,du⟩:=Option.isSome_iff_exists.1 h2
  simp[callFunc,iV,h1,du]
 ·cases hf
theorem al5 {n:Nat} {ρ:Env} {a:Act} (A:AR ι I w n ρ a) {o:Oper} {f:Nat} {as:List aq} (hc:sA P md o.dst o.op=some (.call f as)):
 ∃bC:Array Value,(execOp a.eval o).run P w= .ok (.enter f bC) w/\LR ι I w (as.map (aq.ev ρ)) bC.toList:=by
 obtain⟨dst,op,ty,pos,after,guard⟩:=o
 obtain⟨c,x,rfl,hx,⟨f',as',h1,rfl,w7,has⟩|⟨_,_,h1,_,_⟩⟩:=XO hc (.inl ⟨f,as,rfl⟩)
 ·cases h1
  refine⟨c.args.map a.eval,?_,by have:=v9 A has;simpa using this⟩
  simp only[execOp,resolve,hx,Act.eval,Deferred.ofValue,Sem.run_bind,Sem.run_pure,Result.andThen_ok,invoke]
  have:=VV w7 (#[]++Array.map (Act.eval a) c.args++ #[]) w
  simpa using this
 ·cases h1
theorem am1 {n:Nat} {ρ:Env} {a:Act} (A:AR ι I w n ρ a) {o:Oper} {x:aq} {as:List aq} (hc:sA P md o.dst o.op=some (.dyn x as)) {f:Nat} {fs cs:List AV} (hx:x.ev ρ= .fn f fs cs) (hf:cj P f=true):
 ∃bC:Array Value,(execOp a.eval o).run P w= .ok (.enter f bC) w/\LR ι I w (fs++as.map (aq.ev ρ)++cs) bC.toList:=by
 obtain⟨dst,op,ty,pos,after,guard⟩:=o
 obtain⟨c,y,rfl,hy,⟨_,_,h1,_,_,_⟩|⟨ox,as',h1,bq,has⟩⟩:=XO hc (.inr ⟨x,as,rfl⟩)
 ·cases h1
 ·cases h1
  have hv:VR ι I w (x.ev ρ) (a.eval y):=bK A bq
  rw[hx] at hv
  generalize hey:a.eval y=cy at hv
  cases hv
  rename_i eF bF ej vF eV jr
  refine⟨eF.toArray++c.args.map a.eval++bF.toArray,?_,?_⟩
  ·simp only[execOp,resolve,hy,hey,Deferred.ofValue,Sem.run_bind,Sem.run_pure,Result.andThen_ok,invoke]
   exact VV hf _ w
  ·have h2:=v9 A has
   have h3:=(LR.append (show LR ι I w fs eF from⟨ej,vF⟩) h2).append (show LR ι I w cs bF from⟨eV,jr⟩)
   simpa using h3
end
end
section
open Go
def an (P:Program) (f:Nat) (args:List AV) (h:aa) (r:AV) (h':aa):Prop:=
 ∀(ι:aG) (I:aQ) (w:World) (bC:Array Value),HR ι I h w->LR ι I w args bC.toList->
  Calls P f bC w fun e w'=> ∃v ι' I',e= .returned v/\VR ι' I' w' r v/\HR ι' I' h' w'/\Ext (h.next<= ·) ι I h w ι' I' h' w'
def b8 (o:RO) (ρ:Env):Option Bool:=
 match o.guard with
 |none=>some true
 |some (g,b)=>match ρ g with
  | .bool c=>some (c==b)
  | .ay []=>some false
  |_=>none
def gE (P:Program) (op:b7) (id:Nat) (ρ:Env) (h:aa) (v:AV) (h':aa):Prop:=
 match op with
 | .p q=>aX q ρ h=some v/\h'=h
 | .a q=> ∃b,gV q ρ id=some (b,v)/\h'=h.at id b
 | .e q=>bR q ρ id h=some (v,h')
 | .call f as=>an P f (as.map (aq.ev ρ)) h v h'
 | .dyn x as=> ∃f fs cs,x.ev ρ= .fn f fs cs/\cj P f=true/\an P f (fs++as.map (aq.ev ρ)++cs) h v h'
def bz (P:Program) (o:RO) (id:Nat) (ρ:Env) (h:aa) (r:Option AV) (h':aa):Prop:=
 match b8 o ρ with
 |some true=> ∃v,r=some v/\gE P o.op id ρ h v h'
 |some false=>r=none/\h'=h
 |none=>False
def gf (r:Option AV):AV:=r.getD (.ay [])
def exec (P:Program):List RO->Env->aa->(Env->aa->Prop)->Prop
 |[],ρ,h,K=>K ρ h
 |o::os,ρ,h,K=> ∃r h',bz P o h.next ρ h r h'/\exec P os (put ρ o.dst (gf r)) h' K
section
variable {P:Program} {md:Mode} {ι:aG} {I:aQ} {h:aa} {w:World}
theorem AR.put {n:Nat} {ρ:Env} {a:Act} (A:AR ι I w n ρ a) {d:Option Nat} {v:AV} {c:Value} (hd: ∀x,d=some x->x<n) (hv:VR ι I w v c):AR ι I w n (put ρ d v) (a.put d c):=by
 cases d with
 |none=>exact A
 |some d=>
  have Fm:=hd d rfl
  refine⟨A.defers,by simp[Act.put,A.size],fun t=>?_⟩
  simp only[Am.put,Act.put]
  by_cases ht:t=d
  ·subst ht
   simp only[if_true]
   have:(a.tmps.setIfInBounds t c).getD t Go.undef=c:=by simp[Array.getD,A.size,Fm]
   rw[this];exact hv
  ·simp only[ht,if_false]
   have:(a.tmps.setIfInBounds d c).getD t Go.undef=a.tmps.getD t Go.undef:=by
    simp only[Array.getD_eq_getD_getElem?,Array.getElem?_setIfInBounds_ne (Ne.symm ht)]
   rw[this];exact A.get t
theorem LN:VR ι I w (.ay []) Go.undef:= .ay [] [] rfl (fun i v c h=>by simp at h)
theorem XN {n:Nat} {ops:Array Oper} {o:Oper} {ro:RO} (hc:tX P md n ops o=some ro):sA P md o.dst o.op=some ro.op/\ro.dst=o.dst/\(∀x,o.dst=some x->x<n)/\
 (match o.guard with|none=>ro.guard=none|some (j,Aa)=> ∃d,(ops[j]?).bind (·.dst)=some d/\ro.guard=some (d,Aa)):=by
 simp only[tX,Option.bind_eq_some_iff] at hc
 obtain⟨op,bS,g,hg,hc⟩:=hc
 split at hc
 ·rename_i hd
  cases hc
  refine⟨bS,rfl,?_,?_⟩
  ·intro x hx
   rw[hx] at hd
   simpa [acU] using hd
  ·cases kA:o.guard with
   |none=>simp[kA,MK] at hg ⊢;exact hg.symm
   |some p=>
    obtain⟨j,Aa⟩:=p
    simp only[kA,MK,Option.map_eq_some_iff] at hg ⊢
    obtain⟨d,hd1,hg⟩:=hg
    exact⟨d,hd1,hg.symm⟩
 ·cases hc
theorem Xx {n:Nat} {ρ:Env} {a:Act} (A:AR ι I w n ρ a) {ops:Array Oper} {o:Oper} {ro:RO} (hc:tX P md n ops o=some ro) {b:Bool} (hg:b8 ro ρ=some b):Region.wanted o (yielded ops a.tmps)=b:=by
 obtain⟨_,_,_,kA⟩:=XN hc
 unfold Region.wanted
 cases hog:o.guard with
 |none=>
  rw[hog] at kA
  simp[b8,kA] at hg
  simp[hg]
 |some p=>
  obtain⟨j,Aa⟩:=p
  rw[hog] at kA
  obtain⟨d,hd,kA⟩:=kA
  simp only[b8,kA] at hg
  have hv:=A.get d
  simp only[yielded,hd,Option.bind_some]
  split at hg
  ·rename_i c hρ
   rw[hρ] at hv
   cases hg
   have:a.tmps[d]? =some (.bool c):=by
    generalize hq:a.tmps.getD d Go.undef=u at hv
    cases hv
    cases hx:a.tmps[d]? with
    |none=>simp[Array.getD_eq_getD_getElem?,hx,Go.undef] at hq
    |some y=>simp[Array.getD_eq_getD_getElem?,hx] at hq;rw[hq]
   simp only[this]
   cases c<;>cases Aa<;>rfl
  ·rename_i hρ
   rw[hρ] at hv
   cases hg
   generalize hq:a.tmps.getD d Go.undef=u at hv
   cases hv
   rename_i bF hl gr
   cases hx:a.tmps[d]? with
   |none=>rfl
   |some y=>
    simp[Array.getD_eq_getD_getElem?,hx] at hq
    rw[hq]
    rfl
  ·cases hg
theorem Lm (H:HR ι I h w) {n:Nat} {ρ:Env} {a:Act} (A:AR ι I w n ρ a) {ops:Array Oper} {o:Oper} {ro:RO} (hc:tX P md n ops o=some ro) {id:Nat} (aL:ι id=none)
 {r:Option AV} {h':aa} (hs:bz P ro id ρ h r h') {K:Act->World->Prop} {Q:Exit->Act->World->Prop}
 (hK: ∀a' w' ι' I',AR ι' I' w' n (put ρ ro.dst (gf r)) a'->HR ι' I' h' w'->Ext (fun b=>b=id\/h.next<=b) ι I h w ι' I' h' w'->K a' w'):
 if Region.wanted o (yielded ops a.tmps) then o.wp P a w K Q\/(o.asks P a w/\LetsOut Q) else K (a.put o.dst Go.undef) w:=by
 obtain⟨bS,Ag,Fm,_⟩:=XN hc
 unfold bz at hs
 split at hs
 ·rename_i hg
  obtain⟨v,rfl,bW⟩:=hs
  rw[Xx A hc hg]
  simp only[if_true]
  left
  unfold Oper.wp
  have fu: ∀c w' ι' I',VR ι' I' w' v c->HR ι' I' h' w'->Ext (fun b=>b=id\/h.next<=b) ι I h w ι' I' h' w'->K (a.put o.dst c) w':=by
   intro c w' ι' I' hv H' E
   refine hK _ w' ι' I' ?_ H' E
   rw[Ag]
   exact(A.mono (fun x v=>E.vr H)).put Fm hv
  unfold gE at bW
  split at bW
  ·rename_i q hq
   obtain⟨hv,rfl⟩:=bW
   rw[hq] at bS
   obtain⟨c,w',I',hr,gM,H',E⟩:=atb H A bS hv
   rw[hr]
   exact fu c w' ι I' gM H' (E.mono (fun _ h=>h.elim))
  ·rename_i q hq
   obtain⟨b,hv,rfl⟩:=bW
   rw[hq] at bS
   obtain⟨x,c,w',ι',I',hr,hx,gM,H',E⟩:=atd H A aL bS hv
   rw[hr]
   rcases hx with rfl|⟨rfl,rfl⟩
   ·exact fu c w' ι' I' gM H' (E.mono (fun _ h=> .inl h))
   ·exact fu _ w' ι' I' (.undef _) H' (E.mono (fun _ h=> .inl h))
  ·rename_i q hq
   rw[hq] at bS
   obtain⟨x,c,w',ι',I',hr,hx,gM,H',E⟩:=atc H A aL bS bW
   rw[hr]
   rcases hx with rfl|⟨rfl,rfl⟩
   ·exact fu c w' ι' I' gM H' (E.mono (fun _ h=> .inl h))
   ·exact fu _ w' ι' I' (.undef _) H' (E.mono (fun _ h=> .inl h))
  ·rename_i f as hq
   rw[hq] at bS
   obtain⟨bC,hr,hl⟩:=al5 A bS
   rw[hr]
   refine(bW ι I w bC H hl).mono ?_
   rintro e w' ⟨v',ι',I',rfl,gM,H',E⟩
   exact fu v' w' ι' I' gM H' (E.mono (fun _ h=> .inr h))
  ·rename_i x as hq
   rw[hq] at bS
   obtain⟨f,fs,cs,hx,w7,bW⟩:=bW
   obtain⟨bC,hr,hl⟩:=am1 A bS hx w7
   rw[hr]
   refine(bW ι I w bC H hl).mono ?_
   rintro e w' ⟨v',ι',I',rfl,gM,H',E⟩
   exact fu v' w' ι' I' gM H' (E.mono (fun _ h=> .inr h))
 ·rename_i hg
  obtain⟨rfl,rfl⟩:=hs
  rw[Xx A hc hg]
  simp only[Bool.false_eq_true,if_false]
  refine hK _ w ι I ?_ H (.refl _ _ _ _ _)
  rw[Ag]
  exact A.put Fm LN
 ·exact hs.elim
theorem L5 {n:Nat} {ops:Array Oper}: ∀{os:List Oper} {al:List RO},tj P md n ops os=some al->os.length=al.length/\ ∀(i:Nat) (o:Oper) (ro:RO),os[i]? =some o->al[i]? =some ro->tX P md n ops o=some ro
 |[],al,hc=>by simp[tj] at hc;subst hc;exact⟨rfl,fun i o ro h=>by simp at h⟩
 |o::os,al,hc=>by
  simp only[tj] at hc
  split at hc
  ·rename_i ro l h1 h2
   cases hc
   obtain⟨e1,e2⟩:=L5 h2
   refine⟨by simp[e1],fun i o' Uo h3 h4=>?_⟩
   cases i with
   |zero=>simp at h3 h4;subst h3;subst h4;exact h1
   |succ i=>exact e2 i o' Uo (by simpa using h3) (by simpa using h4)
  ·cases hc
theorem W9 {n:Nat} {ops:Array Oper} {Q:Exit->Act->World->Prop} {K:Env->aa->Prop}: ∀(al:List RO) (k:Nat) {ι:aG} {I:aQ} {h:aa} {w:World} {ρ:Env} {a:Act},HR ι I h w->AR ι I w n ρ a->
 (∀i ro,al[i]? =some ro-> ∃o,ops[k+i]? =some o/\tX P md n ops o=some ro)->exec P al ρ h K->
 (∀ρ' h' a' w' ι' I',K ρ' h'->AR ι' I' w' n ρ' a'->HR ι' I' h' w'->Ext (h.next<= ·) ι I h w ι' I' h' w'->Q .normal a' w')->
 wpOps P ops Q (List.range' k al.length) a w
 |[],k,ι,I,h,w,ρ,a,H,A,_,he,hQ=>by
  simp only[List.length_nil,List.range'_zero,wpOps]
  exact hQ ρ h a w ι I he A H (.refl _ _ _ _ _)
 |ro::al,k,ι,I,h,w,ρ,a,H,A,hco,he,hQ=>by
  obtain⟨r,h',hs,dI⟩:=he
  obtain⟨o,ho,hc⟩:=hco 0 ro rfl
  simp only[List.length_cons,List.range'_succ,wpOps]
  rw[Nat.add_zero] at ho
  rw[ho]
  simp only[]
  have aL:ι h.next=none:=by
   cases hq:ι h.next with
   |none=>rfl
   |some l=>have:=H.cD _ _ hq;omega
  refine Lm (Q:=Q) H A hc aL hs ?_
  intro a' w' ι' I' A' H' E
  have E':Ext (h.next<= ·) ι I h w ι' I' h' w':=E.mono (fun b hb=>by rcases hb with rfl|hb;exact Nat.le_refl _;exact hb)
  refine W9 al (k+1) H' A' (fun i Uo hi=>?_) dI ?_
  ·obtain⟨o',ei,cR⟩:=hco (i+1) Uo (by simpa using hi)
   exact⟨o',by rw[show k+1+i=k+(i+1) by omega];exact ei,cR⟩
  ·intro ρ2 h2 a2 w2 ι2 I2 hK A2 H2 E2
   exact hQ ρ2 h2 a2 w2 ι2 I2 hK A2 H2 (E'.trans E2 (fun b hb=>Nat.le_trans E'.next hb))
end
end
section
open Go
section
variable {P:Program} {md:Mode} {ι:aG} {I:aQ} {h:aa} {w:World}
theorem HR.CO (H:HR ι I h w) {h':aa} (fu: ∀b l,ι b=some l->b<h'.next) (dc: ∀b l x,ι b=some l->h'.get b=some x->h.get b=some x):HR ι I h' w where
 cD:=fu
 inside:=H.inside
 cells b cs l hg hb:=H.cells b cs l (dc b l _ hb hg) hb
 maps b es l hg hb:=H.maps b es l (dc b l _ hb hg) hb
 eQ b l hg hb:=H.eQ b l (dc b l _ hb hg) hb
 dm b b' l l' x x' k j aM hb bE hg cC:=H.dm b b' l l' x x' k j aM hb bE (dc b l x hb hg) (dc b' l' x' bE cC)
 bn b l x k j hb hg:=H.bn b l x k j hb (dc b l x hb hg)
 dg:=H.dg
 pl b cs cb o room hg hb:=H.pl b cs cb o room (dc b _ _ hb hg) hb
theorem HR.join {N:Nat->Prop} {ι':aG} {I':aQ} {g0 g J:aa} {w':World} (H:HR ι I h w) (G:HR ι' I' g w') (E:Ext N ι I g0 w ι' I' g w')
 (h0: ∀b l x,ι b=some l->g0.get b=some x->h.get b=some x)
 (fu:g.next<=J.next)
 (hJ: ∀b x,J.get b=some x->g.get b=some x\/(h.get b=some x/\g0.get b=none/\ ∃l,ι b=some l)\/ι' b=none):HR ι' I' J w':=by
 have cq: ∀a v,VR ι I w a v->VR ι' I' w' a v:=fun a v hv=>hv.mono E.bN E.bn (fun k j hk=>E.cell k j (H.dg k j hk) (fun⟨b,l,x,hb,hg,hl⟩=>H.bn b l x k j hb (h0 b l x hb hg) hl hk))
 have rK: ∀b l x k j,ι b=some l->h.get b=some x->g0.get b=none->l.has k j-> ¬ew ι g0 k j:=by
  rintro b l x k j hb hg hn hl ⟨b',l',x',bE,cC,br⟩
  by_cases kU:b'=b
  ·subst kU;rw[hn] at cC;cases cC
  ·exact H.dm b' b l' l x' x k j kU bE hb (h0 b' l' x' bE cC) hg br hl
 have aD: ∀b l k j,ι b=some l->l.has k j->k<w.heap.size:=fun b l k j hb hl=>by rw[Loc.v8 hl];exact H.inside b l hb
 have key: ∀b l x,ι' b=some l->J.get b=some x->g.get b=some x\/(h.get b=some x/\g0.get b=none/\ι b=some l):=by
  intro b l x hb hg
  rcases hJ b x hg with h1|⟨h1,h2,l',h3⟩|h1
  ·exact .inl h1
  ·have:=E.bN b l' h3
   rw[hb] at this
   cases this
   exact .inr ⟨h1,h2,h3⟩
  ·rw[hb] at h1;cases h1
 refine{cD:=fun b l hb=>Nat.lt_of_lt_of_le (G.cD b l hb) fu,inside:=G.inside,cells:=?_,maps:=?_,eQ:=?_,dm:=?_,bn:=?_,dg:=G.dg
        pl:=fun b cs cb o room hg hb n=>by
         rcases key b _ _ hb hg with h1|⟨h1,h2,h3⟩
         ·exact G.pl b cs cb o room h1 hb n
         ·rw[E.frozen cb n (H.inside b _ h3) (rK b _ _ cb n h3 h1 h2 rfl)];exact H.pl b cs cb o room h1 h3 n}
 ·intro b cs l hg hb
  rcases key b l _ hb hg with h1|⟨h1,h2,h3⟩
  ·exact G.cells b cs l h1 hb
  ·obtain⟨cb,o,room,rfl,hle,cS,hc⟩:=H.cells b cs l h1 h3
   have aE:cb<w.heap.size:=H.inside b _ h3
   refine⟨cb,o,room,rfl,hle,cS,fun j hj=>?_⟩
   obtain⟨c,bj,a9,fp⟩:=hc j hj
   exact⟨c,by rw[E.cell _ _ aE (rK b _ _ cb (o+j) h3 h1 h2 rfl)];exact bj,by rw[E.frozen _ _ aE (rK b _ _ cb (o+j) h3 h1 h2 rfl)];exact a9,fun v hv=>cq _ _ (fp v hv)⟩
 ·intro b es l hg hb
  rcases key b l _ hb hg with h1|⟨h1,h2,h3⟩
  ·exact G.maps b es l h1 hb
  ·obtain⟨cb,aV,clock,rfl,hm,br,hv⟩:=H.maps b es l h1 h3
   have aE:cb<w.heap.size:=H.inside b _ h3
   exact⟨cb,aV,clock,rfl,by rw[E.block cb aE (fun j=>rK b _ _ cb j h3 h1 h2 rfl)];exact hm,br,fun i k v e e1 e2=>⟨cq _ _ (hv i k v e e1 e2).1,cq _ _ (hv i k v e e1 e2).2⟩⟩
 ·intro b l hg hb
  rcases key b l _ hb hg with h1|⟨h1,h2,h3⟩
  ·exact G.eQ b l h1 hb
  ·obtain⟨cb,lo,hi,rfl,hc⟩:=H.eQ b l h1 h3
   have aE:cb<w.heap.size:=H.inside b _ h3
   refine⟨cb,lo,hi,rfl,fun j e1 e2=>?_⟩
   obtain⟨c,bj,a9⟩:=hc j e1 e2
   exact⟨c,by rw[E.cell _ _ aE (rK b _ _ cb j h3 h1 h2 ⟨rfl,e1,e2⟩)];exact bj,by rw[E.frozen _ _ aE (rK b _ _ cb j h3 h1 h2 ⟨rfl,e1,e2⟩)];exact a9⟩
 ·intro b b' l l' x x' k j aM hb bE hg cC hl br
  have mix: ∀b b' l l' x x',b≠b'->ι' b=some l->g.get b=some x->l.has k j->h.get b'=some x'->g0.get b'=none->ι b'=some l'->l'.has k j->False:=by
   intro b b' l l' x x' aM hb hg hl h1 h2 h3 br
   rcases E.own k j ⟨b,l,x,hb,hg,hl⟩ with ho|ho
   ·exact rK b' l' x' k j h3 h1 h2 br ho
   ·have:=aD b' l' k j h3 br;omega
  rcases key b l x hb hg with h1|⟨h1,h2,h3⟩<;>rcases key b' l' x' bE cC with cV|⟨cV,fT,mL⟩
  ·exact G.dm b b' l l' x x' k j aM hb bE h1 cV hl br
  ·exact mix b b' l l' x x' aM hb h1 hl cV fT mL br
  ·exact mix b' b l' l x' x (Ne.symm aM) bE cV br h1 h2 h3 hl
  ·exact H.dm b b' l l' x x' k j aM h3 mL h1 cV hl br
 ·intro b l x k j hb hg hl hI
  rcases key b l x hb hg with h1|⟨h1,h2,h3⟩
  ·exact G.bn b l x k j hb h1 hl hI
  ·rcases E.fQ k j hI with h4|h4|h4
   ·exact H.bn b l x k j h3 h1 hl h4
   ·exact rK b l x k j h3 h1 h2 hl h4
   ·have:=aD b l k j h3 hl;omega
def tc (ρ ρ':Env) (l:List aq):Prop:= ∀x∈l,x.ev ρ=x.ev ρ'
theorem Wy {ρ ρ':Env}: ∀(ps:List (Nat×Nat×aq)) (cs:List AV),tc ρ ρ' (ps.map fun p=>p.2.2)->jX ρ cs ps=jX ρ' cs ps
 |[],cs,_=>rfl
 |(off,sz,x)::ps,cs,ha=>by
  have hx:=ha x (by simp)
  simp only[jX,hx]
  split
  ·exact Wy ps _ (fun y hy=>ha y (by simp at hy ⊢;exact .inr hy))
  ·rfl
theorem Lh {ρ ρ':Env} {sz:Nat}: ∀(ps:List (Nat×aq)) (rows:List (List AV)),tc ρ ρ' (ps.map fun p=>p.2)->iA ρ sz rows ps=iA ρ' sz rows ps
 |[],rows,_=>rfl
 |(i,x)::ps,rows,ha=>by
  have hx:=ha x (by simp)
  simp only[iA,hx]
  split
  ·exact Lh ps _ (fun y hy=>ha y (by simp at hy ⊢;exact .inr hy))
  ·rfl
theorem map_congr {ρ ρ':Env} {l:List aq} (ha:tc ρ ρ' l):l.map (aq.ev ρ)=l.map (aq.ev ρ'):=List.map_congr_left fun x hx=>ha x hx
theorem VP {mx:Bool} {ρ ρ':Env}: ∀(ys:List aq) (x:AV),tc ρ ρ' ys->ow mx ρ x ys=ow mx ρ' x ys
 |[],x,_=>rfl
 |y::ys,x,ha=>by
  simp only[ow,ha y (by simp)]
  congr 1
  funext z
  exact VP ys z (fun y hy=>ha y (by simp[hy]))
theorem K9 {ρ ρ':Env} {d:Nat} {x:Option aq} (ha:tc ρ ρ' (BU x)):cJ ρ d x=cJ ρ' d x:=by
 cases x with
 |none=>rfl
 |some x=>simp only[cJ,ha x (by simp[BU])]
theorem Lj (q:bc) {ρ ρ':Env} (h:aa) (ha:tc ρ ρ' q.dV):aX q ρ h=aX q ρ' h:=by
 cases q<;>simp only[aX]
 case build z ps=>rw[Wy ps _ ha]
 case da n z ps=>rw[Lh ps _ ha]
 case ka f a b=>rw[map_congr (fun x hx=>ha x (by simp[bc.dV,hx])),map_congr (l:=b) (fun x hx=>ha x (by simp[bc.dV,hx]))]
 case kH mx x r=>rw[ha x (by simp[bc.dV]),VP r _ (fun y hy=>ha y (by simp[bc.dV,hy]))]
 case cG sz x lo hi mx=>
  have e1:=ha x (by simp[bc.dV])
  have e2: ∀d,cJ ρ d lo=cJ ρ' d lo:=fun d=>K9 (fun y hy=>ha y (by simp[bc.dV,hy]))
  have e3: ∀d,cJ ρ d hi=cJ ρ' d hi:=fun d=>K9 (fun y hy=>ha y (by simp[bc.dV,hy]))
  have e4: ∀d,cJ ρ d mx=cJ ρ' d mx:=fun d=>K9 (fun y hy=>ha y (by simp[bc.dV,hy]))
  simp only[iO,e1,e2,e3,e4]
 case pick c a b=>rw[ha c (by simp[bc.dV]),ha a (by simp[bc.dV]),ha b (by simp[bc.dV])]
 all_goals first
  |rfl
  |(rename_i x y;rw[ha x (by simp[bc.dV]),ha y (by simp[bc.dV])];done)
  |(rename_i x;rw[ha x (by simp[bc.dV])];done)
theorem ah8 (q:jN) {ρ ρ':Env} (id:Nat) (ha:tc ρ ρ' q.dV):gV q ρ id=gV q ρ' id:=by
 cases q<;>simp only[gV]
 case box x=>rw[ha x (by simp[jN.dV])]
 case um z b l c=>rw[ha l (by simp[jN.dV]),ha c (by simp[jN.dV])]
 case BO n z ps=>rw[Lh ps _ ha]
theorem ajP (q:gu) {ρ ρ':Env} (id:Nat) (h:aa) (ha:tc ρ ρ' q.dV):bR q ρ id h=bR q ρ' id h:=by
 cases q<;>simp only[bR]
 case qX m k v=>rw[ha m (by simp[gu.dV]),ha k (by simp[gu.dV]),ha v (by simp[gu.dV])]
 case oJ z x=>rw[ha x (by simp[gu.dV])]
 case mark x=>rw[ha x (by simp[gu.dV])]
 all_goals (rename_i x y;rw[ha x (by simp[gu.dV]),ha y (by simp[gu.dV])])
theorem WH {o:RO} {id:Nat} {ρ ρ':Env} {h h':aa} {r:Option AV} (ha: ∀t∈o.sW,ρ t=ρ' t) (hs:bz P o id ρ h r h'):bz P o id ρ' h r h':=by
 have qC:tc ρ ρ' o.op.dV:=by
  intro x hx
  cases x with
  |const v=>rfl
  |tmp t=>exact ha t (by simp only[RO.sW,List.mem_append,List.mem_flatMap];exact .inl ⟨_,hx,by simp[aq.slot]⟩)
 have hg:b8 o ρ=b8 o ρ':=by
  unfold b8
  cases kA:o.guard with
  |none=>rfl
  |some p=>
   obtain⟨g,b⟩:=p
   simp only[]
   rw[ha g (by simp[RO.sW,kA])]
 unfold bz at*
 rw[<-hg]
 split
 ·rename_i hq
  rw[hq] at hs
  obtain⟨v,hr,bW⟩:=hs
  refine⟨v,hr,?_⟩
  unfold gE at*
  cases bS:o.op with
  |p q=>rw[bS] at bW qC;exact⟨by rw[<-Lj q h qC];exact bW.1,bW.2⟩
  |a q=>rw[bS] at bW qC;obtain⟨b,h1,h2⟩:=bW;exact⟨b,by rw[<-ah8 q id qC];exact h1,h2⟩
  |e q=>rw[bS] at bW qC;simp only at*;rw[<-ajP q id h qC];exact bW
  |call f as=>rw[bS] at bW qC;simp only at*;rw[<-map_congr (l:=as) qC];exact bW
  |dyn x as=>
   rw[bS] at bW qC
   obtain⟨f,fs,cs,h1,h2,h3⟩:=bW
   refine⟨f,fs,cs,by rw[<-qC x (by simp[b7.dV])];exact h1,h2,?_⟩
   rw[<-map_congr (l:=as) (fun y hy=>qC y (by simp[b7.dV,hy]))]
   exact h3
 ·rename_i hq;rw[hq] at hs;exact hs
 ·rename_i hq;rw[hq] at hs;exact hs
end
end
section
open Go
def l6 (o:RO) (ρ:Env) (r:Option AV) (h':aa) (ok:RO) (d:Env×aa×Option AV):Prop:=
 if o.op.cA then(match d.2.2,ok.op with|some v, .p q=>aX q d.1 h'=some v|_,_=>True)
 else(match r,o.op with|some v, .p q=>aX q ρ d.2.1=some v|_,_=>True)
def mn (P:Program) (al:List RO) (un:List (List Nat)) (base:Nat):List RO->Nat->Env->aa->List (Env×aa×Option AV)->(Env->aa->Prop)->Prop
 |[],_,ρ,h,_,K=>K ρ h
 |o::os,i,ρ,h,done,K=> ∃r h',bz P o (base+i) ρ h r h'/\
   (∀k∈un.getD i [],∀ok d,al[k]? =some ok->done[k]? =some d->l6 o ρ r h' ok d)/\
   (o.op.cA=true-> ∀j,i<j->j<al.length->h'.get (base+j)=none)/\
   mn P al un base os (i+1) (put ρ o.dst (gf r)) h' (done++[(ρ,h,r)]) K
def fG (tr:List (Env×aa×Option AV)) (ρ:Env) (h:aa) (i:Nat):Env×aa:=
 match tr[i]? with
 |some d=>(d.1,d.2.1)
 |none=>(ρ,h)
def Tc (P:Program) (al:List RO) (un:List (List Nat)) (base:Nat) (tr:List (Env×aa×Option AV)) (ρ:Env) (h:aa):Prop:=
 ∀(i:Nat) (ro:RO) (d:Env×aa×Option AV),al[i]? =some ro->tr[i]? =some d->
  bz P ro (base+i) (fG tr ρ h i).1 (fG tr ρ h i).2 d.2.2 (fG tr ρ h (i+1)).2/\
  (fG tr ρ h (i+1)).1=put (fG tr ρ h i).1 ro.dst (gf d.2.2)/\
  (ro.op.cA=true-> ∀j,i<j->j<al.length->(fG tr ρ h (i+1)).2.get (base+j)=none)/\
  ∀k∈un.getD i [],∀ok dk,al[k]? =some ok->tr[k]? =some dk->k<i->l6 ro (fG tr ρ h i).1 d.2.2 (fG tr ρ h (i+1)).2 ok dk
theorem X6 {P:Program} {al:List RO} {un:List (List Nat)} {base:Nat} {K:Env->aa->Prop}: ∀(os pre:List RO) (ρ:Env) (h:aa) (done:List (Env×aa×Option AV)),
 al=pre++os->done.length=pre.length->Tc P al un base done ρ h->mn P al un base os pre.length ρ h done K->
 ∃(tr:List (Env×aa×Option AV)) (ρn:Env) (hn:aa),tr.length=al.length/\K ρn hn/\Tc P al un base tr ρn hn/\(∀(i:Nat) (d:Env×aa×Option AV),done[i]? =some d->tr[i]? =some d)/\(done.length=0->fG tr ρn hn 0=(ρ,h))
 |[],pre,ρ,h,done,hr,hl,ha,he=>by
  refine⟨done,ρ,h,by rw[hl,hr];simp,he,ha,fun i d hd=>hd,fun h0=>?_⟩
  have:done=[]:=List.eq_nil_of_length_eq_zero h0
  subst this
  rfl
 |o::os,pre,ρ,h,done,hr,hl,ha,he=>by
  obtain⟨r,h',hs,hc,fb,dI⟩:=he
  have aT:al[pre.length]? =some o:=by rw[hr];simp
  have dB: ∀i,i<=done.length->fG (done++[(ρ,h,r)]) (put ρ o.dst (gf r)) h' i=fG done ρ h i:=by
   intro i hi
   unfold fG
   by_cases aD:i<done.length
   ·rw[List.getElem?_append_left aD,List.getElem?_eq_getElem aD]
   ·have:i=done.length:=by omega
    subst this
    simp
  have xB:fG (done++[(ρ,h,r)]) (put ρ o.dst (gf r)) h' (done.length+1)=(put ρ o.dst (gf r),h'):=by simp[fG]
  have ha':Tc P al un base (done++[(ρ,h,r)]) (put ρ o.dst (gf r)) h':=by
   intro i ro d hi hd
   by_cases aD:i<done.length
   ·rw[List.getElem?_append_left aD] at hd
    obtain⟨a1,a2,a4,a3⟩:=ha i ro d hi hd
    rw[dB i (by omega),dB (i+1) (by omega)]
    refine⟨a1,a2,a4,fun k hk ok dk ba dt nN=>a3 k hk ok dk ba ?_ nN⟩
    rwa [List.getElem?_append_left (by omega)] at dt
   ·have aA:=(List.getElem?_eq_some_iff.1 hd).1
    simp at aA
    have:i=done.length:=by omega
    subst this
    simp at hd
    subst hd
    rw[hl,aT] at hi
    cases hi
    rw[dB _ (Nat.le_refl _),xB]
    have h0:fG done ρ h done.length=(ρ,h):=by simp[fG]
    rw[h0]
    refine⟨by rw[hl];exact hs,rfl,by rw[hl];exact fb,fun k hk ok dk ba dt nN=>?_⟩
    rw[List.getElem?_append_left nN] at dt
    rw[hl] at hk
    exact hc k hk ok dk ba dt
  obtain⟨tr,ρn,hn,e1,e2,e3,e4,e5⟩:=X6 os (pre++[o]) _ h' (done++[(ρ,h,r)]) (by rw[hr];simp) (by simp[hl]) ha' (by simpa using dI)
  refine⟨tr,ρn,hn,e1,e2,e3,fun i d hd=>e4 i d (by rw[List.getElem?_append_left (List.getElem?_eq_some_iff.1 hd).1];exact hd),fun h0=>?_⟩
  have:=e4 done.length (ρ,h,r) (by simp)
  rw[h0] at this
  simp[fG,this]
theorem VO: ∀(os:List Oper) (acc:List (List Nat)),∃rest,gd os acc=acc++rest
 |[],acc=>⟨[],by simp[gd]⟩
 |o::os,acc=>by
  obtain⟨rest,hr⟩:=VO os (acc++[(o.after.toList.filter fun e=>Region.binds .any e).flatMap fun e=>e.on::acc.getD e.on []])
  exact⟨_,by rw[gd,hr,List.append_assoc]⟩
theorem WT: ∀(os:List Oper) (acc:List (List Nat)) (i j:Nat),acc.length<=j->i∈(gd os acc).getD j []->
 (∀k o,os[k]? =some o-> ∀e∈o.after.toList,Region.binds .any e=true->e.on<acc.length+k)->
 ∃o e,os[j-acc.length]? =some o/\e∈o.after.toList/\Region.binds .any e=true/\(i=e.on\/i∈(gd os acc).getD e.on [])
 |[],acc,i,j,hj,hi,_=>by
  simp[gd,List.getD,List.getElem?_eq_none hj] at hi
 |o::os,acc,i,j,hj,hi,hb=>by
  by_cases hjj:j=acc.length
  ·subst hjj
   obtain⟨rest,hr⟩:=VO os (acc++[(o.after.toList.filter fun e=>Region.binds .any e).flatMap fun e=>e.on::acc.getD e.on []])
   have ir:gd (o::os) acc=acc++([(o.after.toList.filter fun e=>Region.binds .any e).flatMap fun e=>e.on::acc.getD e.on []]++rest):=by rw[gd,hr,List.append_assoc]
   rw[ir] at hi
   simp only[List.getD,List.getElem?_append_right (Nat.le_refl _),Nat.sub_self,List.singleton_append,List.getElem?_cons_zero,Option.getD_some,List.mem_flatMap,List.mem_filter] at hi
   obtain⟨e,⟨he1,tT⟩,he3⟩:=hi
   refine⟨o,e,by simp,he1,tT,?_⟩
   rcases List.mem_cons.1 he3 with h|h
   ·exact .inl h
   ·right
    have aD:e.on<acc.length:=by have:=hb 0 o rfl e he1 tT;omega
    rw[ir]
    simp only[List.getD]
    rw[List.getElem?_append_left aD]
    exact h
  ·have js:acc.length+1<=j:=by omega
   obtain⟨o',e,h1,h2,h3,h4⟩:=WT os _ i j (by simp;omega) (show i∈(gd os (acc++[(o.after.toList.filter fun e=>Region.binds .any e).flatMap fun e=>e.on::acc.getD e.on []])).getD j [] from hi)
    (fun k o' ei e he Vf=>by have:=hb (k+1) o' (by simpa using ei) e he Vf;simp;omega)
   refine⟨o',e,?_,h2,h3,h4⟩
   simp at h1
   rw[show j-acc.length=(j-(acc.length+1))+1 by omega,List.getElem?_cons_succ]
   exact h1
theorem yH {ops:Array Oper} (hb: ∀k o,ops.toList[k]? =some o-> ∀e∈o.after.toList,Region.binds .any e=true->e.on<k) {S:Nat->Prop}
 (hS: ∀j o,S j->ops.toList[j]? =some o-> ∀e∈o.after.toList,Region.binds .any e=true->S e.on):
 ∀(j i:Nat),j9 (gd ops.toList []) i j=true->((∃o,ops.toList[j]? =some o/\ ∀e∈o.after.toList,Region.binds .any e=true->S e.on)\/S j)->S i:=by
 intro j
 induction j using Nat.strongRecOn with
 |_ j ih=>
  intro i ho hj
  have hi:i∈(gd ops.toList []).getD j []:=by simpa [j9] using ho
  obtain⟨o,e,h1,h2,h3,h4⟩:=WT ops.toList [] i j (by simp) hi (fun k o ho e he Vf=>by simpa using hb k o ho e he Vf)
  simp at h1
  have cV:ops.toList[j]? =some o:=by simpa using h1
  have hse:S e.on:=by
   rcases hj with⟨o',ei,h⟩|h
   ·rw[cV] at ei;cases ei;exact h e h2 h3
   ·exact hS j o h cV e h2 h3
  rcases h4 with rfl|h4
  ·exact hse
  ·exact ih e.on (hb j o cV e h2 h3) i (by simpa [j9] using h4) (.inr hse)
end
section
open Go
section
variable {P:Program} {md:Mode}
theorem Ext.step {N0 N:Nat->Prop} {ι0 ι ι':aG} {I0 I I':aQ} {h0 H G G' H':aa} {w0 w w':World} (E:Ext N0 ι0 I0 h0 w0 ι I H w) (F:Ext N ι I G w ι' I' G' w')
 (hN: ∀b,N b->N0 b) (dc: ∀b l x,ι b=some l->G.get b=some x-> ∃y,H.get b=some y)
 (i7: ∀b l x,ι' b=some l->H'.get b=some x->(∃y,G'.get b=some y)\/(ι b=some l/\ ∃y,H.get b=some y))
 (fu:H.next<=H'.next) (C0: ∀b,¬N0 b->ι0 b=none->H'.get b=h0.get b):Ext N0 ι0 I0 h0 w0 ι' I' H' w':=by
 have Fs: ∀k j,ew ι G k j->ew ι0 h0 k j\/w0.heap.size<=k:=by
  rintro k j ⟨b,l,x,hb,hg,hl⟩
  obtain⟨y,hy⟩:=dc b l x hb hg
  exact E.own k j ⟨b,l,y,hb,hy,hl⟩
 exact
 {eJ:=fun b hb=>(F.eJ b (fun h=>hb (hN b h))).trans (E.eJ b hb)
  bN:=fun b l h=>F.bN b l (E.bN b l h)
  next:=Nat.le_trans E.next fu
  bn:=fun k j h=>F.bn k j (E.bn k j h)
  os:=F.os.trans E.os
  tape:=F.tape.trans E.tape
  output:=F.output.trans E.output
  size:=Nat.le_trans E.size F.size
  block:=fun k hk ho=>(F.block k (Nat.lt_of_lt_of_le hk E.size) (fun j hj=>(Fs k j hj).elim (ho j) (fun h=>by omega))).trans (E.block k hk ho)
  cell:=fun k j hk ho=>(F.cell k j (Nat.lt_of_lt_of_le hk E.size) (fun hj=>(Fs k j hj).elim ho (fun h=>by omega))).trans (E.cell k j hk ho)
  frozen:=fun k j hk ho=>(F.frozen k j (Nat.lt_of_lt_of_le hk E.size) (fun hj=>(Fs k j hj).elim ho (fun h=>by omega))).trans (E.frozen k j hk ho)
  own:=by
   rintro k j ⟨b,l,x,hb,hg,hl⟩
   rcases i7 b l x hb hg with⟨y,hy⟩|⟨bE,y,hy⟩
   ·rcases F.own k j ⟨b,l,y,hb,hy,hl⟩ with h|h
    ·exact Fs k j h
    ·exact .inr (Nat.le_trans E.size h)
   ·exact E.own k j ⟨b,l,y,bE,hy,hl⟩
  fQ:=by
   intro k j h
   rcases F.fQ k j h with h|h|h
   ·exact E.fQ k j h
   ·exact .inr (Fs k j h)
   ·exact .inr (.inr (Nat.le_trans E.size h))
  lost:=C0}
structure TR (P:Program) (ops:Array Oper) (al:List RO) (un:List (List Nat)) (base:Nat) (ρs:Nat->Env) (hs:Nat->aa) (rs:Nat->Option AV):Prop where
 step: ∀(i:Nat) (ro:RO),al[i]? =some ro->bz P ro (base+i) (ρs i) (hs i) (rs i) (hs (i+1))/\ρs (i+1)=put (ρs i) ro.dst (gf (rs i))
 l6: ∀(i k:Nat) (ro ok:RO),al[i]? =some ro->al[k]? =some ok->k<i->k∈un.getD i []->l6 ro (ρs i) (rs i) (hs (i+1)) ok (ρs k,hs k,rs k)
 ZL: ∀j,j<al.length->(hs 0).get (base+j)=none
 ZK: ∀(i:Nat) (ro:RO),al[i]? =some ro->ro.op.cA=true-> ∀j,i<j->j<al.length->(hs (i+1)).get (base+j)=none
 aq7:base+al.length<=(hs 0).next
 d1: ∀(i j:Nat) (ri rj:RO) (t:Nat),al[i]? =some ri->al[j]? =some rj->ri.dst=some t->rj.dst=some t->i=j
 d2: ∀(k:Nat) (o:Oper),ops.toList[k]? =some o-> ∀e∈o.after.toList,Region.binds .any e=true->e.on<k
 d3: ∀(i j:Nat) (ri rj:RO) (t:Nat),al[i]? =some ri->al[j]? =some rj->i≠j->t∈ri.sW->rj.dst=some t->if j<i then j9 (gd ops.toList []) j i=true else j9 (gd ops.toList []) i j=true
 d4: ∀(i j:Nat) (ri rj:RO),i<j->al[i]? =some ri->al[j]? =some rj->ri.op.cA=true->rj.op.cA=true->j9 (gd ops.toList []) i j=true
 d5: ∀(i k:Nat) (ri rk:RO),k<i->al[i]? =some ri->al[k]? =some rk->((ri.op.reads=true/\rk.op.cA=true)\/(ri.op.cA=true/\rk.op.reads=true))->j9 (gd ops.toList []) k i=false->k∈un.getD i []
section trace
variable {ops:Array Oper} {al:List RO} {un:List (List Nat)} {base:Nat} {ρs:Nat->Env} {hs:Nat->aa} {rs:Nat->Option AV} (T:TR P ops al un base ρs hs rs)
theorem Wj {ro:RO} {id:Nat} {ρ:Env} {h h':aa} {r:Option AV} (he:ro.op.cA=false) (hs:bz P ro id ρ h r h'):h'=h\/ ∃Bh,h'=h.at id Bh:=by
 unfold bz at hs
 split at hs
 ·obtain⟨v,_,bW⟩:=hs
  unfold gE at bW
  cases bS:ro.op with
  |p q=>rw[bS] at bW;exact .inl bW.2
  |a q=>rw[bS] at bW;obtain⟨b,_,hh⟩:=bW;exact .inr ⟨b,hh⟩
  |e q=>rw[bS] at he;cases he
  |call f as=>rw[bS] at he;cases he
  |dyn x as=>rw[bS] at he;cases he
 ·exact .inl hs.2
 ·exact hs.elim
include T in
theorem TR.one {i:Nat} {ro:RO} (hi:al[i]? =some ro) (he:ro.op.cA=false) (b:Nat) (hb:b≠base+i):(hs (i+1)).get b=(hs i).get b:=by
 rcases Wj he (T.step i ro hi).1 with h|⟨Bh,h⟩
 ·rw[h]
 ·rw[h];simp[aa.at,hb]
def yL (al:List RO) (i j:Nat):Prop:= ∀k ro,i<=k->k<j->al[k]? =some ro->ro.op.cA=false
include T in
theorem TR.wz: ∀(d i:Nat),i+d<=al.length->yL al i (i+d)-> ∀b,(∀k,i<=k->k<i+d->b≠base+k)->(hs (i+d)).get b=(hs i).get b
 |0,i,_,_,b,_=>rfl
 |d+1,i,hle,hq,b,hb=>by
  have aD:i+d<al.length:=by omega
  have h1:=T.one (List.getElem?_eq_getElem aD) (hq (i+d) _ (by omega) (by omega) (List.getElem?_eq_getElem aD)) b (hb (i+d) (by omega) (by omega))
  have h2:=TR.wz d i (by omega) (fun k ro h3 h4=>hq k ro h3 (by omega)) b (fun k h3 h4=>hb k h3 (by omega))
  rw[show i+(d+1)=i+d+1 by omega,h1,h2]
include T in
theorem TR.Lp: ∀(d i:Nat),i+d<=al.length->yL al i (i+d)->base+al.length<=(hs i).next->(hs (i+d)).next=(hs i).next
 |0,i,_,_,_=>rfl
 |d+1,i,hle,hq,hn=>by
  have aD:i+d<al.length:=by omega
  have h2:=TR.Lp d i (by omega) (fun k ro h3 h4=>hq k ro h3 (by omega)) hn
  rw[show i+(d+1)=i+d+1 by omega,<-h2]
  rcases Wj (hq (i+d) _ (by omega) (by omega) (List.getElem?_eq_getElem aD)) (T.step (i+d) _ (List.getElem?_eq_getElem aD)).1 with h|⟨Bh,h⟩
  ·rw[h]
  ·rw[h];simp only[aa.at];omega
include T in
theorem TR.fresh: ∀(i j:Nat),i<=j->j<al.length->(hs i).get (base+j)=none
 |0,j,_,hj=>T.ZL j hj
 |i+1,j,nP,hj=>by
  have aD:i<al.length:=by omega
  have hi:=List.getElem?_eq_getElem aD
  cases he:(al[i]).op.cA with
  |true=>exact T.ZK i _ hi he j (by omega) hj
  |false=>rw[T.one hi he (base+j) (by omega)];exact TR.fresh i j (by omega) hj
include T in
theorem TR.env: ∀(i:Nat),i<=al.length->(∀t,(∀j ro,j<i->al[j]? =some ro->ro.dst≠some t)->ρs i t=ρs 0 t)/\
 (∀t j ro,j<i->al[j]? =some ro->ro.dst=some t->ρs i t=gf (rs j))
 |0,_=>⟨fun _ _=>rfl,fun t j ro h=>by omega⟩
 |i+1,hi=>by
  obtain⟨e1,e2⟩:=TR.env i (by omega)
  have aD:i<al.length:=by omega
  have aT:=List.getElem?_eq_getElem aD
  have dB:=(T.step i _ aT).2
  refine⟨fun t ht=>?_,fun t j ro hj dO Ag=>?_⟩
  ·rw[dB]
   have aM:=ht i _ (by omega) aT
   have:put (ρs i) (al[i]).dst (gf (rs i)) t=ρs i t:=by
    cases hd:(al[i]).dst with
    |none=>rfl
    |some d=>
     have:t≠d:=fun h=>aM (by rw[hd,h])
     simp[put,this]
   rw[this]
   exact e1 t (fun j ro hj dO=>ht j ro (by omega) dO)
  ·rw[dB]
   by_cases eE:j=i
   ·subst eE
    rw[aT] at dO
    cases dO
    simp[put,Ag]
   ·have aM:(al[i]).dst≠some t:=fun h=>eE (T.d1 j i ro _ t dO aT Ag h)
    have:put (ρs i) (al[i]).dst (gf (rs i)) t=ρs i t:=by
     cases hd:(al[i]).dst with
     |none=>rfl
     |some d=>
      have:t≠d:=fun h=>aM (by rw[hd,h])
      simp[put,this]
    rw[this]
    exact e2 t j ro (by omega) dO Ag
end trace
end
end
section
open Go
theorem alC {o:bc} {ρ:Env} {h:aa} {v:AV} {b:Nat} (hk:o.key ρ=some b) (hv:aX o ρ h=some v): ∃x,h.get b=some x:=by
 cases hg:h.get b with
 |some x=>exact⟨x,rfl⟩
 |none=>
  exfalso
  cases o<;>simp only[bc.key] at hk<;>try cases hk
  case load ag sz x=>
   simp only[aX] at hv
   split at hk<;>cases hk
   rename_i hx
   simp only[hx,j0,cellsOf,hg] at hv
   simp at hv
  case kF x=>
   simp only[aX] at hv
   split at hk<;>cases hk
   all_goals
    rename_i hx
    simp only[hx,cQ,cellsOf,hg] at hv
    simp at hv
  case pg sz x y=>
   simp only[aX] at hv
   split at hk<;>cases hk
   rename_i hx
   rw[hx] at hv
   unfold vf at hv
   split at hv
   ·rename_i h1 h2
    cases h2
    simp[cellsOf,hg] at hv
   ·cases hv
  case lookup z ok m k=>
   simp only[aX] at hv
   split at hk<;>cases hk
   rename_i hx
   rw[hx] at hv
   unfold mZ at hv
   simp only[] at hv
   split at hv
   ·rename_i h1 h2;cases h1
   ·rename_i h1 h2;cases h1;simp[hg] at hv
   ·cases hv
section
variable {P:Program} {md:Mode}
theorem amD {ι:aG} {I:aQ} {w:World} {n:Nat} {ρ:Env} {a:Act} (A:AR ι I w n ρ a) {o:bc} (hc:o.pV=true) {b:Nat} (hk:o.key ρ=some b): ∃l,ι b=some l:=by
 have go: ∀(x:aq) (v:AV),x.ev ρ=v->(∀c,x≠ .const c)-> ∃u,VR ι I w v u:=by
  intro x v hx hn
  cases x with
  |const c=>exact(hn c rfl).elim
  |tmp t=>exact⟨_,by rw[<-hx];exact A.get t⟩
 cases o<;>simp only[bc.key] at hk<;>try cases hk
 case load ag sz x=>
  split at hk<;>cases hk
  rename_i hx
  obtain⟨v,hv⟩:=go x _ hx (by rintro c rfl;simp[bc.pV] at hc)
  cases hv;exact⟨_,by assumption⟩
 case kF x=>
  split at hk<;>cases hk
  all_goals
   rename_i hx
   obtain⟨v,hv⟩:=go x _ hx (by rintro c rfl;simp[bc.pV] at hc)
   cases hv;exact⟨_,by assumption⟩
 case pg sz x y=>
  split at hk<;>cases hk
  rename_i hx
  obtain⟨v,hv⟩:=go y _ hx (by rintro c rfl;simp[bc.pV] at hc)
  cases hv;exact⟨_,by assumption⟩
 case lookup z ok m k=>
  split at hk<;>cases hk
  rename_i hx
  obtain⟨v,hv⟩:=go m _ hx (by rintro c rfl;simp[bc.pV] at hc)
  cases hv;exact⟨_,by assumption⟩
theorem aa.same {h h':aa} (hg: ∀b,h.get b=h'.get b) (hn:h.next=h'.next):h=h':=by
 cases h;cases h';simp only at hg hn;subst hn;congr;funext b;exact hg b
structure mT (P:Program) (ops:Array Oper) (al:List RO) (n base:Nat) (ρs:Nat->Env) (hs:Nat->aa) (rs:Nat->Option AV) (ι0:aG) (I0:aQ) (w0:World)
 (S:Nat->Prop) (m:Nat) (ρ:Env) (H:aa) (ι:aG) (I:aQ) (a:Act) (w:World):Prop where
 ar:AR ι I w n ρ a
 hr:HR ι I H w
 ext:Ext (base<= ·) ι0 I0 (hs 0) w0 ι I H w
 ρ0: ∀(t:Nat),(∀(j:Nat) (ro:RO),S j->al[j]? =some ro->ro.dst≠some t)->ρ t=ρs 0 t
 ρ1: ∀(t j:Nat) (ro:RO),S j->al[j]? =some ro->ro.dst=some t->ρ t=gf (rs j)
 h1: ∀(j:Nat),S j->m<=j->j<al.length->H.get (base+j)=(hs (j+1)).get (base+j)
 h2: ∀(b:Nat),(∀j,b=base+j->m<=j->j<al.length-> ¬S j)->H.get b=(hs m).get b
 hn:H.next=(hs m).next
 lt: ∀(j:Nat),S j->j<al.length
 closed: ∀(j:Nat) (o:Oper),S j->ops.toList[j]? =some o-> ∀e∈o.after.toList,Region.binds .any e=true->S e.on
 xZ:m<=al.length
 vj: ∀(j:Nat) (ro:RO),S j->al[j]? =some ro->ro.op.cA=true->j<m
 Ai: ∀(j:Nat) (ro:RO),j<m->al[j]? =some ro->ro.op.cA=true->S j
 zD:m=0\/ ∃ro,al[m-1]? =some ro/\ro.op.cA=true
 inj: ∀(j:Nat),j<al.length-> ¬S j->ι (base+j)=none
 pb: ∀(j:Nat),j<m-> ¬S j->(hs m).get (base+j)=(hs (j+1)).get (base+j)
 next:base+al.length<=(hs m).next
section inv
variable {ops:Array Oper} {al:List RO} {un:List (List Nat)} {n base:Nat} {ρs:Nat->Env} {hs:Nat->aa} {rs:Nat->Option AV} {ι0:aG} {I0:aQ} {w0:World}
 {S:Nat->Prop} {m:Nat} {ρ:Env} {H:aa} {ι:aG} {I:aQ} {a:Act} {w:World}
theorem TR.aqV (T:TR P ops al un base ρs hs rs) (V:mT P ops al n base ρs hs rs ι0 I0 w0 S m ρ H ι I a w) (hS: ∀j,j<al.length->S j):ρ=ρs al.length/\H=hs al.length:=by
 have hq:yL al m (m+(al.length-m)):=by
  intro k ro h1 h2 h3
  cases he:ro.op.cA with
  |false=>rfl
  |true=>have:=V.vj k ro (hS k (by have:=V.xZ;omega)) h3 he;omega
 have hm:m+(al.length-m)=al.length:=by have:=V.xZ;omega
 constructor
 ·obtain⟨e1,e2⟩:=T.env al.length (Nat.le_refl _)
  funext t
  by_cases hx: ∃(j:Nat) (ro:RO),al[j]? =some ro/\ro.dst=some t
  ·obtain⟨j,ro,h1,h2⟩:=hx
   have hj:=(List.getElem?_eq_some_iff.1 h1).1
   rw[V.ρ1 t j ro (hS j hj) h1 h2,e2 t j ro hj h1 h2]
  ·rw[V.ρ0 t (fun j ro _ h1 h2=>hx ⟨j,ro,h1,h2⟩),e1 t (fun j ro _ h1 h2=>hx ⟨j,ro,h1,h2⟩)]
 ·refine aa.same (fun b=>?_) ?_
  ·by_cases hx: ∃j,b=base+j/\m<=j/\j<al.length
   ·obtain⟨j,rfl,h1,h2⟩:=hx
    rw[V.h1 j (hS j h2) h1 h2]
    have:=T.wz (al.length-(j+1)) (j+1) (by omega) (fun k ro e1 e2 e3=>hq k ro (by omega) (by omega) e3) (base+j) (fun k e1 e2=>by omega)
    rw[show j+1+(al.length-(j+1))=al.length by omega] at this
    exact this.symm
   ·rw[V.h2 b (fun j h1 h2 h3 _=>hx ⟨j,h1,h2,h3⟩)]
    have:=T.wz (al.length-m) m (by omega) hq b (fun k e1 e2 e3=>hx ⟨k,e3,e1,by omega⟩)
    rw[hm] at this
    exact this.symm
  ·rw[V.hn]
   have:=T.Lp (al.length-m) m (by omega) hq V.next
   rw[hm] at this
   exact this.symm
theorem TR.alc (T:TR P ops al un base ρs hs rs) (V:mT P ops al n base ρs hs rs ι0 I0 w0 S m ρ H ι I a w) {i:Nat} {ro:RO} {o:Oper} (dO:al[i]? =some ro) (ho:ops.toList[i]? =some o) (hi: ¬S i)
 (jU: ∀e∈o.after.toList,Region.binds .any e=true->S e.on): ∀t∈ro.sW,ρs i t=ρ t:=by
 intro t ht
 have iK:=(List.getElem?_eq_some_iff.1 dO).1
 obtain⟨e1,e2⟩:=T.env i (by omega)
 by_cases hx: ∃(j:Nat) (rj:RO),al[j]? =some rj/\rj.dst=some t/\j≠i
 ·obtain⟨j,rj,h1,h2,h3⟩:=hx
  have hd:=T.d3 i j ro rj t dO h1 (Ne.symm h3) ht h2
  by_cases eE:j<i
  ·simp only[eE,if_true] at hd
   have vR:=yH T.d2 V.closed i j hd (.inl ⟨o,ho,jU⟩)
   rw[e2 t j rj eE h1 h2,V.ρ1 t j rj vR h1 h2]
  ·simp only[eE,if_false] at hd
   have vR: ¬S j:=fun hsj=>hi (yH T.d2 V.closed j i hd (.inr hsj))
   rw[e1 t (fun k rk hk h4 h5=>by have:=T.d1 j k rj rk t h1 h4 h2 h5;omega),V.ρ0 t (fun k rk hk h4 h5=>by have:=T.d1 j k rj rk t h1 h4 h2 h5;subst this;exact vR hk)]
 ·rw[e1 t (fun k rk hk h4 h5=>hx ⟨k,rk,h4,h5,by omega⟩),V.ρ0 t (fun k rk hk h4 h5=>hx ⟨k,rk,h4,h5,fun e=>by subst e;exact hi hk⟩)]
theorem TR.YV (T:TR P ops al un base ρs hs rs) (V:mT P ops al n base ρs hs rs ι0 I0 w0 S m ρ H ι I a w) {r:Nat} (hmr:m<=r) (hr:r<=al.length) (hq:yL al m r)
 {b:Nat} {l:Loc} {x:cI} (hb:ι b=some l) (hx:(hs r).get b=some x):H.get b=(hs r).get b:=by
 by_cases hj: ∃j,b=base+j/\m<=j/\j<al.length
 ·obtain⟨j,rfl,h1,h2⟩:=hj
  have vR:S j:=Classical.byContradiction fun hn=>by rw[V.inj j h2 hn] at hb;cases hb
  rw[V.h1 j vR h1 h2]
  by_cases hjr:j<r
  ·have:=T.wz (r-(j+1)) (j+1) (by omega) (fun k ro e1 e2 e3=>hq k ro (by omega) (by omega) e3) (base+j) (fun k e1 e2=>by omega)
   rw[show j+1+(r-(j+1))=r by omega] at this
   exact this.symm
  ·have:=T.fresh r j (by omega) h2
   rw[this] at hx;cases hx
 ·rw[V.h2 b (fun j e1 e2 e3 _=>hj ⟨j,e1,e2,e3⟩)]
  have:=T.wz (r-m) m (by omega) (by rw[show m+(r-m)=r by omega];exact hq) b (fun k e1 e2 e3=>hj ⟨k,e3,e1,by omega⟩)
  rw[show m+(r-m)=r by omega] at this
  exact this.symm
theorem TR.ref (T:TR P ops al un base ρs hs rs) (V:mT P ops al n base ρs hs rs ι0 I0 w0 S m ρ H ι I a w) {i:Nat} {ro:RO} {o:Oper} (dO:al[i]? =some ro) (ho:ops.toList[i]? =some o) (hi: ¬S i)
 (jU: ∀e∈o.after.toList,Region.binds .any e=true->S e.on) {q:bc} (hq:ro.op= .p q) (jI:q.reads=true) {v:AV} (dB:rs i=some v) (hv:aX q (ρs i) (hs i)=some v):
 ∃r,m<=r/\r<=al.length/\yL al m r/\(r<al.length->r=m\/ ¬S r)/\aX q (ρs i) (hs r)=some v:=by
 have iK:=(List.getElem?_eq_some_iff.1 dO).1
 have aM:ro.op.cA=false:=by rw[hq];rfl
 have hrr:ro.op.reads=true:=by rw[hq];exact jI
 by_cases kp:m<=i
 ·
  by_cases hx: ∃k rk,m<=k/\k<i/\al[k]? =some rk/\rk.op.cA=true
  ·have: ∃k,(∃rk,m<=k/\k<i/\al[k]? =some rk/\rk.op.cA=true)/\ ∀k',k'<k-> ¬ ∃rk,m<=k'/\k'<i/\al[k']? =some rk/\rk.op.cA=true:=by
    obtain⟨k,hk⟩:=hx
    induction k using Nat.strongRecOn with
    |_ k ih=>
     by_cases hy: ∃k',k'<k/\ ∃rk,m<=k'/\k'<i/\al[k']? =some rk/\rk.op.cA=true
     ·obtain⟨k',h1,h2⟩:=hy
      exact ih k' h1 h2
     ·exact⟨k,hk,fun k' h1 h2=>hy ⟨k',h1,h2⟩⟩
   obtain⟨k,⟨rk,h1,h2,h3,h4⟩,h5⟩:=this
   have hkS: ¬S k:=fun h=>by have:=V.vj k rk h h3 h4;omega
   have Tn:j9 (gd ops.toList []) k i=false:=by
    cases tM:j9 (gd ops.toList []) k i with
    |false=>rfl
    |true=>exact(hkS (yH T.d2 V.closed i k tM (.inl ⟨o,ho,jU⟩))).elim
   have E4:=T.d5 i k ro rk h2 dO h3 (.inl ⟨hrr,h4⟩) Tn
   have kL:=T.l6 i k ro rk dO h3 h2 E4
   unfold Am.l6 at kL
   rw[aM,dB,hq] at kL
   simp only[Bool.false_eq_true,if_false] at kL
   exact⟨k,h1,by omega,fun k' rk' e1 e2 e3=>by cases he:rk'.op.cA with
    |false=>rfl
    |true=>exact(h5 k' e2 ⟨rk',e1,by omega,e3,he⟩).elim,fun _=> .inr hkS,kL⟩
  ·exact⟨i,kp,by omega,fun k rk e1 e2 e3=>by cases he:rk.op.cA with
    |false=>rfl
    |true=>exact(hx ⟨k,rk,e1,e2,e3,he⟩).elim,fun _=> .inr hi,hv⟩
 ·rcases V.zD with h0|⟨rm,h1,h2⟩
  ·omega
  ·have Fq:=V.Ai (m-1) rm (by omega) h1 h2
   have Eo:i≠m-1:=fun e=>by subst e;exact hi Fq
   have Tn:j9 (gd ops.toList []) i (m-1)=false:=by
    cases tM:j9 (gd ops.toList []) i (m-1) with
    |false=>rfl
    |true=>exact(hi (yH T.d2 V.closed (m-1) i tM (.inr Fq))).elim
   have E4:=T.d5 (m-1) i rm ro (by omega) h1 dO (.inr ⟨h2,hrr⟩) Tn
   have kL:=T.l6 (m-1) i rm ro h1 dO (by omega) E4
   unfold Am.l6 at kL
   rw[h2,dB,hq] at kL
   simp only[if_true] at kL
   rw[show m-1+1=m by omega] at kL
   exact⟨m,Nat.le_refl _,V.xZ,fun k rk e1 e2=>by omega,fun _=> .inl rfl,kL⟩
end inv
end
end
section
open Go
section
variable {P:Program} {md:Mode}
variable {ops:Array Oper} {al:List RO} {un:List (List Nat)} {n base:Nat} {ρs:Nat->Env} {hs:Nat->aa} {rs:Nat->Option AV} {ι0:aG} {I0:aQ} {w0:World}
 {S:Nat->Prop} {m:Nat} {ρ:Env} {H:aa} {ι:aG} {I:aQ} {a:Act} {w:World}
theorem Xn {ρ:Env} {d:Option Nat} {v:AV} {t:Nat} (h:d≠some t):put ρ d v t=ρ t:=by
 cases d with
 |none=>rfl
 |some d=>
  have:t≠d:=fun e=>h (by rw[e])
  simp[put,this]
theorem alk {ρ:Env} {d:Option Nat} {v:AV} {t:Nat} (h:d=some t):put ρ d v t=v:=by subst h;simp[put]
theorem TR.WK (T:TR P ops al un base ρs hs rs) (V:mT P ops al n base ρs hs rs ι0 I0 w0 S m ρ H ι I a w) {i:Nat} {ro:RO} (dO:al[i]? =some ro) (hi: ¬S i):
 (∀(t:Nat),(∀(j:Nat) (rj:RO),(S j\/j=i)->al[j]? =some rj->rj.dst≠some t)->put ρ ro.dst (gf (rs i)) t=ρs 0 t)/\
 (∀(t j:Nat) (rj:RO),(S j\/j=i)->al[j]? =some rj->rj.dst=some t->put ρ ro.dst (gf (rs i)) t=gf (rs j)):=by
 constructor
 ·intro t ht
  rw[Xn (ht i ro (.inr rfl) dO)]
  exact V.ρ0 t (fun j rj h1 h2=>ht j rj (.inl h1) h2)
 ·intro t j rj hj sj hd
  rcases hj with hj|rfl
  ·have aM:j≠i:=fun e=>hi (e▸hj)
   rw[Xn (fun e=>aM (T.d1 j i rj ro t sj dO hd e))]
   exact V.ρ1 t j rj hj sj hd
  ·rw[dO] at sj;cases sj
   exact alk hd
theorem TR.WC (V:mT P ops al n base ρs hs rs ι0 I0 w0 S m ρ H ι I a w) {i:Nat} {o:Oper} (ho:ops.toList[i]? =some o)
 (jU: ∀e∈o.after.toList,Region.binds .any e=true->S e.on):
 ∀(j:Nat) (oj:Oper),(S j\/j=i)->ops.toList[j]? =some oj-> ∀e∈oj.after.toList,Region.binds .any e=true->(S e.on\/e.on=i):=by
 intro j oj hj UZ e he hb
 rcases hj with hj|rfl
 ·exact .inl (V.closed j oj hj UZ e he hb)
 ·rw[ho] at UZ;cases UZ
  exact .inl (jU e he hb)
theorem TR.ai7 (T:TR P ops al un base ρs hs rs) (V:mT P ops al n base ρs hs rs ι0 I0 w0 S m ρ H ι I a w) {i:Nat} {ro:RO} {o:Oper} (dO:al[i]? =some ro) (ho:ops.toList[i]? =some o) (hi: ¬S i)
 (jU: ∀e∈o.after.toList,Region.binds .any e=true->S e.on) (he:ro.op.cA=false) {H1:aa} {ι':aG} {I':aQ} {a':Act} {w':World}
 (g1: ∀b,b≠base+i->H1.get b=H.get b) (g2:H1.get (base+i)=(hs (i+1)).get (base+i)) (g3:H1.next=H.next)
 (A':AR ι' I' w' n (put ρ ro.dst (gf (rs i))) a') (H':HR ι' I' H1 w') (E:Ext (fun b=>b=base+i\/H.next<=b) ι I H w ι' I' H1 w'):
 mT P ops al n base ρs hs rs ι0 I0 w0 (fun j=>S j\/j=i) m (put ρ ro.dst (gf (rs i))) H1 ι' I' a' w':=by
 have iK:=(List.getElem?_eq_some_iff.1 dO).1
 obtain⟨s0,s1⟩:=T.WK V dO hi
 have AS:base+al.length<=H.next:=by rw[V.hn];exact V.next
 exact
 {ar:=A',hr:=H',ρ0:=s0,ρ1:=s1,closed:=TR.WC V ho jU,xZ:=V.xZ,zD:=V.zD,next:=V.next
  ext:=V.ext.trans E (fun b hb=>by rcases hb with rfl|hb<;>omega)
  h1:=by
   intro j hj h1 h2
   rcases hj with hj|rfl
   ·have aM:j≠i:=fun e=>hi (e▸hj)
    rw[g1 _ (by omega)];exact V.h1 j hj h1 h2
   ·exact g2
  h2:=by
   intro b hb
   by_cases bP:b=base+i
   ·subst bP
    have qA: ¬m<=i:=fun h=>hb i rfl h iK (.inr rfl)
    rw[g2,V.pb i (by omega) hi]
   ·rw[g1 b bP]
    exact V.h2 b (fun j h1 h2 h3 h4=>hb j h1 h2 h3 (.inl h4))
  hn:=by rw[g3];exact V.hn
  lt:=fun j hj=>by rcases hj with hj|rfl;exact V.lt j hj;exact iK
  vj:=fun j rj hj sj Fh=>by
   rcases hj with hj|rfl
   ·exact V.vj j rj hj sj Fh
   ·rw[dO] at sj;cases sj;rw[he] at Fh;cases Fh
  Ai:=fun j rj h1 h2 h3=> .inl (V.Ai j rj h1 h2 h3)
  inj:=by
   intro j hj hn
   have:j≠i:=fun e=>hn (.inr e)
   rw[E.eJ _ (by omega)]
   exact V.inj j hj (fun h=>hn (.inl h))
  pb:=fun j hj hn=>V.pb j hj (fun h=>hn (.inl h))}
open Classical in
theorem TR.alR (T:TR P ops al un base ρs hs rs) (V:mT P ops al n base ρs hs rs ι0 I0 w0 S m ρ H ι I a w) {i:Nat} {ro:RO} {o:Oper} (dO:al[i]? =some ro) (ho:ops.toList[i]? =some o) (hi: ¬S i)
 (jU: ∀e∈o.after.toList,Region.binds .any e=true->S e.on) (he:ro.op.cA=true):
 HR ι I (hs i) w/\base+al.length<=(hs i).next/\ ∀{ι':aG} {I':aQ} {a':Act} {w':World},
 AR ι' I' w' n (put ρ ro.dst (gf (rs i))) a'->HR ι' I' (hs (i+1)) w'->Ext (fun b=>b=base+i\/(hs i).next<=b) ι I (hs i) w ι' I' (hs (i+1)) w'->
 ∃J,mT P ops al n base ρs hs rs ι0 I0 w0 (fun j=>S j\/j=i) (i+1) (put ρ ro.dst (gf (rs i))) J ι' I' a' w':=by
 have iK:=(List.getElem?_eq_some_iff.1 dO).1
 have Y4: ∀(k:Nat) (rk:RO),k<i->al[k]? =some rk->rk.op.cA=true->S k:=fun k rk h1 h2 h3=>
  yH T.d2 V.closed i k (T.d4 k i rk ro h1 h2 dO h3 he) (.inl ⟨o,ho,jU⟩)
 have ao2: ∀(k:Nat) (rk:RO),i<k->al[k]? =some rk->rk.op.cA=true-> ¬S k:=fun k rk h1 h2 h3 h4=>
  hi (yH T.d2 V.closed k i (T.d4 i k ro rk h1 dO h2 he h3) (.inr h4))
 have kp:m<=i:=by
  rcases V.zD with h0|⟨rm,h1,h2⟩
  ·omega
  ·by_cases hq:m<=i
   ·exact hq
   ·have Fq:=V.Ai (m-1) rm (by omega) h1 h2
    by_cases g9:m-1=i
    ·exact(hi (g9▸Fq)).elim
    ·exact(ao2 (m-1) rm (by omega) h1 h2 Fq).elim
 have hq:yL al m i:=by
  intro k rk h1 h2 h3
  cases yg:rk.op.cA with
  |false=>rfl
  |true=>have:=V.vj k rk (Y4 k rk h2 h3 yg) h3 yg;omega
 have gZ:(hs i).next=(hs m).next:=by
  have:=T.Lp (i-m) m (by omega) (by rw[show m+(i-m)=i by omega];exact hq) V.next
  rwa [show m+(i-m)=i by omega] at this
 have dB: ∀b,(∀k,m<=k->k<i->b≠base+k)->(hs i).get b=(hs m).get b:=by
  intro b hb
  have:=T.wz (i-m) m (by omega) (by rw[show m+(i-m)=i by omega];exact hq) b (fun k h1 h2=>hb k h1 (by omega))
  rwa [show m+(i-m)=i by omega] at this
 have avv: ∀j,m<=j->j<i->(hs i).get (base+j)=(hs (j+1)).get (base+j):=by
  intro j h1 h2
  have:=T.wz (i-(j+1)) (j+1) (by omega) (fun k rk e1 e2 e3=>hq k rk (by omega) (by omega) e3) (base+j) (fun k e1 e2=>by omega)
  rwa [show j+1+(i-(j+1))=i by omega] at this
 have PJ: ∀b l x,ι b=some l->(hs i).get b=some x->H.get b=(hs i).get b:=fun b l x hb hx=>
  T.YV V kp (by omega) hq hb hx
 have HH:HR ι I (hs i) w:=V.hr.CO (fun b l hb=>by rw[gZ,<-V.hn];exact V.hr.cD b l hb) (fun b l x hb hx=>by rw[PJ b l x hb hx];exact hx)
 refine⟨HH,by rw[gZ];exact V.next,?_⟩
 intro ι' I' a' w' A' H' E
 obtain⟨s0,s1⟩:=T.WK V dO hi
 let J:aa:={get:=fun b=>if∃j,b=base+j/\i+1<=j/\j<al.length/\S j then H.get b else(hs (i+1)).get b,next:=(hs (i+1)).next}
 have Vo: ∀j,i+1<=j->j<al.length->S j->J.get (base+j)=H.get (base+j):=fun j h1 h2 h3=>if_pos ⟨j,rfl,h1,h2,h3⟩
 have Kw: ∀b,(¬ ∃j,b=base+j/\i+1<=j/\j<al.length/\S j)->J.get b=(hs (i+1)).get b:=fun b hb=>if_neg hb
 have hU: ∀j,j<al.length->j≠i->ι' (base+j)=ι (base+j):=fun j h1 h2=>E.eJ _ (by have:=V.next;omega)
 have HJ:HR ι' I' J w':=by
  refine V.hr.join H' E (fun b l x hb hx=>by rw[PJ b l x hb hx];exact hx) (Nat.le_refl _) ?_
  intro b x hx
  by_cases hb: ∃j,b=base+j/\i+1<=j/\j<al.length/\S j
  ·obtain⟨j,rfl,h1,h2,h3⟩:=hb
   rw[Vo j h1 h2 h3] at hx
   cases hl:ι (base+j) with
   |none=>right;right;rw[hU j h2 (by omega)];exact hl
   |some l=>right;left;exact⟨hx,T.fresh i j (by omega) h2,l,rfl⟩
  ·rw[Kw b hb] at hx
   exact .inl hx
 refine⟨J,?_⟩
 exact
 {ar:=A',hr:=HJ,ρ0:=s0,ρ1:=s1,closed:=TR.WC V ho jU,xZ:=by omega
  zD:= .inr ⟨ro,by simpa using dO,he⟩
  next:=by have:=E.next;have:=V.next;omega
  hn:=rfl
  ext:=by
   refine V.ext.step E (fun b hb=>?_) (fun b l x hb hx=>⟨x,by rw[PJ b l x hb hx];exact hx⟩) ?_ ?_ ?_
   ·have:=V.next;rcases hb with rfl|hb<;>omega
   ·intro b l x hb hx
    by_cases hbj: ∃j,b=base+j/\i+1<=j/\j<al.length/\S j
    ·obtain⟨j,rfl,h1,h2,h3⟩:=hbj
     rw[Vo j h1 h2 h3] at hx
     exact .inr ⟨by rw[<-hU j h2 (by omega)];exact hb,x,hx⟩
    ·rw[Kw b hbj] at hx
     exact .inl ⟨x,hx⟩
   ·show H.next<=(hs (i+1)).next
    have:=E.next;rw[V.hn];omega
   ·intro b hb hn
    have bE:b<base:=by simpa using hb
    rw[Kw b (by rintro⟨j,rfl,_⟩;omega),E.lost b (by have:=V.next;omega) (by rw[V.ext.eJ b hb];exact hn),dB b (fun k _ _=>by omega),<-V.h2 b (fun j h1=>by omega)]
    exact V.ext.lost b hb hn
  h1:=by
   intro j hj h1 h2
   rcases hj with hj|rfl
   ·rw[Vo j h1 h2 hj];exact V.h1 j hj (by omega) h2
   ·omega
  h2:=by
   intro b hb
   exact Kw b (by rintro⟨j,h1,h2,h3,h4⟩;exact hb j h1 h2 h3 (.inl h4))
  lt:=fun j hj=>by rcases hj with hj|rfl;exact V.lt j hj;exact iK
  vj:=fun j rj hj sj Fh=>by
   rcases hj with hj|rfl
   ·have:=V.vj j rj hj sj Fh;omega
   ·omega
  Ai:=fun j rj h1 h2 h3=>by
   by_cases eE:j=i
   ·exact .inr eE
   ·exact .inl (Y4 j rj (by omega) h2 h3)
  inj:=by
   intro j hj hn
   rw[hU j hj (fun e=>hn (.inr e))]
   exact V.inj j hj (fun h=>hn (.inl h))
  pb:=by
   intro j hj hn
   have eE:j≠i:=fun e=>hn (.inr e)
   have vR: ¬S j:=fun h=>hn (.inl h)
   rw[E.lost (base+j) (by have:=V.next;omega) (V.inj j (by omega) vR)]
   by_cases U9:m<=j
   ·exact avv j U9 (by omega)
   ·rw[dB (base+j) (fun k _ _=>by omega)]
    exact V.pb j (by omega) vR}
end
end
section
open Go
theorem VT {p p':Nat->Bool} (hle: ∀j,p' j=true->p j=true): ∀l:List Nat,(l.filter p').length<=(l.filter p).length
 |[]=>by simp
 |x::l=>by
  have ih:=VT hle l
  by_cases h1:p' x=true
  ·simp[h1,hle x h1];exact ih
  ·by_cases h2:p x=true
   ·simp[h1,h2];omega
   ·simp[h1,h2];exact ih
theorem VS {p p':Nat->Bool} (hle: ∀j,p' j=true->p j=true) {i:Nat} (hp:p i=true) (yc:p' i=false): ∀l:List Nat,i∈l->(l.filter p').length<(l.filter p).length
 |[],h=>by simp at h
 |x::l,h=>by
  have axg:=VT hle l
  by_cases hxi:x=i
  ·subst hxi;simp[hp,yc];omega
  ·have ih:=VS hle hp yc l (by simpa [Ne.symm hxi] using h)
   by_cases h1:p' x=true
   ·simp[h1,hle x h1];exact ih
   ·by_cases h2:p x=true
    ·simp[h1,h2];omega
    ·simp[h1,h2];exact ih
theorem mem_ready {ops:Array Oper} {eW:Array Bool} {i:Nat}:i∈Region.ready .any ops eW↔
 i<ops.size/\eW.getD i true=false/\ ∃o,ops.toList[i]? =some o/\ ∀e∈o.after.toList,Region.binds .any e=true->eW.getD e.on false=true:=by
 simp only[Region.ready,List.mem_filter,List.mem_range,Bool.and_eq_true,Bool.not_eq_true']
 refine and_congr_right fun hi=>and_congr_right fun _=>?_
 have:ops[i]? =ops.toList[i]?:=by simp
 rw[this]
 have aA:i<ops.toList.length:=by simpa using hi
 rw[List.getElem?_eq_getElem aA]
 simp only[Option.map_some,Option.getD_some,Option.some.injEq,exists_eq_left']
 rw[Array.all_eq_true_iff_forall_mem]
 constructor
 ·intro h e he hb
  have:=h e (by simpa using he)
  simpa [hb] using this
 ·intro h e he
  by_cases hb:Region.binds .any e=true
  ·simp[hb,h e (by simpa using he) hb]
  ·simp[hb]
section
variable {P:Program} {md:Mode}
variable {ops:Array Oper} {al:List RO} {un:List (List Nat)} {n base:Nat} {ρs:Nat->Env} {hs:Nat->aa} {rs:Nat->Option AV} {ι0:aG} {I0:aQ} {w0:World}
 {Q:Exit->Act->World->Prop}
theorem TR.alo (T:TR P ops al un base ρs hs rs) (yi: ∀(i:Nat) (o:Oper) (ro:RO),ops.toList[i]? =some o->al[i]? =some ro->tX P md n ops o=some ro)
 (U6: ∀ro∈al,ro.op.pV=true)
 {S:Nat->Prop} {m:Nat} {ρ:Env} {H:aa} {ι:aG} {I:aQ} {a:Act} {w:World} (V:mT P ops al n base ρs hs rs ι0 I0 w0 S m ρ H ι I a w)
 {i:Nat} {ro:RO} {o:Oper} (dO:al[i]? =some ro) (ho:ops.toList[i]? =some o) (hi: ¬S i)
 (jU: ∀e∈o.after.toList,Region.binds .any e=true->S e.on) {K:Act->World->Prop}
 (hK: ∀(m':Nat) (ρ':Env) (H':aa) (ι':aG) (I':aQ) (a':Act) (w':World),mT P ops al n base ρs hs rs ι0 I0 w0 (fun j=>S j\/j=i) m' ρ' H' ι' I' a' w'->K a' w'):
 if Region.wanted o (yielded ops a.tmps) then o.wp P a w K Q\/(o.asks P a w/\LetsOut Q) else K (a.put o.dst Go.undef) w:=by
 have iK:=(List.getElem?_eq_some_iff.1 dO).1
 have hc:=yi i o ro ho dO
 have rC:=(T.step i ro dO).1
 have qv:=T.alc V dO ho hi jU
 have aL:=V.inj i iK hi
 cases he:ro.op.cA with
 |true=>
  obtain⟨HH,gZ,Tx⟩:=T.alR V dO ho hi jU he
  refine Lm (Q:=Q) HH V.ar hc aL (WH qv rC) ?_
  intro a' w' ι' I' A' H' E
  obtain⟨J,V'⟩:=Tx A' H' E
  exact hK _ _ _ _ _ _ _ V'
 |false=>
  have key: ∃H1,bz P ro (base+i) ρ H (rs i) H1/\(∀b,b≠base+i->H1.get b=H.get b)/\H1.get (base+i)=(hs (i+1)).get (base+i)/\H1.next=H.next:=by
   have Af:ro∈al:=List.mem_of_getElem? dO
   have xB:=WH qv rC
   have AS:base+al.length<=H.next:=by rw[V.hn];exact V.next
   have ZH:(hs (i+1)).get (base+i)=none->H.get (base+i)=(hs (i+1)).get (base+i):=by
    intro Il
    by_cases kp:m<=i
    ·rw[V.h2 (base+i) (fun j h1 h2 h3=>by have:j=i:=by omega
                                          subst this;exact hi)]
     rw[T.fresh m i kp iK,Il]
    ·rw[V.h2 (base+i) (fun j h1 h2 h3=>by omega)]
     exact V.pb i (by omega) hi
   unfold bz at xB
   split at xB
   ·rename_i hg
    obtain⟨v,hv,bW⟩:=xB
    unfold gE at bW
    cases bS:ro.op with
    |p q=>
     rw[bS] at bW
     obtain⟨vF,hh⟩:=bW
     refine⟨H,?_,fun b _=>rfl,ZH (by rw[hh];exact T.fresh i i (Nat.le_refl _) iK),rfl⟩
     have hvH:aX q ρ H=some v:=by
      by_cases jI:q.reads=true
      ·have J9:aX q (ρs i) (hs i)=some v:=by
        rw[Lj q (ρ':=ρ) (hs i) ?_]
        ·exact vF
        ·intro x hx
         cases x with
         |const c=>rfl
         |tmp t=>exact qv t (by simp only[RO.sW,bS,b7.dV,List.mem_append,List.mem_flatMap];exact .inl ⟨_,hx,by simp[aq.slot]⟩)
       obtain⟨r,h1,h2,h3,h4,h5⟩:=T.ref V dO ho hi jU bS jI hv J9
       rw[Lj q (ρ':=ρ) (hs r) ?_] at h5
       ·rw[<-h5]
        refine uj q ρ H (hs r) (fun b hb=>?_)
        obtain⟨l,hl⟩:=amD V.ar (by have:=U6 ro Af;rw[bS] at this;exact this) hb
        obtain⟨x,hx⟩:=alC hb h5
        exact T.YV V h1 h2 h3 hl hx
       ·intro x hx
        cases x with
        |const c=>rfl
        |tmp t=>exact qv t (by simp only[RO.sW,bS,b7.dV,List.mem_append,List.mem_flatMap];exact .inl ⟨_,hx,by simp[aq.slot]⟩)
      ·rw[<-vF]
       refine uj q ρ H (hs i) (fun b hb=>?_)
       exfalso
       cases q<;>simp[bc.key,bc.reads] at hb jI
     unfold bz
     rw[hg]
     refine⟨v,hv,?_⟩
     unfold gE
     rw[bS]
     exact⟨hvH,rfl⟩
    |a q=>
     rw[bS] at bW
     obtain⟨Bh,vF,hh⟩:=bW
     refine⟨H.at (base+i) Bh,?_,fun b hb=>by simp[aa.at,hb],by rw[hh];simp[aa.at],by simp only[aa.at];omega⟩
     unfold bz
     rw[hg]
     refine⟨v,hv,?_⟩
     unfold gE
     rw[bS]
     exact⟨Bh,vF,rfl⟩
    |e q=>rw[bS] at he;cases he
    |call f as=>rw[bS] at he;cases he
    |dyn x as=>rw[bS] at he;cases he
   ·rename_i hg
    obtain⟨hr,hh⟩:=xB
    refine⟨H,?_,fun b _=>rfl,ZH (by rw[hh];exact T.fresh i i (Nat.le_refl _) iK),rfl⟩
    unfold bz
    rw[hg]
    exact⟨hr,rfl⟩
   ·exact xB.elim
  obtain⟨H1,UT,g1,g2,g3⟩:=key
  refine Lm (Q:=Q) V.hr V.ar hc aL UT ?_
  intro a' w' ι' I' A' H' E
  exact hK _ _ _ _ _ _ _ (T.ai7 V dO ho hi jU he g1 g2 g3 A' H' E)
theorem TR.akP (T:TR P ops al un base ρs hs rs) (hlen:ops.toList.length=al.length) (yi: ∀(i:Nat) (o:Oper) (ro:RO),ops.toList[i]? =some o->al[i]? =some ro->tX P md n ops o=some ro)
 (U6: ∀ro∈al,ro.op.pV=true)
 (hQ: ∀(ι:aG) (I:aQ) (a:Act) (w:World),AR ι I w n (ρs al.length) a->HR ι I (hs al.length) w->Ext (base<= ·) ι0 I0 (hs 0) w0 ι I (hs al.length) w->Q .normal a w):
 ∀(fuel:Nat) (eW:Array Bool) {S:Nat->Prop} {m:Nat} {ρ:Env} {H:aa} {ι:aG} {I:aQ} {a:Act} {w:World},mT P ops al n base ρs hs rs ι0 I0 w0 S m ρ H ι I a w->
 eW.size=ops.size->(∀j,S j↔eW[j]? =some true)->((List.range ops.size).filter fun j=>!eW.getD j true).length<=fuel->
 wpAny P .any ops Q fuel eW a w:=by
 have aO:ops.size=al.length:=by simpa using hlen
 have acK: ∀(eW:Array Bool) {S:Nat->Prop} {m:Nat} {ρ:Env} {H:aa} {ι:aG} {I:aQ} {a:Act} {w:World},mT P ops al n base ρs hs rs ι0 I0 w0 S m ρ H ι I a w->
  eW.size=ops.size->(∀j,S j↔eW[j]? =some true)->Region.ready .any ops eW=[]->Q .normal a w:=by
  intro eW S m ρ H ι I a w V hl hS hr
  have gI: ∀j,j<al.length->S j:=by
   intro j
   induction j using Nat.strongRecOn with
   |_ j ih=>
    intro hj
    apply Classical.byContradiction
    intro hn
    have hjo:j<ops.toList.length:=by omega
    have:j∈Region.ready .any ops eW:=by
     rw[mem_ready]
     refine⟨by omega,?_,_,List.getElem?_eq_getElem hjo,fun e he hb=>?_⟩
     ·have dP:j<eW.size:=by omega
      have aM:eW[j]?≠some true:=fun h=>hn ((hS j).2 h)
      rw[Array.getElem?_eq_getElem dP] at aM
      simp only[Array.getD,dP,dif_pos]
      cases hq:eW[j] with
      |false=>simpa using hq
      |true=>exact(aM (by rw[hq])).elim
     ·have aD:=T.d2 j _ (List.getElem?_eq_getElem hjo) e he hb
      have:=(hS e.on).1 (ih e.on aD (by omega))
      simp[Array.getD_eq_getD_getElem?,this]
    rw[hr] at this
    simp at this
  obtain⟨rfl,rfl⟩:=T.aqV V gI
  exact hQ ι I a w V.ar V.hr V.ext
 intro fuel
 induction fuel with
 |zero=>
  intro eW S m ρ H ι I a w V hl hS hf
  have hr:Region.ready .any ops eW=[]:=by
   cases hq:Region.ready .any ops eW with
   |nil=>rfl
   |cons i l=>
    have hi:i∈Region.ready .any ops eW:=by rw[hq];simp
    obtain⟨h1,h2,_⟩:=mem_ready.1 hi
    have hz:=List.eq_nil_of_length_eq_zero (Nat.le_zero.1 hf)
    have:i∈(List.range ops.size).filter fun j=>!eW.getD j true:=by
     rw[List.mem_filter]
     exact⟨List.mem_range.2 h1,by rw[h2];rfl⟩
    rw[hz] at this
    simp at this
  exact⟨hr,acK eW V hl hS hr⟩
 |succ fuel ih=>
  intro eW S m ρ H ι I a w V hl hS hf
  refine⟨acK eW V hl hS,fun i hi=>?_⟩
  obtain⟨h1,h2,o,ho,jU⟩:=mem_ready.1 hi
  have asS:i<al.length:=by omega
  have dO:=List.getElem?_eq_getElem asS
  have hnS: ¬S i:=by
   intro h
   have:=(hS i).1 h
   simp[Array.getD_eq_getD_getElem?,this] at h2
  have jI: ∀e∈o.after.toList,Region.binds .any e=true->S e.on:=by
   intro e he hb
   have hx:=jU e he hb
   rw[hS]
   cases hq:eW[e.on]? with
   |none=>simp[Array.getD_eq_getD_getElem?,hq] at hx
   |some b=>simp[Array.getD_eq_getD_getElem?,hq] at hx;rw[hx]
  have bS:ops[i]? =some o:=by simpa using ho
  unfold wpOp
  rw[bS]
  simp only[]
  refine T.alo yi U6 V dO ho hnS jI ?_
  intro m' ρ' H' ι' I' a' w' V'
  refine ih (eW.setIfInBounds i true) V' (by simp[hl]) (fun j=>?_) ?_
  ·by_cases eE:j=i
   ·subst eE
    have:j<eW.size:=by omega
    simp[this]
   ·simp[eE,Array.getElem?_setIfInBounds_ne (Ne.symm eE),hS j]
  ·have aD:=VS (p:=fun j=>!eW.getD j true) (p':=fun j=>!(eW.setIfInBounds i true).getD j true) (i:=i) (fun j hj=>?_) (by simp[h2]) ?_ (List.range ops.size) (by simpa using h1)
   ·omega
   ·by_cases eE:j=i
    ·subst eE
     have dP:j<eW.size:=by omega
     simp[Array.getD_eq_getD_getElem?,dP] at hj
    ·simpa [Array.getD_eq_getD_getElem?,Array.getElem?_setIfInBounds_ne (Ne.symm eE)] using hj
   ·have dP:i<eW.size:=by omega
    simp[Array.getD_eq_getD_getElem?,dP]
end
end
section
open Go
section
variable {P:Program} {md:Mode}
theorem W0 {tu:List Nat} {oV:List (List Nat)} (h: ∀j i,(tu.getD j 0).testBit i=(oV.getD j []).contains i) (i:Nat): ∀es:List Edge,
 (BW tu es).testBit i=(es.flatMap fun e=>e.on::oV.getD e.on []).contains i
 |[]=>by simp[BW]
 |e::es=>by
  rw[BW,Nat.testBit_or,Nat.testBit_or,W0 h i es,h,Nat.testBit_two_pow,List.flatMap_cons]
  rw[Bool.eq_iff_iff]
  simp only[Bool.or_eq_true,decide_eq_true_eq,List.contains_iff_mem,List.mem_append,List.mem_cons]
  constructor
  ·rintro((h1|h1)|h1)
   ·exact .inl (.inl h1.symm)
   ·exact .inl (.inr h1)
   ·exact .inr h1
  ·rintro((h1|h1)|h1)
   ·exact .inl (.inl h1.symm)
   ·exact .inl (.inr h1)
   ·exact .inr h1
theorem WS: ∀(os:List Oper) (tu:List Nat) (oV:List (List Nat)),tu.length=oV.length->(∀j i,(tu.getD j 0).testBit i=(oV.getD j []).contains i)->
 ∀j i,((qW os tu).getD j 0).testBit i=((gd os oV).getD j []).contains i
 |[],tu,oV,hl,h,j,i=>h j i
 |o::os,tu,oV,hl,h,j,i=>by
  rw[qW,gd]
  refine WS os _ _ (by simp[hl]) (fun j i=>?_) j i
  simp only[List.getD_eq_getElem?_getD]
  by_cases hj:j<tu.length
  ·rw[List.getElem?_append_left hj,List.getElem?_append_left (by omega)]
   have:=h j i
   simpa only[List.getD_eq_getElem?_getD] using this
  ·rw[List.getElem?_append_right (by omega),List.getElem?_append_right (by omega),hl]
   by_cases qz:j=oV.length
   ·subst qz
    simpa using W0 h i (o.after.toList.filter fun e=>Region.binds .any e)
   ·have:0<j-oV.length:=by omega
    obtain⟨d,hd⟩: ∃d,j-oV.length=d+1:=⟨j-oV.length-1,by omega⟩
    rw[hd]
    simp
theorem Gt {ops:Array Oper} {m i j:Nat} (hm:(qW ops.toList [])[j]? =some m):m.testBit i=j9 (gd ops.toList []) i j:=by
 have:=WS ops.toList [] [] rfl (fun j i=>by simp) j i
 rw[List.getD_eq_getElem?_getD,hm] at this
 simpa [j9] using this
theorem ug {al:List RO} {ms:List Nat} (hl:ms.length=al.length) {i:Nat} {ri:RO} (hi:al[i]? =some ri): ∃m,ms[i]? =some m/\((ri,m),i)∈zA al ms:=by
 have aD:=(List.getElem?_eq_some_iff.1 hi).1
 have hm:=List.getElem?_eq_getElem (l:=ms) (i:=i) (by omega)
 refine⟨_,hm,?_⟩
 rw[zA,List.mem_zipIdx_iff_getElem?,List.getElem?_zip_eq_some]
 exact⟨hi,hm⟩
theorem akc {ops:Array Oper} {al:List RO} (h:EM ops al=true):
 (∀(i j:Nat) (ri rj:RO) (t:Nat),al[i]? =some ri->al[j]? =some rj->ri.dst=some t->rj.dst=some t->i=j)/\
 (∀(k:Nat) (o:Oper),ops.toList[k]? =some o-> ∀e∈o.after.toList,Region.binds .any e=true->e.on<k)/\
 (∀(i j:Nat) (ri rj:RO) (t:Nat),al[i]? =some ri->al[j]? =some rj->i≠j->t∈ri.sW->rj.dst=some t->if j<i then j9 (gd ops.toList []) j i=true else j9 (gd ops.toList []) i j=true)/\
 (∀(i j:Nat) (ri rj:RO),i<j->al[i]? =some ri->al[j]? =some rj->ri.op.cA=true->rj.op.cA=true->j9 (gd ops.toList []) i j=true)/\
 (∀ro∈al,ro.op.pV=true)/\(qW ops.toList []).length=al.length:=by
 simp only[EM,Bool.and_eq_true] at h
 obtain⟨⟨⟨⟨⟨h0,h1⟩,h2⟩,h3⟩,h4⟩,h5⟩:=h
 have hl:(qW ops.toList []).length=al.length:=by simpa using h0
 simp only[List.all_eq_true] at h1 h3 h5
 refine⟨fun i j ri rj t hi hj hdi hdj=>?_,fun k o hk e he hb=>?_,fun i j ri rj t hi hj aM ht hd=>?_,fun i j ri rj nP hi hj hei Ko=>?_,h5,hl⟩
 ·obtain⟨mi,kp,AH⟩:=ug hl hi
  obtain⟨mj,Ke,E8⟩:=ug hl hj
  have:=h1 _ AH _ E8
  simp only[hdi,hdj] at this
  simpa using this
 ·rw[List.all_eq_true] at h2
  have:=h2 (o,k) (by rw[List.mem_iff_getElem?];exact⟨k,by simp[List.getElem?_zipIdx,hk]⟩)
  simp only[List.all_eq_true] at this
  have:=this e he
  simpa [hb] using this
 ·obtain⟨mi,kp,AH⟩:=ug hl hi
  obtain⟨mj,Ke,E8⟩:=ug hl hj
  have:=h3 _ AH t ht _ E8
  simp only[hd] at this
  have Eo:(i==j)=false:=by simpa using aM
  rw[Eo] at this
  rw[<-Gt kp,<-Gt Ke]
  split
  ·rename_i aD;simpa [aD] using this
  ·rename_i aD;simpa [aD] using this
 ·obtain⟨mi,kp,AH⟩:=ug hl hi
  obtain⟨mj,Ke,E8⟩:=ug hl hj
  rw[List.all_eq_true] at h4
  have:=h4 _ E8
  simp only[Ko,Bool.not_true,Bool.false_or,List.all_eq_true] at this
  have:=this _ AH
  rw[<-Gt Ke]
  simpa [hei,nP] using this
theorem aml {ops:Array Oper} {al:List RO} (hl:(qW ops.toList []).length=al.length) {i k:Nat} {ri rk:RO} (hk:k<i) (hi:al[i]? =some ri) (po:al[k]? =some rk)
 (hx:(ri.op.reads=true/\rk.op.cA=true)\/(ri.op.cA=true/\rk.op.reads=true)) (ho:j9 (gd ops.toList []) k i=false):k∈(xT ops al).getD i []:=by
 obtain⟨mi,kp,AH⟩:=ug hl hi
 obtain⟨mk,hmk,hpk⟩:=ug hl po
 have aT:(zA al (qW ops.toList []))[i]? =some ((ri,mi),i):=by
  rw[zA,List.getElem?_zipIdx,(List.getElem?_zip_eq_some (z:=(ri,mi))).2 ⟨hi,kp⟩]
  simp
 simp only[xT,List.getD_eq_getElem?_getD,List.getElem?_map,aT,Option.map_some,Option.getD_some]
 have avX:(ri.op.reads||ri.op.cA)=true:=by rcases hx with⟨h1,_⟩|⟨h1,_⟩<;>simp[h1]
 rw[if_pos avX,List.mem_map]
 refine⟨((rk,mk),k),?_,rfl⟩
 rw[List.mem_filter]
 refine⟨hpk,?_⟩
 simp only[Gt kp,ho]
 rcases hx with⟨h1,h2⟩|⟨h1,h2⟩<;>simp[h1,h2,hk]
theorem aiI {ι:aG} {I:aQ} {h:aa} {w:World} (H:HR ι I h w) (d:Nat):HR ι I h {w with drawn:=d}/\Ext (fun _=>False) ι I h w ι I h {w with drawn:=d}/\(∀x v,VR ι I w x v->VR ι I {w with drawn:=d} x v):=by
 have hv: ∀x v,VR ι I w x v->VR ι I {w with drawn:=d} x v:=fun x v hx=>VR.mono (w:=w) (w':={w with drawn:=d}) (fun _ _ h=>h) (fun _ _ h=>h) (fun _ _ _=>rfl) hx
 refine⟨{cD:=H.cD,inside:=H.inside,cells:=?_,maps:=?_,eQ:=H.eQ,dm:=H.dm,bn:=H.bn,dg:=H.dg,pl:=H.pl},?_,hv⟩
 ·intro b cs l hg hb
  obtain⟨cb,o,room,h1,h2,h3,h4⟩:=H.cells b cs l hg hb
  refine⟨cb,o,room,h1,h2,h3,fun j hj=>?_⟩
  obtain⟨c,e1,e2,e3⟩:=h4 j hj
  exact⟨c,e1,e2,fun v cT=>hv _ _ (e3 v cT)⟩
 ·intro b es l hg hb
  obtain⟨cb,aV,clock,h1,h2,h3,h4⟩:=H.maps b es l hg hb
  exact⟨cb,aV,clock,h1,h2,h3,fun i k v e e1 e2=>⟨hv _ _ (h4 i k v e e1 e2).1,hv _ _ (h4 i k v e e1 e2).2⟩⟩
 ·exact{eJ:=fun _ _=>rfl,bN:=fun _ _ h=>h,next:=Nat.le_refl _,bn:=fun _ _ h=>h,os:=rfl,tape:=rfl,output:=rfl,size:=Nat.le_refl _,block:=fun _ _ _=>rfl,cell:=fun _ _ _ _=>rfl,frozen:=fun _ _ _ _=>rfl,own:=fun _ _ h=> .inl h,fQ:=fun _ _ h=> .inl h,lost:=fun _ _ _=>rfl}
theorem WQ (hm:P.follows .mixedOrders=true) {n:Nat} {rid:Nat} {ops:Array Oper} {al:List RO} (hc:tj P md n ops ops.toList=some al) (ba:EM ops al=true)
 {ι:aG} {I:aQ} {h:aa} {w:World} {ρ:Env} {a:Act} (H:HR ι I h w) (A:AR ι I w n ρ a) (uM: ∀j,j<al.length->h.get (h.next+j)=none)
 {K:Env->aa->Prop} (he:mn P al (xT ops al) h.next al 0 ρ {h with next:=h.next+al.length} [] K) {Q:Exit->Act->World->Prop}
 (hQ: ∀ρ' h' a' w' ι' I',K ρ' h'->AR ι' I' w' n ρ' a'->HR ι' I' h' w'->Ext (h.next<= ·) ι I h w ι' I' h' w'->Q .normal a' w'):
 (Code.region rid ops true).wp P Q a w:=by
 obtain⟨hlen,yi⟩:=L5 hc
 obtain⟨d1,d2,d3,d4,d6,dl⟩:=akc ba
 obtain⟨tr,ρn,hn,sh,Kv,gI,_,Ae⟩:=X6 (P:=P) (K:=K) (al:=al) (un:=xT ops al) (base:=h.next) al [] ρ {h with next:=h.next+al.length} [] rfl rfl (fun i ro d _ hd=>by simp at hd) he
 have Ae:=Ae rfl
 have Kb: ∀i,i<al.length-> ∃d,tr[i]? =some d:=fun i hi=>⟨_,List.getElem?_eq_getElem (by omega)⟩
 let ρs:Nat->Env:=fun i=>(fG tr ρn hn i).1
 let hs:Nat->aa:=fun i=>(fG tr ρn hn i).2
 let rs:Nat->Option AV:=fun i=>(tr[i]?).elim none fun d=>d.2.2
 have ya: ∀i d,tr[i]? =some d->rs i=d.2.2:=fun i d hd=>by simp[rs,hd]
 have dB: ∀i d,tr[i]? =some d->fG tr ρn hn i=(d.1,d.2.1):=fun i d hd=>by simp[fG,hd]
 have T:TR P ops al (xT ops al) h.next ρs hs rs:={
  step:=by
   intro i ro hi
   obtain⟨d,hd⟩:=Kb i (List.getElem?_eq_some_iff.1 hi).1
   obtain⟨a1,a2,_,_⟩:=gI i ro d hi hd
   rw[ya i d hd]
   exact⟨a1,a2⟩
  l6:=by
   intro i k ro ok hi hk nN Af
   obtain⟨d,hd⟩:=Kb i (List.getElem?_eq_some_iff.1 hi).1
   obtain⟨dk,dt⟩:=Kb k (List.getElem?_eq_some_iff.1 hk).1
   obtain⟨_,_,_,a4⟩:=gI i ro d hi hd
   have:=a4 k Af ok dk hk dt nN
   rw[ya i d hd,ya k dk dt]
   have e:(ρs k,hs k,dk.2.2)=dk:=by
    simp only[ρs,hs,dB k dk dt]
   rw[e]
   exact this
  ZL:=by
   intro j hj
   show(fG tr ρn hn 0).2.get (h.next+j)=none
   rw[Ae]
   exact uM j hj
  ZK:=by
   intro i ro hi Ty j nP hj
   obtain⟨d,hd⟩:=Kb i (List.getElem?_eq_some_iff.1 hi).1
   obtain⟨_,_,a3,_⟩:=gI i ro d hi hd
   exact a3 Ty j nP hj
  aq7:=by
   show h.next+al.length<=(fG tr ρn hn 0).2.next
   rw[Ae];exact Nat.le_refl _
  d1:=d1,d2:=d2,d3:=d3,d4:=d4
  d5:=fun i k ri rk nN hi hk hx ho=>aml dl nN hi hk hx ho}
 refine wp_region_any hm ?_
 obtain⟨Hd,Ed,Vd⟩:=aiI H (w.drawn+1)
 have tL:hs 0={h with next:=h.next+al.length}:=by show(fG tr ρn hn 0).2=_;rw[Ae]
 have ρs0:ρs 0=ρ:=by show(fG tr ρn hn 0).1=_;rw[Ae]
 have hsn:hs al.length=hn:=by
  show(fG tr ρn hn al.length).2=hn
  simp[fG,List.getElem?_eq_none (show tr.length<=al.length by omega)]
 have ρsn:ρs al.length=ρn:=by
  show(fG tr ρn hn al.length).1=ρn
  simp[fG,List.getElem?_eq_none (show tr.length<=al.length by omega)]
 have E0:Ext (h.next<= ·) ι I h w ι I {h with next:=h.next+al.length} {w with drawn:=w.drawn+1}:=
  {eJ:=fun _ _=>rfl,bN:=fun _ _ h=>h,next:=by simp,bn:=fun _ _ h=>h,os:=rfl,tape:=rfl,output:=rfl,size:=Nat.le_refl _,block:=fun _ _ _=>rfl,cell:=fun _ _ _ _=>rfl,frozen:=fun _ _ _ _=>rfl,own:=fun _ _ h=> .inl h,fQ:=fun _ _ h=> .inl h,lost:=fun _ _ _=>rfl}
 have H0:HR ι I (hs 0) {w with drawn:=w.drawn+1}:=by
  rw[tL]
  exact Hd.CO (fun b l hb=>by have:=H.cD b l hb;show b<h.next+al.length;omega) (fun b l x _ hx=>hx)
 refine T.akP hlen yi d6 (ι0:=ι) (I0:=I) (w0:={w with drawn:=w.drawn+1}) (Q:=Q) ?_ ops.size (Array.replicate ops.size false) (S:=fun _=>False) (m:=0) (ρ:=ρ) (H:=hs 0) (ι:=ι) (I:=I) ?_ (by simp) ?_ ?_
 ·intro ι' I' a' w' A' H' E'
  rw[ρsn] at A'
  rw[hsn] at H'
  rw[tL,hsn] at E'
  exact hQ ρn hn a' w' ι' I' Kv A' H' (E0.trans E' (fun b hb=>hb))
 ·exact
  {ar:=A.mono Vd,hr:=H0,ext:= .refl _ _ _ _ _,ρ0:=fun t _=>by rw[ρs0],ρ1:=fun t j ro hj=>hj.elim,h1:=fun j hj=>hj.elim,h2:=fun b _=>rfl,hn:=rfl
   lt:=fun j hj=>hj.elim,closed:=fun j o hj=>hj.elim,xZ:=Nat.zero_le _,vj:=fun j ro hj=>hj.elim,Ai:=fun j ro hj=>by omega,zD:= .inl rfl
   inj:=fun j hj _=>by
    cases hq:ι (h.next+j) with
    |none=>rfl
    |some l=>have:=H.cD _ _ hq;omega
   pb:=fun j hj=>by omega
   next:=by rw[tL];exact Nat.le_refl _}
 ·intro j
  simp[Array.getElem?_replicate]
 ·exact Nat.le_trans (List.length_filter_le _ _) (by simp)
end
end
section
open Go
def aa.clean (h:aa) (n:Nat):aa:={get:=fun b=>if b<h.next then h.get b else none,next:=h.next+n}
def aP.wv:aP->Exit
 | .normal=> .normal
 | .exit id=> .exit id
 | .goto l=> .goto l
 | .ret=> .ret
def rU (n:Nat) (ι:aG) (I:aQ) (h:aa) (w:World) (e:aP) (ρ':Env) (h':aa):Exit->Act->World->Prop:=fun x a' w'=>
 x=e.wv/\ ∃ι' I',AR ι' I' w' n ρ' a'/\HR ι' I' h' w'/\Ext (h.next<= ·) ι I h w ι' I' h' w'
def auO (P:Program) (md:Mode) (m:Nat) (c:aW) (ρ:Env) (h:aa) (e:aP) (ρ':Env) (h':aa):Prop:=
 ∀(n:Nat) (ι:aG) (I:aQ) (w:World) (a:Act),HR ι I h w->AR ι I w n ρ a->
  match c with
  | .inScope body cur=> ∀cb cc,d7 P md n cb=some body->d7 P md n cc=some cur-> ∀b k cs,∃x a' w',rU n ι I h w e ρ' h' x a' w'/\
     Arrives P (lone (b.at a (.code cc:: .inScope cb::k)) cs w) b k cs x a' w'
  | .loop c'=> ∀cc,d7 P md n cc=some c'->Code.rounds P cc (rU n ι I h w e ρ' h') m a w
  |c=> ∀cc,d7 P md n cc=some c->cc.wp P (rU n ι I h w e ρ' h') a w
def KV (P:Program) (md:Mode) (c:aW) (ρ:Env) (h:aa) (e:aP) (ρ':Env) (h':aa):Prop:= ∃m,auO P md m c ρ h e ρ' h'
inductive eG (P:Program):aW->Env->aa->aP->Env->aa->Prop
 |skip {ρ:Env} {h:aa}:eG P .skip ρ h .normal ρ h
 |label {l:Nat} {ρ:Env} {h:aa}:eG P (.label l) ρ h .normal ρ h
 |exit {id:Nat} {ρ:Env} {h:aa}:eG P (.exit id) ρ h (.exit id) ρ h
 |goto {l:Nat} {ρ:Env} {h:aa}:eG P (.goto l) ρ h (.goto l) ρ h
 |ret {ρ:Env} {h:aa}:eG P .ret ρ h .ret ρ h
 |af {al:List RO} {ρ ρ1:Env} {h h1:aa} (he:exec P al ρ h (fun ρ' h'=>ρ'=ρ1/\h'=h1)):eG P (.af al) ρ h .normal ρ1 h1
 |aY {al:List RO} {un:List (List Nat)} {ρ ρ1:Env} {h h1:aa} (hf: ∀j,j<al.length->h.get (h.next+j)=none)
   (he:mn P al un h.next al 0 ρ {h with next:=h.next+al.length} [] (fun ρ' h'=>ρ'=ρ1/\h'=h1)):eG P (.aY al un) ρ h .normal ρ1 h1
 |Eb {al:List RO} {un:List (List Nat)} {ρ ρ1:Env} {h h1:aa} (he:mn P al un h.next al 0 ρ (h.clean al.length) [] (fun ρ' h'=>ρ'=ρ1/\h'=h1)):eG P (.aY al un) ρ h .normal ρ1 h1
 |seq {a b:aW} {ρ ρ1 ρ2:Env} {h h1 h2:aa} {e:aP} (b1:eG P a ρ h .normal ρ1 h1) (b2:eG P b ρ1 h1 e ρ2 h2):eG P (.seq a b) ρ h e ρ2 h2
 |ve {a b:aW} {ρ ρ1:Env} {h h1:aa} {e:aP} (b1:eG P a ρ h e ρ1 h1) (he:e≠ .normal):eG P (.seq a b) ρ h e ρ1 h1
 |cond {c:aq} {x y:aW} {ρ ρ1:Env} {h h1:aa} {e:aP} (t:Bool) (hc:c.ev ρ= .bool t) (b1:eG P (if t then x else y) ρ h e ρ1 h1):eG P (.cond c x y) ρ h e ρ1 h1
 |block {id:Nat} {c:aW} {ρ ρ1:Env} {h h1:aa} {e:aP} (b1:eG P c ρ h e ρ1 h1):eG P (.block id c) ρ h (if e= .exit id then .normal else e) ρ1 h1
 |loop {c:aW} {ρ ρ1 ρ2:Env} {h h1 h2:aa} {e:aP} (b1:eG P c ρ h .normal ρ1 h1) (b2:eG P (.loop c) ρ1 h1 e ρ2 h2):eG P (.loop c) ρ h e ρ2 h2
 |rA {c:aW} {ρ ρ1:Env} {h h1:aa} {e:aP} (b1:eG P c ρ h e ρ1 h1) (he:e≠ .normal):eG P (.loop c) ρ h e ρ1 h1
 |scope {c:aW} {ρ ρ1:Env} {h h1:aa} {e:aP} (b1:eG P (.inScope c c) ρ h e ρ1 h1):eG P (.scope c) ρ h e ρ1 h1
 |ph {body cur:aW} {ρ ρ1:Env} {h h1:aa} {e:aP} (b1:eG P cur ρ h e ρ1 h1) (he: ∀l,e= .goto l->fZ body l=none):eG P (.inScope body cur) ρ h e ρ1 h1
 |J6 {body cur rest:aW} {l:Nat} {ρ ρ1 ρ2:Env} {h h1 h2:aa} {e:aP} (b1:eG P cur ρ h (.goto l) ρ1 h1) (hl:fZ body l=some rest) (b2:eG P (.inScope body rest) ρ1 h1 e ρ2 h2):
   eG P (.inScope body cur) ρ h e ρ2 h2
 |sem {a b:aW} {ρ ρ1:Env} {h h1:aa} {e:aP} (hs: ∀md,KV P md (.xy a b) ρ h e ρ1 h1):eG P (.xy a b) ρ h e ρ1 h1
section
variable {P:Program} {md:Mode}
def ahE (P:Program) (md:Mode) (n:Nat) (cc:Code):aW->Prop
 | .skip=>cc= .skip
 | .af al=> ∃id ops,cc= .region id ops false/\tj P md n ops ops.toList=some al
 | .aY al un=> ∃id ops,cc= .region id ops true/\tj P md n ops ops.toList=some al/\EM ops al=true/\un=xT ops al
 | .seq a b=> ∃x y,cc= .seq x y/\d7 P md n x=some a/\d7 P md n y=some b
 | .xy a b=> ∃x y,cc= .seq x y/\d7 P md n x=some a/\d7 P md n y=some b
 | .cond c a b=> ∃o x y,cc= .cond o x y/\bk md.pr o=some c/\d7 P md n x=some a/\d7 P md n y=some b
 | .block id a=> ∃x,cc= .block id x/\d7 P md n x=some a
 | .loop a=> ∃x,cc= .loop x/\d7 P md n x=some a
 | .exit id=>cc= .exit id
 | .scope a=> ∃x,cc= .scope x/\d7 P md n x=some a
 | .inScope _ _=>False
 | .label l=>cc= .label l
 | .goto l=>cc= .goto l
 | .ret=>cc= .ret
theorem jP {n:Nat} {cc:Code} {r:aW} (hc:d7 P md n cc=some r):ahE P md n cc r:=by
 cases cc<;>try(simp only[d7] at hc;first|(cases hc;rfl)|(cases hc;done))
 case region id ops d=>
  cases d with
  |false=>
   simp only[d7,Option.map_eq_some_iff] at hc
   obtain⟨al,h1,rfl⟩:=hc
   exact⟨id,ops,rfl,h1⟩
  |true=>
   simp only[d7,Option.bind_eq_bind,Option.bind_eq_some_iff] at hc
   obtain⟨al,h1,hc⟩:=hc
   split at hc
   ·rename_i ba;cases hc;exact⟨id,ops,rfl,h1,ba,rfl⟩
   ·cases hc
 case seq a b=>
  simp only[d7,Option.bind_eq_bind,Option.bind_eq_some_iff] at hc
  obtain⟨x,h1,y,h2,hc⟩:=hc
  cases hc
  cases x.Ac
  ·exact⟨a,b,rfl,h1,h2⟩
  ·exact⟨a,b,rfl,h1,h2⟩
 case cond c a b=>
  simp only[d7,Option.bind_eq_bind,Option.bind_eq_some_iff] at hc
  obtain⟨o,h0,x,h1,y,h2,hc⟩:=hc
  cases hc
  exact⟨c,a,b,rfl,h0,h1,h2⟩
 case block id a=>
  simp only[d7,Option.bind_eq_bind,Option.bind_eq_some_iff] at hc
  obtain⟨x,h1,hc⟩:=hc
  cases hc
  exact⟨a,rfl,h1⟩
 case loop a=>
  simp only[d7,Option.bind_eq_bind,Option.bind_eq_some_iff] at hc
  obtain⟨x,h1,hc⟩:=hc
  cases hc
  exact⟨a,rfl,h1⟩
 case scope a=>
  simp only[d7,Option.bind_eq_bind,Option.bind_eq_some_iff] at hc
  obtain⟨x,h1,hc⟩:=hc
  cases hc
  exact⟨a,rfl,h1⟩
def FL (P:Program) (md:Mode) (n:Nat):Option Code->Option aW->Prop
 |some x,some y=>d7 P md n x=some y
 |none,none=>True
 |_,_=>False
theorem ahG {l:Nat}: ∀{c r:aW},fZ c l=some r->r.Ac=false:=by
 intro c
 induction c<;>intro r h<;>simp only[fZ] at h<;>try(cases h;done)
 case seq a b UJ EY=>
  split at h
  ·cases h;rfl
  ·exact EY h
 case xy a b UJ EY=>exact EY h
 case label l'=>
  split at h
  ·cases h;rfl
  ·cases h
theorem ahH {l:Nat} {c:aW} (h:c.Ac=true):fZ c l=none:=by
 cases c<;>simp only[aW.Ac] at h<;>first|rfl|cases h
theorem Wx {n:Nat} (l:Nat): ∀(cc:Code) (r:aW),d7 P md n cc=some r->FL P md n (findLabel cc l) (fZ r l):=by
 intro cc
 induction cc
 case seq a b UJ EY=>
  intro r hc
  simp only[d7,Option.bind_eq_bind,Option.bind_eq_some_iff] at hc
  obtain⟨x,h1,y,h2,hc⟩:=hc
  cases hc
  have ha:=UJ x h1
  have hb:=EY y h2
  cases hr:x.Ac with
  |true=>
   simp only[if_true,findLabel,fZ]
   rw[ahH hr] at ha
   cases h3:findLabel a l<;>simp only[h3,FL] at ha ⊢
   exact hb
  |false=>
  simp only[Bool.false_eq_true,if_false,findLabel,fZ]
  cases h3:findLabel a l<;>cases h4:fZ x l<;>simp only[h3,h4] at ha<;>simp only[]
  ·exact hb
  ·exact ha.elim
  ·exact ha.elim
  ·simp only[FL] at ha ⊢
   simp[d7,ha,h2,ahG h4]
 case label l'=>
  intro r hc
  simp only[d7] at hc
  cases hc
  simp only[findLabel,fZ]
  by_cases h:(l'==l)=true
  ·simp[h,FL,d7]
  ·simp[h,FL]
 all_goals
  intro r hc
  have hi:=jP hc
  cases r<;>simp only[ahE] at hi<;>simp only[findLabel,fZ,FL]
  all_goals (first|(cases hi;done)|(obtain⟨_,_,h,_⟩:=hi;cases h;done)|(obtain⟨_,_,_,h,_⟩:=hi;cases h;done))
end
end
section
open Go
theorem rU.trans {n:Nat} {ι ι1:aG} {I I1:aQ} {h h1 h2:aa} {w w1:World} {e:aP} {ρ2:Env} (E:Ext (h.next<= ·) ι I h w ι1 I1 h1 w1) {x:Exit} {a':Act} {w':World}
 (hp:rU n ι1 I1 h1 w1 e ρ2 h2 x a' w'):rU n ι I h w e ρ2 h2 x a' w':=by
 obtain⟨h1,ι',I',A,H,F⟩:=hp
 exact⟨h1,ι',I',A,H,E.trans F (fun b hb=>Nat.le_trans E.next hb)⟩
theorem We {P:Program} {c:Code} {Q Q':Exit->Act->World->Prop} (hq: ∀e a w,Q e a w->Q' e a w): ∀(n:Nat) (a:Act) (w:World),Code.rounds P c Q n a w->Code.rounds P c Q' n a w
 |0,_,_,h=>h
 |n+1,a,w,h=>by
  rw[rounds_succ] at h ⊢
  refine wp_mono h (fun e a w he=>?_)
  cases e<;>simp only[Exit.then] at he ⊢ <;>first|exact We hq n _ _ he|exact hq _ _ _ he
section
variable {P:Program} {md:Mode}
theorem KV.wp {c:aW} {ρ ρ':Env} {h h':aa} {e:aP} (hs:KV P md c ρ h e ρ' h') {n:Nat} {ι:aG} {I:aQ} {w:World} {a:Act} (H:HR ι I h w) (A:AR ι I w n ρ a) {cc:Code} (hc:d7 P md n cc=some c):
 cc.wp P (rU n ι I h w e ρ' h') a w:=by
 obtain⟨m,hs⟩:=hs
 have:=hs n ι I w a H A
 cases c<;>try exact this cc hc
 case loop c'=>
  obtain⟨x,rfl,hx⟩:=jP hc
  exact wp_loop_rounds m (this x hx)
 case inScope body cur=>exact(jP hc).elim
theorem HR.clean {ι:aG} {I:aQ} {h:aa} {w:World} (H:HR ι I h w):HR ι I (h.clean 0) w where
 cD b l hb:=by have:=H.cD b l hb;simpa [aa.clean] using this
 inside:=H.inside
 cells b cs l hg hb:=H.cells b cs l (by have:=H.cD b l hb;simpa [aa.clean,this] using hg) hb
 maps b es l hg hb:=H.maps b es l (by have:=H.cD b l hb;simpa [aa.clean,this] using hg) hb
 eQ b l hg hb:=H.eQ b l (by have:=H.cD b l hb;simpa [aa.clean,this] using hg) hb
 dm b b' l l' x x' k j aM hb bE hg cC:=H.dm b b' l l' x x' k j aM hb bE (by have:=H.cD b l hb;simpa [aa.clean,this] using hg) (by have:=H.cD b' l' bE;simpa [aa.clean,this] using cC)
 bn b l x k j hb hg:=H.bn b l x k j hb (by have:=H.cD b l hb;simpa [aa.clean,this] using hg)
 dg:=H.dg
 pl b cs cb o room hg hb:=H.pl b cs cb o room (by have:=H.cD b _ hb;simpa [aa.clean,this] using hg) hb
theorem Ext.amk {ι ι':aG} {I I':aQ} {h h':aa} {w w':World} (E:Ext ((h.clean 0).next<= ·) ι I (h.clean 0) w ι' I' h' w') (H:HR ι I h w):Ext (h.next<= ·) ι I h w ι' I' h' w':=by
 have ho: ∀k j,ew ι (h.clean 0) k j↔ew ι h k j:=fun k j=>by
  constructor
  ·rintro⟨b,l,x,hb,hg,hl⟩
   exact⟨b,l,x,hb,by have:=H.cD b l hb;simpa [aa.clean,this] using hg,hl⟩
  ·rintro⟨b,l,x,hb,hg,hl⟩
   exact⟨b,l,x,hb,by have:=H.cD b l hb;simpa [aa.clean,this] using hg,hl⟩
 exact
 {eJ:=fun b hb=>E.eJ b (by simpa [aa.clean] using hb),bN:=E.bN,next:=E.next,bn:=E.bn,os:=E.os,tape:=E.tape,output:=E.output,size:=E.size
  block:=fun k hk hn=>E.block k hk (fun j hj=>hn j ((ho k j).1 hj))
  cell:=fun k j hk hn=>E.cell k j hk (fun hj=>hn ((ho k j).1 hj))
  frozen:=fun k j hk hn=>E.frozen k j hk (fun hj=>hn ((ho k j).1 hj))
  own:=fun k j hj=>(E.own k j hj).imp (ho k j).1 id
  fQ:=fun k j hj=>by rcases E.fQ k j hj with h|h|h;exact .inl h;exact .inr (.inl ((ho k j).1 h));exact .inr (.inr h)
  lost:=fun b hb hi=>by
   rw[E.lost b (by simpa [aa.clean] using hb) hi]
   have:b<h.next:=by omega
   simp[aa.clean,this]}
theorem Xj {e:aP} (he:e≠ .normal) {Q:Exit->Act->World->Prop} {K:Act->World->Prop} {a:Act} {w:World} (h:Q e.wv a w):Exit.then K Q e.wv a w:=by
 cases e<;>first|exact(he rfl).elim|exact h
theorem LK (hm:P.follows .mixedOrders=true) {c:aW} {ρ ρ':Env} {h h':aa} {e:aP} (hb:eG P c ρ h e ρ' h'):KV P md c ρ h e ρ' h':=by
 induction hb with
 |sem hs=>exact hs md
 |skip=>
  refine⟨0,fun n ι I w a H A cc hc=>?_⟩
  obtain rfl:=jP hc
  exact wp_skip ⟨rfl,ι,I,A,H, .refl _ _ _ _ _⟩
 |label=>
  refine⟨0,fun n ι I w a H A cc hc=>?_⟩
  obtain rfl:=jP hc
  exact wp_label ⟨rfl,ι,I,A,H, .refl _ _ _ _ _⟩
 |exit=>
  refine⟨0,fun n ι I w a H A cc hc=>?_⟩
  obtain rfl:=jP hc
  exact wp_exit ⟨rfl,ι,I,A,H, .refl _ _ _ _ _⟩
 |goto=>
  refine⟨0,fun n ι I w a H A cc hc=>?_⟩
  obtain rfl:=jP hc
  exact wp_goto ⟨rfl,ι,I,A,H, .refl _ _ _ _ _⟩
 |ret=>
  refine⟨0,fun n ι I w a H A cc hc=>?_⟩
  obtain rfl:=jP hc
  exact wp_ret ⟨rfl,ι,I,A,H, .refl _ _ _ _ _⟩
 | @af al ρ ρ1 h h1 he=>
   refine⟨0,fun n ι I w a H A cc hc=>?_⟩
   obtain⟨id,ops,rfl,hr⟩:=jP hc
   obtain⟨hlen,yi⟩:=L5 hr
   refine wp_region ?_
   have:=W9 (md:=md) (Q:=rU n ι I h w .normal ρ1 h1) (ops:=ops) al 0 H A (fun i ro hi=>?_) he (fun ρ' h' a' w' ι' I' hk A' H' E=>by
    obtain⟨rfl,rfl⟩:=hk
    exact⟨rfl,ι',I',A',H',E⟩)
   ·rw[List.range_eq_range',show ops.size=al.length by simpa using hlen]
    exact this
   ·have Kk:i<ops.toList.length:=by rw[hlen];exact(List.getElem?_eq_some_iff.1 hi).1
    refine⟨ops.toList[i],?_,yi i _ ro (List.getElem?_eq_getElem Kk) hi⟩
    rw[Nat.zero_add]
    have:=List.getElem?_eq_getElem Kk
    simpa using this
 | @aY al un ρ ρ1 h h1 hf he=>
   refine⟨0,fun n ι I w a H A cc hc=>?_⟩
   obtain⟨id,ops,rfl,hr,ba,rfl⟩:=jP hc
   exact WQ hm hr ba H A hf he (fun ρ' h' a' w' ι' I' hk A' H' E=>by
    obtain⟨rfl,rfl⟩:=hk
    exact⟨rfl,ι',I',A',H',E⟩)
 | @Eb al un ρ ρ1 h h1 he=>
   refine⟨0,fun n ι I w a H A cc hc=>?_⟩
   obtain⟨id,ops,rfl,hr,ba,rfl⟩:=jP hc
   refine WQ (h:=h.clean 0) hm hr ba H.clean A (fun j _=>by simp only[aa.clean];rw[if_neg (by omega)]) he (fun ρ' h' a' w' ι' I' hk A' H' E=>by
    obtain⟨rfl,rfl⟩:=hk
    exact⟨rfl,ι',I',A',H',E.amk H⟩)
 | @seq x y ρ ρ1 ρ2 h h1 h2 e b1 b2 fN jH=>
   refine⟨0,fun n ι I w a H A cc hc=>?_⟩
   obtain⟨cx,cy,rfl,hx,hy⟩:=jP hc
   refine wp_seq (wp_mono (fN.wp H A hx) ?_)
   rintro _ a1 w1 ⟨rfl,ι1,I1,A1,H1,E1⟩
   exact wp_mono (jH.wp H1 A1 hy) (fun _ _ _ hp=>hp.trans E1)
 | @ve x y ρ ρ1 h h1 e b1 he fN=>
   refine⟨0,fun n ι I w a H A cc hc=>?_⟩
   obtain⟨cx,cy,rfl,hx,hy⟩:=jP hc
   refine wp_seq (wp_mono (fN.wp H A hx) ?_)
   rintro _ a1 w1 ⟨rfl,hp⟩
   exact Xj he ⟨rfl,hp⟩
 | @cond c x y ρ ρ1 h h1 e t gr b1 fN=>
   refine⟨0,fun n ι I w a H A cc hc=>?_⟩
   obtain⟨o,cx,cy,rfl,ho,hx,hy⟩:=jP hc
   have tP:VR ι I w (c.ev ρ) (a.eval o):=bK A ho
   rw[gr] at tP
   have:a.eval o= .bool t:=by generalize a.eval o=u at tP;cases tP;rfl
   refine wp_cond this ?_
   cases t
   ·exact fN.wp H A hy
   ·exact fN.wp H A hx
 | @block id c ρ ρ1 h h1 e b1 fN=>
   refine⟨0,fun n ι I w a H A cc hc=>?_⟩
   obtain⟨cx,rfl,hx⟩:=jP hc
   refine wp_block (wp_mono (fN.wp H A hx) ?_)
   rintro _ a1 w1 ⟨rfl,hp⟩
   cases e with
   |exit mD=>
    simp only[aP.wv,Exit.inBlock]
    by_cases aL:mD=id
    ·simp only[aL,if_true];exact⟨rfl,hp⟩
    ·simp only[aL,if_false]
     have: ¬(aP.exit mD=aP.exit id):=fun h=>aL (aP.exit.inj h)
     simp only[this,if_false]
     exact⟨rfl,hp⟩
   |normal=>simp only[aP.wv,Exit.inBlock];exact⟨rfl,hp⟩
   |goto l=>simp only[aP.wv,Exit.inBlock];exact⟨rfl,hp⟩
   |ret=>simp only[aP.wv,Exit.inBlock];exact⟨rfl,hp⟩
 | @loop c ρ ρ1 ρ2 h h1 h2 e b1 b2 fN jH=>
   obtain⟨m,jH⟩:=jH
   refine⟨m+1,fun n ι I w a H A cc hc=>?_⟩
   rw[rounds_succ]
   refine wp_mono (fN.wp H A hc) ?_
   rintro _ a1 w1 ⟨rfl,ι1,I1,A1,H1,E1⟩
   exact We (fun _ _ _ hp=>rU.trans E1 hp) m a1 w1 (jH n ι1 I1 w1 a1 H1 A1 cc hc)
 | @rA c ρ ρ1 h h1 e b1 he fN=>
   refine⟨1,fun n ι I w a H A cc hc=>?_⟩
   rw[rounds_succ]
   refine wp_mono (fN.wp H A hc) ?_
   rintro _ a1 w1 ⟨rfl,hp⟩
   exact Xj he ⟨rfl,hp⟩
 | @scope c ρ ρ1 h h1 e b1 fN=>
   obtain⟨m,fN⟩:=fN
   refine⟨0,fun n ι I w a H A cc hc=>?_⟩
   obtain⟨cx,rfl,hx⟩:=jP hc
   intro b k cs
   obtain⟨x,a',w',hp,rM⟩:=fN n ι I w a H A cx cx hx hx b k cs
   exact⟨x,a',w',hp, .of_steps (.one step_scope) rM⟩
 | @ph body cur ρ ρ1 h h1 e b1 he fN=>
   refine⟨0,fun n ι I w a H A cb cc du iW b k cs=>?_⟩
   obtain⟨x,a',w',hp,rM⟩:=fN.wp H A iW b (.inScope cb::k) cs
   obtain⟨rfl,yc⟩:=hp
   refine⟨_,a',w',⟨rfl,yc⟩,?_⟩
   cases e with
   |normal=>exact Steps.trans rM (.one step_inScope)
   |exit id=>exact fun k' hk=>rM k' (by simp[exitTo,hk])
   |ret=>exact rM
   |goto l=>
    intro k' hk
    refine rM k' ?_
    have bT:=Wx l cb body du
    rw[he l rfl] at bT
    cases hf:findLabel cb l with
    |none=>simp[gotoIn,hf,hk]
    |some r=>rw[hf] at bT;exact bT.elim
 | @J6 body cur rest l ρ ρ1 ρ2 h h1 h2 e b1 hl b2 fN jH=>
   obtain⟨m,jH⟩:=jH
   refine⟨0,fun n ι I w a H A cb cc du iW b k cs=>?_⟩
   obtain⟨x,a1,w1,hp,rM⟩:=fN.wp H A iW b (.inScope cb::k) cs
   obtain⟨rfl,ι1,I1,A1,H1,E1⟩:=hp
   have bT:=Wx l cb body du
   rw[hl] at bT
   cases hf:findLabel cb l with
   |none=>rw[hf] at bT;exact bT.elim
   |some r=>
    rw[hf] at bT
    obtain⟨x,a2,w2,E9,asW⟩:=jH n ι1 I1 w1 a1 H1 A1 cb r du bT b k cs
    exact⟨x,a2,w2,E9.trans E1, .of_steps (rM _ (by simp[gotoIn,hf])) asW⟩
end
end
section
open Go
def y4 (ρ:Env) (h:aa):fI->Option AV
 | .tmp t=>some (ρ t)
 | .cell t ag sz=>j0 ag sz h (ρ t)
def dD (ρ:Env) (h:aa):List fI->Option (List AV)
 |[]=>some []
 |x::xs=>match y4 ρ h x,dD ρ h xs with
  |some a,some l=>some (a::l)
  |_,_=>none
def eO:List AV->AV
 |[v]=>v
 |vs=> .ay vs
def gF (args:List AV):Env:=fun t=>args.getD t (.ay [])
section
variable {P:Program} {md:Mode} {ι:aG} {I:aQ} {h:aa} {w:World}
theorem al4 (H:HR ι I h w) {t:TypeId} {d:TypeDesc} {sz:Nat} (hu:P.underlying t=some d) (hs:(P.info? t).map (·.size)=some sz)
 {a v:AV} {c:Value} (ha:VR ι I w a c) (hl:j0 d.isRow sz h a=some v): ∃u,(do loadVar t (<-asAddr c)).run P w= .ok u w/\VR ι I w v u:=by
 have key: ∀{cb o off:Nat} {cs:List AV},s9 ι I w cb o cs->cut d.isRow sz off cs=some v-> ∃u,(loadVar t ⟨cb,o+off,none⟩).run P w= .ok u w/\VR ι I w v u:=by
  intro cb o off cs hr hc
  cases hd:d.isRow with
  |true=>
   rw[hd] at hc
   simp only[cut,if_true] at hc
   split at hc
   ·rename_i hle
    cases hc
    obtain⟨l',hl,h1,h2⟩:=(hr.sub off sz).list
    have hlen:l'.length=sz:=by rw[<-hl];simp;omega
    have:=run_loadVar_mid (P:=P) w cb (o+off) t l' d h1 hu hd (by rw[hlen];exact hs)
    exact⟨_,this, .agg _ _ hl h2⟩
   ·cases hc
  |false=>
   rw[hd] at hc
   simp only[cut,Bool.false_eq_true,if_false] at hc
   obtain⟨c,h1,h2⟩:=hr off v hc
   exact⟨c,by simp[loadVar,yT hu,hd,run_load,h1],h2⟩
 cases ha<;>simp only[j0] at hl<;>try(cases hl;done)
 case ptr b off cb o room hb=>
  simp only[cellsOf] at hl
  split at hl
  ·rename_i cs hg
   obtain⟨u,h1,h2⟩:=key (H.row (by simpa using hg) hb).1 hl
   exact⟨u,by simpa [asAddr] using h1,h2⟩
  ·cases hl
 case vp xs off cb o g hI hc hv h1=>
  obtain⟨u,h1,h2⟩:=key (cs:=xs) (o:=o) (cb:=cb) (fun j v hj=>by
   have aD:=(List.getElem?_eq_some_iff.1 hj).1
   exact⟨g j,hc j aD,hv j v hj⟩) hl
  exact⟨u,by simpa [asAddr] using h1,h2⟩
def BT (tmps:Array Value):ResultVar->Sem Value
 | .tmp t=>pure (tmps.getD t undef)
 | .cell a t=>do loadVar t (<-asAddr (tmps.getD a undef))
theorem Yb (H:HR ι I h w) {n:Nat} {ρ:Env} {a:Act} (A:AR ι I w n ρ a): ∀(rv:List ResultVar) (rs:List fI) (vs:List AV),yS P rv=some rs->dD ρ h rs=some vs->
 ∃us:List Value,(rv.mapM (BT a.tmps)).run P w= .ok us w/\LR ι I w vs us
 |[],rs,vs,hc,hv=>by
  simp only[yS] at hc
  cases hc
  simp only[dD] at hv
  cases hv
  exact⟨[],by simp,⟨rfl,fun i v c h=>by simp at h⟩⟩
 |x::xs,rs,vs,hc,hv=>by
  simp only[yS] at hc
  split at hc
  ·rename_i r l h1 h2
   cases hc
   simp only[dD] at hv
   split at hv
   ·rename_i v l' h3 h4
    cases hv
    obtain⟨us,h5,h6⟩:=Yb H A xs l l' h2 h4
    have: ∃u,(BT a.tmps x).run P w= .ok u w/\VR ι I w v u:=by
     cases x with
     |tmp t=>
      simp only[TP] at h1
      cases h1
      simp only[y4] at h3
      cases h3
      exact⟨_,by simp[BT],A.get t⟩
     |cell t ty=>
      simp only[TP,Option.bind_eq_bind,Option.bind_eq_some_iff] at h1
      obtain⟨d,hd,sz,aO,h1⟩:=h1
      cases h1
      exact al4 H hd aO (A.get t) h3
    obtain⟨u,hu,hvu⟩:=this
    refine⟨u::us,by simp[List.mapM_cons,hu,h5],?_⟩
    exact LR.cons hvu h6
   ·cases hv
  ·cases hc
theorem Wf (H:HR ι I h w) {n:Nat} {ρ:Env} {a:Act} (A:AR ι I w n ρ a) {fn:Func} {rs:List fI} {vs:List AV} (hc:yS P fn.results.toList=some rs) (hv:dD ρ h rs=some vs):
 ∃u,(results fn a.tmps).run P w= .ok u w/\VR ι I w (eO vs) u:=by
 obtain⟨us,h1,h2⟩:=Yb H A _ rs vs hc hv
 have hm:(fn.results.mapM (BT a.tmps)).run P w= .ok us.toArray w:=by
  rw[<-Array.toArray_toList (xs:=fn.results),List.mapM_toArray]
  simp[h1]
 have avQ:results fn a.tmps=(do
  let vs <-fn.results.mapM (BT a.tmps)
  pure (if h:vs.size=1 then vs[0] else .tuple vs)):=by
  unfold results
  congr 2
 rw[avQ]
 refine⟨_,by simp only[Sem.run_bind,hm];rfl,?_⟩
 obtain⟨hl,hg⟩:=h2
 match vs,us,hl,hg with
 |[],[],_,hg=>exact .ay [] [] rfl hg
 |[v],[u],_,hg=>exact hg 0 v u rfl rfl
 |v::v'::l,u::u'::l',hl,hg=>
  have: ¬((u::u'::l').toArray.size=1):=by simp
  rw[dif_neg this]
  exact .ay _ _ hl hg
theorem mU (hm:P.follows .mixedOrders=true) {f:Nat} {fn:Func} {rf:az} (hf:P.funcs[f]? =some fn) (hc:aC P md fn=some rf) {args:List AV} (dZ:args.length<=rf.ntmps)
 {h h':aa} {e:aP} {ρ':Env} {vs:List AV} (hb:eG P rf.code (gF args) h e ρ' h') (he:e= .normal\/e= .ret) (hr:dD ρ' h' rf.results=some vs):an P f args h (eO vs) h':=by
 intro ι I w bC H hl
 unfold aC at hc
 simp only[Option.bind_eq_bind,Option.bind_eq_some_iff] at hc
 obtain⟨c,PO,code,PN,rs,ya,hc⟩:=hc
 cases hc
 simp only at*
 refine calls_of_wp hf PO ?_
 have aO:bC.size=args.length:=by have:=hl.1;simpa using this.symm
 have A:AR ι I w fn.ntmps (gF args) {tmps:=bC++Array.replicate (fn.ntmps-bC.size) undef,defers:=[]}:=by
  refine⟨rfl,by simp;omega,fun t=>?_⟩
  by_cases ht:t<args.length
  ·have h1:=List.getElem?_eq_getElem ht
   obtain⟨u,hu,hv⟩:=hl.get h1
   have e1:gF args t=args[t]:=by simp[gF,List.getD,h1]
   have e2:(bC++Array.replicate (fn.ntmps-bC.size) undef).getD t undef=u:=by
    rw[Array.getD_eq_getD_getElem?,Array.getElem?_append_left (by omega)]
    have:bC[t]? =some u:=by simpa using hu
    rw[this];rfl
   rw[e1,e2];exact hv
  ·have e1:gF args t= .ay []:=by simp[gF,List.getD,List.getElem?_eq_none (show args.length<=t by omega)]
   have e2:(bC++Array.replicate (fn.ntmps-bC.size) undef).getD t undef=undef:=by
    rw[Array.getD_eq_getD_getElem?,Array.getElem?_append_right (by omega),Array.getElem?_replicate]
    split<;>rfl
   rw[e1,e2];exact LN
 refine wp_mono ((LK (md:=md) hm hb).wp H A PN) ?_
 rintro _ a' w' ⟨rfl,ι',I',A',H',E⟩
 obtain⟨u,hu,hv⟩:=Wf H' A' ya hr
 have:bodyPost P fn (fun e w'=> ∃v ι' I',e= .returned v/\VR ι' I' w' (eO vs) v/\HR ι' I' h' w'/\Ext (h.next<= ·) ι I h w ι' I' h' w') .normal a' w':=
  ⟨A'.defers,u,hu,u,ι',I',rfl,hv,H',E⟩
 rcases he with rfl|rfl
 ·exact this
 ·exact this
end
end
section
open Go
inductive Tr (α:Type) where
 |leaf
 |node (l:Tr α) (v:Option α) (r:Tr α)
 deriving Inhabited
def Tr.get {α:Type}:Tr α->Nat->Option α
 | .leaf,_=>none
 | .node l v r,n=>
   match n with
   |0=>v
   | .succ n=>match Nat.mod n 2 with
     |0=>l.get (Nat.div n 2)
     |_=>r.get (Nat.div n 2)
def Tr.ig {α R:Type}:Nat->Tr α->Nat->Option α->(Tr α->Option R)->Option R
 |0,_,_,_,_=>none
 | .succ f,t,n,v,k=>
   match t with
   | .leaf=>match n with
     |0=>k (.node .leaf v .leaf)
     | .succ n=>match Nat.mod n 2 with
       |0=>Tr.ig f .leaf (Nat.div n 2) v fun l=>k (.node l none .leaf)
       |_=>Tr.ig f .leaf (Nat.div n 2) v fun r=>k (.node .leaf none r)
   | .node l u r=>match n with
     |0=>k (.node l v r)
     | .succ n=>match Nat.mod n 2 with
       |0=>Tr.ig f l (Nat.div n 2) v fun l'=>k (.node l' u r)
       |_=>Tr.ig f r (Nat.div n 2) v fun r'=>k (.node l u r')
def Tr.env (t:Tr AV):Env:=fun n=>match t.get n with
 |some v=>v
 |none=> .ay []
structure CH where
 t:Tr cI
 next:Nat
def CH.den (H:CH):aa:={get:=fun b=>H.t.get b,next:=H.next}
section
variable {R:Type}
def jB (n:Nat) (k:Nat->Option R):Option R:=match n with
 |0=>k 0
 | .succ n=>k (.succ n)
def TI (i:Int) (k:Int->Option R):Option R:=match i with
 | .ofNat n=>jB n fun n=>k (.ofNat n)
 | .negSucc n=>jB n fun n=>k (.negSucc n)
def acR (b:Bool) (k:Bool->Option R):Option R:=match b with
 |true=>k true
 |false=>k false
def fS (v:AV) (k:AV->Option R):Option R:=match v with
 | .int kd n=>match kd with
   |kd=>TI n fun n=>k (.int kd n)
 | .bool b=>acR b fun b=>k (.bool b)
 | .ptr b o=>jB b fun b=>jB o fun o=>k (.ptr b o)
 | .rs b o l s=>jB b fun b=>jB o fun o=>jB l fun l=>jB s fun s=>k (.rs b o l s)
 | .rk b o l s c=>jB b fun b=>jB o fun o=>jB l fun l=>jB s fun s=>jB c fun c=>k (.rk b o l s c)
 |v=>k v
def fL:List AV->(List AV->Option R)->Option R
 |[],k=>k []
 |x::xs,k=>fS x fun x=>fL xs fun xs=>k (x::xs)
def KN:List (List AV)->(List (List AV)->Option R)->Option R
 |[],k=>k []
 |x::xs,k=>fL x fun x=>KN xs fun xs=>k (x::xs)
def PR (t:aH) (k:aH->Option R):Option R:=match t with
 | .ao=>k .ao
 | .full=>k .full
 | .own t=>jB t fun t=>k (.own t)
def AW (v:AV) (k:AV->Option R):Option R:=match v with
 | .agg l=>fL l fun l=>k (.agg l)
 | .vs xs t=>KN xs fun xs=>PR t fun t=>k (.vs xs t)
 | .vp xs o=>fL xs fun xs=>jB o fun o=>k (.vp xs o)
 |v=>fS v k
def Fu:List AV->(List AV->Option R)->Option R
 |[],k=>k []
 |x::xs,k=>AW x fun x=>Fu xs fun xs=>k (x::xs)
def fV (v:AV) (k:AV->Option R):Option R:=match v with
 | .ay l=>Fu l fun l=>k (.ay l)
 |v=>AW v k
def KO:List (AV×AV)->(List (AV×AV)->Option R)->Option R
 |[],k=>k []
 |(x,y)::xs,k=>AW x fun x=>AW y fun y=>KO xs fun xs=>k ((x,y)::xs)
def fB (b:cI) (k:cI->Option R):Option R:=match b with
 | .cells l=>Fu l fun l=>k (.cells l)
 | .map es=>KO es fun es=>k (.map es)
 | .tail=>k .tail
theorem wo (n:Nat) (k:Nat->Option R):jB n k=k n:=by cases n<;>rfl
theorem amL (n:Int) (k:Int->Option R):TI n k=k n:=by cases n<;>simp[TI,wo]
theorem alL (n:Bool) (k:Bool->Option R):acR n k=k n:=by cases n<;>rfl
theorem acQ (v:AV) (k:AV->Option R):fS v k=k v:=by cases v<;>simp[fS,wo,amL,alL]
theorem PS: ∀(l:List AV) (k:List AV->Option R),fL l k=k l
 |[],k=>rfl
 |x::xs,k=>by simp[fL,acQ,PS xs]
theorem ZN: ∀(l:List (List AV)) (k:List (List AV)->Option R),KN l k=k l
 |[],k=>rfl
 |x::xs,k=>by simp[KN,PS,ZN xs]
theorem alJ (t:aH) (k:aH->Option R):PR t k=k t:=by cases t<;>simp[PR,wo]
theorem MF (v:AV) (k:AV->Option R):AW v k=k v:=by cases v<;>simp[AW,acQ,PS,ZN,alJ,wo]
theorem ME: ∀(l:List AV) (k:List AV->Option R),Fu l k=k l
 |[],k=>rfl
 |x::xs,k=>by simp[Fu,MF,ME xs]
theorem C2 (v:AV) (k:AV->Option R):fV v k=k v:=by cases v<;>simp[fV,MF,ME]
theorem ZO: ∀(l:List (AV×AV)) (k:List (AV×AV)->Option R),KO l k=k l
 |[],k=>rfl
 |(x,y)::xs,k=>by simp[KO,MF,ZO xs]
theorem as1 (v:cI) (k:cI->Option R):fB v k=k v:=by cases v<;>simp[fB,ME,ZO]
def fW (v:AV) (k:AV->Option R):Option R:=match v with
 | .undef=>k .undef
 | .int a b=>k (.int a b)
 | .bool a=>k (.bool a)
 | .fU a b=>k (.fU a b)
 | .fX a b c=>k (.fX a b c)
 | .str a=>k (.str a)
 | .nil=>k .nil
 | .ptr a b=>k (.ptr a b)
 | .vp a b=>k (.vp a b)
 | .vs a b=>k (.vs a b)
 | .bA=>k .bA
 | .rs a b c d=>k (.rs a b c d)
 | .rk a b c d e=>k (.rk a b c d e)
 | .vz=>k .vz
 | .map a=>k (.map a)
 | .fn a b c=>k (.fn a b c)
 | .jm=>k .jm
 | .agg a=>k (.agg a)
 | .ay a=>k (.ay a)
 | .fw=>k .fw
theorem acP (v:AV) (k:AV->Option R):fW v k=k v:=by cases v<;>rfl
def fP (q:bc) (v:AV) (k:AV->Option R):Option R:=match q with
 | .aj _| .pick _ _ _| .ext _ _| .load false _ _| .aF _=>fW v k
 |_=>fV v k
theorem as0 (q:bc) (v:AV) (k:AV->Option R):fP q v k=k v:=by
 unfold fP
 split<;>first|exact acP v k|exact C2 v k
def Fv:List AV->(List AV->Option R)->Option R
 |[],k=>k []
 |x::xs,k=>fW x fun x=>Fv xs fun xs=>k (x::xs)
theorem MG: ∀(l:List AV) (k:List AV->Option R),Fv l k=k l
 |[],k=>rfl
 |x::xs,k=>by simp[Fv,acP,MG xs]
def CH.ig (H:CH) (b:Nat) (x:Option cI) (k:CH->Option R):Option R:=
 match x with
 |none=>Tr.ig 24 H.t b none fun t=>k {t,next:=H.next}
 |some x=>fB x fun x=>Tr.ig 24 H.t b (some x) fun t=>k {t,next:=H.next}
def CH.zC (H:CH) (n:Nat) (k:CH->Option R):Option R:=jB n fun n=>k {t:=H.t,next:=n}
def m6:AV->List Nat
 | .ptr b _=>[b]
 | .vs _ (.own t)=>[t]
 | .rs b _ _ _=>[b]
 | .rk b _ _ _ _=>[b]
 | .map (some b)=>[b]
 |_=>[]
def gu.fst:gu->aq
 | .store _ x _| .append _ _ x _| .jS _ _ x _| .copy _ x _| .sR x _| .qX x _ _| .oA _ _ x _| .nf _ x _| .oJ _ x| .mark x=>x
def Td (h':aa):List Nat->CH->(CH->Option R)->Option R
 |[],H,k=>k H
 |b::bs,H,k=>H.ig b (h'.get b) fun H=>Td h' bs H k
def Tr.JA (t:Tr AV) (d:Option Nat) (v:AV) (k:Tr AV->Option R):Option R:=
 match d with
 |none=>k t
 |some d=>Tr.ig 16 t d (some v) k
structure fq where
 fn:Nat->Option az
 nat:Nat->Option (List AV->CH->Option (AV×CH))
 cj:Nat->Bool
variable (lE:Nat->List AV->CH->(AV->CH->Option R)->Option R) (cb:Nat->Bool)
def HY (o:RO) (id:Nat) (t:Tr AV) (H:CH) (k:Option AV->CH->Option R):Option R:=
 match b8 o t.env with
 |none=>none
 |some false=>k none H
 |some true=>
  match o.op with
  | .p q=>match aX q t.env H.den with
    |some v=>fP q v fun v=>k (some v) H
    |none=>none
  | .a q=>match gV q t.env id with
    |some (b,v)=>H.ig id (some b) fun H=>H.zC (max H.next (id+1)) fun H=>fV v fun v=>k (some v) H
    |none=>none
  | .e q=>match bR q t.env id H.den with
    |some (v,h')=>Td h' (id::m6 (q.fst.ev t.env)) H fun H=>H.zC h'.next fun H=>fV v fun v=>k (some v) H
    |none=>none
  | .call f as=>Fv (as.map (aq.ev t.env)) fun as=>lE f as H fun v H=>k (some v) H
  | .dyn x as=>match x.ev t.env with
    | .fn f fs cs=>match cb f with
      |true=>Fv (fs++as.map (aq.ev t.env)++cs) fun as=>lE f as H fun v H=>k (some v) H
      |false=>none
    |_=>none
def Tg:List RO->Tr AV->CH->(Tr AV->CH->Option R)->Option R
 |[],t,H,k=>k t H
 |o::os,t,H,k=>HY lE cb o H.next t H fun r H=>t.JA o.dst (gf r) fun t=>Tg os t H k
def rr {α:Type} (p:α->α->Bool) (l l':List α):Bool:=l.length==l'.length&&(l.zip l').all fun q=>p q.1 q.2
def sv:Nat->AV->AV->Bool
 |0,_,_=>false
 |f+1,a,b=>
  match a,b with
  | .undef, .undef=>true
  | .int k x, .int k' y=>decide (k=k')&&x==y
  | .bool x, .bool y=>x==y
  | .nil, .nil=>true
  | .bA, .bA=>true
  | .vz, .vz=>true
  | .jm, .jm=>true
  | .ptr x y, .ptr x' y'=>x==x'&&y==y'
  | .rs x y z u, .rs x' y' z' u'=>x==x'&&y==y'&&z==z'&&u==u'
  | .rk x y z u v, .rk x' y' z' u' v'=>x==x'&&y==y'&&z==z'&&u==u'&&v==v'
  | .map none, .map none=>true
  | .map (some x), .map (some y)=>x==y
  | .agg l, .agg l'=>rr (sv f) l l'
  | .ay l, .ay l'=>rr (sv f) l l'
  | .vp l o, .vp l' o'=>o==o'&&rr (sv f) l l'
  | .vs l t, .vs l' t'=>decide (t=t')&&rr (rr (sv f)) l l'
  |_,_=>false
def TN (o:RO) (ρ:Env) (r:Option AV) (h':aa) (ok:RO) (dρ:Env) (dh:aa) (dr:Option AV):Bool:=
 if o.op.cA then(match dr,ok.op with
  |some v, .p q=>match aX q dρ h' with
   |some u=>sv 6 u v
   |none=>false
  |_,_=>true)
 else(match r,o.op with
  |some v, .p q=>match aX q ρ dh with
   |some u=>sv 6 u v
   |none=>false
  |_,_=>true)
def w8 (H:CH) (base:Nat):Nat->Nat->Bool
 |_,0=>true
 |i,n+1=>match H.t.get (base+i) with
  |none=>w8 H base (i+1) n
  |some _=>false
def B4 (al:List RO) (o:RO) (ρ:Env) (r:Option AV) (h':aa) (done:List (Tr AV×CH×Option AV)) (i:Nat):List Nat->Bool
 |[]=>true
 |k::ks=>match al[k]?,done[i-1-k]? with
  |some ok,some d=>decide (k<i)&&TN o ρ r h' ok d.1.env d.2.1.den d.2.2&&B4 al o ρ r h' done i ks
  |_,_=>false
def zB (al:List RO) (n base:Nat):List RO->List (List Nat)->Nat->Tr AV->CH->List (Tr AV×CH×Option AV)->(Tr AV->CH->Option R)->Option R
 |[],_,_,t,H,_,k=>k t H
 |o::os,us,i,t,H,done,k=>HY lE cb o (base+i) t H fun r H'=>
  match B4 al o t.env r H'.den done i (us.headD []) with
  |false=>none
  |true=>
   match o.op.cA with
   |false=>t.JA o.dst (gf r) fun t'=>zB al n base os us.tail (i+1) t' H' ((t,H,r)::done) k
   |true=>match w8 H' base (i+1) (n-(i+1)) with
    |false=>none
    |true=>t.JA o.dst (gf r) fun t'=>zB al n base os us.tail (i+1) t' H' ((t,H,r)::done) k
def H4 (t:Tr AV) (h:aa) (rs:List fI) (k:AV->Option R):Option R:=match dD t.env h rs with
 |some vs=>fV (eO vs) k
 |none=>none
def initK:List AV->Nat->Tr AV->(Tr AV->Option R)->Option R
 |[],_,t,k=>k t
 |x::xs,i,t,k=>Tr.ig 16 t i (some x) fun t=>initK xs (i+1) t k
def uC (tb:fq) (run:aW->Tr AV->CH->(aP->Tr AV->CH->Option R)->Option R) (f:Nat) (args:List AV) (H:CH) (k:AV->CH->Option R):Option R:=
 match tb.nat f with
 |some g=>match g args H with
  |some (v,H')=>fV v fun v=>k v H'
  |none=>none
 |none=>match tb.fn f with
  |none=>none
  |some rf=>match Nat.ble args.length rf.ntmps with
   |false=>none
   |true=>initK args 0 .leaf fun t=>run rf.code t H fun e t H=>match e with
    | .normal=>H4 t H.den rf.results fun v=>k v H
    | .ret=>H4 t H.den rf.results fun v=>k v H
    |_=>none
def runK (tb:fq):Nat->aW->Tr AV->CH->(aP->Tr AV->CH->Option R)->Option R
 |0,_,_,_,_=>none
 | .succ f,c,t,H,k=>
   match c with
   | .skip=>k .normal t H
   | .label _=>k .normal t H
   | .exit id=>k (.exit id) t H
   | .goto l=>k (.goto l) t H
   | .ret=>k .ret t H
   | .af al=>Tg (uC tb (runK tb f)) tb.cj al t H (k .normal)
   | .aY al un=>match w8 H H.next 0 al.length with
     |false=>none
     |true=>H.zC (H.next+al.length) fun H1=>zB (uC tb (runK tb f)) tb.cj al al.length H.next al un 0 t H1 [] (k .normal)
   | .seq a b=>runK tb f a t H fun e t H=>match e with
     | .normal=>runK tb f b t H k
     | .exit id=>k (.exit id) t H
     | .goto l=>k (.goto l) t H
     | .ret=>k .ret t H
   | .xy _ _=>none
   | .cond c x y=>match c.ev t.env with
     | .bool true=>runK tb f x t H k
     | .bool false=>runK tb f y t H k
     |_=>none
   | .block id c=>runK tb f c t H fun e t H=>match e with
     | .normal=>k .normal t H
     | .exit mD=>match Nat.beq mD id with
       |true=>k .normal t H
       |false=>k (.exit mD) t H
     | .goto l=>k (.goto l) t H
     | .ret=>k .ret t H
   | .loop c=>runK tb f c t H fun e t H=>match e with
     | .normal=>runK tb f (.loop c) t H k
     | .exit id=>k (.exit id) t H
     | .goto l=>k (.goto l) t H
     | .ret=>k .ret t H
   | .scope c=>runK tb f (.inScope c c) t H k
   | .inScope body cur=>runK tb f cur t H fun e t H=>match e with
     | .goto l=>match fZ body l with
       |none=>k (.goto l) t H
       |some rest=>runK tb f (.inScope body rest) t H k
     | .normal=>k .normal t H
     | .exit id=>k (.exit id) t H
     | .ret=>k .ret t H
end
end
section
open Go
theorem Tr.uo {α:Type} (l r:Tr α) (u:Option α) (m:Nat):(Tr.node l u r).get (m+1)=if m%2=0 then l.get (m/2) else r.get (m/2):=by
 show(match Nat.mod m 2 with|0=>l.get (Nat.div m 2)|_=>r.get (Nat.div m 2))=_
 have e1:Nat.mod m 2=m%2:=rfl
 have e2:Nat.div m 2=m/2:=rfl
 rw[e1,e2]
 rcases Nat.mod_two_eq_zero_or_one m with h|h<;>simp[h]
section
variable {R:Type}
theorem Tr.sK {α:Type}: ∀(f:Nat) (t:Tr α) (n:Nat) (v:Option α) (k:Tr α->Option R) (r:R),Tr.ig f t n v k=some r-> ∃t',(∀m,t'.get m=if m=n then v else t.get m)/\k t'=some r
 |0,_,_,_,_,_,h=>by simp[Tr.ig] at h
 |f+1,t,n,v,k,r,h=>by
  have main: ∀(l:Tr α) (u:Option α) (r0:Tr α) (k:Tr α->Option R),
   Tr.ig (f+1) (.node l u r0) n v k=some r->
   ∃t',(∀m,t'.get m=if m=n then v else(Tr.node l u r0).get m)/\k t'=some r:=by
   intro l u r0 k h
   simp only[Tr.ig] at h
   cases n with
   |zero=>
    refine⟨_,fun m=>?_,h⟩
    cases m with
    |zero=>rfl
    |succ m=>rw[Tr.uo,Tr.uo];simp
   |succ n=>
    simp only[] at h
    have e1:Nat.mod n 2=n%2:=rfl
    have e2:Nat.div n 2=n/2:=rfl
    rw[e1,e2] at h
    rcases Nat.mod_two_eq_zero_or_one n with hn|hn
    ·rw[hn] at h
     obtain⟨l',hl,hk⟩:=Tr.sK f l (n/2) v _ r h
     refine⟨_,fun m=>?_,hk⟩
     cases m with
     |zero=>rfl
     |succ m=>
      rw[Tr.uo,Tr.uo,hl]
      by_cases hm:m%2=0
      ·simp only[hm,if_true]
       by_cases sl:m/2=n/2
       ·have:m=n:=by omega
        simp[this]
       ·have: ¬m=n:=fun h=>sl (by rw[h])
        simp[sl,this]
      ·have: ¬m=n:=fun h=>hm (by rw[h];exact hn)
       simp[hm,this]
    ·rw[hn] at h
     obtain⟨l',hl,hk⟩:=Tr.sK f r0 (n/2) v _ r h
     refine⟨_,fun m=>?_,hk⟩
     cases m with
     |zero=>rfl
     |succ m=>
      rw[Tr.uo,Tr.uo,hl]
      by_cases hm:m%2=0
      ·have: ¬m=n:=fun h=>by rw[h] at hm;omega
       simp[hm,this]
      ·simp only[hm,if_false]
       by_cases sl:m/2=n/2
       ·have:m=n:=by omega
        simp[this]
       ·have: ¬m=n:=fun h=>sl (by rw[h])
        simp[sl,this]
  have asR: ∀m,(Tr.node .leaf none .leaf:Tr α).get m=(Tr.leaf:Tr α).get m:=by
   intro m
   cases m with
   |zero=>rfl
   |succ m=>rw[Tr.uo];split<;>rfl
  cases t with
  |leaf=>
   obtain⟨t',h1,h2⟩:=main .leaf none .leaf k (by rw[<-h];cases n<;>rfl)
   exact⟨t',fun m=>by rw[h1,asR],h2⟩
  |node l u r0=>exact main l u r0 k h
theorem CH.sK {H:CH} {b:Nat} {x:Option cI} {k:CH->Option R} {r:R} (h:H.ig b x k=some r): ∃H':CH,(∀m,H'.den.get m=if m=b then x else H.den.get m)/\H'.next=H.next/\k H'=some r:=by
 cases x with
 |none=>
  obtain⟨t',h1,h2⟩:=Tr.sK _ _ _ _ _ _ h
  exact⟨{t:=t',next:=H.next},h1,rfl,h2⟩
 |some x=>
  simp only[CH.ig,as1] at h
  obtain⟨t',h1,h2⟩:=Tr.sK _ _ _ _ _ _ h
  exact⟨{t:=t',next:=H.next},h1,rfl,h2⟩
theorem WI {h':aa}: ∀{bs:List Nat} {H:CH} {k:CH->Option R} {r:R},Td h' bs H k=some r-> ∃H':CH,(∀m,H'.den.get m=if m∈bs then h'.get m else H.den.get m)/\H'.next=H.next/\k H'=some r
 |[],H,k,r,h=>⟨H,fun m=>by simp,rfl,h⟩
 |b::bs,H,k,r,h=>by
  obtain⟨H1,h1,h2,h3⟩:=CH.sK h
  obtain⟨H2,h4,h5,h6⟩:=WI h3
  refine⟨H2,fun m=>?_,h5.trans h2,h6⟩
  rw[h4,h1]
  by_cases hm:m∈bs
  ·simp[hm]
  ·by_cases hb:m=b
   ·simp[hb]
   ·simp[hm,hb]
theorem Tr.Lo {t:Tr AV} {d:Option Nat} {v:AV} {k:Tr AV->Option R} {r:R} (h:t.JA d v k=some r): ∃t',t'.env=put t.env d v/\k t'=some r:=by
 cases d with
 |none=>exact⟨t,rfl,h⟩
 |some d=>
  obtain⟨t',h1,h2⟩:=Tr.sK _ _ _ _ _ _ h
  refine⟨t',?_,h2⟩
  funext m
  simp only[Tr.env,h1,put]
  by_cases hm:m=d<;>simp[hm]
theorem ajN {q:gu} {ρ:Env} {id:Nat} {h h':aa} {v:AV} (ha:bR q ρ id h=some (v,h')) (m:Nat) (hm:m∉id::m6 (q.fst.ev ρ)):h'.get m=h.get m:=by
 simp only[List.mem_cons,not_or] at hm
 obtain⟨aL,hm⟩:=hm
 cases q<;>simp only[bR,gu.fst] at ha hm
 case store sz a x=>
  unfold wy at ha
  split at ha
  ·rename_i hx
   rw[hx] at hm
   split at ha
   ·split at ha
    ·cases ha;simp[aa.set,m6] at hm ⊢;simp[hm]
    ·cases ha
   ·cases ha
  ·cases ha
 case append bytes sz x y=>
  split at ha
  ·cases ha
  ·rename_i ys hys
   split at ha
   ·rename_i xs t hx
    rw[hx] at hm
    split at ha
    ·cases ha;rfl
    ·split at ha
     ·split at ha
      ·cases ha;simp[aa.at,aL]
      ·split at ha
       ·cases ha;simp[aa.at,aa.set,m6] at hm ⊢;simp[aL,hm]
       ·cases ha
      ·cases ha
     ·cases ha
   ·split at ha
    ·cases ha;rfl
    ·split at ha
     ·cases ha;simp[aa.at,aL]
     ·cases ha
   ·cases ha
 case jS bytes sz x y=>
  split at ha
  ·cases ha
  ·rename_i ys hys
   split at ha
   ·split at ha
    ·cases ha;rfl
    ·split at ha
     ·cases ha;simp[aa.at,aL]
     ·cases ha
   ·split at ha
    ·cases ha;rfl
    ·split at ha
     ·cases ha;simp[aa.at,aL]
     ·cases ha
   ·rename_i b off len aN hx
    rw[hx] at hm
    split at ha
    ·cases ha;rfl
    ·split at ha
     ·split at ha
      ·cases ha;simp[aa.at,aa.set,m6] at hm ⊢;simp[aL,hm]
      ·cases ha
     ·cases ha
   ·rename_i b off len aN cap hx
    rw[hx] at hm
    split at ha
    ·split at ha
     ·cases ha;simp[aa.set,m6] at hm ⊢;simp[hm]
     ·cases ha
    ·cases ha
   ·cases ha
 case oA bytes z x n=>
  split at ha
  ·split at ha
   ·split at ha
    ·split at ha
     ·cases ha;simp[aa.at,aL]
     ·cases ha
    ·split at ha
     ·split at ha
      ·cases ha;simp[aa.at,aL]
      ·cases ha
     ·cases ha
    ·cases ha
   ·cases ha
  ·cases ha
 case nf sz x y=>
  split at ha
  ·rename_i b off len aN cap mm hx hl
   rw[hx] at hm
   split at ha
   ·split at ha
    ·cases ha;simp[aa.set,m6] at hm ⊢;simp[hm]
    ·cases ha
   ·cases ha
  ·cases ha
 case mark x=>
  split at ha
  ·rename_i b off len aN hx
   rw[hx] at hm
   split at ha
   ·split at ha
    ·cases ha;simp[aa.set,m6] at hm ⊢;simp[hm]
    ·cases ha
   ·cases ha
  ·cases ha
 case oJ z x=>
  split at ha
  ·rename_i b off len aN cap hx
   rw[hx] at hm
   split at ha
   ·split at ha
    ·cases ha;simp[aa.set,m6] at hm ⊢;simp[hm]
    ·cases ha
   ·cases ha
  ·cases ha;rfl
  ·cases ha;rfl
  ·cases ha
 case copy sz x y=>
  split at ha
  ·rename_i b off len aN hx
   rw[hx] at hm
   split at ha
   ·split at ha
    ·cases ha;simp[aa.set,m6] at hm ⊢;simp[hm]
    ·cases ha
   ·cases ha
  ·split at ha
   ·cases ha;rfl
   ·cases ha
  ·split at ha
   ·cases ha;rfl
   ·cases ha
  ·cases ha
 case qX x k y=>
  split at ha
  ·rename_i b kd n hx hk
   rw[hx] at hm
   split at ha
   ·simp only[Option.map_eq_some_iff] at ha
    obtain⟨es,_,ha⟩:=ha
    cases ha;simp[aa.set,m6] at hm ⊢;simp[hm]
   ·cases ha
  ·cases ha
 case sR x k=>
  split at ha
  ·rename_i b kd n hx hk
   rw[hx] at hm
   split at ha
   ·simp only[Option.map_eq_some_iff] at ha
    obtain⟨es,_,ha⟩:=ha
    cases ha;simp[aa.set,m6] at hm ⊢;simp[hm]
   ·cases ha
  ·cases ha
def HS (P:Program) (R:Type) (lE:Nat->List AV->CH->(AV->CH->Option R)->Option R):Prop:=
 ∀g args H k r,lE g args H k=some r-> ∃v H',an P g args H.den v H'.den/\k v H'=some r
variable {P:Program} {lE:Nat->List AV->CH->(AV->CH->Option R)->Option R} {cb:Nat->Bool}
theorem Wc (hC:HS P R lE) (du: ∀f,cb f=true->cj P f=true) {o:RO} {id:Nat} {t:Tr AV} {H:CH} {k:Option AV->CH->Option R} {r:R} (h:HY lE cb o id t H k=some r):
 ∃x H',bz P o id t.env H.den x H'.den/\k x H'=some r:=by
 unfold HY at h
 split at h
 ·cases h
 ·rename_i hg
  refine⟨none,H,?_,h⟩
  unfold bz
  rw[hg]
  exact⟨rfl,rfl⟩
 ·rename_i hg
  have go: ∀(v:AV) (H':CH),gE P o.op id t.env H.den v H'.den->bz P o id t.env H.den (some v) H'.den:=by
   intro v H' hr
   unfold bz
   rw[hg]
   exact⟨v,rfl,hr⟩
  split at h
  ·rename_i q bS
   split at h
   ·rename_i v hv
    rw[as0] at h
    exact⟨some v,H,go v H (by rw[bS];exact⟨hv,rfl⟩),h⟩
   ·cases h
  ·rename_i q bS
   split at h
   ·rename_i b v hv
    obtain⟨H1,h1,h2,h3⟩:=CH.sK h
    simp only[CH.zC,wo,C2] at h3
    refine⟨some v,_,go v _ ?_,h3⟩
    rw[bS]
    refine⟨b,hv,aa.same (fun m=>?_) ?_⟩
    ·show H1.den.get m=_
     rw[h1]
     by_cases hm:m=id<;>simp[aa.at,hm]
    ·show max H1.next (id+1)=_
     rw[h2];rfl
   ·cases h
  ·rename_i q bS
   split at h
   ·rename_i v h' hv
    obtain⟨H1,h1,h2,h3⟩:=WI h
    simp only[CH.zC,wo,C2] at h3
    refine⟨some v,_,go v _ ?_,h3⟩
    rw[bS]
    show bR q t.env id H.den=some (v,_)
    rw[hv]
    congr 2
    refine aa.same (fun m=>?_) rfl
    show _=H1.den.get m
    rw[h1]
    by_cases hm:m∈id::m6 (q.fst.ev t.env)
    ·rw[if_pos hm]
    ·rw[if_neg hm];exact ajN hv m hm
   ·cases h
  ·rename_i f as bS
   rw[MG] at h
   obtain⟨v,H',h1,h2⟩:=hC _ _ _ _ _ h
   exact⟨some v,H',go v H' (by rw[bS];exact h1),h2⟩
  ·rename_i x as bS
   split at h
   ·rename_i f fs cs hx
    split at h
    ·rename_i hc
     rw[MG] at h
     obtain⟨v,H',h1,h2⟩:=hC _ _ _ _ _ h
     exact⟨some v,H',go v H' (by rw[bS];exact⟨f,fs,cs,hx,du f hc,h1⟩),h2⟩
    ·cases h
   ·cases h
theorem WV (hC:HS P R lE) (du: ∀f,cb f=true->cj P f=true): ∀{os:List RO} {t:Tr AV} {H:CH} {k:Tr AV->CH->Option R} {r:R},Tg lE cb os t H k=some r->
 ∃t' H',exec P os t.env H.den (fun ρ' h'=>ρ'=t'.env/\h'=H'.den)/\k t' H'=some r
 |[],t,H,k,r,h=>⟨t,H,⟨rfl,rfl⟩,h⟩
 |o::os,t,H,k,r,h=>by
  obtain⟨x,H1,h1,h2⟩:=Wc hC du h
  obtain⟨t1,h3,h4⟩:=Tr.Lo h2
  obtain⟨t2,H2,h5,h6⟩:=WV hC du h4
  exact⟨t2,H2,⟨x,H1.den,h1,by rw[<-h3];exact h5⟩,h6⟩
end
end
section
open Go
theorem La {α:Type} {p:α->α->Bool} (hp: ∀a b,p a b=true->a=b): ∀(l l':List α),rr p l l'=true->l=l'
 |[],[],_=>rfl
 |[],_::_,h=>by simp[rr] at h
 |_::_,[],h=>by simp[rr] at h
 |x::l,y::l',h=>by
  simp only[rr,List.length_cons,List.zip_cons_cons,List.all_cons,Bool.and_eq_true,beq_iff_eq,Nat.add_right_cancel_iff] at h
  obtain⟨h1,h2,h3⟩:=h
  rw[hp x y h2,La hp l l' (by simp only[rr,Bool.and_eq_true,beq_iff_eq];exact⟨h1,h3⟩)]
theorem Gm: ∀(f:Nat) (a b:AV),sv f a b=true->a=b
 |0,a,b,h=>by simp[sv] at h
 |f+1,a,b,h=>by
  have ih:=Gm f
  have hl:=La ih
  have ku:=La hl
  unfold sv at h
  split at h<;>first
   |rfl
   |(cases h;done)
   |(rw[hl _ _ h];done)
   |(simp only[Bool.and_eq_true,beq_iff_eq,decide_eq_true_eq] at h;obtain⟨h1,h2⟩:=h;first|(rw[h1,hl _ _ h2];done)|(rw[h1,ku _ _ h2];done))
   |(simp only[Bool.and_eq_true,beq_iff_eq,decide_eq_true_eq] at h;simp only[h];done)
section
variable {R:Type} {P:Program} {lE:Nat->List AV->CH->(AV->CH->Option R)->Option R} {cb:Nat->Bool}
theorem ajD {o ok:RO} {ρ dρ:Env} {r dr:Option AV} {h' dh:aa} (h:TN o ρ r h' ok dρ dh dr=true):Am.l6 o ρ r h' ok (dρ,dh,dr):=by
 unfold Am.l6
 unfold TN at h
 split
 ·rename_i he
  simp only[he,if_true] at h
  cases hd:dr with
  |none=>trivial
  |some v=>
   rw[hd] at h
   cases bS:ok.op with
   |p q=>
    rw[bS] at h
    simp only at h ⊢
    split at h
    ·rename_i u hu;rw[hu,Gm _ _ _ h]
    ·cases h
   |_=>trivial
 ·rename_i he
  simp only[he] at h
  cases hd:r with
  |none=>trivial
  |some v=>
   rw[hd] at h
   cases bS:o.op with
   |p q=>
    rw[bS] at h
    simp only[Bool.false_eq_true,if_false] at h ⊢
    split at h
    ·rename_i u hu;rw[hu,Gm _ _ _ h]
    ·cases h
   |_=>trivial
def Dn (d:Tr AV×CH×Option AV):Env×aa×Option AV:=(d.1.env,d.2.1.den,d.2.2)
theorem V6 {al:List RO} {o:RO} {ρ:Env} {r:Option AV} {h':aa} {done:List (Tr AV×CH×Option AV)}: ∀{ks:List Nat},B4 al o ρ r h' done done.length ks=true->
 ∀k∈ks,∀ok d,al[k]? =some ok->(done.reverse.map Dn)[k]? =some d->Am.l6 o ρ r h' ok d
 |[],_=>by simp
 |k0::ks,h=>by
  simp only[B4] at h
  split at h
  ·rename_i ok0 d0 avE hd0
   simp only[Bool.and_eq_true,decide_eq_true_eq] at h
   obtain⟨⟨h1,h2⟩,h3⟩:=h
   intro k hk ok d ba hd
   rcases List.mem_cons.1 hk with rfl|hk
   ·rw[avE] at ba;cases ba
    rw[List.getElem?_map,List.getElem?_reverse (by omega),hd0] at hd
    cases hd
    exact ajD h2
   ·exact V6 h3 k hk ok d ba hd
  ·cases h
theorem Lg {H:CH} {base:Nat}: ∀{n i:Nat},w8 H base i n=true-> ∀j,i<=j->j<i+n->H.den.get (base+j)=none
 |0,i,_,j,h1,h2=>by omega
 |n+1,i,h,j,h1,h2=>by
  simp only[w8] at h
  split at h
  ·rename_i hg
   by_cases hj:j=i
   ·subst hj;exact hg
   ·exact Lg h j (by omega) (by omega)
  ·cases h
theorem Wh (hC:HS P R lE) (du: ∀f,cb f=true->cj P f=true) {al:List RO} {un:List (List Nat)} {base:Nat}: ∀{os:List RO} {i:Nat} {t:Tr AV} {H:CH} {done:List (Tr AV×CH×Option AV)} {k:Tr AV->CH->Option R} {r:R},
 i=done.length->zB lE cb al al.length base os (un.drop i) i t H done k=some r->
 ∃t' H',mn P al un base os i t.env H.den (done.reverse.map Dn) (fun ρ' h'=>ρ'=t'.env/\h'=H'.den)/\k t' H'=some r
 |[],i,t,H,done,k,r,hi,h=>⟨t,H,⟨rfl,rfl⟩,h⟩
 |o::os,i,t,H,done,k,r,hi,h=>by
  simp only[zB] at h
  obtain⟨x,H1,h1,h2⟩:=Wc hC du h
  have E4:(un.drop i).headD []=un.getD i []:=by
   rw[List.getD_eq_getElem?_getD]
   cases hq:un.drop i with
   |nil=>
    have:=List.drop_eq_nil_iff.1 hq
    simp[List.getElem?_eq_none this]
   |cons a l=>
    have:(un.drop i)[0]? =some a:=by rw[hq];rfl
    rw[List.getElem?_drop] at this
    simp at this
    simp[this]
  have sh:(un.drop i).tail=un.drop (i+1):=by simp
  have fin: ∀{t1:Tr AV},t1.env=put t.env o.dst (gf x)->B4 al o t.env x H1.den done i ((un.drop i).headD [])=true->(o.op.cA=true-> ∀j,i<j->j<al.length->H1.den.get (base+j)=none)->
   zB lE cb al al.length base os (un.drop i).tail (i+1) t1 H1 ((t,H,x)::done) k=some r->
   ∃t' H',mn P al un base (o::os) i t.env H.den (done.reverse.map Dn) (fun ρ' h'=>ρ'=t'.env/\h'=H'.den)/\k t' H'=some r:=by
   intro t1 ht1 kL fb hgo
   rw[sh] at hgo
   obtain⟨t2,H2,h5,h6⟩:=Wh hC du (by simp[hi]) hgo
   refine⟨t2,H2,⟨x,H1.den,h1,?_,fb,?_⟩,h6⟩
   ·rw[E4,hi] at kL
    rw[hi]
    exact V6 kL
   ·rw[<-ht1]
    simp only[List.reverse_cons,List.map_append,List.map_cons,List.map_nil] at h5
    exact h5
  split at h2
  ·cases h2
  ·rename_i kL
   split at h2
   ·rename_i Ty
    obtain⟨t1,h3,h4⟩:=Tr.Lo h2
    exact fin h3 kL (fun h=>by rw[Ty] at h;cases h) h4
   ·split at h2
    ·cases h2
    ·rename_i fb
     obtain⟨t1,h3,h4⟩:=Tr.Lo h2
     exact fin h3 kL (fun _ j h5 h6=>Lg fb j (by omega) (by omega)) h4
theorem Wr: ∀{args:List AV} {i:Nat} {t:Tr AV} {k:Tr AV->Option R} {r:R},initK args i t k=some r-> ∃t',(∀m,t'.env m=if i<=m/\m<i+args.length then args.getD (m-i) (.ay []) else t.env m)/\k t'=some r
 |[],i,t,k,r,h=>⟨t,fun m=>by simp;omega,h⟩
 |x::xs,i,t,k,r,h=>by
  simp only[initK] at h
  obtain⟨t1,h1,h2⟩:=Tr.sK _ _ _ _ _ _ h
  obtain⟨t2,h3,h4⟩:=Wr h2
  refine⟨t2,fun m=>?_,h4⟩
  rw[h3]
  by_cases hm:m=i
  ·subst hm
   rw[if_neg (by omega),if_pos ⟨Nat.le_refl _,by simp⟩]
   simp[Tr.env,h1]
  ·by_cases mJ:i<=m/\m<i+(x::xs).length
   ·obtain⟨a1,a2⟩:=mJ
    simp at a2
    rw[if_pos ⟨by omega,by omega⟩,if_pos ⟨a1,by simp;omega⟩]
    rw[show m-i=(m-(i+1))+1 by omega]
    simp
   ·have: ¬(i+1<=m/\m<i+1+xs.length):=by simp at mJ ⊢;omega
    rw[if_neg this,if_neg mJ]
    simp[Tr.env,h1,hm]
theorem Wg {t:Tr AV} {h:aa} {rs:List fI} {k:AV->Option R} {r:R} (hh:H4 t h rs k=some r): ∃vs,dD t.env h rs=some vs/\k (eO vs)=some r:=by
 unfold H4 at hh
 split at hh
 ·rename_i vs hv;rw[C2] at hh;exact⟨vs,hv,hh⟩
 ·cases hh
structure ax (P:Program) (tb:fq):Prop where
 follow:P.follows .mixedOrders=true
 fn: ∀(f:Nat) (rf:az),tb.fn f=some rf-> ∃fn md,P.funcs[f]? =some fn/\aC P md fn=some rf
 nat: ∀(f:Nat) (g:List AV->CH->Option (AV×CH)),tb.nat f=some g-> ∀args H v H',g args H=some (v,H')->an P f args H.den v H'.den
 cj: ∀(f:Nat),tb.cj f=true->cj P f=true
def agT (P:Program) (R:Type) (run:aW->Tr AV->CH->(aP->Tr AV->CH->Option R)->Option R):Prop:=
 ∀c t H k r,run c t H k=some r-> ∃e t' H',eG P c t.env H.den e t'.env H'.den/\k e t' H'=some r
theorem V7 {tb:fq} (hT:ax P tb) {run:aW->Tr AV->CH->(aP->Tr AV->CH->Option R)->Option R} (hR:agT P R run):HS P R (uC tb run):=by
 intro f args H k r h
 unfold uC at h
 split at h
 ·rename_i g hg
  split at h
  ·rename_i v H' hv
   rw[C2] at h
   exact⟨v,H',hT.nat f g hg args H v H' hv,h⟩
  ·cases h
 ·split at h
  ·cases h
  ·rename_i rf hrf
   split at h
   ·cases h
   ·rename_i hle
    obtain⟨t0,h1,h2⟩:=Wr h
    obtain⟨e,t',H',h3,h4⟩:=hR _ _ _ _ _ h2
    obtain⟨fn,md,h5,h6⟩:=hT.fn f rf hrf
    have avS:t0.env=gF args:=by
     funext m
     rw[h1]
     by_cases hm:m<args.length
     ·rw[if_pos ⟨Nat.zero_le _,by omega⟩];rfl
     ·rw[if_neg (by omega)]
      simp[Tr.env,Tr.get,gF,List.getD,List.getElem?_eq_none (show args.length<=m by omega)]
    rw[avS] at h3
    have rL:args.length<=rf.ntmps:=Nat.le_of_ble_eq_true hle
    split at h4
    ·obtain⟨vs,h7,h8⟩:=Wg h4
     exact⟨_,H',mU hT.follow h5 h6 rL h3 (.inl rfl) h7,h8⟩
    ·obtain⟨vs,h7,h8⟩:=Wg h4
     exact⟨_,H',mU hT.follow h5 h6 rL h3 (.inr rfl) h7,h8⟩
    ·cases h4
theorem WN {tb:fq} (hT:ax P tb): ∀(f:Nat),agT P R (runK tb f)
 |0=>fun c t H k r h=>by simp[runK] at h
 |f+1=>by
  have ih:=WN hT f
  have hC:=V7 hT ih
  intro c t H k r h
  simp only[runK] at h
  split at h
  ·exact⟨_,_,_, .skip,h⟩
  ·exact⟨_,_,_, .label,h⟩
  ·exact⟨_,_,_, .exit,h⟩
  ·exact⟨_,_,_, .goto,h⟩
  ·exact⟨_,_,_, .ret,h⟩
  ·obtain⟨t',H',h1,h2⟩:=WV hC hT.cj h
   exact⟨_,_,_, .af h1,h2⟩
  ·rename_i al un
   split at h
   ·cases h
   ·rename_i fb
    simp only[CH.zC,wo] at h
    obtain⟨t',H',h1,h2⟩:=Wh (P:=P) (un:=un) (i:=0) (done:=[]) hC hT.cj rfl h
    exact⟨_,_,_, .aY (fun j hj=>Lg fb j (Nat.zero_le _) (by omega)) h1,h2⟩
  ·obtain⟨e,t1,H1,h1,h2⟩:=ih _ _ _ _ _ h
   cases e with
   |normal=>
    obtain⟨e2,t2,H2,h3,h4⟩:=ih _ _ _ _ _ h2
    exact⟨_,_,_, .seq h1 h3,h4⟩
   |exit id=>exact⟨_,_,_, .ve h1 (by simp),h2⟩
   |goto l=>exact⟨_,_,_, .ve h1 (by simp),h2⟩
   |ret=>exact⟨_,_,_, .ve h1 (by simp),h2⟩
  ·cases h
  ·split at h
   ·rename_i hc
    obtain⟨e,t1,H1,h1,h2⟩:=ih _ _ _ _ _ h
    exact⟨_,_,_, .cond true hc h1,h2⟩
   ·rename_i hc
    obtain⟨e,t1,H1,h1,h2⟩:=ih _ _ _ _ _ h
    exact⟨_,_,_, .cond false hc h1,h2⟩
   ·cases h
  ·rename_i id c
   obtain⟨e,t1,H1,h1,h2⟩:=ih _ _ _ _ _ h
   have hb:=eG.block (id:=id) h1
   cases e with
   |normal=>exact⟨_,_,_,by simpa using hb,h2⟩
   |exit mD=>
    simp only[] at h2
    split at h2
    ·rename_i aL
     have:mD=id:=Nat.eq_of_beq_eq_true aL
     subst this
     exact⟨_,_,_,by simpa using hb,h2⟩
    ·rename_i aL
     have: ¬(aP.exit mD=aP.exit id):=fun h=>by
      have:=aP.exit.inj h
      subst this
      simp at aL
     rw[if_neg this] at hb
     exact⟨_,_,_,hb,h2⟩
   |goto l=>exact⟨_,_,_,by simpa using hb,h2⟩
   |ret=>exact⟨_,_,_,by simpa using hb,h2⟩
  ·obtain⟨e,t1,H1,h1,h2⟩:=ih _ _ _ _ _ h
   cases e with
   |normal=>
    obtain⟨e2,t2,H2,h3,h4⟩:=ih _ _ _ _ _ h2
    exact⟨_,_,_, .loop h1 h3,h4⟩
   |exit id=>exact⟨_,_,_, .rA h1 (by simp),h2⟩
   |goto l=>exact⟨_,_,_, .rA h1 (by simp),h2⟩
   |ret=>exact⟨_,_,_, .rA h1 (by simp),h2⟩
  ·obtain⟨e,t1,H1,h1,h2⟩:=ih _ _ _ _ _ h
   exact⟨_,_,_, .scope h1,h2⟩
  ·rename_i body cur
   obtain⟨e,t1,H1,h1,h2⟩:=ih _ _ _ _ _ h
   cases e with
   |goto l=>
    simp only[] at h2
    split at h2
    ·rename_i hl
     exact⟨_,_,_, .ph h1 (fun l' h=>by cases h;exact hl),h2⟩
    ·rename_i rest hl
     obtain⟨e2,t2,H2,h3,h4⟩:=ih _ _ _ _ _ h2
     exact⟨_,_,_, .J6 h1 hl h3,h4⟩
   |normal=>exact⟨_,_,_, .ph h1 (by simp),h2⟩
   |exit id=>exact⟨_,_,_, .ph h1 (by simp),h2⟩
   |ret=>exact⟨_,_,_, .ph h1 (by simp),h2⟩
theorem ajA {tb:fq} (hT:ax P tb) {fuel f:Nat} {args:List AV} {H:CH} {k:AV->CH->Option R} {r:R} (h:uC tb (runK tb fuel) f args H k=some r):
 ∃v H',an P f args H.den v H'.den/\k v H'=some r:=V7 hT (WN hT fuel) f args H k r h
end
def Tr.tg {α:Type}:Tr α->List (Nat×α)
 | .leaf=>[]
 | .node l v r=>(match v with|some v=>[(0,v)]|none=>[])++(l.tg.map fun p=>(2*p.1+1,p.2))++(r.tg.map fun p=>(2*p.1+2,p.2))
theorem Tr.BC {α:Type}: ∀{t:Tr α} {n:Nat} {v:α},t.get n=some v->(n,v)∈t.tg
 | .leaf,n,v,h=>by simp[Tr.get] at h
 | .node l u r,n,v,h=>by
   cases n with
   |zero=>
    simp only[Tr.get] at h
    subst h
    simp[Tr.tg]
   |succ m=>
    rw[Tr.uo] at h
    simp only[Tr.tg,List.mem_append,List.mem_map]
    split at h
    ·exact .inl (.inr ⟨(m/2,v),Tr.BC h,by simp;omega⟩)
    ·exact .inr ⟨(m/2,v),Tr.BC h,by simp;omega⟩
end
section
open Go Go.ChangeShapes Go.WideShapes Go.ChangeAt Go.RowKit
def Kept (w w':World):Prop:=w'.os=w.os/\w'.output=w.output/\w.heap.size<=w'.heap.size/\ ∀k,k<w.heap.size->w'.heap[k]? =w.heap[k]?
theorem Kept.keptBut {w w':World} (h:Kept w w') (may:MemPlace->Prop):w.keptBut w' may:=by
 obtain⟨h1,h2,h3,h4⟩:=h
 refine⟨h1,h2,fun i hi=>?_⟩
 rw[h4 i hi]
 split
 ·rename_i c t fr c' t' fr' e1 e2
  rw[e1] at e2;cases e2
  exact⟨rfl,rfl,rfl,fun _ _=>rfl⟩
 ·rename_i es cl aV cl' e1 e2
  rw[e1] at e2;cases e2
  exact .inr ⟨rfl,rfl⟩
 ·rfl
theorem Kept.frozen {w w':World} (h:Kept w w') {a:Addr} (ha:a.block<w.heap.size):w'.frozen? a=w.frozen? a:=by
 simp only[World.frozen?,h.2.2.2 _ ha]
section
variable {H:Type} {enc:TypeId×Value->H} {P:Program}
theorem ahR {f:Func} {s:ChangeSpec} {apart fresh handsOn again:Bool} {W W':World} {args:Array Value} {v:Value} {ds gs:List (DataW H)} {before pa pv:List MemPlace}
 (hW:DataW.Whole enc P f.params.toList s.vars apart W args.toList ds gs before)
 (Ek: ∀(b:Nat) (sp:Nat->Bool) (hd:Bool),DataW.TrodAll enc P W' b sp hd f.resultTypes.toList (v.resultList f.resultTypes.size) (s.fn H (ds++gs)).results [])
 (dZ: ∀sp:Nat->Bool,(∀p∈before,sp p.block=true)->DataW.TrodAll enc P W' 0 sp true f.params.toList args.toList (s.fn H (ds++gs)).args pa)
 (CV: ∀sp:Nat->Bool,(∀p∈before,sp p.block=true)->DataW.TrodVars enc P W' sp s.vars (s.fn H (ds++gs)).vars pv)
 (nM:before=pa++pv) (hk:Kept W W')
 (ba: ∀(j:Nat) (t:TypeId) (r:Value),f.resultTypes[j]? =some t->(v.resultList f.resultTypes.size)[j]? =some r->Value.okWide P W' .any 0 t r):
 s.post enc P f apart fresh handsOn again W args v W':=by
 have hold: ∀p∈before,(fun b=>decide (b<W.heap.size)) p.block=true:=fun p hp=>by simpa using hW.lt p hp
 refine⟨ds,gs,before,[],pa,pv,hW,Ek _ _ _,dZ _ hold,CV _ hold,World.keptBut_mono (fun p hp=>⟨hp,?_⟩) (hk.keptBut (· ∈before)),fun _=>?_⟩
 ·rw[nM,List.mem_append] at hp
  exact Or.inr hp
 ·have aD:=fun p hp=>hW.lt p hp
  obtain⟨_,_,_,_,_,hz,hn⟩:=hW
  refine⟨ba,_,_,([]++pa)++pv,⟨[]++pa,pv,trodAll_append (dZ _ (fun _ _=>rfl)) (Ek _ _ _),CV _ (fun _ _=>rfl),rfl,?_,?_⟩,?_⟩
  ·intro b off hp
   have yc:MemPlace.cell b off∈before:=by rw[nM];simpa using hp
   rw[hk.frozen (a:=⟨b,off,none⟩) (aD _ yc)]
   exact hz b off yc
  ·intro ha
   have:=hn ha
   rw[nM] at this
   simpa using this
  ·intro p hp _
   rw[nM]
   simpa using hp
end
section
variable {P:Program} {w:World}
theorem YC (I:aQ) (hI: ∀k j,I k j->k<w.heap.size):HR (fun _=>none) I aa.empty w where
 cD b l h:=by cases h
 inside b l h:=by cases h
 cells b cs l h:=by cases h
 maps b es l h:=by cases h
 eQ b l h:=by cases h
 dm b b' l l' x x' k j _ h:=by cases h
 bn b l x k j h:=by cases h
 dg:=hI
 pl b cs cb o room h:=by cases h
theorem trod_bool {H:Type} {enc:TypeId×Value->H} {base:Nat} {sp:Nat->Bool} {hd:Bool} {t:TypeId} (hu:P.underlying t=some .bool) (b:Bool):DataW.Trod enc P w base sp hd t (.bool b) (.lit (.bool b)) []:=
 ⟨1,by simp[DataW.trod,Value.cells,hu]⟩
theorem okWide_bool {t:TypeId} (hu:P.underlying t=some .bool) (b:Bool):Value.okWide P w .any 0 t (.bool b):=by
 simp[Value.okWide,hu,Cell.okWide,Cell.ok]
theorem ajE {f:Nat} {args:List AV} {h':aa} (hc:an P f args aa.empty (.bool true) h') {I:aQ} (hI: ∀k j,I k j->k<w.heap.size) {bC:Array Value} (hl:LR (fun _=>none) I w args bC.toList):
 Calls P f bC w fun e w'=>e= .returned (.bool true)/\Kept w w':=by
 refine(hc (fun _=>none) I w bC (YC I hI) hl).mono ?_
 rintro e w' ⟨v,ι',I',rfl,hv,H',E⟩
 cases hv
 exact⟨rfl,E.os,E.output,E.size,fun k hk=>E.block k hk (fun j ⟨b,l,x,hb,_⟩=>by cases hb)⟩
end
end
section
open Go
section
variable {P:Program}
theorem XD {K:Env->aa->Prop}: ∀{al:List RO} {ρ:Env} {h:aa},exec P al ρ h K-> ∃ρ1 h1,exec P al ρ h (fun ρ' h'=>ρ'=ρ1/\h'=h1)/\K ρ1 h1
 |[],ρ,h,hk=>⟨ρ,h,⟨rfl,rfl⟩,hk⟩
 |o::os,ρ,h,⟨r,h',hs,hk⟩=>by
  obtain⟨ρ1,h1,he,hk⟩:=XD hk
  exact⟨ρ1,h1,⟨r,h',hs,he⟩,hk⟩
theorem Bo {K:Env->aa->Prop} {all:List RO} {un:List (List Nat)} {base:Nat}: ∀{al:List RO} {i:Nat} {ρ:Env} {h:aa} {done:List (Env×aa×Option AV)},mn P all un base al i ρ h done K->
 ∃ρ1 h1,mn P all un base al i ρ h done (fun ρ' h'=>ρ'=ρ1/\h'=h1)/\K ρ1 h1
 |[],i,ρ,h,done,hk=>⟨ρ,h,⟨rfl,rfl⟩,hk⟩
 |o::os,i,ρ,h,done,⟨r,h',hs,hc,hf,hk⟩=>by
  obtain⟨ρ1,h1,he,hk⟩:=Bo hk
  exact⟨ρ1,h1,⟨r,h',hs,hc,hf,he⟩,hk⟩
def WP (P:Program) (c:aW) (K:aP->Env->aa->Prop) (ρ:Env) (h:aa):Prop:= ∃e ρ' h',eG P c ρ h e ρ' h'/\K e ρ' h'
variable {K:aP->Env->aa->Prop} {ρ:Env} {h:aa}
theorem WP.mono {c:aW} {K':aP->Env->aa->Prop} (hw:WP P c K ρ h) (hk: ∀e ρ h,K e ρ h->K' e ρ h):WP P c K' ρ h:=by
 obtain⟨e,ρ',h',hb,po⟩:=hw
 exact⟨e,ρ',h',hb,hk _ _ _ po⟩
def jl (k:Env->aa->Prop) (K:aP->Env->aa->Prop):aP->Env->aa->Prop
 | .normal,ρ,h=>k ρ h
 |e,ρ,h=>K e ρ h
def lu (id:Nat) (K:aP->Env->aa->Prop):aP->Env->aa->Prop
 | .exit i,ρ,h=>if i=id then K .normal ρ h else K (.exit i) ρ h
 |e,ρ,h=>K e ρ h
theorem XU (hk:K .normal ρ h):WP P .skip K ρ h:=⟨_,_,_, .skip,hk⟩
theorem Xh {l:Nat} (hk:K .normal ρ h):WP P (.label l) K ρ h:=⟨_,_,_, .label,hk⟩
theorem ak1 {id:Nat} (hk:K (.exit id) ρ h):WP P (.exit id) K ρ h:=⟨_,_,_, .exit,hk⟩
theorem ak0 {l:Nat} (hk:K (.goto l) ρ h):WP P (.goto l) K ρ h:=⟨_,_,_, .goto,hk⟩
theorem amg (hk:K .ret ρ h):WP P .ret K ρ h:=⟨_,_,_, .ret,hk⟩
theorem ans {al:List RO} (he:exec P al ρ h (K .normal)):WP P (.af al) K ρ h:=by
 obtain⟨ρ1,h1,he,hk⟩:=XD he
 exact⟨_,_,_, .af he,hk⟩
theorem GB {a b:aW} (hw:WP P a (jl (WP P b K) K) ρ h):WP P (.seq a b) K ρ h:=by
 obtain⟨e,ρ',h',hb,hk⟩:=hw
 cases e with
 |normal=>obtain⟨e2,ρ2,h2,ch,kS⟩:=hk;exact⟨_,_,_, .seq hb ch,kS⟩
 |exit id=>exact⟨_,_,_, .ve hb (by simp),hk⟩
 |goto l=>exact⟨_,_,_, .ve hb (by simp),hk⟩
 |ret=>exact⟨_,_,_, .ve hb (by simp),hk⟩
theorem ak2 {c:aq} {x y:aW} {t:Bool} (hc:c.ev ρ= .bool t) (hw:WP P (if t then x else y) K ρ h):WP P (.cond c x y) K ρ h:=by
 obtain⟨e,ρ',h',hb,hk⟩:=hw
 exact⟨_,_,_, .cond t hc hb,hk⟩
theorem ajW {id:Nat} {c:aW} (hw:WP P c (lu id K) ρ h):WP P (.block id c) K ρ h:=by
 obtain⟨e,ρ',h',hb,hk⟩:=hw
 refine⟨_,_,_, .block hb,?_⟩
 cases e with
 |exit i=>
  simp only[lu] at hk
  by_cases hi:i=id
  ·subst hi;simpa using hk
  ·rw[if_neg hi] at hk
   have: ¬(aP.exit i=aP.exit id):=fun h=>hi (aP.exit.inj h)
   rw[if_neg this];exact hk
 |normal=>simpa [lu] using hk
 |goto l=>simpa [lu] using hk
 |ret=>simpa [lu] using hk
theorem dJ {c:aW} (I:Nat->Env->aa->Prop) (round: ∀n ρ h,I n ρ h->WP P c (jl (fun ρ' h'=> ∃m,m<n/\I m ρ' h') K) ρ h): ∀(n:Nat) {ρ:Env} {h:aa},I n ρ h->WP P (.loop c) K ρ h:=by
 intro n
 induction n using Nat.strongRecOn with
 |_ n ih=>
  intro ρ h hI
  obtain⟨e,ρ',h',hb,hk⟩:=round n ρ h hI
  cases e with
  |normal=>
   obtain⟨m,hm,nT⟩:=hk
   obtain⟨e2,ρ2,h2,ch,kS⟩:=ih m hm nT
   exact⟨_,_,_, .loop hb ch,kS⟩
  |exit id=>exact⟨_,_,_, .rA hb (by simp),hk⟩
  |goto l=>exact⟨_,_,_, .rA hb (by simp),hk⟩
  |ret=>exact⟨_,_,_, .rA hb (by simp),hk⟩
def qo (k:Nat->Option (Env->aa->Prop)) (K:aP->Env->aa->Prop):aP->Env->aa->Prop
 | .goto l,ρ,h=>match k l with
   |some k=>k ρ h
   |none=>K (.goto l) ρ h
 |e,ρ,h=>K e ρ h
theorem HV {body cur:aW} (hw:WP P cur (qo (fun l=>(fZ body l).map fun rest=>WP P (.inScope body rest) K) K) ρ h):WP P (.inScope body cur) K ρ h:=by
 obtain⟨e,ρ',h',hb,hk⟩:=hw
 cases e with
 |goto l=>
  simp only[qo] at hk
  cases hf:fZ body l with
  |none=>rw[hf] at hk;exact⟨_,_,_, .ph hb (fun l' h=>by cases h;exact hf),hk⟩
  |some rest=>
   rw[hf] at hk
   obtain⟨e2,ρ2,h2,ch,kS⟩:=hk
   exact⟨_,_,_, .J6 hb hf ch,kS⟩
 |normal=>exact⟨_,_,_, .ph hb (by simp),hk⟩
 |exit id=>exact⟨_,_,_, .ph hb (by simp),hk⟩
 |ret=>exact⟨_,_,_, .ph hb (by simp),hk⟩
theorem Lv {c:aW} (hw:WP P (.inScope c c) K ρ h):WP P (.scope c) K ρ h:=by
 obtain⟨e,ρ',h',hb,hk⟩:=hw
 exact⟨_,_,_, .scope hb,hk⟩
theorem akZ {body rest:aW} (l:Nat) (hf:fZ body l=some rest) (J:Nat->Env->aa->Prop)
 (pass: ∀n ρ h,J n ρ h->WP P rest (qo (fun l'=>if l'=l then some (fun ρ' h'=> ∃m,m<n/\J m ρ' h') else none) K) ρ h)
 (dF: ∀l' ρ h,l'≠l->K (.goto l') ρ h->False): ∀(n:Nat) {ρ:Env} {h:aa},J n ρ h->WP P (.inScope body rest) K ρ h:=by
 intro n
 induction n using Nat.strongRecOn with
 |_ n ih=>
  intro ρ h hJ
  obtain⟨e,ρ',h',hb,hk⟩:=pass n ρ h hJ
  cases e with
  |goto l'=>
   simp only[qo] at hk
   by_cases hl:l'=l
   ·subst hl
    simp only[if_true] at hk
    obtain⟨m,hm,hJ'⟩:=hk
    obtain⟨e2,ρ2,h2,ch,kS⟩:=ih m hm hJ'
    exact⟨_,_,_, .J6 hb hf ch,kS⟩
   ·simp only[hl,if_false] at hk
    exact(dF l' ρ' h' hl hk).elim
  |normal=>exact⟨_,_,_, .ph hb (by simp),hk⟩
  |exit id=>exact⟨_,_,_, .ph hb (by simp),hk⟩
  |ret=>exact⟨_,_,_, .ph hb (by simp),hk⟩
def Is (rs:List fI) (r:AV) (h1:aa):aP->Env->aa->Prop
 | .normal,ρ,h=>(dD ρ h rs).map eO=some r/\h=h1
 | .ret,ρ,h=>(dD ρ h rs).map eO=some r/\h=h1
 |_,_,_=>False
theorem ah7 {md:Mode} (hm:P.follows .mixedOrders=true) {f:Nat} {fn:Func} {rf:az} (hf:P.funcs[f]? =some fn) (hc:aC P md fn=some rf) {args:List AV} (dZ:args.length<=rf.ntmps)
 {h1:aa} {r:AV} (hw:WP P rf.code (Is rf.results r h1) (gF args) h):an P f args h r h1:=by
 obtain⟨e,ρ',h',hb,hk⟩:=hw
 cases e with
 |normal=>
  obtain⟨hr,rfl⟩:=hk
  obtain⟨vs,hv,rfl⟩:=Option.map_eq_some_iff.1 hr
  exact mU hm hf hc dZ hb (.inl rfl) hv
 |ret=>
  obtain⟨hr,rfl⟩:=hk
  obtain⟨vs,hv,rfl⟩:=Option.map_eq_some_iff.1 hr
  exact mU hm hf hc dZ hb (.inr rfl) hv
 |exit id=>exact hk.elim
 |goto l=>exact hk.elim
end
end
section
open Go
mutual
def AV.bD (p:Nat->Bool):AV->Bool
 | .ptr b _=>p b
 | .rs b _ _ _=>p b
 | .rk b _ _ _ _=>p b
 | .map (some b)=>p b
 | .vs xs t=>AV.ic p xs&&(match t with| .own t=>p t|_=>true)
 | .vp xs _=>AV.cf p xs
 | .agg xs=>AV.cf p xs
 | .ay xs=>AV.cf p xs
 | .fn _ a b=>AV.cf p a&&AV.cf p b
 |_=>true
def AV.cf (p:Nat->Bool):List AV->Bool
 |[]=>true
 |x::xs=>x.bD p&&AV.cf p xs
def AV.ic (p:Nat->Bool):List (List AV)->Bool
 |[]=>true
 |x::xs=>AV.cf p x&&AV.ic p xs
end
theorem uq {p:Nat->Bool}: ∀{l:List AV} {i:Nat} {v:AV},AV.cf p l=true->l[i]? =some v->v.bD p=true
 |[],i,v,_,h=>by simp at h
 |x::xs,i,v,ha,h=>by
  simp only[AV.cf,Bool.and_eq_true] at ha
  cases i with
  |zero=>simp at h;subst h;exact ha.1
  |succ i=>exact uq ha.2 (by simpa using h)
theorem XR {p:Nat->Bool}: ∀{l:List (List AV)} {i:Nat} {v:List AV},AV.ic p l=true->l[i]? =some v->AV.cf p v=true
 |[],i,v,_,h=>by simp at h
 |x::xs,i,v,ha,h=>by
  simp only[AV.ic,Bool.and_eq_true] at ha
  cases i with
  |zero=>simp at h;subst h;exact ha.1
  |succ i=>exact XR ha.2 (by simpa using h)
theorem wq {p:Nat->Bool}: ∀{l:List AV},(∀(i:Nat) (v:AV),l[i]? =some v->v.bD p=true)->AV.cf p l=true
 |[],_=>rfl
 |x::xs,h=>by
  simp only[AV.cf,Bool.and_eq_true]
  exact⟨h 0 x rfl,wq (fun i v hv=>h (i+1) v (by simpa using hv))⟩
theorem YF {p:Nat->Bool}: ∀{l:List (List AV)},(∀(i:Nat) (v:List AV),l[i]? =some v->AV.cf p v=true)->AV.ic p l=true
 |[],_=>rfl
 |x::xs,h=>by
  simp only[AV.ic,Bool.and_eq_true]
  exact⟨h 0 x rfl,YF (fun i v hv=>h (i+1) v (by simpa using hv))⟩
theorem VR.change {ι ι2:aG} {I:aQ} {w:World} {p:Nat->Bool} (hp: ∀b l,p b=true->ι b=some l->ι2 b=some l) {v:AV} {c:Value} (h:VR ι I w v c):v.bD p=true->VR ι2 I w v c:=by
 induction h with
 |undef v=>intro _;exact .undef v
 |fw v h=>intro _;exact .fw v h
 |int k n=>intro _;exact .int k n
 |bool b=>intro _;exact .bool b
 |fU k b=>intro _;exact .fU k b
 |fX k a b=>intro _;exact .fX k a b
 |str s=>intro _;exact .str s
 |nil=>intro _;exact .nil
 |ptr b off cb o room h=>intro ha;exact .ptr b off cb o room (hp _ _ ha h)
 |vp xs off cb o g hI hc hv h1 ih=>intro ha;exact .vp xs off cb o g hI hc (fun j v hj=>ih j v hj (uq ha hj)) h1
 |vs xs t cb o s cap g hs hI hc hv h1 bu ht ih=>
  intro ha
  simp only[AV.bD,Bool.and_eq_true] at ha
  refine .vs xs t cb o s cap g hs hI hc (fun i row j v hi hj=>ih i row j v hi hj (uq (XR ha.1 hi) hj)) h1 bu ?_
  cases t with
  |ao=>exact ht
  |full=>exact ht
  |own t=>exact⟨ht.1,hp _ _ ha.2 ht.2⟩
 |gw t ht=>intro _;exact .gw t ht
 |gn t a cap ht=>intro _;exact .gn t a cap ht
 |bA=>intro _;exact .bA
 |rs b off len sz cb o room cap h h1 h2=>intro ha;exact .rs b off len sz cb o room cap (hp _ _ ha h) h1 h2
 |rk b off len sz cap cb o room h h1 h2=>intro ha;exact .rk b off len sz cap cb o room (hp _ _ ha h) h1 h2
 |vz a cap=>intro _;exact .vz a cap
 |pT=>intro _;exact .pT
 |map b cb h=>intro ha;exact .map b cb (hp _ _ ha h)
 |fn f fs cs eF bF hf hc Kn gr fN jH=>
  intro ha
  simp only[AV.bD,Bool.and_eq_true] at ha
  exact .fn f fs cs eF bF hf hc (fun i v c h1 h2=>fN i v c h1 h2 (uq ha.1 h1)) (fun i v c h1 h2=>jH i v c h1 h2 (uq ha.2 h1))
 |jm=>intro _;exact .jm
 |agg cs bF hl hv ih=>intro ha;exact .agg cs bF hl (fun i v c h1 h2=>ih i v c h1 h2 (uq ha h1))
 |ay cs bF hl hv ih=>intro ha;exact .ay cs bF hl (fun i v c h1 h2=>ih i v c h1 h2 (uq ha h1))
theorem VR.cD {ι:aG} {I:aQ} {w:World} {p:Nat->Bool} (hp: ∀b l,ι b=some l->p b=true) {v:AV} {c:Value} (h:VR ι I w v c):v.bD p=true:=by
 induction h with
 |ptr b off cb o room h=>exact hp _ _ h
 |vp xs off cb o g hI hc hv h1 ih=>exact wq (fun j v hj=>ih j v hj)
 |vs xs t cb o s cap g hs hI hc hv h1 bu ht ih=>
  simp only[AV.bD,Bool.and_eq_true]
  refine⟨YF (fun i row hi=>wq (fun j v hj=>ih i row j v hi hj)),?_⟩
  cases t with
  |ao=>rfl
  |full=>rfl
  |own t=>exact hp _ _ ht.2
 |gw t ht=>rcases ht with rfl|rfl<;>rfl
 |gn t a cap ht=>rcases ht with rfl|⟨rfl,_⟩<;>rfl
 |rs b off len sz cb o room cap h h1 h2=>exact hp _ _ h
 |rk b off len sz cap cb o room h h1 h2=>exact hp _ _ h
 |map b cb h=>exact hp _ _ h
 |fn f fs cs eF bF hf hc Kn gr fN jH=>
  simp only[AV.bD,Bool.and_eq_true]
  refine⟨wq (fun i v hi=>?_),wq (fun i v hi=>?_)⟩
  ·have:=(List.getElem?_eq_some_iff.1 hi).1
   exact fN i v _ hi (List.getElem?_eq_getElem (by omega))
  ·have:=(List.getElem?_eq_some_iff.1 hi).1
   exact jH i v _ hi (List.getElem?_eq_getElem (by omega))
 |agg cs bF hl hv ih=>
  refine wq (fun i v hi=>?_)
  have:=(List.getElem?_eq_some_iff.1 hi).1
  exact ih i v _ hi (List.getElem?_eq_getElem (by omega))
 |ay cs bF hl hv ih=>
  refine wq (fun i v hi=>?_)
  have:=(List.getElem?_eq_some_iff.1 hi).1
  exact ih i v _ hi (List.getElem?_eq_getElem (by omega))
 |_=>rfl
section
variable {P:Program}
theorem LR.change {ι ι2:aG} {I:aQ} {w:World} {p:Nat->Bool} (hp: ∀b l,p b=true->ι b=some l->ι2 b=some l) {l:List AV} {l':List Value} (h:LR ι I w l l') (ha:AV.cf p l=true):LR ι2 I w l l':=
 ⟨h.1,fun i v c h1 h2=>(h.2 i v c h1 h2).change hp (uq ha h1)⟩
theorem an.frame {f:Nat} {args:List AV} {r:AV} {h':aa} (hc:an P f args aa.empty r h') (ha:AV.cf (fun _=>false) args=true) (hr:r.bD (fun _=>false)=true) (h:aa):an P f args h r h:=by
 intro ι I w bC H hl
 have ye:LR (fun _=>none) I w args bC.toList:=hl.change (p:=fun _=>false) (fun b l hb=>by cases hb) ha
 refine(hc (fun _=>none) I w bC (YC I H.dg) ye).mono ?_
 rintro e w' ⟨v,ι',I',rfl,hv,H',E⟩
 have dF: ∀k j,¬ew (fun _=>none) aa.empty k j:=fun k j ⟨b,l,x,hb,_⟩=>by cases hb
 have bt: ∀k j,k<w.heap.size->w'.cell? ⟨k,j,none⟩=w.cell? ⟨k,j,none⟩:=fun k j hk=>E.cell k j hk (dF k j)
 have nT: ∀k j,I' k j->I k j\/w.heap.size<=k:=fun k j hk=>by
  rcases E.fQ k j hk with h|h|h
  ·exact .inl h
  ·exact(dF k j h).elim
  ·exact .inr h
 have aD: ∀b l k j,ι b=some l->l.has k j->k<w.heap.size:=fun b l k j hb hl=>by rw[Loc.v8 hl];exact H.inside b l hb
 have cq: ∀a c,VR ι I w a c->VR ι I' w' a c:=fun a c hx=>hx.mono (fun _ _ h=>h) E.bn (fun k j hk=>bt k j (H.dg k j hk))
 refine⟨v,ι,I',rfl,hv.change (p:=fun _=>false) (fun b l hb=>by cases hb) hr,?_,?_⟩
 ·exact
  {cD:=H.cD,inside:=fun b l hb=>Nat.lt_of_lt_of_le (H.inside b l hb) E.size
   cells:=fun b cs l hg hb=>by
    obtain⟨cb,o,room,rfl,h1,h2,h3⟩:=H.cells b cs l hg hb
    refine⟨cb,o,room,rfl,h1,h2,fun j hj=>?_⟩
    obtain⟨c,e1,e2,e3⟩:=h3 j hj
    have aE:cb<w.heap.size:=H.inside b _ hb
    exact⟨c,by rw[bt _ _ aE];exact e1,by rw[E.frozen _ _ aE (dF _ _)];exact e2,fun v hv=>cq _ _ (e3 v hv)⟩
   maps:=fun b es l hg hb=>by
    obtain⟨cb,aV,clock,rfl,h1,h2,h3⟩:=H.maps b es l hg hb
    have aE:cb<w.heap.size:=H.inside b _ hb
    exact⟨cb,aV,clock,rfl,by rw[E.block cb aE (fun j=>dF cb j)];exact h1,h2,fun i k v e e1 e2=>⟨cq _ _ (h3 i k v e e1 e2).1,cq _ _ (h3 i k v e e1 e2).2⟩⟩
   eQ:=fun b l hg hb=>by
    obtain⟨cb,lo,hi,rfl,h1⟩:=H.eQ b l hg hb
    have aE:cb<w.heap.size:=H.inside b _ hb
    refine⟨cb,lo,hi,rfl,fun j e1 e2=>?_⟩
    obtain⟨c,e3,e4⟩:=h1 j e1 e2
    exact⟨c,by rw[bt _ _ aE];exact e3,by rw[E.frozen _ _ aE (dF _ _)];exact e4⟩
   dm:=H.dm
   bn:=fun b l x k j hb hg hl hk=>by
    rcases nT k j hk with h1|h1
    ·exact H.bn b l x k j hb hg hl h1
    ·have:=aD b l k j hb hl;omega
   dg:=H'.dg
   pl:=fun b cs cb o room hg hb n=>by rw[E.frozen cb n (H.inside b _ hb) (dF _ _)];exact H.pl b cs cb o room hg hb n}
 ·exact
  {eJ:=fun _ _=>rfl,bN:=fun _ _ h=>h,next:=Nat.le_refl _,bn:=E.bn,os:=E.os,tape:=E.tape,output:=E.output,size:=E.size
   block:=fun k hk _=>E.block k hk (fun j=>dF k j)
   cell:=fun k j hk _=>bt k j hk
   frozen:=fun k j hk _=>E.frozen k j hk (dF k j)
   own:=fun k j h=> .inl h
   fQ:=fun k j hk=>by rcases nT k j hk with h1|h1;exact .inl h1;exact .inr (.inr h1)
   lost:=fun _ _ _=>rfl}
theorem an.restore {f:Nat} {args:List AV} {r:AV} {h h':aa} (hc:an P f args h r h') (iy: ∀b,b<h.next->h'.get b=h.get b) (hr:r.bD (fun b=>decide (b<h.next))=true):an P f args h r h:=by
 intro ι I w bC H hl
 refine(hc ι I w bC H hl).mono ?_
 rintro e w' ⟨v,ι',I',rfl,hv,H',E⟩
 let ι2:aG:=fun b=>if b<h.next then ι' b else none
 have ez: ∀b l,decide (b<h.next)=true->ι' b=some l->ι2 b=some l:=fun b l hb hl=>by
  have:b<h.next:=by simpa using hb
  simp only[ι2,this,if_true];exact hl
 have l5: ∀b l,ι2 b=some l->b<h.next/\ι' b=some l:=fun b l hb=>by
  simp only[ι2] at hb
  split at hb
  ·rename_i aD;exact⟨aD,hb⟩
  ·cases hb
 have hold: ∀b,b<h.next->ι' b=ι b:=fun b hb=>E.eJ b (by omega)
 have gM: ∀a c c',VR ι I w a c->VR ι' I' w' a c'->VR ι2 I' w' a c':=fun a c c' hx hy=>
  hy.change ez (hx.cD (fun b l hb=>by simpa using H.cD b l hb))
 refine⟨v,ι2,I',rfl,hv.change ez hr,?_,?_⟩
 ·exact
  {cD:=fun b l hb=>(l5 b l hb).1
   inside:=fun b l hb=>H'.inside b l (l5 b l hb).2
   cells:=fun b cs l hg hb=>by
    obtain⟨aD,bE⟩:=l5 b l hb
    obtain⟨cb,o,room,rfl,h1,h2,h3⟩:=H'.cells b cs l (by rw[iy b aD];exact hg) bE
    refine⟨cb,o,room,rfl,h1,h2,fun j hj=>?_⟩
    obtain⟨c,e1,e2,e3⟩:=h3 j hj
    refine⟨c,e1,e2,fun v hv=>?_⟩
    obtain⟨cb0,o0,aw5,heq,g1,g2,g3⟩:=H.cells b cs _ hg (by rw[<-hold b aD];exact bE)
    cases heq
    obtain⟨c0,f1,f2,f3⟩:=g3 j hj
    exact gM v c0 c (f3 v hv) (e3 v hv)
   maps:=fun b es l hg hb=>by
    obtain⟨aD,bE⟩:=l5 b l hb
    obtain⟨cb,aV,clock,rfl,h1,h2,h3⟩:=H'.maps b es l (by rw[iy b aD];exact hg) bE
    obtain⟨cb0,es0,aw2,heq,g1,g2,g3⟩:=H.maps b es _ hg (by rw[<-hold b aD];exact bE)
    cases heq
    refine⟨cb,aV,clock,rfl,h1,h2,fun i k v e e1 e2=>?_⟩
    have hi:=(List.getElem?_eq_some_iff.1 e1).1
    have h0:=g3 i k v _ e1 (Array.getElem?_eq_getElem (by omega))
    have h4:=h3 i k v e e1 e2
    exact⟨gM _ _ _ h0.1 h4.1,gM _ _ _ h0.2 h4.2⟩
   eQ:=fun b l hg hb=>by
    obtain⟨aD,bE⟩:=l5 b l hb
    exact H'.eQ b l (by rw[iy b aD];exact hg) bE
   dm:=fun b b' l l' x x' k j aM hb bE hg cC=>H'.dm b b' l l' x x' k j aM (l5 b l hb).2 (l5 b' l' bE).2 (by rw[iy b (l5 b l hb).1];exact hg) (by rw[iy b' (l5 b' l' bE).1];exact cC)
   bn:=fun b l x k j hb hg=>H'.bn b l x k j (l5 b l hb).2 (by rw[iy b (l5 b l hb).1];exact hg)
   dg:=H'.dg
   pl:=fun b cs cb o room hg hb=>H'.pl b cs cb o room (by rw[iy b (l5 b _ hb).1];exact hg) (l5 b _ hb).2}
 ·exact
  {eJ:=fun b hb=>by
    have aD:b<h.next:=by simpa using hb
    simp only[ι2,aD,if_true]
    exact E.eJ b hb
   bN:=fun b l hb=>ez b l (by simpa using H.cD b l hb) (E.bN b l hb)
   next:=Nat.le_refl _,bn:=E.bn,os:=E.os,tape:=E.tape,output:=E.output,size:=E.size,block:=E.block,cell:=E.cell,frozen:=E.frozen
   own:=fun k j ⟨b,l,x,hb,hg,hl⟩=>E.own k j ⟨b,l,x,(l5 b l hb).2,by rw[iy b (l5 b l hb).1];exact hg,hl⟩
   fQ:=E.fQ
   lost:=fun _ _ _=>rfl}
end
end
section
open Go
section
variable {P:Program} {ρ:Env} {h:aa} {K:Env->aa->Prop}
theorem ao5 {d:Option Nat} {q:bc} {os:List RO}:exec P (⟨d,none, .p q⟩::os) ρ h K↔ ∃v,aX q ρ h=some v/\exec P os (put ρ d v) h K:=by
 constructor
 ·rintro⟨r,h',hs,hk⟩
  simp only[bz,b8,gE] at hs
  obtain⟨v,rfl,hv,rfl⟩:=hs
  exact⟨v,hv,hk⟩
 ·rintro⟨v,hv,hk⟩
  exact⟨some v,h,⟨v,rfl,hv,rfl⟩,hk⟩
def gK (v:AV) (b:Bool) (A B:Prop):Prop:=match v with
 | .bool c=>if c=b then A else B
 | .ay []=>B
 |_=>False
theorem ao7 {d:Option Nat} {q:jN} {os:List RO}:exec P (⟨d,none, .a q⟩::os) ρ h K↔ ∃b v,gV q ρ h.next=some (b,v)/\exec P os (put ρ d v) (h.at h.next b) K:=by
 constructor
 ·rintro⟨r,h',hs,hk⟩
  simp only[bz,b8,gE] at hs
  obtain⟨v,rfl,b,hv,rfl⟩:=hs
  exact⟨b,v,hv,hk⟩
 ·rintro⟨b,v,hv,hk⟩
  exact⟨some v,_,⟨v,rfl,b,hv,rfl⟩,hk⟩
theorem ao6 {d:Option Nat} {q:gu} {os:List RO}:exec P (⟨d,none, .e q⟩::os) ρ h K↔ ∃v h',bR q ρ h.next h=some (v,h')/\exec P os (put ρ d v) h' K:=by
 constructor
 ·rintro⟨r,h',hs,hk⟩
  simp only[bz,b8,gE] at hs
  obtain⟨v,rfl,hv⟩:=hs
  exact⟨v,h',hv,hk⟩
 ·rintro⟨v,h',hv,hk⟩
  exact⟨some v,h',⟨v,rfl,hv⟩,hk⟩
theorem akA {d:Option Nat} {f:Nat} {as:List aq} {os:List RO} {v:AV} {h':aa} (hc:an P f (as.map (aq.ev ρ)) h v h') (hk:exec P os (put ρ d v) h' K):exec P (⟨d,none, .call f as⟩::os) ρ h K:=
 ⟨some v,h',⟨v,rfl,hc⟩,hk⟩
section
variable {P:Program} {ρ:Env} {h:aa} {K:aP->Env->aa->Prop}
def jW (l:Nat) (J:Env->aa->Prop) (K:aP->Env->aa->Prop):aP->Env->aa->Prop
 | .goto l',ρ,h=>if l'=l then J ρ h else K (.goto l') ρ h
 |e,ρ,h=>K e ρ h
theorem ahN {c rest:aW} (l:Nat) (hf:fZ c l=some rest) (J:Nat->Env->aa->Prop) (dF: ∀l' ρ h,K (.goto l') ρ h->False)
 (first:WP P c (jW l (fun ρ' h'=> ∃m,J m ρ' h') K) ρ h)
 (pass: ∀n ρ h,J n ρ h->WP P rest (jW l (fun ρ' h'=> ∃m,m<n/\J m ρ' h') K) ρ h):WP P (.scope c) K ρ h:=by
 have loop: ∀(n:Nat) (ρ:Env) (h:aa),J n ρ h->WP P (.inScope c rest) K ρ h:=fun n ρ h hJ=>
  akZ l hf J (fun n ρ h hJ=>(pass n ρ h hJ).mono (fun e ρ h hk=>by
   cases e with
   |goto l'=>
    simp only[jW,qo] at hk ⊢
    by_cases hl:l'=l
    ·simpa [hl] using hk
    ·simpa [hl] using hk
   |normal=>exact hk
   |exit id=>exact hk
   |ret=>exact hk)) (fun l' ρ h _ hk=>dF l' ρ h hk) n hJ
 refine Lv (HV (first.mono (fun e ρ h hk=>?_)))
 cases e with
 |goto l'=>
  simp only[jW,qo] at hk ⊢
  by_cases hl:l'=l
  ·subst hl
   rw[hf]
   simp only[if_true] at hk
   obtain⟨m,hm⟩:=hk
   exact loop m ρ h hm
  ·rw[if_neg hl] at hk
   exact(dF l' ρ h hk).elim
 |normal=>exact hk
 |exit id=>exact hk
 |ret=>exact hk
end
end
section
variable {P:Program}
def Ig (rs:List fI) (r:AV) (h:aa):aP->Env->aa->Prop
 | .normal,ρ,h'=>(dD ρ h' rs).map eO=some r/\ ∀b,b<h.next->h'.get b=h.get b
 | .ret,ρ,h'=>(dD ρ h' rs).map eO=some r/\ ∀b,b<h.next->h'.get b=h.get b
 |_,_,_=>False
theorem aiS {md:Mode} (hm:P.follows .mixedOrders=true) {f:Nat} {fn:Func} {rf:az} (hf:P.funcs[f]? =some fn) (hc:aC P md fn=some rf) {args:List AV} (dZ:args.length<=rf.ntmps)
 {h:aa} {r:AV} (hr:r.bD (fun b=>decide (b<h.next))=true) (hw:WP P rf.code (Ig rf.results r h) (gF args) h):an P f args h r h:=by
 obtain⟨e,ρ',h',hb,hk⟩:=hw
 cases e with
 |normal=>
  obtain⟨hv,hs⟩:=hk
  obtain⟨vs,jr,rfl⟩:=Option.map_eq_some_iff.1 hv
  exact(mU hm hf hc dZ hb (.inl rfl) jr).restore hs hr
 |ret=>
  obtain⟨hv,hs⟩:=hk
  obtain⟨vs,jr,rfl⟩:=Option.map_eq_some_iff.1 hv
  exact(mU hm hf hc dZ hb (.inr rfl) jr).restore hs hr
 |exit id=>exact hk.elim
 |goto l=>exact hk.elim
end
theorem aa.HQ {h:aa} {id j:Nat} {b:cI}:(h.at id b).get j=if j=id then some b else h.get j:=rfl
theorem aa.GV {h:aa} {id:Nat} {b:cI}:(h.at id b).next=max h.next (id+1):=rfl
theorem aj7 {cs vs:List AV} (h:cs.length=vs.length):di cs 0 vs=vs:=by
 simp[di,List.drop_eq_nil_of_le,h]
end
section
open Go Go.ChangeShapes
section
variable {P:Program} {H:Type} {enc:TypeId×Value->H} {w:World} {base:Nat} {sp:Nat->Bool} {held:Bool}
theorem Gu {α β:Type} {f:α->Option β}: ∀{l:List α} {r:List β},l.mapM f=some r-> ∀x∈l,∃y,f x=some y
 |[],r,h,x,hx=>by simp at hx
 |a::l,r,h,x,hx=>by
  rw[List.mapM_cons] at h
  simp only[Option.bind_eq_bind,Option.bind_eq_some_iff] at h
  obtain⟨b,hb,bs,Ks,_⟩:=h
  rcases List.mem_cons.1 hx with rfl|hx
  ·exact⟨b,hb⟩
  ·exact Gu Ks x hx
end
end
section
open Go Go.ChangeShapes
def u9 (w:World):aQ:=fun k _=>k<w.heap.size
def Hd (P:Program):Nat->TypeId->List AV->Prop
 |0,_,_=>False
 |f+1,t,as=>
  match P.underlying t with
  |some .bool=> ∃b,as=[.bool b]
  |some (.int k)=> ∃n,as=[.int k n]/\(Lit.int k n).wf=true
  |some .string=> ∃s:ByteArray,as=[.str s]/\s.size<=maxLen
  |some (.slice e)=> ∃xs,as=[.vs xs .ao]/\xs.length<=maxLen/\ ∀row∈xs,Hd P f e row/\row.all AV.one=true
  |some (.struct fs)=>as.length=P.cellsOf t/\ ∀fd∈fs.toList,Hd P f fd.type ((as.drop fd.offset).take (P.cellsOf fd.type))
  |some (.array n e)=>as.length=n*P.cellsOf e/\ ∀i,i<n->Hd P f e ((as.drop (i*P.cellsOf e)).take (P.cellsOf e))
  |_=>as=[.fw]
def oI (P:Program):Nat->List Field->Option Nat
 |o,[]=>some o
 |o,f::fs=>if f.offset=o/\f.type<P.types.size then oI P (o+P.cellsOf f.type) fs else none
def JD (P:Program):Bool:=(List.range P.types.size).all fun t=>match P.underlying t with
 |some (.struct fs)=>oI P 0 fs.toList==some (P.cellsOf t)
 |some (.array n e)=>decide (e<P.types.size)&&P.cellsOf t==n*P.cellsOf e
 |some (.slice e)=>decide (e<P.types.size)&&decide (0<P.cellsOf e)
 |_=>true
section
variable {P:Program} {H:Type} {enc:TypeId×Value->H} {w:World} {sp:Nat->Bool} {held:Bool}
theorem rF {ι:aG} {I:aQ} {a:AV} {v:Value} (h:VR ι I w a v):LR ι I w [a] [v]:=LR.cons h LR.nil
theorem LR.app {ι:aG} {I:aQ}: ∀{a b:List AV} {c d:List Value},LR ι I w a c->LR ι I w b d->LR ι I w (a++b) (c++d)
 |[],b,[],d,_,h=>h
 |[],b,c::cs,d,h,_=>by have:=h.1;simp at this
 |a::as,b,[],d,h,_=>by have:=h.1;simp at this
 |a::as,b,c::cs,d,h,h2=>by
  have h1:VR ι I w a c:=h.2 0 a c rfl rfl
  have h3:LR ι I w as cs:=⟨by have:=h.1;simpa using this,fun i v c e1 e2=>h.2 (i+1) v c (by simpa using e1) (by simpa using e2)⟩
  exact LR.cons h1 (LR.app h3 h2)
theorem WA {n:Nat} {G:Nat->TypeId->List AV->Prop} {ι:aG} {I:aQ}: ∀(fs:List Field) (o e:Nat) (cs:List Value),oI P o fs=some e->cs.length+o=e->
 (∀f∈fs,∀l,l=((cs.drop (f.offset-o)).take (P.cellsOf f.type))->f.offset+P.cellsOf f.type<=e-> ∃as,G n f.type as/\LR ι I w as l/\ ∀v∈as,v.one=true)->
 ∃as,LR ι I w as cs/\(∀v∈as,v.one=true)/\ ∀f∈fs,o<=f.offset/\G n f.type ((as.drop (f.offset-o)).take (P.cellsOf f.type))
 |[],o,e,cs,hc,hl,_=>by
  simp[oI] at hc
  subst hc
  have:cs=[]:=List.length_eq_zero_iff.1 (by omega)
  subst this
  exact⟨[],LR.nil,by simp,by simp⟩
 |f::fs,o,e,cs,hc,hl,hf=>by
  simp only[oI] at hc
  split at hc
  ·rename_i h1
   obtain⟨h1,_⟩:=h1
   have hle: ∀(fs:List Field) (o e:Nat),oI P o fs=some e->o<=e:=by
    intro fs
    induction fs with
    |nil=>intro o e h;simp[oI] at h;omega
    |cons g gs ih=>intro o e h;simp only[oI] at h;split at h;exact Nat.le_trans (Nat.le_add_right _ _) (ih _ _ h);cases h
   have h2:=hle _ _ _ hc
   obtain⟨a,su,tW,Vl⟩:=hf f (by simp) _ rfl (by omega)
   have hlen:a.length=P.cellsOf f.type:=by rw[tW.1,List.length_take,List.length_drop];omega
   obtain⟨b,eo,ch,Vg⟩:=WA fs (o+P.cellsOf f.type) e (cs.drop (P.cellsOf f.type)) hc (by simp;omega) (fun g hg l hl rL=>by
    have AM: ∀(fs:List Field) (o e:Nat),oI P o fs=some e-> ∀g∈fs,o<=g.offset:=by
     intro fs
     induction fs with
     |nil=>intro o e h g hg;simp at hg
     |cons q qs ih=>
      intro o e h g hg
      simp only[oI] at h
      split at h
      ·rename_i hq
       rcases List.mem_cons.1 hg with rfl|hg
       ·omega
       ·have:=ih _ _ h g hg;omega
      ·cases h
    have:=AM _ _ _ hc g hg
    refine hf g (List.mem_cons_of_mem _ hg) l ?_ rL
    rw[hl,List.drop_drop]
    congr 2
    omega)
   refine⟨a++b,?_,?_,?_⟩
   ·have:=LR.app tW eo
    rw[h1,Nat.sub_self,List.drop_zero,List.take_append_drop] at this
    exact this
   ·intro v hv
    rcases List.mem_append.1 hv with hv|hv
    ·exact Vl v hv
    ·exact ch v hv
   ·intro g hg
    rcases List.mem_cons.1 hg with rfl|hg
    ·refine⟨by omega,?_⟩
     rw[h1,Nat.sub_self,List.drop_zero,List.take_append_of_le_length (by omega),List.take_of_length_le (by omega)]
     exact su
    ·obtain⟨h3,h4⟩:=Vg g hg
     refine⟨by omega,?_⟩
     have:g.offset-o=a.length+(g.offset-(o+P.cellsOf f.type)):=by omega
     rw[this,List.drop_append,List.drop_eq_nil_of_le (by omega),Nat.add_sub_cancel_left,List.nil_append]
     exact h4
  ·cases hc
theorem ai0 {b off:Nat} {v:Value} (h:w.cell? ⟨b,off,none⟩=some v):u9 w b off:=by
 apply Classical.byContradiction
 intro hn
 have:w.heap[b]? =none:=by
  have jd: ¬b<w.heap.size:=hn
  simp;omega
 simp[World.cell?,this] at h
theorem WU {G:List AV->Prop} {ι:aG} {I:aQ} {s:Nat}: ∀(n:Nat) (cs:List Value),cs.length=n*s->
 (∀i,i<n-> ∃as,G as/\LR ι I w as ((cs.drop (i*s)).take s)/\ ∀v∈as,v.one=true)->
 ∃as,LR ι I w as cs/\(∀v∈as,v.one=true)/\ ∀i,i<n->G ((as.drop (i*s)).take s)
 |0,cs,hl,_=>by
  have:cs=[]:=List.length_eq_zero_iff.1 (by simpa using hl)
  subst this
  exact⟨[],LR.nil,by simp,by omega⟩
 |n+1,cs,hl,hf=>by
  have hs:(n+1)*s=n*s+s:=Nat.succ_mul n s
  obtain⟨a,su,tW,Vl⟩:=hf 0 (by omega)
  have hlen:a.length=s:=by rw[tW.1,List.length_take,List.length_drop];omega
  obtain⟨b,eo,ch,Vg⟩:=WU (G:=G) (s:=s) n (cs.drop s) (by rw[List.length_drop];omega) (fun i hi=>by
   obtain⟨x,h1,h2,h3⟩:=hf (i+1) (by omega)
   refine⟨x,h1,?_,h3⟩
   rw[List.drop_drop]
   rw[Nat.succ_mul,Nat.add_comm] at h2
   exact h2)
  refine⟨a++b,?_,?_,?_⟩
  ·have:=LR.app tW eo
   rw[Nat.zero_mul,List.drop_zero,List.take_append_drop] at this
   exact this
  ·intro v hv
   rcases List.mem_append.1 hv with hv|hv
   ·exact Vl v hv
   ·exact ch v hv
  ·intro i hi
   cases i with
   |zero=>
    rw[Nat.zero_mul,List.drop_zero,List.take_append_of_le_length (by omega),List.take_of_length_le (by omega)]
    exact su
   |succ i=>
    have:(i+1)*s=a.length+i*s:=by rw[Nat.succ_mul];omega
    rw[this,List.drop_append,List.drop_eq_nil_of_le (by omega),Nat.add_sub_cancel_left,List.nil_append]
    exact Vg i (by omega)
theorem ai8 (hl:JD P=true): ∀{fuel:Nat} {t:TypeId} {cs:List Value} {x:DataW H×List MemPlace},t<P.types.size->DataW.trod enc P w 0 sp held fuel t cs=some x->
 ∃as,Hd P fuel t as/\LR (fun _=>none) (u9 w) w as cs/\ ∀v∈as,v.one=true:=by
 intro fuel
 induction fuel with
 |zero=>intro t cs x _ h;simp[DataW.trod] at h
 |succ n ih=>
  intro t cs x ht h
  have nx:=List.all_eq_true.1 hl t (List.mem_range.2 ht)
  unfold DataW.trod at h
  unfold Hd
  split at h
  ·rename_i b hu
   rw[hu];exact⟨[.bool b],⟨b,rfl⟩,rF (.bool b),by simp[AV.one]⟩
  ·rename_i k k' m hu
   rw[hu]
   split at h
   ·rename_i hc
    obtain⟨rfl,hc⟩:=hc
    exact⟨[.int k' m],⟨m,rfl,hc⟩,rF (.int k' m),by simp[AV.one]⟩
   ·cases h
  ·rename_i hu;rw[hu];exact⟨[.fw],rfl,rF (.fw _ rfl),by simp[AV.one]⟩
  ·rename_i s hu
   rw[hu]
   split at h
   ·rename_i hc
    exact⟨[.str s],⟨s,rfl,hc⟩,rF (.str s),by simp[AV.one]⟩
   ·cases h
  ·rename_i hu;rw[hu];exact⟨[.fw],rfl,rF (.fw _ rfl),by simp[AV.one]⟩
  ·rename_i hu;rw[hu];exact⟨[.fw],rfl,rF (.fw _ rfl),by simp[AV.one]⟩
  ·rename_i hu
   rw[hu]
   exact⟨[.vs [] .ao],⟨[],rfl,by simp,by simp⟩,rF (.gw _ (.inl rfl)),by simp[AV.one]⟩
  ·rename_i e a len cap hu
   rw[hu] at nx ⊢
   simp only[Bool.and_eq_true,decide_eq_true_eq] at nx
   obtain⟨UP,iC⟩:=nx
   split at h
   ·rename_i hc
    obtain⟨_,hlc,Kp⟩:=hc
    simp only[Option.bind_eq_some_iff] at h
    obtain⟨elems,Fl,_⟩:=h
    rcases Nat.eq_zero_or_pos len with h0|h0
    ·subst h0
     exact⟨[.vs [] .ao],⟨[],rfl,by simp,by simp⟩,rF (.gn _ _ _ (.inl rfl)),by simp[AV.one]⟩
    ·have key: ∀i,∃as:List AV,i<len->Hd P n e as/\as.length=P.cellsOf e/\(∀v∈as,v.one=true)/\
      ∀j,j<P.cellsOf e-> ∃u,w.cell? ((a.add (i*P.cellsOf e)).add j)=some u/\ ∀v,as[j]? =some v->VR (fun _=>none) (u9 w) w v u:=by
      intro i
      by_cases hi:i<len
      ·obtain⟨y,hy⟩:=Gu Fl i (List.mem_range.2 hi)
       obtain⟨csi,h1,h2⟩:=Option.bind_eq_some_iff.1 hy
       obtain⟨_,dp,iW⟩:=World.cells?_some h1
       obtain⟨as,h3,h4,h5⟩:=ih UP h2
       refine⟨as,fun _=>⟨h3,by rw[h4.1,dp],h5,fun j hj=>?_⟩⟩
       have dP:j<csi.length:=by omega
       refine⟨csi[j],by rw[iW j hj,List.getElem?_eq_getElem dP],fun v hv=>h4.2 j v _ hv (List.getElem?_eq_getElem dP)⟩
      ·exact⟨[],fun h=>absurd h hi⟩
     obtain⟨f,hf⟩:=Classical.skolem.1 key
     have acE:a.spot=none:=by
      obtain⟨_,_,_,h4⟩:=hf 0 h0
      obtain⟨u,iq,_⟩:=h4 0 iC
      have:=World.cell?_spot iq
      simpa [Addr.add] using this
     obtain⟨cb,o,spt⟩:=a
     simp only at acE
     subst acE
     have cE: ∀(i:Nat) (row:List AV),((List.range len).map f)[i]? =some row->i<len/\row=f i:=by
      intro i row hi
      have aD:i<len:=by have:=(List.getElem?_eq_some_iff.1 hi).1;simpa using this
      simp[List.getElem?_map,List.getElem?_range aD] at hi
      exact⟨aD,hi.symm⟩
     have bt: ∀i j,i<len->j<P.cellsOf e-> ∃u,w.cell? ⟨cb,o+i*P.cellsOf e+j,none⟩=some u/\ ∀v,(f i)[j]? =some v->VR (fun _=>none) (u9 w) w v u:=by
      intro i j hi hj
      obtain⟨_,_,_,h4⟩:=hf i hi
      have:=h4 j hj
      rw[Addr.add_mid,Addr.add_mid] at this
      exact this
     have hv:=VR.vs (ι:=fun _=>none) (I:=u9 w) (w:=w) ((List.range len).map f) .ao cb o (P.cellsOf e) cap (fun i j=>(w.cell? ⟨cb,o+i*P.cellsOf e+j,none⟩).getD undef)
      (fun i row hi=>by obtain⟨h1,rfl⟩:=cE i row hi;exact(hf i h1).2.1)
      (fun i j hi hj=>by obtain⟨u,hu,_⟩:=bt i j (by simpa using hi) hj;exact ai0 hu)
      (fun i j hi hj=>by obtain⟨u,hu,_⟩:=bt i j (by simpa using hi) hj;simp[hu])
      (fun i row j v hi hj=>by
        obtain⟨h1,rfl⟩:=cE i row hi
        have js:j<P.cellsOf e:=by rw[<-(hf i h1).2.1];exact(List.getElem?_eq_some_iff.1 hj).1
        obtain⟨u,hu,hv⟩:=bt i j h1 js
        simp only[hu,Option.getD_some]
        exact hv v hj)
      (fun row hr v hv=>by
        obtain⟨i,hi⟩:=List.mem_iff_getElem?.1 hr
        obtain⟨h1,rfl⟩:=cE i row hi
        exact(hf i h1).2.2.1 v hv)
      (by simpa using hlc) trivial
     have mE:((List.range len).map f).length=len:=by simp
     rw[mE] at hv
     refine⟨[.vs ((List.range len).map f) .ao],⟨_,rfl,by rw[mE];omega,fun row hr=>?_⟩,rF hv,by simp[AV.one]⟩
     obtain⟨i,hi⟩:=List.mem_iff_getElem?.1 hr
     obtain⟨h1,rfl⟩:=cE i row hi
     exact⟨(hf i h1).1,List.all_eq_true.2 (hf i h1).2.2.1⟩
   ·cases h
  ·rename_i cs _ _ fs hu
   rw[hu] at nx ⊢
   simp only[beq_iff_eq] at nx
   split at h
   ·rename_i hlen
    obtain⟨xs,UL,_⟩:=Option.map_eq_some_iff.1 h
    have avs: ∀(fs:List Field) (o e:Nat),oI P o fs=some e-> ∀g∈fs,g.type<P.types.size:=by
     intro fs
     induction fs with
     |nil=>intro o e h g hg;simp at hg
     |cons q qs ih=>
      intro o e h g hg
      simp only[oI] at h
      split at h
      ·rename_i hq
       rcases List.mem_cons.1 hg with rfl|hg
       ·exact hq.2
       ·exact ih _ _ h g hg
      ·cases h
    obtain⟨as,h1,h2,h3⟩:=WA (P:=P) (w:=w) (n:=n) (G:=fun f t as=>Hd P f t as) fs.toList 0 _ cs nx (by omega) (fun f hf l hl _=>by
     obtain⟨y,hy⟩:=Gu UL f hf
     rw[Nat.sub_zero] at hl
     rw[<-hl] at hy
     exact ih (avs _ _ _ nx f hf) hy)
    exact⟨as,⟨by rw[h1.1,hlen],fun f hf=>by have:=(h3 f hf).2;rwa [Nat.sub_zero] at this⟩,h1,h2⟩
   ·cases h
  ·rename_i cs _ _ m e hu
   rw[hu] at nx ⊢
   simp only[beq_iff_eq,Bool.and_eq_true,decide_eq_true_eq] at nx
   obtain⟨UP,nx⟩:=nx
   split at h
   ·rename_i hlen
    obtain⟨xs,UL,_⟩:=Option.map_eq_some_iff.1 h
    obtain⟨as,h1,h2,h3⟩:=WU (w:=w) (G:=Hd P n e) m cs (by rw[hlen,nx]) (fun i hi=>by
     obtain⟨y,hy⟩:=Gu UL i (List.mem_range.2 hi)
     exact ih UP hy)
    exact⟨as,⟨by rw[h1.1,hlen,nx],h3⟩,h1,h2⟩
   ·cases h
  all_goals first
   |(cases h;done)
   |(rename_i hu;rw[hu];exact⟨[.fw],rfl,rF (.fw _ rfl),by simp[AV.one]⟩)
   |skip
end
end
section
open Go Go.ChangeShapes Go.WideShapes Go.ChangeAt Go.RowKit
def v5 (P:Program) (t:TypeId) (a:AV):Prop:=
 ∃f,match P.underlying t with
 |some (.struct _)|some (.array _ _)=> ∃cs,a= .agg cs/\Hd P f t cs/\cs.all AV.one=true
 |_=>Hd P f t [a]
def Ta (P:Program):List TypeId->List AV->Prop
 |[],as=>as=[]
 |t::ts,as=> ∃a bs,as=a::bs/\v5 P t a/\Ta P ts bs
section
variable {P:Program} {H:Type} {enc:TypeId×Value->H} {w w':World}
theorem v5.als {t:TypeId} {d:TypeDesc} {a:AV} (hu:P.underlying t=some d) (hd:d.isRow=false) (h:v5 P t a): ∃f,Hd P f t [a]:=by
 obtain⟨f,h⟩:=h
 rw[hu] at h
 cases d<;>first|(simp[TypeDesc.isRow] at hd;done)|exact⟨f,h⟩
theorem aln (hl:JD P=true) {t:TypeId} {v:Value} {base:Nat} (ht:t<P.types.size) (ba:Value.okWide P w .any base t v) {sp:Nat->Bool} {held:Bool} {d:DataW H} {p:List MemPlace}
 (h:DataW.Trod enc P w 0 sp held t v d p): ∃a,v5 P t a/\VR (fun _=>none) (u9 w) w a v:=by
 obtain⟨n,hn⟩:=h
 obtain⟨as,h1,h2,h3⟩:=ai8 hl ht hn
 unfold v5
 unfold Value.okWide at ba
 split at ba
 ·rename_i hu
  obtain⟨cs,rfl,aO,_⟩:=ba
  refine⟨.agg as,⟨n,?_⟩,?_⟩
  ·rw[hu];exact⟨as,rfl,h1,List.all_eq_true.2 h3⟩
  ·have:(Value.agg cs).cells.toList=cs.toList:=rfl
   rw[this] at h2
   have:=VR.agg as cs.toList h2.1 h2.2
   simpa using this
 ·rename_i hu
  obtain⟨cs,rfl,aO,_⟩:=ba
  refine⟨.agg as,⟨n,?_⟩,?_⟩
  ·rw[hu];exact⟨as,rfl,h1,List.all_eq_true.2 h3⟩
  ·have:(Value.agg cs).cells.toList=cs.toList:=rfl
   rw[this] at h2
   have:=VR.agg as cs.toList h2.1 h2.2
   simpa using this
 ·rename_i hns iJ
  have hc:v.cells.toList=[v]:=by
   cases v<;>first|rfl|(unfold Cell.okWide Cell.ok at ba;split at ba<;>simp_all)
  rw[hc] at h2
  have hlen:=h2.1
  match as,hlen,h1,h2,h3 with
  |[a],_,h1,h2,h3=>
   refine⟨a,⟨n,?_⟩,h2.2 0 a v rfl rfl⟩
   split
   ·rename_i hu;exact(hns _ hu).elim
   ·rename_i hu;exact(iJ _ _ hu).elim
   ·exact h1
theorem Yf (hl:JD P=true) {base:Nat} {sp:Nat->Bool} {held:Bool}: ∀{ts:List TypeId} {vs:List Value} {ds:List (DataW H)} {p:List MemPlace},(∀t∈ts,t<P.types.size)->
 (∀(j:Nat) t v,ts[j]? =some t->vs[j]? =some v->Value.okWide P w .any base t v)->DataW.TrodAll enc P w 0 sp held ts vs ds p->
 ∃as,Ta P ts as/\LR (fun _=>none) (u9 w) w as vs
 |[],vs,ds,p,_,_,h=>by
  obtain⟨rfl,_,_⟩:=trodAll_nil h
  exact⟨[],rfl,LR.nil⟩
 |t::ts,vs,ds,p,ht,ba,h=>by
  obtain⟨v,vs',d,ds',p',q,rfl,rfl,rfl,h1,h2⟩:=trodAll_cons h
  obtain⟨a,su,tW⟩:=aln hl (ht t (by simp)) (ba 0 t v rfl rfl) h1
  obtain⟨as,eo,ch⟩:=Yf hl (fun x hx=>ht x (List.mem_cons_of_mem _ hx)) (fun j t v e1 e2=>ba (j+1) t v (by simpa using e1) (by simpa using e2)) h2
  exact⟨a::as,⟨a,as,rfl,su,eo⟩,LR.cons tW ch⟩
theorem Wb {base:Nat} {sp:Nat->Bool} {held:Bool}: ∀{ts:List TypeId} {vs:List Value} {ds:List (DataW H)} {ps:List MemPlace},DataW.TrodAll enc P w base sp held ts vs ds ps->vs.length=ts.length/\ds.length=ts.length
 |[],_,_,_,h=>by
  obtain⟨rfl,rfl,_⟩:=trodAll_nil h
  exact⟨rfl,rfl⟩
 |_::_,_,_,_,h=>by
  obtain⟨v,vs1,d,ds1,a,b,rfl,rfl,rfl,_,h2⟩:=trodAll_cons h
  have:=Wb h2
  simp[this.1,this.2]
theorem Kept.same (h:Kept w w') {p:MemPlace} (hp:p.block<w.heap.size):w.sameAt w' p:=by
 cases p with
 |cell b off=>
  have:=h.2.2.2 b hp
  simp only[World.sameAt,World.cell?,this]
 |map b=>exact h.2.2.2 b hp
theorem VK (hl:laidOutB P=true) {sp:Nat->Bool} (hk:Kept w w'): ∀{ts:List TypeId} {vs:List Value} {ds:List (DataW H)} {p:List MemPlace},
 (∀t∈ts,P.readableRec t=true/\t<P.types.size)->(∀x∈p,x.block<w.heap.size)->(∀x∈p,sp x.block=true)->
 DataW.TrodAll enc P w 0 (fun _=>true) true ts vs ds p->DataW.TrodAll enc P w' 0 sp true ts vs ds p
 |[],vs,ds,p,_,_,_,h=>by
  obtain⟨rfl,rfl,rfl⟩:=trodAll_nil h
  exact trodAll_mk0
 |t::ts,vs,ds,p,ht,aD,vG,h=>by
  obtain⟨v,vs',d,ds',p',q,rfl,rfl,rfl,h1,h2⟩:=trodAll_cons h
  refine⟨p',q,?_,?_,rfl⟩
  ·exact WideElems.Trod_stays hl (ht t (by simp)).1 (ht t (by simp)).2 h1 (fun x hx=>hk.same (aD x (by simp[hx]))) (fun x hx=>vG x (by simp[hx]))
  ·exact VK hl hk (fun x hx=>ht x (List.mem_cons_of_mem _ hx)) (fun x hx=>aD x (by simp[hx])) (fun x hx=>vG x (by simp[hx])) h2
end
section
variable {C:Checked} {os:Os} {f:FuncId} {fn:Func} {s:ChangeSpec} {conds:List PathCond} {H:Type} {enc:TypeId×Value->H}
theorem awW (own:ownKnob C.prog.godebug=none) (started:os.Started) (anI:C.prog.inits.idxOf? f=none) (iV:C.prog.funcs[f]? =some fn)
 (witness: ∃(w:World) (tape:Tape) (i:Input),w.os=os/\(w.forCall tape i).Shaped C.prog/\i.vars=[]/\Input.okWide C.prog (w.forCall tape i) .any w.heap.size f i/\
   s.pre6 enc C.prog fn conds false (w.forCall tape i).memory i.args/\({}:Assume).holds C.prog (lone (Frame.enter C.prog f i.args .normal) [] (w.forCall tape i)))
 (ej:laidOutB C.prog=true) (eV:JD C.prog=true) (CV:s.vars=[])
 (asK: ∀ds:List (DataW H),ds.length=fn.params.size->s.fn H ds={results:=[.lit (.bool true)],args:=ds})
 {tb:TypeId} (Ek:fn.resultTypes= #[tb]) (hb:C.prog.underlying tb=some .bool)
 (avB:(fn.params.toList.all fun t=>C.prog.readableRec t&&decide (t<C.prog.types.size))=true)
 (w7: ∀as,Ta C.prog fn.params.toList as-> ∃h',an C.prog f as aa.empty (.bool true) h'):
 ReturnsInHanded {} C os f .any (s.pre6 enc C.prog fn conds false) (s.post enc C.prog fn false true false false):=by
 have acF: ∀t∈fn.params.toList,C.prog.readableRec t=true/\t<C.prog.types.size:=fun t ht=>by
  have:=List.all_eq_true.1 avB t ht
  simpa using this
 refine returnsInHanded_of_change (C:=C) own started anI iV witness ?_
 intro W base args ds gs before rJ hW axm _
 have kV:=hW
 obtain⟨p,q,hA,hV,rfl,pq,hnd⟩:=hW
 rw[CV] at hV
 obtain⟨rfl,rfl⟩:=trodVars_none hV
 simp only[List.append_nil] at kV
 have aD: ∀x∈p,x.block<W.heap.size:=fun x hx=>kV.lt x hx
 obtain⟨as,h1,h2⟩:=Yf eV (fun t ht=>(acF t ht).2) (fun j t v e1 e2=>rJ j t v (by simpa using e1) (by simpa using e2)) hA
 obtain⟨h',hc⟩:=w7 as h1
 have hlen:=(Wb hA).2
 have vG:s.fn H (ds++[])={results:=[.lit (.bool true)],args:=ds}:=by
  rw[List.append_nil];exact asK ds (by simpa using hlen)
 refine(ajE hc (I:=u9 W) (fun k j h=>h) h2).mono fun e W' ⟨he,hk⟩=>?_
 subst he
 refine⟨_,rfl,ahR (pa:=p) (pv:=[]) kV ?_ ?_ ?_ (by simp) hk ?_⟩
 ·intro b sp hd
  rw[vG,Ek]
  exact trodAll_mk1 (trod_bool hb true)
 ·intro sp hs
  rw[vG]
  exact VK ej hk acF aD hs hA
 ·intro sp hs
  rw[CV]
  rw[vG]
  exact rfl
 ·exact ok_one Ek rfl (okWide_bool hb true)
end
end
section
open Go
section
variable {P:Program} {K:aP->Env->aa->Prop} {ρ:Env} {h:aa}
theorem LI {K K':Env->aa->Prop} (hk: ∀ρ h,K ρ h->K' ρ h): ∀{al:List RO} {ρ:Env} {h:aa},exec P al ρ h K->exec P al ρ h K'
 |[],ρ,h,he=>hk _ _ he
 |o::os,ρ,h,⟨r,h',hs,he⟩=>⟨r,h',hs,LI hk he⟩
theorem Zt:WP P .skip K ρ h↔K .normal ρ h:=⟨fun⟨_,_,_,hb,hk⟩=>by cases hb;exact hk,XU⟩
theorem ame {l:Nat}:WP P (.label l) K ρ h↔K .normal ρ h:=⟨fun⟨_,_,_,hb,hk⟩=>by cases hb;exact hk,Xh⟩
theorem ann {i:Nat}:WP P (.exit i) K ρ h↔K (.exit i) ρ h:=⟨fun⟨_,_,_,hb,hk⟩=>by cases hb;exact hk,ak1⟩
theorem anm {i:Nat}:WP P (.goto i) K ρ h↔K (.goto i) ρ h:=⟨fun⟨_,_,_,hb,hk⟩=>by cases hb;exact hk,ak0⟩
theorem aqX:WP P .ret K ρ h↔K .ret ρ h:=⟨fun⟨_,_,_,hb,hk⟩=>by cases hb;exact hk,amg⟩
theorem uE {al:List RO}:WP P (.af al) K ρ h↔exec P al ρ h (K .normal):=
 ⟨fun⟨_,_,_,hb,hk⟩=>by cases hb;rename_i he;exact LI (fun ρ h ⟨e1,e2⟩=>by subst e1;subst e2;exact hk) he,ans⟩
theorem sV {a b:aW}:WP P (.seq a b) K ρ h↔WP P a (jl (WP P b K) K) ρ h:=by
 constructor
 ·rintro⟨e,ρ',h',hb,hk⟩
  cases hb with
  |seq b1 b2=>exact⟨_,_,_,b1,_,_,_,b2,hk⟩
  |ve b1 he=>
   refine⟨_,_,_,b1,?_⟩
   cases e with
   |normal=>exact absurd rfl he
   |_=>exact hk
 ·exact GB
def C4 (v:AV) (A B:Prop):Prop:=match v with
 | .bool c=>if c=true then A else B
 |_=>False
theorem ano {c:aq} {x y:aW}:WP P (.cond c x y) K ρ h↔C4 (c.ev ρ) (WP P x K ρ h) (WP P y K ρ h):=by
 constructor
 ·rintro⟨e,ρ',h',hb,hk⟩
  cases hb with
  |cond t hc b1=>
   rw[hc]
   cases t
   ·exact⟨_,_,_,b1,hk⟩
   ·exact⟨_,_,_,b1,hk⟩
 ·intro hc
  unfold C4 at hc
  split at hc
  ·rename_i t ht
   refine ak2 ht ?_
   cases t<;>simpa using hc
  ·exact hc.elim
theorem amf {id:Nat} {c:aW}:WP P (.block id c) K ρ h↔WP P c (lu id K) ρ h:=by
 constructor
 ·rintro⟨e,ρ',h',hb,hk⟩
  cases hb with
  |block b1=>
   rename_i e1
   refine⟨_,_,_,b1,?_⟩
   cases e1 with
   |exit i=>
    simp only[lu]
    by_cases hi:i=id
    ·subst hi;simpa using hk
    ·have: ¬(aP.exit i=aP.exit id):=fun h=>hi (aP.exit.inj h)
     rw[if_neg this] at hk
     rw[if_neg hi];exact hk
   |normal=>simpa [lu] using hk
   |goto l=>simpa [lu] using hk
   |ret=>simpa [lu] using hk
 ·exact ajW
section
variable {K:Env->aa->Prop}
theorem ahM {d:Option Nat} {f:Nat} {as:List aq} {os:List RO}:exec P (⟨d,none, .call f as⟩::os) ρ h K↔ ∃v h',an P f (as.map (aq.ev ρ)) h v h'/\exec P os (put ρ d v) h' K:=by
 constructor
 ·rintro⟨r,h',hs,hk⟩
  simp only[bz,b8,gE] at hs
  obtain⟨v,rfl,hv⟩:=hs
  exact⟨v,h',hv,hk⟩
 ·rintro⟨v,h',hv,hk⟩
  exact akA hv hk
theorem ajw {d:Option Nat} {g:Nat} {b:Bool} {op:b7} {os:List RO}:exec P (⟨d,some (g,b),op⟩::os) ρ h K↔gK (ρ g) b (exec P (⟨d,none,op⟩::os) ρ h K) (exec P os (put ρ d (.ay [])) h K):=by
 unfold gK
 split
 ·rename_i c hc
  by_cases du:c=b
  ·subst du
   simp only[if_true]
   constructor
   ·rintro⟨r,h',hs,hk⟩
    simp only[bz,b8,hc,beq_self_eq_true] at hs
    exact⟨r,h',hs,hk⟩
   ·rintro⟨r,h',hs,hk⟩
    refine⟨r,h',?_,hk⟩
    simp only[bz,b8,hc,beq_self_eq_true]
    exact hs
  ·have te:(c==b)=false:=by simpa using du
   rw[if_neg du]
   constructor
   ·rintro⟨r,h',hs,hk⟩
    simp only[bz,b8,hc,te] at hs
    obtain⟨rfl,rfl⟩:=hs
    exact hk
   ·intro hk
    refine⟨none,h,?_,hk⟩
    simp only[bz,b8,hc,te]
    trivial
 ·rename_i hc
  constructor
  ·rintro⟨r,h',hs,hk⟩
   simp only[bz,b8,hc] at hs
   obtain⟨rfl,rfl⟩:=hs
   exact hk
  ·intro hk
   refine⟨none,h,?_,hk⟩
   simp only[bz,b8,hc]
   trivial
 ·rename_i h1 h2
  constructor
  ·rintro⟨r,h',hs,hk⟩
   unfold bz at hs
   have:b8 ⟨d,some (g,b),op⟩ ρ=none:=by
    unfold b8
    simp only[]
   rw[this] at hs
   exact hs
  ·exact fun h=>h.elim
end
end
section
variable {P:Program} {ρ:Env} {h:aa} {K:Env->aa->Prop} {d:Option Nat} {os:List RO}
def Iq (P:Program) (d:Option Nat) (os:List RO) (ρ:Env) (h:aa) (K:Env->aa->Prop) (o:Option AV):Prop:= ∃v,o=some v/\exec P os (put ρ d v) h K
def PU (P:Program) (d:Option Nat) (os:List RO) (ρ:Env) (h:aa) (K:Env->aa->Prop) (o:Option (cI×AV)):Prop:= ∃b v,o=some (b,v)/\exec P os (put ρ d v) (h.at h.next b) K
def PT (P:Program) (d:Option Nat) (os:List RO) (ρ:Env) (K:Env->aa->Prop) (o:Option (AV×aa)):Prop:= ∃v h',o=some (v,h')/\exec P os (put ρ d v) h' K
def acT (P:Program) (d:Option Nat) (os:List RO) (ρ:Env) (h:aa) (K:Env->aa->Prop) (f:Nat) (as:List AV):Prop:= ∃v h',an P f as h v h'/\exec P os (put ρ d v) h' K
def lD (P:Program) (d:Option Nat) (op:b7) (os:List RO) (ρ:Env) (h:aa) (K:Env->aa->Prop) (b:Bool) (v:AV):Prop:=gK v b (exec P (⟨d,none,op⟩::os) ρ h K) (exec P os (put ρ d (.ay [])) h K)
def yx (P:Program) (x y:aW) (K:aP->Env->aa->Prop) (ρ:Env) (h:aa) (v:AV):Prop:=C4 v (WP P x K ρ h) (WP P y K ρ h)
theorem ajx {v:AV}:Iq P d os ρ h K (some v)↔exec P os (put ρ d v) h K:=by simp[Iq]
theorem ajz {b:cI} {v:AV}:PU P d os ρ h K (some (b,v))↔exec P os (put ρ d v) (h.at h.next b) K:=
 ⟨fun⟨_,_,e,h⟩=>by cases e;exact h,fun h=>⟨_,_,rfl,h⟩⟩
theorem ajy {v:AV} {h':aa}:PT P d os ρ K (some (v,h'))↔exec P os (put ρ d v) h' K:=
 ⟨fun⟨_,_,e,h⟩=>by cases e;exact h,fun h=>⟨_,_,rfl,h⟩⟩
theorem au {f:Nat} {as:List AV} {v:AV} {h':aa} (hc:an P f as h v h') (hk:exec P os (put ρ d v) h' K):acT P d os ρ h K f as:=⟨v,h',hc,hk⟩
theorem alN {op:b7}:lD P d op os ρ h K true (.bool true)↔exec P (⟨d,none,op⟩::os) ρ h K:=by simp[lD,gK]
theorem alQ {op:b7}:lD P d op os ρ h K false (.bool false)↔exec P (⟨d,none,op⟩::os) ρ h K:=by simp[lD,gK]
theorem alO {op:b7}:lD P d op os ρ h K true (.bool false)↔exec P os (put ρ d (.ay [])) h K:=by simp[lD,gK]
theorem alP {op:b7}:lD P d op os ρ h K false (.bool true)↔exec P os (put ρ d (.ay [])) h K:=by simp[lD,gK]
theorem akB {op:b7} {b:Bool}:lD P d op os ρ h K b (.ay [])↔exec P os (put ρ d (.ay [])) h K:=Iff.rfl
variable {K:aP->Env->aa->Prop} {x y:aW}
theorem auM:yx P x y K ρ h (.bool true)↔WP P x K ρ h:=by simp[yx,C4]
theorem auN:yx P x y K ρ h (.bool false)↔WP P y K ρ h:=by simp[yx,C4]
end
def bV (P:Program) (n base:Nat):List RO->Nat->Env->aa->(Env->aa->Prop)->Prop
 |[],_,ρ,h,K=>K ρ h
 |o::os,i,ρ,h,K=> ∃r h',bz P o (base+i) ρ h r h'/\(o.op.cA=true-> ∀j,i<j->j<n->h'.get (base+j)=none)/\bV P n base os (i+1) (put ρ o.dst (gf r)) h' K
theorem XK {P:Program} {al:List RO} {un:List (List Nat)} {base:Nat} {K:Env->aa->Prop} (hu:un.all (·.isEmpty)=true): ∀(os:List RO) (i:Nat) (ρ:Env) (h:aa) (done:List (Env×aa×Option AV)),
 bV P al.length base os i ρ h K->mn P al un base os i ρ h done K
 |[],i,ρ,h,done,he=>he
 |o::os,i,ρ,h,done,⟨r,h',hs,hf,he⟩=>by
  refine⟨r,h',hs,fun k hk=>?_,hf,XK hu os (i+1) _ h' _ he⟩
  have:un.getD i []=[]:=by
   rw[List.getD_eq_getElem?_getD]
   cases hq:un[i]? with
   |none=>rfl
   |some l=>
    have:=List.all_eq_true.1 hu l (List.mem_of_getElem? hq)
    cases l with
    |nil=>rfl
    |cons a b=>simp at this
  rw[this] at hk
  cases hk
theorem GA {P:Program} {al:List RO} {un:List (List Nat)} {K:aP->Env->aa->Prop} {ρ:Env} {h:aa} (hu:un.all (·.isEmpty)=true) (he:bV P al.length h.next al 0 ρ (h.clean al.length) (K .normal)):WP P (.aY al un) K ρ h:=by
 obtain⟨ρ1,h1,he,hk⟩:=Bo (XK hu al 0 ρ _ [] he)
 exact⟨_,_,_, .Eb he,hk⟩
section
variable {P:Program} {n base i:Nat} {ρ:Env} {h:aa} {K:Env->aa->Prop} {d:Option Nat} {os:List RO}
def Fw (P:Program) (n base:Nat) (os:List RO) (i:Nat) (d:Option Nat) (ρ:Env) (h:aa) (K:Env->aa->Prop) (o:Option AV):Prop:= ∃v,o=some v/\bV P n base os (i+1) (put ρ d v) h K
def KQ (P:Program) (n base:Nat) (os:List RO) (i:Nat) (d:Option Nat) (ρ:Env) (h:aa) (K:Env->aa->Prop) (o:Option (cI×AV)):Prop:= ∃b v,o=some (b,v)/\bV P n base os (i+1) (put ρ d v) (h.at (base+i) b) K
def dL (n base i:Nat) (h:aa):Prop:= ∀j,i<j->j<n->h.get (base+j)=none
def KP (P:Program) (n base:Nat) (os:List RO) (i:Nat) (d:Option Nat) (ρ:Env) (K:Env->aa->Prop) (o:Option (AV×aa)):Prop:= ∃v h',o=some (v,h')/\dL n base i h'/\bV P n base os (i+1) (put ρ d v) h' K
def Vy (P:Program) (n base:Nat) (os:List RO) (i:Nat) (d:Option Nat) (ρ:Env) (h:aa) (K:Env->aa->Prop) (f:Nat) (as:List AV):Prop:= ∃v h',an P f as h v h'/\dL n base i h'/\bV P n base os (i+1) (put ρ d v) h' K
def ju (P:Program) (n base:Nat) (op:b7) (os:List RO) (i:Nat) (d:Option Nat) (ρ:Env) (h:aa) (K:Env->aa->Prop) (b:Bool) (v:AV):Prop:=
 gK v b (bV P n base (⟨d,none,op⟩::os) i ρ h K) (dL n base i h/\bV P n base os (i+1) (put ρ d (.ay [])) h K)
theorem av0 {q:bc}:bV P n base (⟨d,none, .p q⟩::os) i ρ h K↔Fw P n base os i d ρ h K (aX q ρ h):=by
 constructor
 ·rintro⟨r,h',hs,_,he⟩
  simp only[bz,b8,gE] at hs
  obtain⟨v,rfl,hv,rfl⟩:=hs
  exact⟨v,hv,he⟩
 ·rintro⟨v,hv,he⟩
  exact⟨some v,h,⟨v,rfl,hv,rfl⟩,fun hh=>by simp[b7.cA] at hh,he⟩
theorem av5 {q:jN}:bV P n base (⟨d,none, .a q⟩::os) i ρ h K↔KQ P n base os i d ρ h K (gV q ρ (base+i)):=by
 constructor
 ·rintro⟨r,h',hs,_,he⟩
  simp only[bz,b8,gE] at hs
  obtain⟨v,rfl,b,hv,rfl⟩:=hs
  exact⟨b,v,hv,he⟩
 ·rintro⟨b,v,hv,he⟩
  exact⟨some v,_,⟨v,rfl,b,hv,rfl⟩,fun hh=>by simp[b7.cA] at hh,he⟩
theorem av3 {q:gu}:bV P n base (⟨d,none, .e q⟩::os) i ρ h K↔KP P n base os i d ρ K (bR q ρ (base+i) h):=by
 constructor
 ·rintro⟨r,h',hs,hf,he⟩
  simp only[bz,b8,gE] at hs
  obtain⟨v,rfl,hv⟩:=hs
  exact⟨v,h',hv,hf rfl,he⟩
 ·rintro⟨v,h',hv,hf,he⟩
  exact⟨some v,h',⟨v,rfl,hv⟩,fun _=>hf,he⟩
theorem av4 {f:Nat} {as:List aq}:bV P n base (⟨d,none, .call f as⟩::os) i ρ h K↔Vy P n base os i d ρ h K f (as.map (aq.ev ρ)):=by
 constructor
 ·rintro⟨r,h',hs,hf,he⟩
  simp only[bz,b8,gE] at hs
  obtain⟨v,rfl,hv⟩:=hs
  exact⟨v,h',hv,hf rfl,he⟩
 ·rintro⟨v,h',hv,hf,he⟩
  exact⟨some v,h',⟨v,rfl,hv⟩,fun _=>hf,he⟩
theorem av2 {g:Nat} {b:Bool} {op:b7} (he:ju P n base op os i d ρ h K b (ρ g)):bV P n base (⟨d,some (g,b),op⟩::os) i ρ h K:=by
 unfold ju gK at he
 split at he
 ·rename_i c hc
  by_cases du:c=b
  ·subst du
   rw[if_pos rfl] at he
   obtain⟨r,h',hs,hf,he⟩:=he
   refine⟨r,h',?_,hf,he⟩
   simp only[bz,b8,hc,beq_self_eq_true]
   exact hs
  ·have te:(c==b)=false:=by simpa using du
   rw[if_neg du] at he
   refine⟨none,h,?_,fun _=>he.1,he.2⟩
   simp only[bz,b8,hc,te]
   trivial
 ·rename_i hc
  refine⟨none,h,?_,fun _=>he.1,he.2⟩
  simp only[bz,b8,hc]
  trivial
 ·exact he.elim
theorem as3 {g:Nat} {b:Bool} {q:bc}:bV P n base (⟨d,some (g,b), .p q⟩::os) i ρ h K↔gK (ρ g) b (bV P n base (⟨d,none, .p q⟩::os) i ρ h K) (bV P n base os (i+1) (put ρ d (.ay [])) h K):=by
 unfold gK
 split
 ·rename_i c hc
  by_cases du:c=b
  ·subst du
   rw[if_pos rfl]
   constructor
   ·rintro⟨r,h',hs,hf,he⟩
    simp only[bz,b8,hc,beq_self_eq_true] at hs
    exact⟨r,h',hs,hf,he⟩
   ·rintro⟨r,h',hs,hf,he⟩
    refine⟨r,h',?_,hf,he⟩
    simp only[bz,b8,hc,beq_self_eq_true]
    exact hs
  ·have te:(c==b)=false:=by simpa using du
   rw[if_neg du]
   constructor
   ·rintro⟨r,h',hs,hf,he⟩
    simp only[bz,b8,hc,te] at hs
    obtain⟨rfl,rfl⟩:=hs
    exact he
   ·intro he
    refine⟨none,h,?_,fun hh=>by simp[b7.cA] at hh,he⟩
    simp only[bz,b8,hc,te]
    trivial
 ·rename_i hc
  constructor
  ·rintro⟨r,h',hs,hf,he⟩
   simp only[bz,b8,hc] at hs
   obtain⟨rfl,rfl⟩:=hs
   exact he
  ·intro he
   refine⟨none,h,?_,fun hh=>by simp[b7.cA] at hh,he⟩
   simp only[bz,b8,hc]
   trivial
 ·constructor
  ·rintro⟨r,h',hs,hf,he⟩
   unfold bz at hs
   have:b8 ⟨d,some (g,b), .p q⟩ ρ=none:=by unfold b8;simp only[]
   rw[this] at hs
   exact hs
  ·exact fun h=>h.elim
theorem as4 {g:Nat} {b:Bool} {f:Nat} {as:List aq}:bV P n base (⟨d,some (g,b), .call f as⟩::os) i ρ h K↔ju P n base (.call f as) os i d ρ h K b (ρ g):=by
 refine⟨?_,av2⟩
 rintro⟨r,h',hs,hf,he⟩
 unfold ju gK
 split
 ·rename_i c hc
  by_cases du:c=b
  ·subst du
   rw[if_pos rfl]
   simp only[bz,b8,hc,beq_self_eq_true] at hs
   exact⟨r,h',hs,hf,he⟩
  ·have te:(c==b)=false:=by simpa using du
   rw[if_neg du]
   simp only[bz,b8,hc,te] at hs
   obtain⟨rfl,rfl⟩:=hs
   exact⟨hf rfl,he⟩
 ·rename_i hc
  simp only[bz,b8,hc] at hs
  obtain⟨rfl,rfl⟩:=hs
  exact⟨hf rfl,he⟩
 ·unfold bz at hs
  have:b8 ⟨d,some (g,b), .call f as⟩ ρ=none:=by unfold b8;simp only[]
  rw[this] at hs
  exact hs.elim
theorem apc {op:b7}:ju P n base op os i d ρ h K true (.bool true)↔bV P n base (⟨d,none,op⟩::os) i ρ h K:=by simp[ju,gK]
theorem apf {op:b7}:ju P n base op os i d ρ h K false (.bool false)↔bV P n base (⟨d,none,op⟩::os) i ρ h K:=by simp[ju,gK]
theorem apd {op:b7}:ju P n base op os i d ρ h K true (.bool false)↔dL n base i h/\bV P n base os (i+1) (put ρ d (.ay [])) h K:=by simp[ju,gK]
theorem ape {op:b7}:ju P n base op os i d ρ h K false (.bool true)↔dL n base i h/\bV P n base os (i+1) (put ρ d (.ay [])) h K:=by simp[ju,gK]
theorem amO {op:b7} {b:Bool}:ju P n base op os i d ρ h K b (.ay [])↔dL n base i h/\bV P n base os (i+1) (put ρ d (.ay [])) h K:=Iff.rfl
def kW (P:Program) (n base:Nat) (q:bc) (os:List RO) (i:Nat) (d:Option Nat) (ρ:Env) (h:aa) (K:Env->aa->Prop) (b:Bool) (v:AV):Prop:=
 gK v b (bV P n base (⟨d,none, .p q⟩::os) i ρ h K) (bV P n base os (i+1) (put ρ d (.ay [])) h K)
theorem av1 {g:Nat} {b:Bool} {q:bc}:bV P n base (⟨d,some (g,b), .p q⟩::os) i ρ h K↔kW P n base q os i d ρ h K b (ρ g):=as3
theorem ao8 {q:bc}:kW P n base q os i d ρ h K true (.bool true)↔bV P n base (⟨d,none, .p q⟩::os) i ρ h K:=by simp[kW,gK]
theorem apb {q:bc}:kW P n base q os i d ρ h K false (.bool false)↔bV P n base (⟨d,none, .p q⟩::os) i ρ h K:=by simp[kW,gK]
theorem ao9 {q:bc}:kW P n base q os i d ρ h K true (.bool false)↔bV P n base os (i+1) (put ρ d (.ay [])) h K:=by simp[kW,gK]
theorem apa {q:bc}:kW P n base q os i d ρ h K false (.bool true)↔bV P n base os (i+1) (put ρ d (.ay [])) h K:=by simp[kW,gK]
theorem amN {q:bc} {b:Bool}:kW P n base q os i d ρ h K b (.ay [])↔bV P n base os (i+1) (put ρ d (.ay [])) h K:=Iff.rfl
theorem aiE {n m:Nat} {h:aa}:dL n h.next i (h.clean m)↔True:=by
 simp only[dL,iff_true,aa.clean]
 intro j _ _
 rw[if_neg (by omega)]
theorem jw {b:Nat} {x:Option cI} (hb:b<base):dL n base i (h.set b x)↔dL n base i h:=by
 simp only[dL,aa.set]
 exact⟨fun hh j h1 h2=>by have:=hh j h1 h2;rwa [if_neg (by omega)] at this,fun hh j h1 h2=>by rw[if_neg (by omega)];exact hh j h1 h2⟩
theorem alS {v:AV}:Fw P n base os i d ρ h K (some v)↔bV P n base os (i+1) (put ρ d v) h K:=by simp[Fw]
theorem alU {b:cI} {v:AV}:KQ P n base os i d ρ h K (some (b,v))↔bV P n base os (i+1) (put ρ d v) (h.at (base+i) b) K:=
 ⟨fun⟨_,_,e,h⟩=>by cases e;exact h,fun h=>⟨_,_,rfl,h⟩⟩
theorem alT {v:AV} {h':aa}:KP P n base os i d ρ K (some (v,h'))↔dL n base i h'/\bV P n base os (i+1) (put ρ d v) h' K:=
 ⟨fun⟨_,_,e,h⟩=>by cases e;exact h,fun h=>⟨_,_,rfl,h⟩⟩
theorem fj {f:Nat} {as:List AV} {v:AV} {h':aa} (hc:an P f as h v h') (hf:dL n base i h') (hk:bV P n base os (i+1) (put ρ d v) h' K):Vy P n base os i d ρ h K f as:=⟨v,h',hc,hf,hk⟩
end
def iz (un:List (List Nat)) (k:Nat):Bool:=!(un.getD k []).isEmpty||un.any (·.contains k)
def sZ (base:Nat):Option Nat->Prop
 |none=>True
 |some b=>b<base
def wD (base:Nat) (h h':aa):Prop:= ∀b,b<base->h'.get b=h.get b
def dY (P:Program) (un:List (List Nat)) (n base:Nat):List RO->Nat->Env->aa->(Env->aa->Prop)->Prop
 |[],_,ρ,h,K=>K ρ h
 |o::os,i,ρ,h,K=> ∃r h',bz P o (base+i) ρ h r h'/\(o.op.cA=true-> ∀j,i<j->j<n->h'.get (base+j)=none)/\wD base h h'/\
   (∀q,o.op= .p q->iz un i=true->sZ base (q.key ρ))/\dY P un n base os (i+1) (put ρ o.dst (gf r)) h' K
theorem XJ {P:Program} {al:List RO} {un:List (List Nat)} {base:Nat} {K:Env->aa->Prop}: ∀(os:List RO) (i:Nat) (ρ:Env) (h:aa) (done:List (Env×aa×Option AV)),
 done.length=i->al.drop i=os->
 (∀k d,done[k]? =some d->wD base d.2.1 h/\ ∀ok q v,al[k]? =some ok->ok.op= .p q->iz un k=true->d.2.2=some v->aX q d.1 d.2.1=some v/\sZ base (q.key d.1))->
 dY P un al.length base os i ρ h K->mn P al un base os i ρ h done K
 |[],i,ρ,h,done,_,_,_,he=>he
 |o::os,i,ρ,h,done,hl,hd,hinv,⟨r,h',hs,hf,hk,iQ,he⟩=>by
  have mF:al[i]? =some o:=by
   have:(al.drop i)[0]? =some o:=by rw[hd];rfl
   rw[List.getElem?_drop] at this
   simpa using this
  have bT: ∀k,k∈un.getD i []->iz un i=true/\iz un k=true:=fun k hk=>by
   constructor
   ·unfold iz
    cases hq:un.getD i [] with
    |nil=>rw[hq] at hk;cases hk
    |cons a b=>rfl
   ·unfold iz
    have:un.any (fun l=>l.contains k)=true:=by
     rw[List.any_eq_true]
     rw[List.getD_eq_getElem?_getD] at hk
     cases hq:un[i]? with
     |none=>rw[hq] at hk;cases hk
     |some l=>rw[hq] at hk;exact⟨l,List.mem_of_getElem? hq,by simpa using hk⟩
    rw[this,Bool.or_true]
  have rJ: ∀q v,o.op= .p q->r=some v->aX q ρ h=some v/\h'=h:=fun q v hq hr=>by
   unfold bz at hs
   split at hs
   ·obtain⟨v',h1,h2⟩:=hs
    rw[hr] at h1;cases h1
    rw[hq] at h2
    exact h2
   ·rw[hr] at hs;cases hs.1
   ·exact hs.elim
  refine⟨r,h',hs,fun k Ff ok d ba dt=>?_,hf,?_⟩
  ·obtain⟨f1,f2⟩:=bT k Ff
   obtain⟨hold,lL⟩:=hinv k d dt
   unfold l6
   split
   ·split
    ·rename_i v q hv hq
     obtain⟨h1,h2⟩:=lL ok q v ba hq f2 hv
     rw[<-h1]
     refine(uj q d.1 d.2.1 h' (fun b hb=>?_)).symm
     rw[hb] at h2
     rw[hk b h2,hold b h2]
    ·trivial
   ·split
    ·rename_i v q hq
     obtain⟨h1,rfl⟩:=rJ q v hq rfl
     have h2:=iQ q hq f1
     rw[<-h1]
     refine uj q ρ d.2.1 h' (fun b hb=>?_)
     rw[hb] at h2
     exact(hold b h2).symm
    ·trivial
  ·refine XJ os (i+1) _ h' _ (by simp[hl]) ?_ ?_ he
   ·rw[<-List.drop_drop,hd];rfl
   ·intro k d dt
    rw[List.getElem?_append] at dt
    split at dt
    ·obtain⟨g1,g2⟩:=hinv k d dt
     exact⟨fun b hb=>by rw[hk b hb,g1 b hb],g2⟩
    ·rename_i aD
     have nN:k=i:=by
      have:=(List.getElem?_eq_some_iff.1 dt).1
      simp at this;omega
     subst nN
     simp[hl] at dt
     subst dt
     refine⟨hk,fun ok q v ba hq bT hv=>?_⟩
     rw[mF] at ba;cases ba
     exact⟨(rJ q v hq hv).1,iQ q hq bT⟩
theorem ur {P:Program} {al:List RO} {un:List (List Nat)} {K:aP->Env->aa->Prop} {ρ:Env} {h:aa} (he:dY P un al.length h.next al 0 ρ (h.clean al.length) (K .normal)):WP P (.aY al un) K ρ h:=by
 obtain⟨ρ1,h1,he,hk⟩:=Bo (XJ al 0 ρ _ [] rfl rfl (fun k d hd=>by simp at hd) he)
 exact⟨_,_,_, .Eb he,hk⟩
section
variable {P:Program} {un:List (List Nat)} {n base i:Nat} {ρ:Env} {h:aa} {K:Env->aa->Prop} {d:Option Nat} {os:List RO}
def vT (P:Program) (un:List (List Nat)) (n base:Nat) (os:List RO) (i:Nat) (d:Option Nat) (ρ:Env) (h:aa) (K:Env->aa->Prop) (o:Option AV):Prop:= ∃v,o=some v/\dY P un n base os (i+1) (put ρ d v) h K
def Fx (P:Program) (un:List (List Nat)) (n base:Nat) (os:List RO) (i:Nat) (d:Option Nat) (ρ:Env) (h:aa) (K:Env->aa->Prop) (o:Option (cI×AV)):Prop:= ∃b v,o=some (b,v)/\dY P un n base os (i+1) (put ρ d v) (h.at (base+i) b) K
def KR (P:Program) (un:List (List Nat)) (n base:Nat) (os:List RO) (i:Nat) (d:Option Nat) (ρ:Env) (h:aa) (K:Env->aa->Prop) (o:Option (AV×aa)):Prop:= ∃v h',o=some (v,h')/\dL n base i h'/\wD base h h'/\dY P un n base os (i+1) (put ρ d v) h' K
def AX (P:Program) (un:List (List Nat)) (n base:Nat) (os:List RO) (i:Nat) (d:Option Nat) (ρ:Env) (h:aa) (K:Env->aa->Prop) (f:Nat) (as:List AV):Prop:= ∃v h',an P f as h v h'/\dL n base i h'/\wD base h h'/\dY P un n base os (i+1) (put ρ d v) h' K
theorem av8 {q:bc}:dY P un n base (⟨d,none, .p q⟩::os) i ρ h K↔(iz un i=true->sZ base (q.key ρ))/\vT P un n base os i d ρ h K (aX q ρ h):=by
 constructor
 ·rintro⟨r,h',hs,_,_,hk,he⟩
  simp only[bz,b8,gE] at hs
  obtain⟨v,rfl,hv,rfl⟩:=hs
  exact⟨hk q rfl,v,hv,he⟩
 ·rintro⟨hk,v,hv,he⟩
  exact⟨some v,h,⟨v,rfl,hv,rfl⟩,fun hh=>by simp[b7.cA] at hh,fun _ _=>rfl,(fun q' hq=>by cases hq;exact hk),he⟩
theorem awb {q:jN} (he:Fx P un n base os i d ρ h K (gV q ρ (base+i))):dY P un n base (⟨d,none, .a q⟩::os) i ρ h K:=by
 obtain⟨b,v,hv,he⟩:=he
 exact⟨some v,_,⟨v,rfl,b,hv,rfl⟩,fun hh=>by simp[b7.cA] at hh,fun b hb=>by simp only[aa.at];rw[if_neg (by omega)],(fun q' hq=>by cases hq),he⟩
theorem as5 {q:jN}:dY P un n base (⟨d,none, .a q⟩::os) i ρ h K↔Fx P un n base os i d ρ h K (gV q ρ (base+i)):=by
 refine⟨?_,awb⟩
 rintro⟨r,h',hs,_,_,hk,he⟩
 simp only[bz,b8,gE] at hs
 obtain⟨v,rfl,b,hv,rfl⟩:=hs
 exact⟨b,v,hv,he⟩
theorem av9 {q:gu}:dY P un n base (⟨d,none, .e q⟩::os) i ρ h K↔KR P un n base os i d ρ h K (bR q ρ (base+i) h):=by
 constructor
 ·rintro⟨r,h',hs,hf,hk,_,he⟩
  simp only[bz,b8,gE] at hs
  obtain⟨v,rfl,hv⟩:=hs
  exact⟨v,h',hv,hf rfl,hk,he⟩
 ·rintro⟨v,h',hv,hf,hk,he⟩
  exact⟨some v,h',⟨v,rfl,hv⟩,fun _=>hf,hk,(fun q' hq=>by cases hq),he⟩
theorem awa {f:Nat} {as:List aq}:dY P un n base (⟨d,none, .call f as⟩::os) i ρ h K↔AX P un n base os i d ρ h K f (as.map (aq.ev ρ)):=by
 constructor
 ·rintro⟨r,h',hs,hf,hk,_,he⟩
  simp only[bz,b8,gE] at hs
  obtain⟨v,rfl,hv⟩:=hs
  exact⟨v,h',hv,hf rfl,hk,he⟩
 ·rintro⟨v,h',hv,hf,hk,he⟩
  exact⟨some v,h',⟨v,rfl,hv⟩,fun _=>hf,hk,fun q' hq=>(by cases hq),he⟩
theorem hP {f:Nat} {as:List AV} {v:AV} (hc:an P f as h v h) (hf:dL n base i h) (he:dY P un n base os (i+1) (put ρ d v) h K):AX P un n base os i d ρ h K f as:=⟨v,h,hc,hf,fun _ _=>rfl,he⟩
def pz (P:Program) (un:List (List Nat)) (n base:Nat) (q:bc) (os:List RO) (i:Nat) (d:Option Nat) (ρ:Env) (h:aa) (K:Env->aa->Prop) (b:Bool) (v:AV):Prop:=
 gK v b (vT P un n base os i d ρ h K (aX q ρ h)) (dY P un n base os (i+1) (put ρ d (.ay [])) h K)
def pA (P:Program) (un:List (List Nat)) (n base:Nat) (f:Nat) (as:List AV) (os:List RO) (i:Nat) (d:Option Nat) (ρ:Env) (h:aa) (K:Env->aa->Prop) (b:Bool) (v:AV):Prop:=
 gK v b (AX P un n base os i d ρ h K f as) (dL n base i h/\dY P un n base os (i+1) (put ρ d (.ay [])) h K)
theorem Yv {v:AV} {b:Bool} {A B:Prop} (hg:gK v b A B):(v= .bool b/\A)\/((v= .bool (!b)\/v= .ay [])/\B):=by
 unfold gK at hg
 split at hg
 ·rename_i c
  by_cases hc:c=b
  ·subst hc;rw[if_pos rfl] at hg;exact .inl ⟨rfl,hg⟩
  ·rw[if_neg hc] at hg
   refine .inr ⟨.inl ?_,hg⟩
   cases c<;>cases b<;>first|rfl|exact(hc rfl).elim
 ·exact .inr ⟨.inr rfl,hg⟩
 ·exact hg.elim
theorem ZJ {v:AV} {b:Bool} {A B:Prop} (hv:v= .bool b) (ha:A):gK v b A B:=by subst hv;simp[gK,ha]
theorem acO {v:AV} {b:Bool} {A B:Prop} (hv:v= .bool (!b)\/v= .ay []) (hb:B):gK v b A B:=by
 rcases hv with rfl|rfl
 ·cases b<;>simp[gK,hb]
 ·simp[gK,hb]
theorem Xw {ro:RO} {g:Nat} {b:Bool} (hr:ro.guard=some (g,b)) (hv:ρ g= .bool b):b8 ro ρ=some true:=by simp[b8,hr,hv]
theorem Ys {ro:RO} {g:Nat} {b:Bool} (hr:ro.guard=some (g,b)) (hv:ρ g= .bool (!b)\/ρ g= .ay []):b8 ro ρ=some false:=by
 rcases hv with hv|hv
 ·cases b<;>simp[b8,hr,hv]
 ·simp[b8,hr,hv]
theorem F7 {ro:RO} {g:Nat} {b:Bool} (hr:ro.guard=some (g,b)) {c:Bool} (h:b8 ro ρ=some c):(c=true/\ρ g= .bool b)\/(c=false/\(ρ g= .bool (!b)\/ρ g= .ay [])):=by
 unfold b8 at h
 rw[hr] at h
 simp only at h
 split at h
 ·rename_i x hx
  cases h
  cases x<;>cases b<;>simp[hx]
 ·rename_i hx;cases h;exact .inr ⟨rfl, .inr hx⟩
 ·cases h
theorem av6 {g:Nat} {b:Bool} {q:bc}:dY P un n base (⟨d,some (g,b), .p q⟩::os) i ρ h K↔(iz un i=true->sZ base (q.key ρ))/\pz P un n base q os i d ρ h K b (ρ g):=by
 constructor
 ·rintro⟨r,h',hs,_,_,hk,he⟩
  refine⟨hk q rfl,?_⟩
  unfold bz at hs
  split at hs
  ·rename_i hg
   obtain⟨v,rfl,hv,rfl⟩:=hs
   rcases F7 rfl hg with⟨_,cT⟩|⟨hf,_⟩
   ·exact ZJ cT ⟨v,hv,he⟩
   ·cases hf
  ·rename_i hg
   obtain⟨rfl,rfl⟩:=hs
   rcases F7 rfl hg with⟨hf,_⟩|⟨_,cT⟩
   ·cases hf
   ·exact acO cT he
  ·exact hs.elim
 ·rintro⟨hk,he⟩
  rcases Yv he with⟨hv,v,jr,he⟩|⟨hv,he⟩
  ·exact⟨some v,h,by unfold bz;rw[Xw rfl hv];exact⟨v,rfl,jr,rfl⟩,fun hh=>by simp[b7.cA] at hh,fun _ _=>rfl,(fun q' hq=>by cases hq;exact hk),he⟩
  ·exact⟨none,h,by unfold bz;rw[Ys rfl hv];exact⟨rfl,rfl⟩,fun hh=>by simp[b7.cA] at hh,fun _ _=>rfl,(fun q' hq=>by cases hq;exact hk),he⟩
theorem av7 {g:Nat} {b:Bool} {f:Nat} {as:List aq}:dY P un n base (⟨d,some (g,b), .call f as⟩::os) i ρ h K↔pA P un n base f (as.map (aq.ev ρ)) os i d ρ h K b (ρ g):=by
 constructor
 ·rintro⟨r,h',hs,hf,U7,hk,he⟩
  unfold bz at hs
  split at hs
  ·rename_i hg
   obtain⟨v,rfl,hv⟩:=hs
   rcases F7 rfl hg with⟨_,cT⟩|⟨hf,_⟩
   ·exact ZJ cT ⟨v,h',hv,hf rfl,U7,he⟩
   ·cases hf
  ·rename_i hg
   obtain⟨rfl,rfl⟩:=hs
   rcases F7 rfl hg with⟨hf,_⟩|⟨_,cT⟩
   ·cases hf
   ·exact acO cT ⟨hf rfl,he⟩
  ·exact hs.elim
 ·intro he
  rcases Yv he with⟨hv,v,h',hc,hf,U7,he⟩|⟨hv,hf,he⟩
  ·exact⟨some v,h',by unfold bz;rw[Xw rfl hv];exact⟨v,rfl,hc⟩,fun _=>hf,U7,(fun q' hq=>by cases hq),he⟩
  ·exact⟨none,h,by unfold bz;rw[Ys rfl hv];exact⟨rfl,rfl⟩,fun _=>hf,fun _ _=>rfl,(fun q' hq=>by cases hq),he⟩
theorem alW {v:AV} {h':aa}:KR P un n base os i d ρ h K (some (v,h'))↔dL n base i h'/\wD base h h'/\dY P un n base os (i+1) (put ρ d v) h' K:=
 ⟨fun⟨_,_,e,h⟩=>by cases e;exact h,fun h=>⟨_,_,rfl,h⟩⟩
def kv:AV->Option Nat
 | .ptr b _=>some b
 |_=>none
theorem alD {ag:Bool} {sz:Nat} {x:aq}:(bc.load ag sz x).key ρ=kv (x.ev ρ):=by
 simp only[bc.key]
 cases x.ev ρ<;>rfl
theorem alV {v:AV}:vT P un n base os i d ρ h K (some v)↔dY P un n base os (i+1) (put ρ d v) h K:=by simp[vT]
theorem alX {b:cI} {v:AV}:Fx P un n base os i d ρ h K (some (b,v))↔dY P un n base os (i+1) (put ρ d v) (h.at (base+i) b) K:=
 ⟨fun⟨_,_,e,h⟩=>by cases e;exact h,fun h=>⟨_,_,rfl,h⟩⟩
end
def mapOf (h:aa) (b:Nat):Option (List (AV×AV)):=match h.get b with
 |some (.map es)=>some es
 |_=>none
theorem LY {h:aa} {b:Nat} {es:List (AV×AV)} (e:h.get b=some (.map es)):mapOf h b=some es:=by simp[mapOf,e]
def HU (z:AV) (ok:Bool) (r:Option AV):AV:=match r with
 |some v=>if ok then .ay [v, .bool true] else v
 |none=>if ok then .ay [z, .bool false] else z
theorem K7 {z:AV} {ok:Bool} {h:aa} {b:Nat} {kd:IntKind} {n:Int}:mZ z ok h (.map (some b)) (.int kd n)=(mapOf h b).bind fun es=>(uu (.int kd n) es).map (HU z ok):=by
 unfold mZ mapOf
 simp only[]
 split
 ·rename_i es he;rw[he];simp only[Option.bind_some];congr 1
 ·rename_i he
  split
  ·rename_i es hes;exact absurd hes (he es)
  ·rfl
def GJ (h:aa) (m k v:AV):Option (AV×aa):=match m,k with
 | .map (some b), .int kd n=>match h.get b with
   |some (.map es)=>(qY (.int kd n) v.strip es).map fun aV=>(.undef,h.set b (some (.map aV)))
   |_=>none
 |_,_=>none
theorem ahV {h:aa} {b:Nat} {kd:IntKind} {n:Int} {v:AV}:GJ h (.map (some b)) (.int kd n) v=(mapOf h b).bind fun es=>(qY (.int kd n) v.strip es).map fun aV=>(.undef,h.set b (some (.map aV))):=by
 unfold GJ mapOf
 cases hg:h.get b with
 |none=>simp[hg]
 |some x=>cases x<;>simp[hg]
def GK (h:aa) (m k:AV):Option (AV×aa):=match m,k with
 | .map (some b), .int kd n=>match h.get b with
   |some (.map es)=>(qZ (.int kd n) es).map fun aV=>(.ay [],h.set b (some (.map aV)))
   |_=>none
 |_,_=>none
theorem ahW {h:aa} {b:Nat} {kd:IntKind} {n:Int}:GK h (.map (some b)) (.int kd n)=(mapOf h b).bind fun es=>(qZ (.int kd n) es).map fun aV=>(.ay [],h.set b (some (.map aV))):=by
 unfold GK mapOf
 cases hg:h.get b with
 |none=>simp[hg]
 |some x=>cases x<;>simp[hg]
def mA (bytes sz id:Nat) (h:aa) (x:AV):Option (List (List AV))->Option (AV×aa)
 |none=>none
 |some ys=>match x with
  | .vs xs t=>
    if ys=[] then some (.vs xs t,h) else
    if dC sz xs/\(xs.length+ys.length)*bytes<2^40/\xs.length+ys.length<2^40 then
     match t with
     | .full=>some (.vs (xs++ys) (.own id),h.at id .tail)
     | .own t=>match h.get t with
       |some .tail=>some (.vs (xs++ys) (.own id),(h.set t none).at id .tail)
       |_=>none
     | .ao=>none
    else none
  | .bA=>
    if ys=[] then some (.bA,h) else
    if ys.length*bytes<2^40/\ys.length<2^40 then some (.vs ys (.own id),h.at id .tail) else none
  |_=>none
theorem aiR {ρ:Env} {id bytes sz:Nat} {h:aa} {x y:aq}:bR (.append bytes sz x y) ρ id h=mA bytes sz id h (x.ev ρ) (cQ sz h (y.ev ρ)):=by
 simp only[bR]
 cases cQ sz h (y.ev ρ)<;>rfl
def p5 (base:Nat) (h:aa) (a:AV) (xs:List (List AV)):Prop:=(a= .vs [] .full/\xs=[])\/ ∃t,a= .vs xs (.own t)/\h.get t=some .tail/\base<=t/\t<h.next
theorem p5.nil {base:Nat} {h:aa}:p5 base h (.vs [] .full) []:= .inl ⟨rfl,rfl⟩
theorem p5.vs {base:Nat} {h:aa} {a:AV} {xs:List (List AV)} (A:p5 base h a xs): ∃t,a= .vs xs t:=by
 rcases A with⟨rfl,rfl⟩|⟨t,rfl,_⟩
 ·exact⟨_,rfl⟩
 ·exact⟨_,rfl⟩
theorem p5.of {base:Nat} {h h':aa} {a:AV} {xs:List (List AV)} (A:p5 base h a xs) (hn:h.next<=h'.next) (hk: ∀t,h.get t=some .tail->h'.get t=some .tail):p5 base h' a xs:=by
 rcases A with⟨rfl,rfl⟩|⟨t,rfl,h1,h2,h3⟩
 ·exact .nil
 ·exact .inr ⟨t,rfl,hk t h1,h2,by omega⟩
theorem ajQ {base bytes sz id:Nat} {h:aa} {a:AV} {xs ys:List (List AV)} (A:p5 base h a xs) (aL:h.next<=id) (hb:base<=id) (hy:ys≠[]) (hh:dC sz xs=true) (h1:(xs.length+ys.length)*bytes<2^40) (h2:xs.length+ys.length<2^40):
 ∃a' h',mA bytes sz id h a (some ys)=some (a',h')/\p5 base h' a' (xs++ys)/\h'.next=id+1/\(∀b,b≠id->h.get b≠some .tail->h'.get b=h.get b)/\ ∀b,b<base->h'.get b=h.get b:=by
 rcases A with⟨rfl,rfl⟩|⟨t,rfl,h3,h4,h5⟩
 ·refine⟨.vs ([]++ys) (.own id),h.at id .tail,?_, .inr ⟨id,rfl,by simp[aa.at],hb,by simp[aa.at];omega⟩,by simp[aa.at];omega,fun b hb _=>by simp[aa.at,hb],fun b hb=>by simp[aa.at];omega⟩
  simp only[mA]
  rw[if_neg hy,if_pos ⟨hh,h1,h2⟩]
 ·refine⟨.vs (xs++ys) (.own id),(h.set t none).at id .tail,?_, .inr ⟨id,rfl,by simp[aa.at],hb,by simp[aa.at,aa.set];omega⟩,by simp[aa.at,aa.set];omega,fun b hb hn=>?_,fun b hb=>?_⟩
  ·simp only[mA]
   rw[if_neg hy,if_pos ⟨hh,h1,h2⟩]
   simp only[h3]
  ·have:b≠t:=fun e=>hn (by rw[e];exact h3)
   simp[aa.at,aa.set,hb,this]
  ·have e1:b≠t:=by omega
   have e2:b≠id:=by omega
   simp[aa.at,aa.set,e1,e2]
def JQ:AV->Option Nat
 | .int _ i=>if 0<=i then some i.toNat else none
 |_=>none
theorem aiM {ρ:Env} {d:Nat} {x:aq}:cJ ρ d (some x)=JQ (x.ev ρ):=by
 unfold cJ JQ
 generalize e:x.ev ρ=y
 cases y<;>simp only[e]
theorem akN {ρ:Env} {sz:Nat} {xs:List (List AV)} {t:aH} {lo hi:Option aq}:iO ρ sz (.vs xs t) lo hi none=(cJ ρ xs.length hi).bind fun h=>(cJ ρ 0 lo).bind fun l=>
 if l<=h/\h<=xs.length/\dC sz xs=true then some (.vs ((xs.drop l).take (h-l)) (oq t xs.length l h)) else none:=rfl
def fF (bytes sz id:Nat) (h:aa) (x:AV):Option (List (List AV))->Option (AV×aa)
 |none=>none
 |some ys=>match x with
  | .vs [] .full=>if ys=[] then some (.vs [] .full,h) else if ys.length*bytes<2^40/\ys.length<2^40 then some (.rs id 0 ys.length sz,h.at id (.cells ys.flatten)) else none
  | .bA=>if ys=[] then some (.bA,h) else if ys.length*bytes<2^40/\ys.length<2^40 then some (.rs id 0 ys.length sz,h.at id (.cells ys.flatten)) else none
  | .rs b off len aN=>
    if ys=[] then some (.rs b off len aN,h) else
    (cellsOf h b).bind fun cs=>if aN=sz/\off=0/\len*sz<=cs.length/\(len+ys.length)*bytes<2^40/\len+ys.length<2^40 then
      some (.rs id 0 (len+ys.length) sz,(h.set b none).at id (.cells (cs.take (len*sz)++ys.flatten)))
      else none
  | .rk b off len aN cap=>(cellsOf h b).bind fun cs=>if aN=sz/\len+ys.length<=cap/\off+len*sz<=cs.length then
     some (.rk b off (len+ys.length) sz cap,h.set b (some (.cells (di cs (off+len*sz) ys.flatten))))
     else none
  |_=>none
theorem yC {ρ:Env} {id bytes sz:Nat} {h:aa} {x y:aq}:bR (.jS bytes sz x y) ρ id h=fF bytes sz id h (x.ev ρ) (cQ sz h (y.ev ρ)):=by
 simp only[bR]
 generalize x.ev ρ=v
 cases cQ sz h (y.ev ρ) with
 |none=>rfl
 |some ys=>
  cases v<;>try rfl
  case vs xs t=>cases xs<;>cases t<;>rfl
  case rs b off len aN=>simp only[fF];cases cellsOf h b<;>rfl
  case rk b off len aN cap=>simp only[fF];cases cellsOf h b<;>rfl
def u2 (bytes:Nat) (z:List AV) (id:Nat) (h:aa) (x n:AV):Option (AV×aa):=
 match n with
 | .int _ m=>
   if 0<m/\m<2^40 then
    match x with
    | .bA=>if m.toNat*bytes<2^40 then some (.rs id 0 m.toNat z.length,h.at id (.cells (List.replicate m.toNat z).flatten)) else none
    | .rk b off len aN cap=>(cellsOf h b).bind fun cs=>
       if aN=z.length/\cap<len+m.toNat/\off+len*z.length<=cs.length/\(len+m.toNat)*bytes<2^40/\len+m.toNat<2^40 then
        some (.rs id 0 (len+m.toNat) z.length,h.at id (.cells (rowsOf cs off z.length len++List.replicate m.toNat z).flatten))
       else none
    |_=>none
   else none
 |_=>none
theorem ah6 {ρ:Env} {id bytes:Nat} {z:List AV} {h:aa} {x n:aq}:bR (.oA bytes z x n) ρ id h=u2 bytes z id h (x.ev ρ) (n.ev ρ):=by
 simp only[bR,u2]
 generalize x.ev ρ=v
 generalize n.ev ρ=u
 cases u<;>try rfl
 cases v<;>try rfl
 case rk b off len aN cap=>simp only[];cases cellsOf h b<;>rfl
def wF (sz:Nat) (h:aa) (x y:AV):Option (AV×aa):=
 match x with
 | .rk b off len aN _=>(gH y).bind fun m=>(oL sz (min m len) h y).bind fun ys=>(cellsOf h b).bind fun cs=>
    if aN=sz/\off<=cs.length then some (.int .i64 (min m len:Nat),h.set b (some (.cells (di cs off ys.flatten)))) else none
 |_=>none
theorem ajO {ρ:Env} {id sz:Nat} {h:aa} {x y:aq}:bR (.nf sz x y) ρ id h=wF sz h (x.ev ρ) (y.ev ρ):=by
 simp only[bR,wF]
 cases x.ev ρ<;>try rfl
 rename_i b off len aN cap
 cases gH (y.ev ρ) with
 |none=>rfl
 |some m=>
  simp only[Option.bind_some]
  cases oL sz (min m len) h (y.ev ρ) with
  |none=>rfl
  |some ys=>cases cellsOf h b<;>rfl
def zJ (sz:Nat) (h:aa) (x y:AV):Option (AV×aa):=
 match x with
 | .rs b off len aN=>(cQ sz h y).bind fun ys=>(cellsOf h b).bind fun cs=>
    if aN=sz/\off+len*sz<=cs.length then some (.int .i64 (min ys.length len:Nat),h.set b (some (.cells (di cs off (ys.take (min ys.length len)).flatten)))) else none
 | .vs [] _=>(cQ sz h y).bind fun _=>some (.int .i64 0,h)
 | .bA=>(cQ sz h y).bind fun _=>some (.int .i64 0,h)
 |_=>none
theorem XS {ρ:Env} {id sz:Nat} {h:aa} {x y:aq}:bR (.copy sz x y) ρ id h=zJ sz h (x.ev ρ) (y.ev ρ):=by
 simp only[bR,zJ]
 generalize x.ev ρ=v
 generalize cQ sz h (y.ev ρ)=r
 cases v<;>try rfl
 case vs xs t=>cases xs<;>cases r<;>rfl
 case rs b off len aN=>simp only[];cases r<;>cases cellsOf h b<;>rfl
 case bA=>cases r<;>rfl
def PF (h:aa) (x:AV):Option (AV×aa):=
 match x with
 | .rs b off len sz=>(cellsOf h b).bind fun cs=>if off+len*sz<=cs.length then some (.vs (rowsOf cs off sz len) .ao,h.set b none) else none
 |_=>none
theorem akR {ρ:Env} {id:Nat} {h:aa} {x:aq}:bR (.mark x) ρ id h=PF h (x.ev ρ):=by
 simp only[bR,PF]
 generalize x.ev ρ=v
 cases v<;>try rfl
 case rs b off len sz=>simp only[];cases cellsOf h b<;>rfl
def BM (z:List AV) (h:aa) (x:AV):Option (AV×aa):=
 match x with
 | .rk b off len aN _=>(cellsOf h b).bind fun cs=>if aN=z.length/\off+len*z.length<=cs.length then some (.ay [],h.set b (some (.cells (di cs off (List.replicate len z).flatten)))) else none
 | .vs [] _=>some (.ay [],h)
 | .bA=>some (.ay [],h)
 |_=>none
theorem aiQ {ρ:Env} {id:Nat} {z:List AV} {h:aa} {x:aq}:bR (.oJ z x) ρ id h=BM z h (x.ev ρ):=by
 simp only[bR,BM]
 generalize x.ev ρ=v
 cases v<;>try rfl
 case vs xs t=>cases xs<;>rfl
 case rk b off len aN cap=>simp only[];cases cellsOf h b<;>rfl
theorem akO {ρ:Env} {sz b off len aN cap:Nat} {lo hi mx:Option aq}:iO ρ sz (.rk b off len aN cap) lo hi mx=(cJ ρ len hi).bind fun h=>(cJ ρ 0 lo).bind fun l=>(cJ ρ cap mx).bind fun m=>
 if l<=h/\h<=m/\m<=cap/\aN=sz/\(mx.isSome->hi.isSome) then(if m=l then some (.vs [] .full) else some (.rk b (off+l*sz) (h-l) sz (m-l))) else none:=rfl
theorem LL {ρ:Env} {sz b off len aN:Nat} {lo hi:Option aq}:iO ρ sz (.rs b off len aN) lo hi none=(cJ ρ len hi).bind fun h=>(cJ ρ 0 lo).bind fun l=>
 if l<=h/\h<=len/\aN=sz then(if l=h then(if lo.isNone then some (.rs b off 0 sz) else some (.vs [] .ao)) else some (.rs b (off+l*sz) (h-l) sz)) else none:=by
 simp[iO]
theorem ali {sz b off len aN cap:Nat} {h:aa}:cQ sz h (.rk b off len aN cap)=if aN=sz then(cellsOf h b).bind fun cs=>if off+len*sz<=cs.length then some (rowsOf cs off sz len) else none else none:=by
 simp only[cQ]
 split
 ·cases cellsOf h b<;>rfl
 ·rfl
theorem alh {sz n b off len aN cap:Nat} {h:aa}:oL sz n h (.rk b off len aN cap)=if aN=sz/\n<=len then(cellsOf h b).bind fun cs=>if off+n*sz<=cs.length then some (rowsOf cs off sz n) else none else none:=by
 simp only[oL]
 split
 ·cases cellsOf h b<;>rfl
 ·rfl
end
section
open Go
theorem st:((∀{P:Program} {K:aP->Env->aa->Prop} {ρ:Env} {h:aa},WP P .skip K ρ h↔K .normal ρ h)
 /\(∀{P:Program} {K:aP->Env->aa->Prop} {ρ:Env} {h:aa} {l:Nat},WP P (.label l) K ρ h↔K .normal ρ h)
 /\(∀{P:Program} {K:aP->Env->aa->Prop} {ρ:Env} {h:aa} {l:Nat},WP P (.exit l) K ρ h↔K (.exit l) ρ h)
 /\(∀{P:Program} {K:aP->Env->aa->Prop} {ρ:Env} {h:aa} {l:Nat},WP P (.goto l) K ρ h↔K (.goto l) ρ h)
 /\(∀{P:Program} {K:aP->Env->aa->Prop} {ρ:Env} {h:aa},WP P .ret K ρ h↔K .ret ρ h)
 /\(∀{P:Program} {K:aP->Env->aa->Prop} {ρ:Env} {h:aa} {al:List RO},WP P (.af al) K ρ h↔exec P al ρ h (K .normal))
 /\(∀{P:Program} {K:aP->Env->aa->Prop} {ρ:Env} {h:aa} {a b:aW},WP P (.seq a b) K ρ h↔WP P a (jl (WP P b K) K) ρ h)
 /\(∀{P:Program} {K:aP->Env->aa->Prop} {ρ:Env} {h:aa} {c:aq} {a b:aW},WP P (.cond c a b) K ρ h↔yx P a b K ρ h (c.ev ρ))
 /\(∀{P:Program} {K:aP->Env->aa->Prop} {ρ:Env} {h:aa} {a b:aW},yx P a b K ρ h (.bool true)↔WP P a K ρ h)
 /\(∀{P:Program} {K:aP->Env->aa->Prop} {ρ:Env} {h:aa} {a b:aW},yx P a b K ρ h (.bool false)↔WP P b K ρ h)
 /\(∀{P:Program} {K:aP->Env->aa->Prop} {ρ:Env} {h:aa} {id:Nat} {c:aW},WP P (.block id c) K ρ h↔WP P c (lu id K) ρ h)
 /\(∀{k:Env->aa->Prop} {K:aP->Env->aa->Prop} {ρ:Env} {h:aa},jl k K .normal ρ h=k ρ h)
 /\(∀{k:Env->aa->Prop} {K:aP->Env->aa->Prop} {ρ:Env} {h:aa},jl k K .ret ρ h=K .ret ρ h)
 /\(∀{k:Env->aa->Prop} {K:aP->Env->aa->Prop} {ρ:Env} {h:aa} {i:Nat},jl k K (.exit i) ρ h=K (.exit i) ρ h)
 /\(∀{k:Env->aa->Prop} {K:aP->Env->aa->Prop} {ρ:Env} {h:aa} {i:Nat},jl k K (.goto i) ρ h=K (.goto i) ρ h)
 /\(∀{id:Nat} {K:aP->Env->aa->Prop} {ρ:Env} {h:aa},lu id K .normal ρ h=K .normal ρ h)
 /\(∀{id:Nat} {K:aP->Env->aa->Prop} {ρ:Env} {h:aa},lu id K .ret ρ h=K .ret ρ h)
 /\(∀{id i:Nat} {K:aP->Env->aa->Prop} {ρ:Env} {h:aa},lu id K (.exit i) ρ h=if i=id then K .normal ρ h else K (.exit i) ρ h))
 /\((∀{id i:Nat} {K:aP->Env->aa->Prop} {ρ:Env} {h:aa},lu id K (.goto i) ρ h=K (.goto i) ρ h)
 /\(∀{l:Nat} {J:Env->aa->Prop} {K:aP->Env->aa->Prop} {ρ:Env} {h:aa},jW l J K .normal ρ h=K .normal ρ h)
 /\(∀{l:Nat} {J:Env->aa->Prop} {K:aP->Env->aa->Prop} {ρ:Env} {h:aa},jW l J K .ret ρ h=K .ret ρ h)
 /\(∀{l i:Nat} {J:Env->aa->Prop} {K:aP->Env->aa->Prop} {ρ:Env} {h:aa},jW l J K (.exit i) ρ h=K (.exit i) ρ h)
 /\(∀{l i:Nat} {J:Env->aa->Prop} {K:aP->Env->aa->Prop} {ρ:Env} {h:aa},jW l J K (.goto i) ρ h=if i=l then J ρ h else K (.goto i) ρ h)
 /\(∀{P:Program} {K:Env->aa->Prop} {ρ:Env} {h:aa},exec P [] ρ h K↔K ρ h)
 /\(∀{P:Program} {K:Env->aa->Prop} {ρ:Env} {h:aa} {d:Option Nat} {os:List RO} {q:bc},exec P (⟨d,none, .p q⟩::os) ρ h K↔Iq P d os ρ h K (aX q ρ h))
 /\(∀{P:Program} {K:Env->aa->Prop} {ρ:Env} {h:aa} {d:Option Nat} {os:List RO} {v:AV},Iq P d os ρ h K (some v)↔exec P os (put ρ d v) h K)
 /\(∀{P:Program} {K:Env->aa->Prop} {ρ:Env} {h:aa} {d:Option Nat} {os:List RO} {q:jN},exec P (⟨d,none, .a q⟩::os) ρ h K↔PU P d os ρ h K (gV q ρ h.next))
 /\(∀{P:Program} {K:Env->aa->Prop} {ρ:Env} {h:aa} {d:Option Nat} {os:List RO} {b:cI} {v:AV},PU P d os ρ h K (some (b,v))↔exec P os (put ρ d v) (h.at h.next b) K)
 /\(∀{P:Program} {K:Env->aa->Prop} {ρ:Env} {h:aa} {d:Option Nat} {os:List RO} {q:gu},exec P (⟨d,none, .e q⟩::os) ρ h K↔PT P d os ρ K (bR q ρ h.next h))
 /\(∀{P:Program} {K:Env->aa->Prop} {ρ:Env} {d:Option Nat} {os:List RO} {v:AV} {h':aa},PT P d os ρ K (some (v,h'))↔exec P os (put ρ d v) h' K)
 /\(∀{P:Program} {K:Env->aa->Prop} {ρ:Env} {h:aa} {d:Option Nat} {os:List RO} {f:Nat} {as:List aq},exec P (⟨d,none, .call f as⟩::os) ρ h K↔acT P d os ρ h K f (as.map (aq.ev ρ)))
 /\(∀{P:Program} {K:Env->aa->Prop} {ρ:Env} {h:aa} {d:Option Nat} {os:List RO} {g:Nat} {b:Bool} {op:b7},exec P (⟨d,some (g,b),op⟩::os) ρ h K↔lD P d op os ρ h K b (ρ g))
 /\(∀{P:Program} {K:Env->aa->Prop} {ρ:Env} {h:aa} {d:Option Nat} {os:List RO} {op:b7},lD P d op os ρ h K true (.bool true)↔exec P (⟨d,none,op⟩::os) ρ h K)
 /\(∀{P:Program} {K:Env->aa->Prop} {ρ:Env} {h:aa} {d:Option Nat} {os:List RO} {op:b7},lD P d op os ρ h K false (.bool false)↔exec P (⟨d,none,op⟩::os) ρ h K)
 /\(∀{P:Program} {K:Env->aa->Prop} {ρ:Env} {h:aa} {d:Option Nat} {os:List RO} {op:b7},lD P d op os ρ h K true (.bool false)↔exec P os (put ρ d (.ay [])) h K)
 /\(∀{P:Program} {K:Env->aa->Prop} {ρ:Env} {h:aa} {d:Option Nat} {os:List RO} {op:b7},lD P d op os ρ h K false (.bool true)↔exec P os (put ρ d (.ay [])) h K))
 /\((∀{P:Program} {K:Env->aa->Prop} {ρ:Env} {h:aa} {d:Option Nat} {os:List RO} {op:b7} {b:Bool},lD P d op os ρ h K b (.ay [])↔exec P os (put ρ d (.ay [])) h K)
 /\(∀{P:Program} {n base i:Nat} {ρ:Env} {h:aa} {K:Env->aa->Prop},bV P n base [] i ρ h K↔K ρ h)
 /\(∀{P:Program} {n base i:Nat} {ρ:Env} {h:aa} {K:Env->aa->Prop} {d:Option Nat} {os:List RO} {q:bc},bV P n base (⟨d,none, .p q⟩::os) i ρ h K↔Fw P n base os i d ρ h K (aX q ρ h))
 /\(∀{P:Program} {n base i:Nat} {ρ:Env} {h:aa} {K:Env->aa->Prop} {d:Option Nat} {os:List RO} {q:jN},bV P n base (⟨d,none, .a q⟩::os) i ρ h K↔KQ P n base os i d ρ h K (gV q ρ (base+i)))
 /\(∀{P:Program} {n base i:Nat} {ρ:Env} {h:aa} {K:Env->aa->Prop} {d:Option Nat} {os:List RO} {q:gu},bV P n base (⟨d,none, .e q⟩::os) i ρ h K↔KP P n base os i d ρ K (bR q ρ (base+i) h))
 /\(∀{P:Program} {n base i:Nat} {ρ:Env} {h:aa} {K:Env->aa->Prop} {d:Option Nat} {os:List RO} {f:Nat} {as:List aq},bV P n base (⟨d,none, .call f as⟩::os) i ρ h K↔Vy P n base os i d ρ h K f (as.map (aq.ev ρ)))
 /\(∀{P:Program} {n base i:Nat} {ρ:Env} {h:aa} {K:Env->aa->Prop} {d:Option Nat} {os:List RO} {g:Nat} {b:Bool} {q:bc},bV P n base (⟨d,some (g,b), .p q⟩::os) i ρ h K↔kW P n base q os i d ρ h K b (ρ g))
 /\(∀{P:Program} {n base i:Nat} {ρ:Env} {h:aa} {K:Env->aa->Prop} {d:Option Nat} {os:List RO} {g:Nat} {b:Bool} {f:Nat} {as:List aq},bV P n base (⟨d,some (g,b), .call f as⟩::os) i ρ h K↔ju P n base (.call f as) os i d ρ h K b (ρ g))
 /\(∀{P:Program} {n base i:Nat} {ρ:Env} {h:aa} {K:Env->aa->Prop} {d:Option Nat} {os:List RO} {q:bc},kW P n base q os i d ρ h K true (.bool true)↔bV P n base (⟨d,none, .p q⟩::os) i ρ h K)
 /\(∀{P:Program} {n base i:Nat} {ρ:Env} {h:aa} {K:Env->aa->Prop} {d:Option Nat} {os:List RO} {op:b7},ju P n base op os i d ρ h K true (.bool true)↔bV P n base (⟨d,none,op⟩::os) i ρ h K)
 /\(∀{P:Program} {n base i:Nat} {ρ:Env} {h:aa} {K:Env->aa->Prop} {d:Option Nat} {os:List RO} {q:bc},kW P n base q os i d ρ h K false (.bool false)↔bV P n base (⟨d,none, .p q⟩::os) i ρ h K)
 /\(∀{P:Program} {n base i:Nat} {ρ:Env} {h:aa} {K:Env->aa->Prop} {d:Option Nat} {os:List RO} {op:b7},ju P n base op os i d ρ h K false (.bool false)↔bV P n base (⟨d,none,op⟩::os) i ρ h K)
 /\(∀{P:Program} {n base i:Nat} {ρ:Env} {h:aa} {K:Env->aa->Prop} {d:Option Nat} {os:List RO} {q:bc},kW P n base q os i d ρ h K true (.bool false)↔bV P n base os (i+1) (put ρ d (.ay [])) h K)
 /\(∀{P:Program} {n base i:Nat} {ρ:Env} {h:aa} {K:Env->aa->Prop} {d:Option Nat} {os:List RO} {op:b7},ju P n base op os i d ρ h K true (.bool false)↔dL n base i h/\bV P n base os (i+1) (put ρ d (.ay [])) h K)
 /\(∀{P:Program} {n base i:Nat} {ρ:Env} {h:aa} {K:Env->aa->Prop} {d:Option Nat} {os:List RO} {q:bc},kW P n base q os i d ρ h K false (.bool true)↔bV P n base os (i+1) (put ρ d (.ay [])) h K)
 /\(∀{P:Program} {n base i:Nat} {ρ:Env} {h:aa} {K:Env->aa->Prop} {d:Option Nat} {os:List RO} {op:b7},ju P n base op os i d ρ h K false (.bool true)↔dL n base i h/\bV P n base os (i+1) (put ρ d (.ay [])) h K)
 /\(∀{P:Program} {n base i:Nat} {ρ:Env} {h:aa} {K:Env->aa->Prop} {d:Option Nat} {os:List RO} {q:bc} {b:Bool},kW P n base q os i d ρ h K b (.ay [])↔bV P n base os (i+1) (put ρ d (.ay [])) h K)
 /\(∀{P:Program} {n base i:Nat} {ρ:Env} {h:aa} {K:Env->aa->Prop} {d:Option Nat} {os:List RO} {op:b7} {b:Bool},ju P n base op os i d ρ h K b (.ay [])↔dL n base i h/\bV P n base os (i+1) (put ρ d (.ay [])) h K))
 /\((∀{P:Program} {n base i:Nat} {ρ:Env} {h:aa} {K:Env->aa->Prop} {d:Option Nat} {os:List RO} {v:AV},Fw P n base os i d ρ h K (some v)↔bV P n base os (i+1) (put ρ d v) h K)
 /\(∀{P:Program} {n base i:Nat} {ρ:Env} {h:aa} {K:Env->aa->Prop} {d:Option Nat} {os:List RO} {b:cI} {v:AV},KQ P n base os i d ρ h K (some (b,v))↔bV P n base os (i+1) (put ρ d v) (h.at (base+i) b) K)
 /\(∀{P:Program} {n base i:Nat} {ρ:Env} {K:Env->aa->Prop} {d:Option Nat} {os:List RO} {v:AV} {h':aa},KP P n base os i d ρ K (some (v,h'))↔dL n base i h'/\bV P n base os (i+1) (put ρ d v) h' K)
 /\(∀{P:Program} {un:List (List Nat)} {n base i:Nat} {ρ:Env} {h:aa} {K:Env->aa->Prop},dY P un n base [] i ρ h K↔K ρ h)
 /\(∀{P:Program} {un:List (List Nat)} {n base i:Nat} {ρ:Env} {h:aa} {K:Env->aa->Prop} {d:Option Nat} {os:List RO} {q:bc},dY P un n base (⟨d,none, .p q⟩::os) i ρ h K↔(iz un i=true->sZ base (q.key ρ))/\vT P un n base os i d ρ h K (aX q ρ h))
 /\(∀{P:Program} {un:List (List Nat)} {n base i:Nat} {ρ:Env} {h:aa} {K:Env->aa->Prop} {d:Option Nat} {os:List RO} {q:jN},dY P un n base (⟨d,none, .a q⟩::os) i ρ h K↔Fx P un n base os i d ρ h K (gV q ρ (base+i)))
 /\(∀{P:Program} {un:List (List Nat)} {n base i:Nat} {ρ:Env} {h:aa} {K:Env->aa->Prop} {d:Option Nat} {os:List RO} {f:Nat} {as:List aq},dY P un n base (⟨d,none, .call f as⟩::os) i ρ h K↔AX P un n base os i d ρ h K f (as.map (aq.ev ρ)))
 /\(∀{P:Program} {un:List (List Nat)} {n base i:Nat} {ρ:Env} {h:aa} {K:Env->aa->Prop} {d:Option Nat} {os:List RO} {g:Nat} {b:Bool} {q:bc},dY P un n base (⟨d,some (g,b), .p q⟩::os) i ρ h K↔(iz un i=true->sZ base (q.key ρ))/\pz P un n base q os i d ρ h K b (ρ g))
 /\(∀{P:Program} {un:List (List Nat)} {n base i:Nat} {ρ:Env} {h:aa} {K:Env->aa->Prop} {d:Option Nat} {os:List RO} {g:Nat} {b:Bool} {f:Nat} {as:List aq},dY P un n base (⟨d,some (g,b), .call f as⟩::os) i ρ h K↔pA P un n base f (as.map (aq.ev ρ)) os i d ρ h K b (ρ g))
 /\(∀{P:Program} {un:List (List Nat)} {n base i:Nat} {ρ:Env} {h:aa} {K:Env->aa->Prop} {d:Option Nat} {os:List RO} {q:gu},dY P un n base (⟨d,none, .e q⟩::os) i ρ h K↔KR P un n base os i d ρ h K (bR q ρ (base+i) h))
 /\(∀{P:Program} {un:List (List Nat)} {n base i:Nat} {ρ:Env} {h:aa} {K:Env->aa->Prop} {d:Option Nat} {os:List RO} {q:bc},pz P un n base q os i d ρ h K true (.bool true)↔vT P un n base os i d ρ h K (aX q ρ h))
 /\(∀{P:Program} {un:List (List Nat)} {n base i:Nat} {ρ:Env} {h:aa} {K:Env->aa->Prop} {d:Option Nat} {os:List RO} {q:bc},pz P un n base q os i d ρ h K true (.bool false)↔dY P un n base os (i+1) (put ρ d (.ay [])) h K)
 /\(∀{P:Program} {un:List (List Nat)} {n base i:Nat} {ρ:Env} {h:aa} {K:Env->aa->Prop} {d:Option Nat} {os:List RO} {f:Nat} {as:List AV},pA P un n base f as os i d ρ h K true (.bool true)↔AX P un n base os i d ρ h K f as)
 /\(∀{P:Program} {un:List (List Nat)} {n base i:Nat} {ρ:Env} {h:aa} {K:Env->aa->Prop} {d:Option Nat} {os:List RO} {f:Nat} {as:List AV},pA P un n base f as os i d ρ h K true (.bool false)↔dL n base i h/\dY P un n base os (i+1) (put ρ d (.ay [])) h K)
 /\(∀{P:Program} {un:List (List Nat)} {n base i:Nat} {ρ:Env} {h:aa} {K:Env->aa->Prop} {d:Option Nat} {os:List RO} {q:bc},pz P un n base q os i d ρ h K false (.bool false)↔vT P un n base os i d ρ h K (aX q ρ h))
 /\(∀{P:Program} {un:List (List Nat)} {n base i:Nat} {ρ:Env} {h:aa} {K:Env->aa->Prop} {d:Option Nat} {os:List RO} {q:bc},pz P un n base q os i d ρ h K false (.bool true)↔dY P un n base os (i+1) (put ρ d (.ay [])) h K)
 /\(∀{P:Program} {un:List (List Nat)} {n base i:Nat} {ρ:Env} {h:aa} {K:Env->aa->Prop} {d:Option Nat} {os:List RO} {f:Nat} {as:List AV},pA P un n base f as os i d ρ h K false (.bool false)↔AX P un n base os i d ρ h K f as)
 /\(∀{P:Program} {un:List (List Nat)} {n base i:Nat} {ρ:Env} {h:aa} {K:Env->aa->Prop} {d:Option Nat} {os:List RO} {f:Nat} {as:List AV},pA P un n base f as os i d ρ h K false (.bool true)↔dL n base i h/\dY P un n base os (i+1) (put ρ d (.ay [])) h K))
 /\((∀{P:Program} {un:List (List Nat)} {n base i:Nat} {ρ:Env} {h:aa} {K:Env->aa->Prop} {d:Option Nat} {os:List RO} {q:bc} {b:Bool},pz P un n base q os i d ρ h K b (.ay [])↔dY P un n base os (i+1) (put ρ d (.ay [])) h K)
 /\(∀{P:Program} {un:List (List Nat)} {n base i:Nat} {ρ:Env} {h:aa} {K:Env->aa->Prop} {d:Option Nat} {os:List RO} {f:Nat} {as:List AV} {b:Bool},pA P un n base f as os i d ρ h K b (.ay [])↔dL n base i h/\dY P un n base os (i+1) (put ρ d (.ay [])) h K)
 /\(∀{P:Program} {un:List (List Nat)} {n base i:Nat} {ρ:Env} {h:aa} {K:Env->aa->Prop} {d:Option Nat} {os:List RO} {v:AV} {h':aa},KR P un n base os i d ρ h K (some (v,h'))↔dL n base i h'/\wD base h h'/\dY P un n base os (i+1) (put ρ d v) h' K)
 /\(∀{ρ:Env} {ag:Bool} {sz:Nat} {x:aq},(bc.load ag sz x).key ρ=kv (x.ev ρ))
 /\(∀{b o:Nat},kv (.ptr b o)=some b)
 /\(∀{l:List AV} {o:Nat},kv (.vp l o)=none)
 /\(∀{P:Program} {un:List (List Nat)} {n base i:Nat} {ρ:Env} {h:aa} {K:Env->aa->Prop} {d:Option Nat} {os:List RO} {v:AV},vT P un n base os i d ρ h K (some v)↔dY P un n base os (i+1) (put ρ d v) h K)
 /\(∀{P:Program} {un:List (List Nat)} {n base i:Nat} {ρ:Env} {h:aa} {K:Env->aa->Prop} {d:Option Nat} {os:List RO} {b:cI} {v:AV},Fx P un n base os i d ρ h K (some (b,v))↔dY P un n base os (i+1) (put ρ d v) (h.at (base+i) b) K)
 /\(∀{base:Nat},sZ base none↔True)
 /\(∀{base b:Nat},sZ base (some b)↔b<base)
 /\(∀{ρ:Env} {ag:Bool} {sz:Nat} {x:aq},bc.key (.load ag sz x) ρ=(match x.ev ρ with| .ptr b _=>some b|_=>none))
 /\(∀{n m i:Nat} {h:aa},dL n h.next i (h.clean m)↔True)
 /\(∀{h:aa} {n b:Nat},(h.clean n).get b=if b<h.next then h.get b else none)
 /\(∀{h:aa} {n:Nat},(h.clean n).next=h.next+n)
 /\(∀{h:aa} {n b:Nat},cellsOf (h.clean n) b=if b<h.next then cellsOf h b else none)
 /\(∀{t:Nat} {ρ:Env},aq.ev ρ (.tmp t)=ρ t)
 /\(∀{v:AV} {ρ:Env},aq.ev ρ (.const v)=v)
 /\(∀{ρ:Env} {d i:Nat} {v:AV},put ρ (some d) v i=if i=d then v else ρ i))
 /\((∀{ρ:Env} {v:AV},put ρ none v=ρ)
 /\(∀{ρ:Env},List.map (aq.ev ρ) []=[])
 /\(∀{ρ:Env} {x:aq} {xs:List aq},List.map (aq.ev ρ) (x::xs)=x.ev ρ::List.map (aq.ev ρ) xs)
 /\(∀{ρ:Env} {h:aa} {x:aq},aX (.aj x) ρ h=some (x.ev ρ))
 /\(∀{ρ:Env} {h:aa} {c a b:aq},aX (.pick c a b) ρ h=H5 (c.ev ρ) (a.ev ρ) (b.ev ρ))
 /\(∀{ρ:Env} {h:aa} {z:List AV} {ps:List (Nat×Nat×aq)},aX (.build z ps) ρ h=(jX ρ z ps).map .agg)
 /\(∀{ρ:Env} {h:aa} {n:Nat} {z:List AV} {ps:List (Nat×aq)},aX (.da n z ps) ρ h=(iA ρ z.length (List.replicate n z) ps).map (.vs · .full))
 /\(∀{ρ:Env} {h:aa} {ag:Bool} {sz:Nat} {x:aq},aX (.load ag sz x) ρ h=j0 ag sz h (x.ev ρ))
 /\(∀{ρ:Env} {h:aa} {x:aq},aX (.aF x) ρ h=notNil (x.ev ρ))
 /\(∀{ρ:Env} {h:aa} {tb:Bool} {op:BinOp} {x y:aq},aX (.bin tb op x y) ρ h=cB tb op (x.ev ρ) (y.ev ρ))
 /\(∀{ρ:Env} {h:aa} {kd:Nat} {neg:Bool} {x:aq},aX (.eZ kd neg x) ρ h=(iw kd (x.ev ρ)).map fun b=> .bool (if neg then !b else b))
 /\(∀{ρ:Env} {h:aa} {neg:Bool} {os:List Nat} {x y:aq},aX (.Ir neg os x y) ρ h=BZ neg os (x.ev ρ) (y.ev ρ))
 /\(∀{ρ:Env} {h:aa} {op:UnOp} {x:aq},aX (.un op x) ρ h=Bi op (x.ev ρ))
 /\(∀{ρ:Env} {h:aa} {k:IntKind} {x:aq},aX (.toInt k x) ρ h=BQ k (x.ev ρ))
 /\(∀{ρ:Env} {h:aa} {x:aq},aX (.kF x) ρ h=((cQ 1 h (x.ev ρ)).bind pN).map fun bs=> .str ⟨bs.toArray⟩)
 /\(∀{ρ:Env} {h:aa} {x:aq},aX (.Gp x) ρ h=Gc (x.ev ρ))
 /\(∀{ρ:Env} {h:aa} {off:Nat} {x:aq},aX (.zH off x) ρ h=y9 off (x.ev ρ))
 /\(∀{ρ:Env} {h:aa} {ag:Bool} {sz off:Nat} {x:aq},aX (.KM ag sz off x) ρ h=Et ag sz off (x.ev ρ)))
 /\((∀{ρ:Env} {h:aa} {sz:Nat} {x i:aq},aX (.gU sz x i) ρ h=m5 sz (x.ev ρ) (i.ev ρ))
 /\(∀{ρ:Env} {h:aa} {sz len:Nat} {x i:aq},aX (.BY sz len x i) ρ h=yW sz len (x.ev ρ) (i.ev ρ))
 /\(∀{ρ:Env} {h:aa} {ag:Bool} {sz len:Nat} {x i:aq},aX (.JF ag sz len x i) ρ h=CU ag sz len (x.ev ρ) (i.ev ρ))
 /\(∀{ρ:Env} {h:aa} {sz:Nat} {x:aq} {lo hi mx:Option aq},aX (.cG sz x lo hi mx) ρ h=iO ρ sz (x.ev ρ) lo hi mx)
 /\(∀{ρ:Env} {h:aa} {i:Nat} {x:aq},aX (.ext i x) ρ h=Eu i (x.ev ρ))
 /\(∀{ρ:Env} {h:aa} {x:aq},aX (.gX x) ρ h=(gH (x.ev ρ)).map fun(n:Nat)=>AV.int .i64 n)
 /\(∀{ρ:Env} {h:aa} {x:aq},aX (.GY x) ρ h=GM (x.ev ρ))
 /\(∀{ρ:Env} {h:aa} {n:Nat},aX (.JC n) ρ h=some (.int .i64 n))
 /\(∀{ρ:Env} {h:aa} {z:AV} {ok:Bool} {m k:aq},aX (.lookup z ok m k) ρ h=mZ z ok h (m.ev ρ) (k.ev ρ))
 /\(∀{ρ:Env} {h:aa} {f:Nat} {a b:List aq},aX (.ka f a b) ρ h=some (.fn f (a.map (aq.ev ρ)) (b.map (aq.ev ρ))))
 /\(∀{ρ:Env} {h:aa} {mx:Bool} {x:aq} {r:List aq},aX (.kH mx x r) ρ h=ow mx ρ (x.ev ρ) r)
 /\(∀{ρ:Env} {h:aa} {im:Bool} {x:aq},aX (.part im x) ρ h=H6 im (x.ev ρ))
 /\(∀{ρ:Env} {h:aa} {z:List AV} {b:Nat} {l c:aq},aX (.wj z b l c) ρ h=(kG b (l.ev ρ) (c.ev ρ)).map fun n=> .vs (List.replicate n z) .full)
 /\(∀{a:aW} {l:List aW},List.foldr aW.seq .skip (a::l)= .seq a (List.foldr aW.seq .skip l))
 /\(List.foldr aW.seq .skip []= .skip)
 /\(∀{ρ:Env} {d:Nat},cJ ρ d none=some d)
 /\(∀{ρ:Env} {d:Nat} {x:aq},cJ ρ d (some x)=JQ (x.ev ρ))
 /\(∀{k:IntKind} {i:Int},JQ (.int k i)=if 0<=i then some i.toNat else none))
 /\((∀{ρ:Env} {sz:Nat} {xs:List (List AV)} {t:aH} {lo hi:Option aq},iO ρ sz (.vs xs t) lo hi none=(cJ ρ xs.length hi).bind fun h=>(cJ ρ 0 lo).bind fun l=>if l<=h/\h<=xs.length/\dC sz xs=true then some (.vs ((xs.drop l).take (h-l)) (oq t xs.length l h)) else none)
 /\(∀{n l h:Nat},oq .ao n l h= .ao)
 /\(∀{ρ:Env} {id:Nat} {x:aq},gV (.box x) ρ id=if(x.ev ρ).cells.all AV.one then some (.cells (x.ev ρ).cells, .ptr id 0) else none)
 /\(∀{ρ:Env} {id:Nat} {z:List AV},gV (.alloc z) ρ id=some (.cells z, .ptr id 0))
 /\(∀{ρ:Env} {id:Nat} {z:List AV} {b:Nat} {l c:aq},gV (.um z b l c) ρ id=(kG b (l.ev ρ) (c.ev ρ)).map fun n=>(.cells (List.replicate n z).flatten, .rs id 0 n z.length))
 /\(∀{ρ:Env} {id n:Nat} {z:List AV} {ps:List (Nat×aq)},gV (.BO n z ps) ρ id=(iA ρ z.length (List.replicate n z) ps).map fun rows=>(.cells rows.flatten, .rs id 0 n z.length))
 /\(∀{ρ:Env} {id:Nat},gV .uF ρ id=some (.map [], .map (some id)))
 /\(∀{ρ:Env} {id sz:Nat} {h:aa} {a v:aq},bR (.store sz a v) ρ id h=wy sz h (a.ev ρ) (v.ev ρ))
 /\(∀{ρ:Env} {id:Nat} {h:aa} {m k v:aq},bR (.qX m k v) ρ id h=GJ h (m.ev ρ) (k.ev ρ) (v.ev ρ))
 /\(∀{ρ:Env} {id:Nat} {h:aa} {m k:aq},bR (.sR m k) ρ id h=GK h (m.ev ρ) (k.ev ρ))
 /\(∀{h:aa} {b:Nat} {kd:IntKind} {n:Int} {v:AV},GJ h (.map (some b)) (.int kd n) v=(mapOf h b).bind fun es=>(qY (.int kd n) v.strip es).map fun aV=>(.undef,h.set b (some (.map aV))))
 /\(∀{h:aa} {b:Nat} {kd:IntKind} {n:Int},GK h (.map (some b)) (.int kd n)=(mapOf h b).bind fun es=>(qZ (.int kd n) es).map fun aV=>(.ay [],h.set b (some (.map aV))))
 /\(∀{ρ:Env} {id bytes sz:Nat} {h:aa} {x y:aq},bR (.append bytes sz x y) ρ id h=mA bytes sz id h (x.ev ρ) (cQ sz h (y.ev ρ)))
 /\(∀{sz:Nat} {h:aa} {xs:List (List AV)} {t:aH},cQ sz h (.vs xs t)=if dC sz xs=true then some xs else none)
 /\(∀{sz:Nat},dC sz []=true)
 /\(∀{sz:Nat} {r:List AV} {rs:List (List AV)},(dC sz (r::rs)=true)↔r.length=sz)
 /\(∀{h:aa} {id j:Nat} {cs:List AV},mapOf (h.at id (.cells cs)) j=if j=id then none else mapOf h j)
 /\(∀{h:aa} {id j:Nat} {cs:List AV},mapOf (h.set id (some (.cells cs))) j=if j=id then none else mapOf h j))
 /\((∀{h:aa} {id j:Nat} {es:List (AV×AV)},mapOf (h.at id (.map es)) j=if j=id then some es else mapOf h j)
 /\(∀{h:aa} {id j:Nat} {es:List (AV×AV)},mapOf (h.set id (some (.map es))) j=if j=id then some es else mapOf h j)
 /\(∀{h:aa} {n b:Nat},mapOf (h.clean n) b=if b<h.next then mapOf h b else none)
 /\(∀{ρ:Env} {h:aa} {x:aq},aX (.ti x) ρ h=(vk (x.ev ρ)).map fun(n:Nat)=>AV.int .i64 n)
 /\(∀{ρ:Env} {h:aa} {x i:aq},aX (.y6 x i) ρ h=BI (x.ev ρ) (i.ev ρ))
 /\(∀{ρ:Env} {h:aa} {sz:Nat} {x y:aq},aX (.pg sz x y) ρ h=vf sz h (x.ev ρ) (y.ev ρ))
 /\(vk .bA=some 0)
 /\(∀{xs:List (List AV)},vk (.vs xs .full)=some xs.length)
 /\(∀{b o n s c:Nat},vk (.rk b o n s c)=some c)
 /\(∀{b o n s c:Nat},gH (.rk b o n s c)=some n)
 /\(∀{b o n s c:Nat},AV.one (.rk b o n s c)=true)
 /\(∀{b o n s c:Nat},AV.cells (.rk b o n s c)=[.rk b o n s c])
 /\(∀{s:ByteArray} {k:IntKind} {i:Int},BI (.str s) (.int k i)=if 0<=i then(s[i.toNat]?).map fun b=>AV.int .u8 b.toNat else none)
 /\(∀{ρ:Env} {sz b off len aN cap:Nat} {lo hi mx:Option aq},iO ρ sz (.rk b off len aN cap) lo hi mx=(cJ ρ len hi).bind fun h=>(cJ ρ 0 lo).bind fun l=>(cJ ρ cap mx).bind fun m=>if l<=h/\h<=m/\m<=cap/\aN=sz/\(mx.isSome->hi.isSome) then(if m=l then some (.vs [] .full) else some (.rk b (off+l*sz) (h-l) sz (m-l))) else none)
 /\(∀{sz b off len aN cap:Nat} {h:aa},cQ sz h (.rk b off len aN cap)=if aN=sz then(cellsOf h b).bind fun cs=>if off+len*sz<=cs.length then some (rowsOf cs off sz len) else none else none)
 /\(∀{sz n b off len aN cap:Nat} {h:aa},oL sz n h (.rk b off len aN cap)=if aN=sz/\n<=len then(cellsOf h b).bind fun cs=>if off+n*sz<=cs.length then some (rowsOf cs off sz n) else none else none)
 /\(∀{sz n:Nat} {h:aa} {xs:List (List AV)} {t:aH},oL sz n h (.vs xs t)=if dC sz xs=true then some (xs.take n) else none)
 /\(∀{ρ:Env} {id bytes sz:Nat} {h:aa} {x y:aq},bR (.jS bytes sz x y) ρ id h=fF bytes sz id h (x.ev ρ) (cQ sz h (y.ev ρ))))
 /\((∀{ρ:Env} {id bytes:Nat} {z:List AV} {h:aa} {x n:aq},bR (.oA bytes z x n) ρ id h=u2 bytes z id h (x.ev ρ) (n.ev ρ))
 /\(∀{ρ:Env} {id sz:Nat} {h:aa} {x y:aq},bR (.nf sz x y) ρ id h=wF sz h (x.ev ρ) (y.ev ρ))
 /\(∀{ρ:Env} {id:Nat} {h:aa} {x:aq},bR (.mark x) ρ id h=PF h (x.ev ρ))
 /\(∀{ρ:Env} {id:Nat} {z:List AV} {h:aa} {x:aq},bR (.oJ z x) ρ id h=BM z h (x.ev ρ))
 /\(gH .vz=some 0)
 /\(∀{sz:Nat} {h:aa},cQ sz h .vz=some [])
 /\(∀{sz:Nat} {h:aa},cQ sz h .bA=some [])
 /\(iw 1 .vz=some false)
 /\(∀{b o n s c:Nat},iw 1 (.rk b o n s c)=some false)
 /\(∀{tb:Bool} {k:IntKind} {a b:Int},cB tb .add (.int k a) (.int k b)=some (.int k (k.wrap (a+b))))
 /\(∀{tb:Bool} {k:IntKind} {a b:Int},cB tb .sub (.int k a) (.int k b)=some (.int k (k.wrap (a-b))))
 /\(∀{tb:Bool} {k:IntKind} {a b:Int},cB tb .mul (.int k a) (.int k b)=some (.int k (k.wrap (a*b))))
 /\(∀{tb:Bool} {k:IntKind} {a b:Int},cB tb .quo (.int k a) (.int k b)=if b=0 then none else some (.int k (k.wrap (a.tdiv b))))
 /\(∀{tb:Bool} {k:IntKind} {a b:Int},cB tb .rem (.int k a) (.int k b)=if b=0 then none else some (.int k (a.tmod b)))
 /\(∀{tb:Bool} {k:IntKind} {a b:Int},cB tb .eql (.int k a) (.int k b)=some (.bool (decide (a=b))))
 /\(∀{tb:Bool} {k:IntKind} {a b:Int},cB tb .lss (.int k a) (.int k b)=some (.bool (decide (a<b))))
 /\(∀{tb:Bool} {k:IntKind} {a b:Int},cB tb .leq (.int k a) (.int k b)=some (.bool (decide (a<=b))))
 /\(∀{tb:Bool} {k:IntKind} {a b:Int},cB tb .gtr (.int k a) (.int k b)=some (.bool (decide (b<a)))))
 /\((∀{tb:Bool} {k:IntKind} {a b:Int},cB tb .geq (.int k a) (.int k b)=some (.bool (decide (b<=a))))
 /\(∀{tb:Bool} {k:IntKind} {a b:Int},cB tb .neq (.int k a) (.int k b)=some (.bool (decide (¬a=b))))
 /\(∀{a b:Bool},cB true .eql (.bool a) (.bool b)=some (.bool (a==b)))
 /\(∀{a b:Bool},cB true .neq (.bool a) (.bool b)=some (.bool (!(a==b))))
 /\(∀{tb:Bool} {k k':IntKind} {a b:Int},cB tb .shl (.int k a) (.int k' b)=if b<0 then none else some (.int k (k.wrap (a*2^(min b.toNat k.bits)))))
 /\(∀{tb:Bool} {k k':IntKind} {a b:Int},cB tb .shr (.int k a) (.int k' b)=if b<0 then none else some (.int k (a.fdiv (2^(min b.toNat k.bits)))))
 /\(∀{b:Bool},Bi .not (.bool b)=some (.bool !b))
 /\(∀{k:IntKind} {n:Int},Bi .neg (.int k n)=some (.int k (k.wrap (0-n))))
 /\(∀{k k':IntKind} {n:Int},BQ k (.int k' n)=some (.int k (k.wrap n)))
 /\(∀{c:Bool} {a b:AV},H5 (.bool c) a b=some (if c=true then a else b))
 /\(∀{xs:List (List AV)} {t:aH},gH (.vs xs t)=some xs.length)
 /\(gH .bA=some 0)
 /\(∀{b o n s:Nat},gH (.rs b o n s)=some n)
 /\(∀{sz:Nat} {xs:List (List AV)} {t:aH} {k:IntKind} {i:Int},m5 sz (.vs xs t) (.int k i)=if 0<=i then(xs[i.toNat]?).bind (fun row=>if row.length=sz then some (.vp row 0) else none) else none)
 /\(∀{sz b off len aN:Nat} {k:IntKind} {i:Int},m5 sz (.rs b off len aN) (.int k i)=if 0<=i then(if aN=sz/\i<len then some (.ptr b (off+i.toNat*sz)) else none) else none)
 /\(∀{sz len b o:Nat} {k:IntKind} {i:Int},yW sz len (.ptr b o) (.int k i)=if 0<=i/\i<len then some (.ptr b (o+i.toNat*sz)) else none)
 /\(∀{sz len o:Nat} {xs:List AV} {k:IntKind} {i:Int},yW sz len (.vp xs o) (.int k i)=if 0<=i/\i<len then some (.vp xs (o+i.toNat*sz)) else none)
 /\(∀{ag:Bool} {sz len:Nat} {cs:List AV} {k:IntKind} {i:Int},CU ag sz len (.agg cs) (.int k i)=if 0<=i/\i<len then cut ag sz (i.toNat*sz) cs else none))
 /\((∀{off b o:Nat},y9 off (.ptr b o)=some (.ptr b (o+off)))
 /\(∀{off o:Nat} {xs:List AV},y9 off (.vp xs o)=some (.vp xs (o+off)))
 /\(∀{ag:Bool} {sz off:Nat} {cs:List AV},Et ag sz off (.agg cs)=cut ag sz off cs)
 /\(∀{sz off:Nat} {cs:List AV},cut false sz off cs=cs[off]?)
 /\(∀{sz off:Nat} {cs:List AV},cut true sz off cs=if off+sz<=cs.length then some (.agg ((cs.drop off).take sz)) else none)
 /\(∀{ag:Bool} {sz:Nat} {h:aa} {b o:Nat},j0 ag sz h (.ptr b o)=(cellsOf h b).bind (cut ag sz o))
 /\(∀{ag:Bool} {sz:Nat} {h:aa} {xs:List AV} {o:Nat},j0 ag sz h (.vp xs o)=cut ag sz o xs)
 /\(∀{sz:Nat} {h:aa} {b o:Nat} {v:AV},wy sz h (.ptr b o) v=(cellsOf h b).bind fun cs=>if v.cells.length=sz/\o+sz<=cs.length/\v.cells.all AV.one=true then some (.undef,h.set b (some (.cells (di cs o v.cells)))) else none)
 /\(∀{i:Nat} {vs:List AV},Eu i (.ay vs)=vs[i]?)
 /\(∀{b o:Nat},notNil (.ptr b o)=some (.ptr b o))
 /\(∀{xs:List AV} {o:Nat},notNil (.vp xs o)=some (.vp xs o))
 /\(∀{f:Nat} {a b:List AV},notNil (.fn f a b)=some (.fn f a b))
 /\(∀{cs:List AV},AV.cells (.agg cs)=cs)
 /\(∀{k:IntKind} {n:Int},AV.cells (.int k n)=[.int k n])
 /\(∀{b:Bool},AV.cells (.bool b)=[.bool b])
 /\(∀{b o:Nat},AV.cells (.ptr b o)=[.ptr b o])
 /\(∀{xs:List (List AV)} {t:aH},AV.cells (.vs xs t)=[.vs xs t])
 /\(∀{b o n s:Nat},AV.cells (.rs b o n s)=[.rs b o n s]))
 /\((∀{m:Option Nat},AV.cells (.map m)=[.map m])
 /\(∀{f:Nat} {a b:List AV},AV.cells (.fn f a b)=[.fn f a b])
 /\(AV.cells .nil=[.nil])
 /\(AV.cells .bA=[.bA])
 /\(AV.cells .fw=[.fw])
 /\(∀{k:IntKind} {n:Int},AV.one (.int k n)=true)
 /\(∀{b:Bool},AV.one (.bool b)=true)
 /\(∀{b o:Nat},AV.one (.ptr b o)=true)
 /\(∀{xs:List (List AV)} {t:aH},AV.one (.vs xs t)=true)
 /\(∀{b o n s:Nat},AV.one (.rs b o n s)=true)
 /\(∀{m:Option Nat},AV.one (.map m)=true)
 /\(∀{f:Nat} {a b:List AV},AV.one (.fn f a b)=true)
 /\(AV.one .nil=true)
 /\(AV.one .bA=true)
 /\(AV.one .fw=true)
 /\(∀{h:aa} {b:Nat} {cs:List AV},h.get b=some (.cells cs)->cellsOf h b=some cs)
 /\(∀{h:aa} {id j:Nat} {cs:List AV},cellsOf (h.at id (.cells cs)) j=if j=id then some cs else cellsOf h j)
 /\(∀{h:aa} {id j:Nat} {cs:List AV},cellsOf (h.set id (some (.cells cs))) j=if j=id then some cs else cellsOf h j))
 /\((∀{h:aa} {id j:Nat},cellsOf (h.at id .tail) j=if j=id then none else cellsOf h j)
 /\(∀{h:aa} {id j:Nat} {es:List (AV×AV)},cellsOf (h.at id (.map es)) j=if j=id then none else cellsOf h j)
 /\(∀{h:aa} {id j:Nat} {es:List (AV×AV)},cellsOf (h.set id (some (.map es))) j=if j=id then none else cellsOf h j)
 /\(∀{h:aa} {id j:Nat},cellsOf (h.set id none) j=if j=id then none else cellsOf h j)
 /\(∀{h:aa} {id j:Nat} {b:cI},(h.at id b).get j=if j=id then some b else h.get j)
 /\(∀{h:aa} {id j:Nat} {b:Option cI},(h.set id b).get j=if j=id then b else h.get j)
 /\(∀{h:aa} {id:Nat} {b:cI},(h.at id b).next=max h.next (id+1))
 /\(∀{h:aa} {id:Nat} {b:Option cI},(h.set id b).next=h.next)
 /\(∀{ρ:Env} {x:AV} {mx:Bool},ow mx ρ x []=some x)
 /\(∀{ρ:Env} {x:AV} {mx:Bool} {y:aq} {ys:List aq},ow mx ρ x (y::ys)=(pQ mx x (y.ev ρ)).bind fun z=>ow mx ρ z ys)
 /\(∀{k:IntKind} {a b:Int},pQ true (.int k a) (.int k b)=some (.int k (max a b)))
 /\(∀{k:IntKind} {a b:Int},pQ false (.int k a) (.int k b)=some (.int k (min a b)))
 /\(∀{ρ:Env} {z:List AV},jX ρ z []=some z)
 /\(∀{ρ:Env} {z:List AV} {off sz:Nat} {x:aq} {ps:List (Nat×Nat×aq)},jX ρ z ((off,sz,x)::ps)=if(x.ev ρ).cells.length=sz/\off+sz<=z.length/\(x.ev ρ).cells.all AV.one=true then jX ρ (di z off (x.ev ρ).cells) ps else none)
 /\(∀{ρ:Env} {sz:Nat} {z:List (List AV)},iA ρ sz z []=some z)
 /\(∀{ρ:Env} {sz i:Nat} {z:List (List AV)} {x:aq} {ps:List (Nat×aq)},iA ρ sz z ((i,x)::ps)=if(x.ev ρ).cells.length=sz/\i<z.length/\(x.ev ρ).cells.all AV.one=true then iA ρ sz (z.set i (x.ev ρ).cells) ps else none)
 /\(∀{rs:List fI} {r:AV} {h1:aa} {ρ:Env} {h:aa},Is rs r h1 .normal ρ h↔(dD ρ h rs).map eO=some r/\h=h1)
 /\(∀{rs:List fI} {r:AV} {h1:aa} {ρ:Env} {h:aa},Is rs r h1 .ret ρ h↔(dD ρ h rs).map eO=some r/\h=h1))
 /\((∀{rs:List fI} {r:AV} {h1:aa} {ρ:Env} {h:aa},Ig rs r h1 .normal ρ h↔(dD ρ h rs).map eO=some r/\ ∀b,b<h1.next->h.get b=h1.get b)
 /\(∀{rs:List fI} {r:AV} {h1:aa} {ρ:Env} {h:aa},Ig rs r h1 .ret ρ h↔(dD ρ h rs).map eO=some r/\ ∀b,b<h1.next->h.get b=h1.get b)
 /\(iw 0 .nil=some true)
 /\(∀{b o:Nat},iw 0 (.ptr b o)=some false)
 /\(∀{o:Nat} {xs:List AV},iw 0 (.vp xs o)=some false)
 /\(iw 1 .bA=some true)
 /\(∀{b o n s:Nat},iw 1 (.rs b o n s)=some false)
 /\(iw 2 .jm=some true)
 /\(∀{f:Nat} {a c:List AV},iw 2 (.fn f a c)=some false)
 /\(iw 3 (.map none)=some true)
 /\(∀{b:Nat},iw 3 (.map (some b))=some false)
 /\(∀{ρ:Env} {h:aa},dD ρ h []=some [])
 /\(∀{ρ:Env} {h:aa} {t:Nat} {rs:List fI},dD ρ h (.tmp t::rs)=(dD ρ h rs).map (ρ t:: ·))
 /\(∀{ρ:Env} {h:aa} {t sz:Nat} {ag:Bool} {rs:List fI},dD ρ h (.cell t ag sz::rs)=(j0 ag sz h (ρ t)).bind fun v=>(dD ρ h rs).map (v:: ·))
 /\(eO []= .ay [])
 /\(∀{v:AV},eO [v]=v)
 /\(∀{v u:AV} {l:List AV},eO (v::u::l)= .ay (v::u::l))
 /\(∀{as:List AV} {i:Nat},gF as i=as.getD i (.ay [])))
 /\((∀{a:AV} {l:List AV} {d:AV},(a::l).getD 0 d=a)
 /\(∀{a:AV} {l:List AV} {d:AV} {i:Nat},(a::l).getD (i+1) d=l.getD i d)
 /\(∀{α β:Type} {f:α->Option β} {a:α},(some a).bind f=f a)
 /\(∀{α β:Type} {f:α->β} {a:α},(some a).map f=some (f a))
 /\(∀{α:Type} {a b:α},(some a=some b)↔a=b)
 /\(∀{α:Type} {a:α},(some a=none)↔False)
 /\(∀{α:Type} {a:α},(none=some a)↔False)
 /\(∀{α β:Type} {a c:α} {b d:β},((a,b)=(c,d))↔a=c/\b=d)
 /\(∀{α:Type} {p:α->Prop} {a:α},(∃x,a=x/\p x)↔p a)
 /\(∀{α β:Type} {p:α->β->Prop} {a:α} {b:β},(∃x y,(a=x/\b=y)/\p x y)↔p a b)
 /\(∀{n:Nat},(0<=(n:Int))↔True)
 /\(∀{n:Nat},(n:Int).toNat=n)
 /\(∀{n:Nat},((n:Int)<0)↔False)
 /\(∀{a b:Nat},((a:Int)<(b:Int))↔a<b)
 /\(∀{a b:Nat},((a:Int)<=(b:Int))↔a<=b)
 /\(∀{a b:Nat},((a:Int)=(b:Int))↔a=b)
 /\(∀{α:Type} {a:α} {l:List α},(a::l)[0]? =some a)
 /\(∀{α:Type} {a:α} {l:List α} {i:Nat},(a::l)[i+1]? =l[i]?))
 /\((∀{α:Type} {a:α} {l:List α},(a::l).length=l.length+1)
 /\(∀{α:Type},([]:List α).length=0)
 /\(∀{p:AV->Bool} {a:AV} {l:List AV},(a::l).all p=(p a&&l.all p))
 /\(∀{p:AV->Bool},([]:List AV).all p=true)
 /\(∀{α:Type} {l:List α},List.take 0 l=[])
 /\(∀{α:Type} {a:α} {l:List α} {n:Nat},List.take (n+1) (a::l)=a::List.take n l)
 /\(∀{α:Type} {l:List α},List.drop 0 l=l)
 /\(∀{α:Type} {a:α} {l:List α} {n:Nat},List.drop (n+1) (a::l)=List.drop n l)
 /\(∀{α:Type} {l:List α},l++[]=l)
 /\(∀{α:Type} {l:List α},[]++l=l)
 /\(∀{α:Type} {a:α} {l m:List α},(a::l)++m=a::(l++m))
 /\(∀{cs vs:List AV} {off:Nat},di cs off vs=cs.take off++vs++cs.drop (off+vs.length))
 /\(∀{p:Prop},(p/\True)↔p)
 /\(∀{p:Prop},(True/\p)↔p)
 /\(∀{p:Prop},(p/\False)↔False)
 /\(∀{p:Prop},(False/\p)↔False)
 /\(∀{p q r:Prop},((p/\q)/\r)↔p/\q/\r)
 /\(∀{p:Prop} [Decidable p],(decide p=true)↔p))
 /\((∀{p:Prop} [Decidable p],(decide p=false)↔ ¬p)
 /\(∀{α:Sort 1} {p:Prop} [Decidable p] {a b:α},(if¬p then a else b)=if p then b else a)
 /\(∀{α:Sort 1} {a b:α},(if True then a else b)=a)
 /\(∀{α:Sort 1} {a b:α},(if False then a else b)=b)
 /\(∀{p:Prop},¬ ¬p↔p)
 /\((¬True)↔False)
 /\((¬False)↔True)
 /\((false=true)↔False)
 /\((true=false)↔False)
 /\((!true)=false)
 /\((!false)=true)
 /\(∀{b:Bool},(true&&b)=b)
 /\(∀{b:Bool},(b&&true)=b)
 /\(∀{b:Bool},((!b)=true)↔b=false)
 /\(∀{b:Bool},((!b)=false)↔b=true)
 /\(∀{a b:Bool},((a&&b)=true)↔a=true/\b=true)
 /\(∀{α:Type} {a:α},(a=a)↔True)
 /\(((0:Nat):Int)=0))
 /\((((1:Nat):Int)=1)
 /\(∀{n:Nat},max n (n+1)=n+1)
 /\(∀{n:Nat},0+n=n)
 /\(∀{n:Nat},n+0=n)
 /\(∀{n:Nat},(n<=n)↔True)
 /\(∀{p q r:Prop},(p/\q->r)↔(p->q->r))
 /\(∀{p:Prop},(False->p)↔True)
 /\(∀{p:Prop},(True->p)↔p)
 /\(∀{p:Prop},(p->True)↔True)
 /\(∀{α:Type},(α->True)↔True)
 /\(decide True=true)
 /\(decide False=false)):=⟨⟨Zt,
  ame,
  ann,
  anm,
  aqX,
  uE,
  sV,
  ano,
  auM,
  auN,
  amf,
  by intros;rfl,
  by intros;rfl,
  by intros;rfl,
  by intros;rfl,
  by intros;rfl,
  by intros;rfl,
  by intros;rfl⟩,
  ⟨by intros;rfl,
  by intros;rfl,
  by intros;rfl,
  by intros;rfl,
  by intros;rfl,
  Iff.rfl,
  ao5,
  ajx,
  ao7,
  ajz,
  ao6,
  ajy,
  ahM,
  ajw,
  alN,
  alQ,
  alO,
  alP⟩,
  ⟨akB,
  Iff.rfl,
  av0,
  av5,
  av3,
  av4,
  av1,
  as4,
  ao8,
  apc,
  apb,
  apf,
  ao9,
  apd,
  apa,
  ape,
  amN,
  amO⟩,
  ⟨alS,
  alU,
  alT,
  Iff.rfl,
  av8,
  as5,
  awa,
  av6,
  av7,
  av9,
  by intros;simp[pz,gK],
  by intros;simp[pz,gK],
  by intros;simp[pA,gK],
  by intros;simp[pA,gK],
  by intros;simp[pz,gK],
  by intros;simp[pz,gK],
  by intros;simp[pA,gK],
  by intros;simp[pA,gK]⟩,
  ⟨by intros;simp[pz,gK],
  by intros;simp[pA,gK],
  alW,
  alD,
  by intros;rfl,
  by intros;rfl,
  alV,
  alX,
  Iff.rfl,
  Iff.rfl,
  by intros;rfl,
  aiE,
  by intros;rfl,
  by intros;rfl,
  by intro h n b;unfold cellsOf aa.clean;by_cases e:b<h.next<;>simp[e],
  by intros;rfl,
  by intros;rfl,
  by intros;rfl⟩,
  ⟨by intros;rfl,
  by intros;rfl,
  by intros;rfl,
  by intros;rfl,
  by intros;rfl,
  by intros;rfl,
  by intros;rfl,
  by intros;rfl,
  by intros;rfl,
  by intros;rfl,
  by intros;rfl,
  by intros;rfl,
  by intros;rfl,
  by intros;rfl,
  by intros;rfl,
  by intros;rfl,
  by intros;rfl,
  by intros;rfl⟩,
  ⟨by intros;rfl,
  by intros;rfl,
  by intros;rfl,
  by intros;rfl,
  by intros;rfl,
  by intros;rfl,
  by intros;rfl,
  by intros;rfl,
  by intros;rfl,
  by intros;rfl,
  by intros;rfl,
  by intros;rfl,
  by intros;rfl,
  by intros;rfl,
  by intros;rfl,
  by intros;rfl,
  aiM,
  by intros;rfl⟩,
  ⟨akN,
  by intros;rfl,
  by intros;rfl,
  by intros;rfl,
  by intros;rfl,
  by intros;rfl,
  by intros;rfl,
  by intros;rfl,
  by intros;rfl,
  by intros;rfl,
  ahV,
  ahW,
  aiR,
  by intros;rfl,
  by intros;rfl,
  by simp[dC],
  by intro h id j cs;unfold mapOf aa.at;by_cases e:j=id<;>simp[e],
  by intro h id j cs;unfold mapOf aa.set;by_cases e:j=id<;>simp[e]⟩,
  ⟨by intro h id j es;unfold mapOf aa.at;by_cases e:j=id<;>simp[e],
  by intro h id j es;unfold mapOf aa.set;by_cases e:j=id<;>simp[e],
  by intro h n b;unfold mapOf aa.clean;by_cases e:b<h.next<;>simp[e],
  by intros;rfl,
  by intros;rfl,
  by intros;rfl,
  by intros;rfl,
  by intros;rfl,
  by intros;rfl,
  by intros;rfl,
  by intros;rfl,
  by intros;rfl,
  by intros;rfl,
  akO,
  ali,
  alh,
  by intros;rfl,
  yC⟩,
  ⟨ah6,
  ajO,
  akR,
  aiQ,
  by intros;rfl,
  by intros;rfl,
  by intros;rfl,
  by intros;rfl,
  by intros;rfl,
  by intros;simp[cB,ki],
  by intros;simp[cB,ki],
  by intros;simp[cB,ki],
  by intros;simp[cB,ki],
  by intros;simp[cB,ki],
  by intros;simp[cB,ki]<;>rfl,
  by intros;simp[cB,ki]<;>rfl,
  by intros;simp[cB,ki]<;>rfl,
  by intros;simp[cB,ki]<;>rfl⟩,
  ⟨by intros;simp[cB,ki]<;>rfl,
  by intros tb k a b;simp only[cB,ki,if_true];by_cases h:a=b<;>simp[h],
  by intros;rfl,
  by intros;rfl,
  by intros;rfl,
  by intros;rfl,
  by intros;rfl,
  by intros;rfl,
  by intros;rfl,
  by intros;rfl,
  by intros;rfl,
  by intros;rfl,
  by intros;rfl,
  by intros sz xs t k i;simp only[m5];by_cases hi:0<=i<;>simp only[hi,if_true,if_false]<;>cases xs[i.toNat]?<;>rfl,
  by intros;rfl,
  by intros;rfl,
  by intros;rfl,
  by intros;rfl⟩,
  ⟨by intros;rfl,
  by intros;rfl,
  by intros;rfl,
  by intros;rfl,
  by intros;rfl,
  by intros;rfl,
  by intros;rfl,
  by intros sz h b o v;simp only[wy];cases cellsOf h b<;>rfl,
  by intros;rfl,
  by intros;rfl,
  by intros;rfl,
  by intros;rfl,
  by intros;rfl,
  by intros;rfl,
  by intros;rfl,
  by intros;rfl,
  by intros;rfl,
  by intros;rfl⟩,
  ⟨by intros;rfl,
  by intros;rfl,
  by intros;rfl,
  by intros;rfl,
  by intros;rfl,
  by intros;rfl,
  by intros;rfl,
  by intros;rfl,
  by intros;rfl,
  by intros;rfl,
  by intros;rfl,
  by intros;rfl,
  by intros;rfl,
  by intros;rfl,
  by intros;rfl,
  by intros h b cs e;simp[cellsOf,e],
  by intro h id j cs;unfold cellsOf aa.at;by_cases e:j=id<;>simp[e],
  by intro h id j cs;unfold cellsOf aa.set;by_cases e:j=id<;>simp[e]⟩,
  ⟨by intro h id j;unfold cellsOf aa.at;by_cases e:j=id<;>simp[e],
  by intro h id j es;unfold cellsOf aa.at;by_cases e:j=id<;>simp[e],
  by intro h id j es;unfold cellsOf aa.set;by_cases e:j=id<;>simp[e],
  by intro h id j;unfold cellsOf aa.set;by_cases e:j=id<;>simp[e],
  by intros;rfl,
  by intros;rfl,
  by intros;rfl,
  by intros;rfl,
  by intros;rfl,
  by intros;rfl,
  by intros k a b;simp only[pQ,if_true];congr 2;simp only[Int.max_def,gt_iff_lt];split<;>split<;>omega,
  by intros k a b;simp only[pQ,if_true,Bool.false_eq_true,if_false];congr 2;simp only[Int.min_def];split<;>split<;>omega,
  by intros;rfl,
  by intros;rfl,
  by intros;rfl,
  by intros;rfl,
  Iff.rfl,
  Iff.rfl⟩,
  ⟨Iff.rfl,
  Iff.rfl,
  by intros;rfl,
  by intros;rfl,
  by intros;rfl,
  by intros;rfl,
  by intros;rfl,
  by intros;rfl,
  by intros;rfl,
  by intros;rfl,
  by intros;rfl,
  by intros;rfl,
  by intro ρ h t rs;simp only[dD,y4];cases dD ρ h rs<;>rfl,
  by intro ρ h t sz ag rs;simp only[dD,y4];cases j0 ag sz h (ρ t)<;>cases dD ρ h rs<;>rfl,
  by intros;rfl,
  by intros;rfl,
  by intros;rfl,
  by intros;rfl⟩,
  ⟨by intros;rfl,
  by intros;rfl,
  by intros;rfl,
  by intros;rfl,
  by intros;exact Option.some_inj,
  by intros;simp,
  by intros;simp,
  by intros;simp,
  by intros;simp,
  by intro α β p a b;exact⟨fun⟨_,_,⟨e1,e2⟩,h⟩=>by subst e1;subst e2;exact h,fun h=>⟨_,_,⟨rfl,rfl⟩,h⟩⟩,
  by intros;simp,
  by intros;simp,
  by intros;simp,
  by intros;omega,
  by intros;omega,
  by intros;omega,
  by intros;rfl,
  by intros;rfl⟩,
  ⟨by intros;simp,
  by intros;rfl,
  by intros;simp,
  by intros;rfl,
  by intros;simp,
  by intros;simp,
  by intros;simp,
  by intros;simp,
  by intros;simp,
  by intros;simp,
  by intros;simp,
  by intros;rfl,
  by intros;simp,
  by intros;simp,
  by intros;simp,
  by intros;simp,
  by intros;exact and_assoc,
  by intros;exact decide_eq_true_iff⟩,
  ⟨by intros;exact decide_eq_false_iff_not,
  by intros;simp,
  by intros;exact if_pos trivial,
  by intros;exact if_neg id,
  by intros;exact Classical.not_not,
  by intros;exact not_true,
  by intros;exact not_false_iff,
  by intros;simp,
  by intros;simp,
  by intros;rfl,
  by intros;rfl,
  by intros;simp,
  by intros;simp,
  by intros;simp,
  by intros;simp,
  by intros;simp,
  by intros;simp,
  by intros;rfl⟩,
  ⟨by intros;rfl,
  by intros;omega,
  by intros;exact Nat.zero_add _,
  by intros;exact Nat.add_zero _,
  by intros;simp,
  by intros;exact and_imp,
  by intros;simp,
  by intros;simp,
  by intros;simp,
  by intros;simp,
  by intros;rfl,
  by intros;rfl⟩⟩
end
section
open Go
section
variable {P:Program}
theorem aiD {t:TypeId} {k:IntKind} {f:Nat} {as:List AV} (hu:P.underlying t=some (.int k)) (h:Hd P f t as): ∃n,as=[.int k n]/\(Lit.int k n).wf=true:=by
 cases f with
 |zero=>exact h.elim
 |succ f=>unfold Hd at h;rw[hu] at h;exact h
theorem ZI {t:TypeId} {k:IntKind} {a:AV} (hu:P.underlying t=some (.int k)) (h:v5 P t a): ∃n,a= .int k n/\(Lit.int k n).wf=true:=by
 obtain⟨f,h⟩:=h.als hu rfl
 obtain⟨n,h1,h2⟩:=aiD hu h
 cases h1
 exact⟨n,rfl,h2⟩
theorem aqZ {n:Int} (h:(Lit.int .u8 n).wf=true):0<=n/\n<256:=by
 have h1:IntKind.min .u8=0:=rfl
 have h2:IntKind.max .u8=255:=by decide
 simp[Lit.wf,h1,h2] at h
 omega
theorem axb {t:TypeId} {a:AV} (hu:P.underlying t=some (.int .u8)) (h:v5 P t a): ∃n:Nat,n<256/\a= .int .u8 n:=by
 obtain⟨n,rfl,h2⟩:=ZI hu h
 have:=aqZ h2
 exact⟨n.toNat,by omega,by rw[Int.toNat_of_nonneg this.1]⟩
end
end
section
open Go
section
variable {P:Program}
theorem an.strip {f:Nat} {args:List AV} {h h':aa} {r:AV} (hc:an P f args h r h'):an P f args h r.strip h':=by
 intro ι I w bC H hl
 refine(hc ι I w bC H hl).mono ?_
 rintro e w' ⟨v,ι',I',rfl,hv,H',E⟩
 exact⟨v,ι',I',rfl,hv.strip,H',E⟩
theorem an.freeze {f:Nat} {args:List AV} {h h':aa} {r:AV} (hc:an P f args h r h') {b:Nat} {cs:List AV} (hg:h'.get b=some (.cells cs)) (hb:h.next<=b)
 (hr:(AV.dQ b cs r).bD (fun i=>i !=b)=true):an P f args h (AV.dQ b cs r) (h'.set b none):=by
 intro ι I w bC H hl
 refine(hc ι I w bC H hl).mono ?_
 rintro e w' ⟨v,ι',I',rfl,hv,H',E⟩
 cases bP:ι' b with
 |none=>
  have jr:VR ι' I' w' (AV.dQ b cs r) v:=by
   clear hr hc
   induction hv with
   |rs b' off len sz fY o' me cap h1 h2 h3=>
    unfold AV.dQ
    by_cases kU:b'=b
    ·subst kU;rw[bP] at h1;cases h1
    ·rw[if_neg kU];exact .rs b' off len sz fY o' me cap h1 h2 h3
   |rk b' off len sz cap fY o' me h1 h2 h3=>
    unfold AV.dQ
    by_cases kU:b'=b
    ·rw[if_pos kU];exact .undef _
    ·rw[if_neg kU];exact .rk b' off len sz cap fY o' me h1 h2 h3
   |agg xs rW hl hv ih=>exact .agg _ _ (by rw[BD];exact hl) (fun i v c h1 h2=>by obtain⟨u,e1,rfl⟩:=BE h1;exact ih i u c e1 h2)
   |ay xs rW hl hv ih=>exact .ay _ _ (by rw[BD];exact hl) (fun i v c h1 h2=>by obtain⟨u,e1,rfl⟩:=BE h1;exact ih i u c e1 h2)
   |vs xs t fY o' s cap g hs hI hc hv h1 bu ht ih=>exact .vs xs t fY o' s cap g hs hI hc hv h1 bu ht
   |gw t ht=>exact .gw t ht
   |gn t a cap ht=>exact .gn t a cap ht
   |undef v=>exact .undef v
   |int k n=>exact .int k n
   |bool b=>exact .bool b
   |fU k b=>exact .fU k b
   |fX k a b=>exact .fX k a b
   |str s=>exact .str s
   |nil=>exact .nil
   |ptr b off cb o room h=>exact .ptr b off cb o room h
   |vp xs off fY o' g hI hc hv h1 ih=>exact .vp xs off fY o' g hI hc hv h1
   |bA=>exact .bA
   |vz a cap=>exact .vz a cap
   |pT=>exact .pT
   |map b cb h=>exact .map b cb h
   |fn f fs cs eF bF hf hc h1 h2 fN jH=>exact .fn f fs cs eF bF hf hc h1 h2
   |jm=>exact .jm
   |fw v h=>exact .fw v h
  have aT: ∀i l x,ι' i=some l->(h'.set b none).get i=some x->h'.get i=some x:=fun i l x hi hx=>by
   have:i≠b:=fun e=>by rw[e,bP] at hi;cases hi
   simpa [aa.set,this] using hx
  refine⟨v,ι',I',rfl,jr,?_,?_⟩
  ·exact{cD:=H'.cD,inside:=H'.inside,cells:=fun i cs l hg hi=>H'.cells i cs l (aT i l _ hi hg) hi,maps:=fun i es l hg hi=>H'.maps i es l (aT i l _ hi hg) hi,eQ:=fun i l hg hi=>H'.eQ i l (aT i l _ hi hg) hi
         dm:=fun i j l l' x x' k j' aM hi hj hg cC=>H'.dm i j l l' x x' k j' aM hi hj (aT i l _ hi hg) (aT j l' _ hj cC)
         bn:=fun i l x k j hi hg=>H'.bn i l x k j hi (aT i l _ hi hg),dg:=H'.dg,pl:=fun i cs cb o room hg hi=>H'.pl i cs cb o room (aT i _ _ hi hg) hi}
  ·exact{E with
         own:=fun k j ⟨i,l,x,hi,hg,hl⟩=>E.own k j ⟨i,l,x,hi,aT i l _ hi hg,hl⟩
         lost:=fun i hn hi=>by
          have:i≠b:=by omega
          simp only[aa.set,this,if_false];exact E.lost i hn hi}
 |some l=>
  obtain⟨cb,o,room,rfl,_,_,_⟩:=H'.cells b cs l hg bP
  have jr:=hv.dQ H' hg bP
  have aT: ∀i x,(h'.set b none).get i=some x->i≠b/\h'.get i=some x:=fun i x hx=>by
   by_cases lV:i=b
   ·subst lV;simp[aa.set] at hx
   ·exact⟨lV,by simpa [aa.set,lV] using hx⟩
  have cq: ∀a c,VR ι' I' w' a c->VR ι' (rN I' cb o room) w' a c:=fun a c h=>h.mono (fun _ _ h=>h) (fun _ _ h=> .inl h) (fun _ _ _=>rfl)
  refine⟨v,ι',rN I' cb o room,rfl,jr,?_,?_⟩
  ·exact
   {cD:=H'.cD,inside:=H'.inside
    cells:=fun i cs l hg hi=>by
     obtain⟨fY,o',me,e1,e2,e3,e4⟩:=H'.cells i cs l (aT i _ hg).2 hi
     exact⟨fY,o',me,e1,e2,e3,fun j hj=>by obtain⟨c,g1,g2,g3⟩:=e4 j hj;exact⟨c,g1,g2,fun v hv=>cq _ _ (g3 v hv)⟩⟩
    maps:=fun i es l hg hi=>by
     obtain⟨fY,aV,clock,e1,e2,e3,e4⟩:=H'.maps i es l (aT i _ hg).2 hi
     exact⟨fY,aV,clock,e1,e2,e3,fun j k v e h1 h2=>⟨cq _ _ (e4 j k v e h1 h2).1,cq _ _ (e4 j k v e h1 h2).2⟩⟩
    eQ:=fun i l hg hi=>H'.eQ i l (aT i _ hg).2 hi
    dm:=fun i j l l' x x' k j' aM hi hj hg cC=>H'.dm i j l l' x x' k j' aM hi hj (aT i _ hg).2 (aT j _ cC).2
    bn:=fun i l x k j hi hg hl hk=>by
     rcases hk with hk|⟨rfl,h1,h2⟩
     ·exact H'.bn i l x k j hi (aT i _ hg).2 hl hk
     ·exact H'.dm i b l _ x _ k j (aT i _ hg).1 hi bP (aT i _ hg).2 ‹_› hl rfl
    dg:=fun k j hk=>by
     rcases hk with hk|⟨rfl,_,_⟩
     ·exact H'.dg k j hk
     ·exact H'.inside b _ bP
    pl:=fun i cs cb o room hg hi=>H'.pl i cs cb o room (aT i _ hg).2 hi}
  ·exact{E with
         bn:=fun k j h=> .inl (E.bn k j h)
         own:=fun k j ⟨i,l,x,hi,hg,hl⟩=>E.own k j ⟨i,l,x,hi,(aT i _ hg).2,hl⟩
         fQ:=fun k j hk=>by
          rcases hk with hk|⟨rfl,h1,h2⟩
          ·exact E.fQ k j hk
          ·rcases E.own k j ⟨b,_,_,bP,‹_›,rfl⟩ with h|h
           ·exact .inr (.inl h)
           ·exact .inr (.inr h)
         lost:=fun i hn hi=>by
          have:i≠b:=by omega
          simp only[aa.set,this,if_false];exact E.lost i hn hi}
end
end
section
open Go
section
variable {α:Type}
theorem yQ {sz:Nat}: ∀{rows:List (List α)},(∀r∈rows,r.length=sz)->rows.flatten.length=rows.length*sz
 |[],_=>by simp
 |r::rs,h=>by
  have h0:=h r (by simp)
  have:=yQ (rows:=rs) (fun x hx=>h x (List.mem_cons_of_mem _ hx))
  simp[h0,this,Nat.succ_mul,Nat.add_comm]
theorem uv {sz:Nat}: ∀{rows:List (List α)} {i j:Nat} {row:List α},(∀r∈rows,r.length=sz)->rows[i]? =some row->j<sz->rows.flatten[i*sz+j]? =row[j]?
 |[],i,j,row,_,h,_=>by simp at h
 |r::rs,0,j,row,hl,h,hj=>by
  have h0:=hl r (by simp)
  simp at h;subst h
  simp only[List.flatten_cons,Nat.zero_mul,Nat.zero_add]
  rw[List.getElem?_append_left (by omega)]
 |r::rs,i+1,j,row,hl,h,hj=>by
  have h0:=hl r (by simp)
  have ih:=uv (rows:=rs) (i:=i) (j:=j) (row:=row) (fun x hx=>hl x (List.mem_cons_of_mem _ hx)) (by simpa using h) hj
  simp only[List.flatten_cons]
  rw[List.getElem?_append_right (by rw[Nat.succ_mul];omega)]
  rw[show(i+1)*sz+j-r.length=i*sz+j by rw[Nat.succ_mul];omega]
  exact ih
theorem Yy {sz:Nat}: ∀{rows:List (List α)} {i:Nat} {row:List α},(∀r∈rows,r.length=sz)->rows[i]? =some row->(rows.flatten.drop (i*sz)).take sz=row
 |[],i,row,_,h=>by simp at h
 |r::rs,0,row,hl,h=>by
  have h0:=hl r (by simp)
  simp at h;subst h
  simp only[List.flatten_cons,Nat.zero_mul,List.drop_zero]
  rw[List.take_append_of_le_length (by omega),List.take_of_length_le (by omega)]
 |r::rs,i+1,row,hl,h=>by
  have h0:=hl r (by simp)
  have ih:=Yy (rows:=rs) (i:=i) (row:=row) (fun x hx=>hl x (List.mem_cons_of_mem _ hx)) (by simpa using h)
  simp only[List.flatten_cons]
  rw[show(i+1)*sz=r.length+i*sz by rw[Nat.succ_mul];omega,List.drop_append,List.drop_eq_nil_of_le (by omega),Nat.add_sub_cancel_left,List.nil_append]
  exact ih
theorem BF {sz:Nat}: ∀{rows:List (List α)} {i j:Nat} {row v:List α},(∀r∈rows,r.length=sz)->rows[i]? =some row->j+v.length<=sz->
 rows.flatten.take (i*sz+j)++v++rows.flatten.drop (i*sz+j+v.length)=(rows.set i (row.take j++v++row.drop (j+v.length))).flatten
 |[],i,j,row,v,_,h,_=>by simp at h
 |r::rs,0,j,row,v,hl,h,hj=>by
  have h0:=hl r (by simp)
  simp at h;subst h
  simp only[List.flatten_cons,Nat.zero_mul,Nat.zero_add,List.set_cons_zero]
  rw[List.take_append_of_le_length (by omega),List.drop_append_of_le_length (by omega)]
  simp[List.append_assoc]
 |r::rs,i+1,j,row,v,hl,h,hj=>by
  have h0:=hl r (by simp)
  have ih:=BF (rows:=rs) (i:=i) (j:=j) (row:=row) (v:=v) (fun x hx=>hl x (List.mem_cons_of_mem _ hx)) (by simpa using h) hj
  simp only[List.flatten_cons,List.set_cons_succ]
  rw[<-ih]
  have e1:(i+1)*sz+j=r.length+(i*sz+j):=by rw[Nat.succ_mul];omega
  rw[e1,List.take_append,List.take_of_length_le (by omega),Nat.add_sub_cancel_left]
  rw[show r.length+(i*sz+j)+v.length=r.length+(i*sz+j+v.length) by omega,List.drop_append,List.drop_eq_nil_of_le (by omega),Nat.add_sub_cancel_left]
  simp[List.append_assoc]
end
section
variable {P:Program}
theorem ax.calls {T:fq} (ok:ax P T) {f:Nat} {rf:az} (hf:T.fn f=some rf) {args:List AV} (dZ:args.length<=rf.ntmps)
 {h h1:aa} {r:AV} (hw:WP P rf.code (Is rf.results r h1) (gF args) h):an P f args h r h1:=by
 obtain⟨fn,md,h2,h3⟩:=ok.fn f rf hf
 exact ah7 ok.follow h2 h3 dZ hw
theorem ax.keeps {T:fq} (ok:ax P T) {f:Nat} {rf:az} (hf:T.fn f=some rf) {args:List AV} (dZ:args.length<=rf.ntmps)
 {h:aa} {r:AV} (hr:r.bD (fun b=>decide (b<h.next))=true) (hw:WP P rf.code (Ig rf.results r h) (gF args) h):an P f args h r h:=by
 obtain⟨fn,md,h2,h3⟩:=ok.fn f rf hf
 exact aiS ok.follow h2 h3 dZ hr hw
theorem av {h:aa} {b:Nat} {cs:List AV} (e:h.get b=some (.cells cs)):cellsOf h b=some cs:=by simp[cellsOf,e]
theorem aa.gv {h:aa} {b:Nat} {x:Option cI} (e:h.get b=x):h.set b x=h:=by
 unfold aa.set
 have:(fun i=>if i=b then x else h.get i)=h.get:=by funext i;by_cases hi:i=b<;>simp[hi,e]
 rw[this]
theorem BG {al:List RO} {ρ:Env} {h:aa} {K:Env->aa->Prop} (Q:Env->Prop) (h1:exec P al ρ h (fun ρ' h'=>Q ρ'/\h'=h)) (h2: ∀ρ',Q ρ'->K ρ' h):exec P al ρ h K:=
 LI (fun ρ' h' ⟨e1,e2⟩=>by rw[e2];exact h2 ρ' e1) h1
def uJ (rs:List fI) (r:AV) (h0:aa):aP->Env->aa->Prop
 | .normal,ρ,h=> ∃r0,(dD ρ h rs).map eO=some r0/\r0.strip=r/\ ∀b,b<h0.next->h.get b=h0.get b
 | .ret,ρ,h=> ∃r0,(dD ρ h rs).map eO=some r0/\r0.strip=r/\ ∀b,b<h0.next->h.get b=h0.get b
 |_,_,_=>False
theorem bB {rs:List fI} {r:AV} {h0:aa} {ρ:Env} {h:aa}:uJ rs r h0 .ret ρ h↔ ∃r0,(dD ρ h rs).map eO=some r0/\r0.strip=r/\ ∀b,b<h0.next->h.get b=h0.get b:=Iff.rfl
theorem ax.eH {T:fq} (ok:ax P T) {f:Nat} {rf:az} (hf:T.fn f=some rf) {args:List AV} (dZ:args.length<=rf.ntmps)
 {h:aa} {r:AV} (hr:r.bD (fun b=>decide (b<h.next))=true) (hw:WP P rf.code (uJ rf.results r h) (gF args) h):an P f args h r h:=by
 obtain⟨fn,md,h2,h3⟩:=ok.fn f rf hf
 obtain⟨e,ρ',h',hb,hk⟩:=hw
 cases e with
 |normal=>
  obtain⟨r0,hv,hs,hh⟩:=hk
  obtain⟨vs,hv,ht⟩:=Option.map_eq_some_iff.1 hv
  have:=(mU ok.follow h2 h3 dZ hb (.inl rfl) hv).strip
  rw[ht,hs] at this
  exact this.restore hh hr
 |ret=>
  obtain⟨r0,hv,hs,hh⟩:=hk
  obtain⟨vs,hv,ht⟩:=Option.map_eq_some_iff.1 hv
  have:=(mU ok.follow h2 h3 dZ hb (.inr rfl) hv).strip
  rw[ht,hs] at this
  exact this.restore hh hr
 |exit id=>exact hk.elim
 |goto l=>exact hk.elim
def uO (rs:List fI) (r:AV) (Q:aa->Prop):aP->Env->aa->Prop
 | .ret,ρ,h=>(dD ρ h rs).map eO=some r/\Q h
 | .normal,ρ,h=>(dD ρ h rs).map eO=some r/\Q h
 |_,_,_=>False
theorem jO {rs:List fI} {r:AV} {Q:aa->Prop} {ρ:Env} {h:aa}:uO rs r Q .ret ρ h↔(dD ρ h rs).map eO=some r/\Q h:=Iff.rfl
theorem V4 {rs:List fI} {r:AV} {Q:aa->Prop} {ρ:Env} {h:aa}:uO rs r Q .normal ρ h↔(dD ρ h rs).map eO=some r/\Q h:=Iff.rfl
theorem ax.dT {T:fq} (ok:ax P T) {f:Nat} {rf:az} (hf:T.fn f=some rf) {args:List AV} (dZ:args.length<=rf.ntmps) {h:aa} {r:AV} {Q:aa->Prop}
 (hw:WP P rf.code (uO rf.results r Q) (gF args) h): ∃h',an P f args h r h'/\Q h':=by
 obtain⟨fn,md,h2,h3⟩:=ok.fn f rf hf
 obtain⟨e,ρ',h',hb,hk⟩:=hw
 cases e with
 |normal=>
  obtain⟨hv,hq⟩:=hk
  obtain⟨vs,qq,rfl⟩:=Option.map_eq_some_iff.1 hv
  exact⟨h',mU ok.follow h2 h3 dZ hb (.inl rfl) qq,hq⟩
 |ret=>
  obtain⟨hv,hq⟩:=hk
  obtain⟨vs,qq,rfl⟩:=Option.map_eq_some_iff.1 hv
  exact⟨h',mU ok.follow h2 h3 dZ hb (.inr rfl) qq,hq⟩
 |exit id=>exact hk.elim
 |goto l=>exact hk.elim
theorem aiY {c body:aW} {K:aP->Env->aa->Prop} (l:Nat) (hf:fZ c l=some (.seq .skip body)) (J:Nat->Env->aa->Prop) (dF: ∀l' ρ h,K (.goto l') ρ h->False)
 (pass: ∀n ρ h,J n ρ h->WP P body (jW l (fun ρ' h'=> ∃m,m<n/\J m ρ' h') K) ρ h) {n:Nat} {ρ:Env} {h:aa} (hJ:J n ρ h):WP P body (jW l (fun ρ' h'=> ∃m,J m ρ' h') K) ρ h:=
 (pass n ρ h hJ).mono (fun e ρ h hk=>by
   cases e with
   |goto l'=>
    simp only[jW] at hk ⊢
    split at hk
    ·rename_i hl;rw[if_pos hl];obtain⟨m,_,hm⟩:=hk;exact⟨m,hm⟩
    ·rename_i hl;rw[if_neg hl];exact hk
   |normal=>exact hk
   |exit id=>exact hk
   |ret=>exact hk)
theorem amh {body:aW} {K:aP->Env->aa->Prop} {l:Nat} {J:Nat->Env->aa->Prop} (pass: ∀n ρ h,J n ρ h->WP P body (jW l (fun ρ' h'=> ∃m,m<n/\J m ρ' h') K) ρ h):
 ∀n ρ h,J n ρ h->WP P (.seq .skip body) (jW l (fun ρ' h'=> ∃m,m<n/\J m ρ' h') K) ρ h:=fun n ρ h hJ=>GB (XU (pass n ρ h hJ))
def FX:aW->Nat->Option (List aW×aW)
 | .seq a b,l=>match a with
   | .label l'=>match Nat.beq l' l with
     |true=>some ([],b)
     |false=>none
   |a=>match FX b l with
    |some (i,c)=>some (a::i,c)
    |none=>none
 |_,_=>none
def Mc (l:Nat) (inits:List aW):Bool:=inits.all fun c=>(fZ c l).isNone
def j8 (inits:List aW):aW:=inits.foldr .seq .skip
theorem VH {l:Nat} {body:aW}: ∀{inits:List aW} {c:aW},FX c l=some (inits,body)->Mc l inits=true->fZ c l=some (.seq .skip body)/\c=inits.foldr .seq (.seq (.label l) body)
 |inits, .seq a b,hs,hn=>by
  unfold FX at hs
  split at hs
  ·split at hs
   ·rename_i l' hb
    cases hs
    have:=Nat.eq_of_beq_eq_true hb
    subst this
    exact⟨by simp[fZ],rfl⟩
   ·cases hs
  ·rename_i aM
   split at hs
   ·rename_i i c vG
    cases hs
    simp only[Mc,List.all_cons,Bool.and_eq_true] at hn
    obtain⟨h1,h2⟩:=VH (inits:=i) (c:=b) vG hn.2
    refine⟨?_,by rw[h2];rfl⟩
    simp only[fZ]
    rw[Option.isNone_iff_eq_none.1 hn.1,h1]
   ·cases hs
theorem l8 {c body:aW} {inits:List aW} {K:aP->Env->aa->Prop} {ρ:Env} {h:aa} (l:Nat) (hs:FX c l=some (inits,body)) (hn:Mc l inits=true) (J:Nat->Env->aa->Prop) (dF: ∀l' ρ h,K (.goto l') ρ h->False)
 (first:WP P (j8 inits) (jl (fun ρ' h'=> ∃n,J n ρ' h') K) ρ h) (pass: ∀n ρ h,J n ρ h->WP P body (jW l (fun ρ' h'=> ∃m,m<n/\J m ρ' h') K) ρ h):WP P (.scope c) K ρ h:=by
 obtain⟨hf,hc⟩:=VH hs hn
 refine ahN l hf J dF ?_ (amh pass)
 rw[hc]
 clear hs hn hc
 induction inits generalizing ρ h with
 |nil=>
  obtain⟨n,hJ⟩:=(Zt.1 first: ∃n,J n ρ h)
  exact GB (Xh (aiY l hf J dF pass hJ))
 |cons a i ih=>
  have ao4:WP P a (jl (WP P (j8 i) (jl (fun ρ' h'=> ∃n,J n ρ' h') K)) (jl (fun ρ' h'=> ∃n,J n ρ' h') K)) ρ h:=sV.1 first
  refine GB (ao4.mono (fun e ρ h hk=>?_))
  cases e with
  |normal=>exact ih hk
  |goto l'=>exact(dF l' ρ h hk).elim
  |exit id=>exact hk
  |ret=>exact hk
theorem bH {n:Int} (h0: -(2^62)<=n) (h1:n<2^62):IntKind.wrap .i64 n=n:=by
 rw[IntKind.wrap_i64];omega
theorem ry {n:Nat} (h1:n<2^62):IntKind.wrap .i64 (n:Int)=n:=bH (by omega) (by omega)
theorem dv {n:Nat} (h1:n<2^61):IntKind.wrap .i64 ((n:Int)+1)=((n+1:Nat):Int):=by rw[bH]<;>omega
theorem fk {n:Nat} (h1:n<2^64):IntKind.wrap .u64 (n:Int)=n:=by
 rw[IntKind.wrap];simp[IntKind.signed,IntKind.bits];omega
end
end
section
open Go
abbrev t (n:Nat):aq:= .tmp n
abbrev z (n:Int):aq:= .const (.int .i64 n)
abbrev kb (b:Bool):aq:= .const (.bool b)
abbrev u8 (n:Int):aq:= .const (.int .u8 n)
abbrev u16 (n:Int):aq:= .const (.int .u16 n)
abbrev u64 (n:Int):aq:= .const (.int .u64 n)
abbrev p (d:Nat) (q:bc):RO:=⟨some d,none, .p q⟩
abbrev m (d s:Nat):RO:=⟨some d,none, .p (.aj (.tmp s))⟩
abbrev b (d:Nat) (op:BinOp) (x y:aq):RO:=⟨some d,none, .p (.bin false op x y)⟩
abbrev fa (d off s:Nat):RO:=⟨some d,none, .p (.zH off (.tmp s))⟩
abbrev ld (d s:Nat):RO:=⟨some d,none, .p (.load false 1 (.tmp s))⟩
abbrev la (d n s:Nat):RO:=⟨some d,none, .p (.load true n (.tmp s))⟩
abbrev ia (d n s i:Nat):RO:=⟨some d,none, .p (.gU n (.tmp s) (.tmp i))⟩
abbrev ln (d s:Nat):RO:=⟨some d,none, .p (.gX (.tmp s))⟩
abbrev ex (d i s:Nat):RO:=⟨some d,none, .p (.ext i (.tmp s))⟩
abbrev gp (d g:Nat) (w:Bool) (q:bc):RO:=⟨some d,some (g,w), .p q⟩
abbrev gm (d g:Nat) (w:Bool) (s:Nat):RO:=⟨some d,some (g,w), .p (.aj (.tmp s))⟩
abbrev gb (d g:Nat) (w:Bool) (op:BinOp) (x y:aq):RO:=⟨some d,some (g,w), .p (.bin false op x y)⟩
abbrev bZ (d g:Nat) (w:Bool) (off s:Nat):RO:=⟨some d,some (g,w), .p (.zH off (.tmp s))⟩
abbrev bL (d g:Nat) (w:Bool) (s:Nat):RO:=⟨some d,some (g,w), .p (.load false 1 (.tmp s))⟩
abbrev py (d g:Nat) (w:Bool) (n s i:Nat):RO:=⟨some d,some (g,w), .p (.gU n (.tmp s) (.tmp i))⟩
abbrev gc (d g:Nat) (w:Bool) (f:Nat) (as:List aq):RO:=⟨some d,some (g,w), .call f as⟩
abbrev s1 (a v:aq):RO:=⟨none,none, .e (.store 1 a v)⟩
abbrev sn (n:Nat) (a v:aq):RO:=⟨none,none, .e (.store n a v)⟩
abbrev c (d f:Nat) (as:List aq):RO:=⟨some d,none, .call f as⟩
abbrev c0 (f:Nat) (as:List aq):RO:=⟨none,none, .call f as⟩
abbrev e (d:Nat) (o:gu):RO:=⟨some d,none, .e o⟩
abbrev a (d:Nat) (o:jN):RO:=⟨some d,none, .a o⟩
end
section
open Go
variable {P:Program} {T:fq} {h:aa}
def m4 (z:List AV) (iY sz:Nat):az:=⟨(.seq (.af [p 2 (.aj (.const (.vs [] .full)))]) (.seq (.seq (.af [m 3 0,p 4 (.eZ 1 false (t 3))]) (.cond (t 4) (.seq (.af [p 2 (.aj (.const (.vs [] .full)))]) .ret) .skip)) (.seq (.af [p 5 (.da 0 z []),m 6 0,e 7 (.append iY sz (t 5) (t 6)),m 2 7]) .ret))),8,[.tmp 2]⟩
theorem ajB (ok:ax P T) {f iY sz:Nat} {z:List AV} (hf:T.fn f=some (m4 z iY sz)):an P f [.bA] h (.vs [] .full) h:=by
 refine ok.calls hf (by simp[m4]) ?_
 simp+decide only[st,m4]
theorem al3 (ok:ax P T) {f iY sz:Nat} {z:List AV} (hf:T.fn f=some (m4 z iY sz)):an P f [.vz] h (.vs [] .full) h:=by
 refine ok.calls hf (by simp[m4]) ?_
 have h0:iA (put (put (put (put (gF [AV.vz]) (some 2) (.vs [] .full)) (some 3) .vz) (some 4) (.bool false)) none .undef) z.length (List.replicate 0 z) []=some []:=rfl
 simp+decide only[st,m4,iA,List.replicate_zero,mA]
theorem an.vs0 {f:Nat} {as:List AV} {r:AV} {h':aa} (t:aH) (h1:an P f (.bA::as) h r h') (h2:an P f (.vz::as) h r h'):an P f (.vs [] t::as) h r h':=by
 intro ι I w bC H hl
 have h0:0<bC.toList.length:=by rw[<-hl.1];simp
 obtain⟨c,cs,eN⟩: ∃c cs,bC.toList=c::cs:=by
  cases hq:bC.toList with
  |nil=>rw[hq] at h0;simp at h0
  |cons c cs=>exact⟨c,cs,rfl⟩
 have hv:VR ι I w (.vs [] t) c:=hl.2 0 _ _ rfl (by rw[eN];rfl)
 have go: ∀a,VR ι I w a c->LR ι I w (a::as) bC.toList:=fun a ha=>⟨by rw[<-hl.1];rfl,fun i v u hi hu=>by
  cases i with
  |zero=>simp at hi;subst hi;rw[eN] at hu;simp at hu;subst hu;exact ha
  |succ i=>exact hl.2 (i+1) v u (by simpa using hi) hu⟩
 generalize hx:AV.vs [] t=x at hv
 cases hv<;>first|(cases hx;done)|skip
 case gw t' ht=>exact h1 ι I w bC H (go _ .bA)
 case gn t' a cap ht=>exact h2 ι I w bC H (go _ (.vz a cap))
 case vs xs t' cb o s cap g hs hI hc cT cS bu ht=>
  cases hx
  exact h2 ι I w bC H (go _ (.vz _ cap))
theorem Li (ok:ax P T) {f iY sz:Nat} {z:List AV} (hf:T.fn f=some (m4 z iY sz)) {t:aH}:an P f [.vs [] t] h (.vs [] .full) h:=
 .vs0 t (ajB ok hf) (al3 ok hf)
theorem Lu (ok:ax P T) {f iY sz:Nat} {z:List AV} (hf:T.fn f=some (m4 z iY sz)) {x:AV} {rows:List (List AV)} (hx:iw 1 x=some false) (hr:cQ sz h x=some rows) (aM:rows≠[])
 (h1:rows.length*iY<2^40) (h2:rows.length<2^40):an P f [x] h (.vs rows (.own h.next)) (h.at h.next .tail):=by
 refine ok.calls hf (by simp[m4]) ?_
 have ha:mA iY sz h.next h (.vs [] .full) (some rows)=some (.vs rows (.own h.next),h.at h.next .tail):=by
  simp only[mA,List.nil_append,List.length_nil,Nat.zero_add]
  rw[if_neg aM,if_pos ⟨rfl,h1,h2⟩]
 simp+decide only[st,m4,iA,List.replicate_zero,hx,hr,ha]
theorem an.agY {f b off n sz:Nat} {as:List AV} {r:AV} {h':aa} (hc: ∀cap,n<=cap->an P f (.rk b off n sz cap::as) h r h'):an P f (.rs b off n sz::as) h r h':=by
 intro ι I w bC H hl
 have h0:0<bC.toList.length:=by rw[<-hl.1];simp
 obtain⟨c,cs,eN⟩: ∃c cs,bC.toList=c::cs:=by
  cases hq:bC.toList with
  |nil=>rw[hq] at h0;simp at h0
  |cons c cs=>exact⟨c,cs,rfl⟩
 have hv:VR ι I w (.rs b off n sz) c:=hl.2 0 _ _ rfl (by rw[eN];rfl)
 have go: ∀a,VR ι I w a c->LR ι I w (a::as) bC.toList:=fun a ha=>⟨by rw[<-hl.1];rfl,fun i v u hi hu=>by
  cases i with
  |zero=>simp at hi;subst hi;rw[eN] at hu;simp at hu;subst hu;exact ha
  |succ i=>exact hl.2 (i+1) v u (by simpa using hi) hu⟩
 cases hv
 rename_i cb o room cap h1 h2 h3
 exact hc cap h2 ι I w bC H (go _ (.rk b off n sz cap cb o room h1 h2 h3))
def jq (h:aa) (b:Nat) (cs:List AV):aa:=((h.set b none).clean 19).at (h.next+19) (.cells cs)
theorem an.fin {f b o0 n m c sz sz0:Nat} {a0 r0:AV} {as:List AV} {cs:List AV} {h1:aa} (j:Nat) (hc:an P f (a0::as) h r0 h1) (ha:a0= .rs b o0 n sz0\/ ∃cap,a0= .rk b o0 n sz0 cap) (hr:r0= .rs c 0 m sz\/ ∃cap,r0= .rk c 0 m sz cap)
 (hg:h1.get c=some (.cells cs)) (du:c=b\/h.next<=c) (hn:h1.next<=h.next+19) (hk: ∀x,x<h.next->x≠b->h1.get x=h.get x):
 an P f (a0::as) h (.rs (h.next+19) 0 m sz) (jq h b (cs.take j)):=by
 intro ι I w bC H hl
 have h0:0<bC.toList.length:=by rw[<-hl.1];simp
 have J9:VR ι I w a0 bC.toList[0]:=hl.2 0 _ _ rfl (List.getElem?_eq_getElem h0)
 have Ks: ∃l,ι b=some l:=by
  generalize bC.toList[0]=c at J9
  rcases ha with rfl|⟨cap,rfl⟩<;>(cases J9;exact⟨_,by assumption⟩)
 obtain⟨l0,vP⟩:=Ks
 refine(hc ι I w bC H hl).mono ?_
 rintro e w' ⟨v,ι',I',rfl,hv,H',E⟩
 have xD: ∃cb o room cap,ι' c=some (.cells cb o room)/\m<=cap/\0+cap*sz<=room/\v= .slice (some ⟨cb,o+0,none⟩) m cap:=by
  rcases hr with rfl|⟨cap,rfl⟩<;>(cases hv;exact⟨_,_,_,_,by assumption,by assumption,by assumption,rfl⟩)
 obtain⟨cb,o,room,cap,e1,e2,e3,rfl⟩:=xD
 obtain⟨_,_,_,xD,eY,cS,bt⟩:=H'.cells c cs _ hg e1
 cases xD
 have Kv:ι' (h.next+19)=none:=by
  cases hq:ι' (h.next+19) with
  |none=>rfl
  |some l=>have:=H'.cD _ l hq;omega
 have aT: ∀x y,((h.set b none).clean 19).get x=some y->x<h.next/\x≠b/\h1.get x=some y:=fun x y hx=>by
  by_cases aD:x<h.next
  ·by_cases aM:x=b
   ·simp[aa.clean,aa.set,aM] at hx
   ·have nJ:h.get x=some y:=by simpa [aa.clean,aa.set,aD,aM] using hx
    exact⟨aD,aM,by rw[hk x aD aM];exact nJ⟩
  ·have mv: ¬x<(h.set b none).next:=aD
   simp[aa.clean,mv] at hx
 have gZ:((h.set b none).clean 19).next=h.next+19:=rfl
 have HB:HR ι' I' ((h.set b none).clean 19) w':=H'.CO (fun i l hi=>by have:=H'.cD i l hi;omega) (fun i l x hi hx=>(aT i x hx).2.2)
 have aE:cb<w'.heap.size:=H'.inside c _ e1
 have H3:=HB.xd (id:=h.next+19) (l:= .cells cb o room) (x:= .cells (cs.take j)) (fun l' br=>by rw[Kv] at br;cases br) aE
  ⟨by simp;omega,fun v hv=>cS v (List.mem_of_mem_take hv),fun j' hj=>(by
    obtain⟨u,g1,g2,g3⟩:=bt j' hj
    refine⟨u,g1,g2,fun v hv=>g3 v ?_⟩
    rw[List.getElem?_take] at hv
    split at hv
    ·exact hv
    ·cases hv),H'.pl c cs cb o room hg e1⟩
  (fun k' j' br=>⟨fun⟨i,l',y,hi,dX,iU⟩=>by
    obtain⟨q1,q2,q3⟩:=aT i y dX
    exact H'.dm i c l' _ y _ k' j' (by omega) hi e1 q3 hg iU br,H'.bn c _ _ k' j' e1 hg br⟩)
 refine⟨_,_,I',rfl,?_,H3,?_⟩
 ·exact .rs (h.next+19) 0 m sz cb o room cap (aG.gv _ _ _) e2 e3
 ·refine{eJ:=fun i hi=>?_,bN:=fun i l hi=>?_,next:=by simp[jq,aa.at,aa.set,aa.clean];omega,bn:=E.bn,os:=E.os,tape:=E.tape,output:=E.output,size:=E.size,block:=E.block,cell:=E.cell,frozen:=E.frozen,own:=?_,fQ:=E.fQ,lost:=?_}
  ·rw[aG.fi _ _ (by omega)];exact E.eJ i hi
  ·have:=E.bN i l hi
   rw[aG.fi _ _ (fun he=>by rw[he,Kv] at this;cases this)];exact this
  ·rintro k' j' ⟨i,l,x,hi,dX,br⟩
   by_cases iu:i=h.next+19
   ·subst iu;rw[aG.gv] at hi;cases hi
    exact E.own k' j' ⟨c,_,_,e1,hg,br⟩
   ·rw[aG.fi _ _ iu] at hi
    have Er:((h.set b none).clean 19).get i=some x:=by simpa [jq,aa.at,iu] using dX
    exact E.own k' j' ⟨i,l,x,hi,(aT i x Er).2.2,br⟩
  ·intro i hi vi
   have lV:i≠b:=fun he=>by rw[he,vP] at vi;cases vi
   have hih: ¬i=h.next+19:=by omega
   have aD:i<h.next:=by omega
   simp[jq,aa.at,aa.clean,aa.set,hih,lV,aD]
theorem bU {al:List RO} {un:List (List Nat)} {K:aP->Env->aa->Prop} {ρ:Env} (n:Nat) (hn:al.length=n) (hu:un.all (·.isEmpty)=true) (he:bV P n h.next al 0 ρ (h.clean n) (K .normal)):WP P (.aY al un) K ρ h:=by
 subst hn
 exact GA hu he
end
end Go.Proofs.YtljapedlkdfafaaGreat.Am
