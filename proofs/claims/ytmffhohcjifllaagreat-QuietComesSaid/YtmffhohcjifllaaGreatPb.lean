/- An abstract machine, and that what it does the program's model does. Conditions: none. -/
import Derived.Test.YtmffhohcjifllaaGreatPa
set_option maxRecDepth 100000
set_option maxHeartbeats 8000000
set_option linter.unusedSimpArgs false
set_option linter.unusedVariables false
set_option linter.unnecessarySimpa false
namespace Go.Proofs.YtmffhohcjifllaaGreat.Am
section
open Go
section
variable {P:Program} {md:Mode} {ι:aI} {I:aR} {h:aa} {w:World}
theorem alC {dst:Option Nat} {op:Op} {r:bU} (hc:sB P md dst op=some r) (hr:(∃f as,r= .call f as)\/ ∃x as,r= .dyn x as):
 ∃c x,op= .call c/\c.callee= .value x/\
  ((∃f as,r= .call f as/\x= .func f/\bZ P f=true/\mN md.pr c.args.toList=some as)\/
   ∃ox as,r= .dyn ox as/\bd md.pr x=some ox/\mN md.pr c.args.toList=some as):=by
 have hn: ∀q,r= .p q->False:=by rintro q rfl;rcases hr with⟨_,_,h⟩|⟨_,_,h⟩<;>cases h
 have iY: ∀q,r= .a q->False:=by rintro q rfl;rcases hr with⟨_,_,h⟩|⟨_,_,h⟩<;>cases h
 have aM: ∀q,r= .e q->False:=by rintro q rfl;rcases hr with⟨_,_,h⟩|⟨_,_,h⟩<;>cases h
 unfold sB at hc
 split at hc
 case h_25 c=>
  split at hc
  ·rename_i f hf
   split at hc
   ·rename_i xM
    simp only[Option.bind_eq_bind,Option.bind_eq_some_iff] at hc
    obtain⟨as,has,hc⟩:=hc
    cases hc
    exact⟨c,_,rfl,hf, .inl ⟨f,as,rfl,rfl,xM,has⟩⟩
   ·cases hc
  ·rename_i x pO hx
   simp only[Option.bind_eq_bind,Option.bind_eq_some_iff] at hc
   obtain⟨ox,bh,as,has,hc⟩:=hc
   cases hc
   exact⟨c,x,rfl,hx, .inr ⟨ox,as,rfl,bh,has⟩⟩
  ·rename_i b hb
   exfalso
   unfold wR at hc
   split at hc<;>try simp only[Option.bind_eq_bind,Option.bind_eq_some_iff] at hc
   ·obtain⟨_,_,_,_,hc⟩:=hc;split at hc<;>first|(exact hn _ (Option.some.inj hc).symm)|(cases hc)
   ·obtain⟨_,_,_,_,_,_,_,_,hc⟩:=hc
    split at hc
    ·simp only[Option.bind_eq_some_iff] at hc
     obtain⟨_,_,_,_,hc⟩:=hc
     split at hc
     ·split at hc<;>exact aM _ (Option.some.inj hc).symm
     ·cases hc
    ·cases hc
   ·obtain⟨_,_,_,_,_,_,_,_,hc⟩:=hc
    split at hc
    ·simp only[Option.bind_eq_some_iff] at hc;obtain⟨_,_,hc⟩:=hc;exact aM _ (Option.some.inj hc).symm
    ·cases hc
   ·obtain⟨_,_,_,_,_,_,hc⟩:=hc
    split at hc
    ·simp only[Option.bind_eq_some_iff] at hc;obtain⟨_,_,hc⟩:=hc;split at hc<;>first|(exact aM _ (Option.some.inj hc).symm)|(cases hc)
    ·cases hc
   ·obtain⟨_,_,_,_,hc⟩:=hc;exact hn _ (Option.some.inj hc).symm
   ·obtain⟨_,_,_,_,hc⟩:=hc;exact hn _ (Option.some.inj hc).symm
   ·obtain⟨_,_,hc⟩:=hc;exact hn _ (Option.some.inj hc).symm
   ·obtain⟨_,_,hc⟩:=hc;exact hn _ (Option.some.inj hc).symm
   ·cases hc
  ·cases hc
 all_goals exfalso
 case h_7 t n parts=>
  simp only[Option.bind_eq_bind,Option.bind_eq_some_iff] at hc
  obtain⟨d,hd,hc⟩:=hc
  split at hc
  ·simp only[Option.bind_eq_some_iff] at hc
   obtain⟨_,_,_,_,hc⟩:=hc
   split at hc
   ·split at hc<;>first|(exact hn _ (Option.some.inj hc).symm)|(exact iY _ (Option.some.inj hc).symm)
   ·cases hc
  ·cases hc
 case h_13 src Vp x=>
  simp only[Option.bind_eq_bind,Option.bind_eq_some_iff] at hc
  obtain⟨ox,bh,ds,wv,dd,pV,hc⟩:=hc
  split at hc
  ·first|(exact hn _ (Option.some.inj hc).symm)|(exact aM _ (Option.some.inj hc).symm)|(cases hc;done)
  ·simp only[Option.bind_eq_some_iff] at hc
   obtain⟨de,mD,hc⟩:=hc
   split at hc<;>first|(exact hn _ (Option.some.inj hc).symm)|(exact aM _ (Option.some.inj hc).symm)|(cases hc;done)
  ·simp only[Option.bind_eq_some_iff] at hc
   obtain⟨de,mD,hc⟩:=hc
   split at hc<;>first|(exact hn _ (Option.some.inj hc).symm)|(exact aM _ (Option.some.inj hc).symm)|(cases hc;done)
  ·simp only[Option.bind_eq_some_iff] at hc
   obtain⟨de,mD,hc⟩:=hc
   split at hc
   ·split at hc<;>first|(exact hn _ (Option.some.inj hc).symm)|(exact aM _ (Option.some.inj hc).symm)|(cases hc;done)
   ·cases hc
  ·cases hc
 case h_16 t l c=>
  simp only[Option.bind_eq_bind,Option.bind_eq_some_iff] at hc
  obtain⟨d,hd,hc⟩:=hc
  split at hc
  ·simp only[Option.bind_eq_some_iff] at hc
   obtain⟨_,_,_,_,hc⟩:=hc
   split at hc
   ·simp only[Option.bind_eq_some_iff] at hc
    obtain⟨_,_,_,_,hc⟩:=hc
    split at hc<;>first|(exact hn _ (Option.some.inj hc).symm)|(exact iY _ (Option.some.inj hc).symm)
   ·cases hc
  ·cases hc
 all_goals (first
  |(first|(exact hn _ (Option.some.inj hc).symm)|(exact iY _ (Option.some.inj hc).symm)|(exact aM _ (Option.some.inj hc).symm)|(cases hc;done))
  |(simp only[Option.bind_eq_bind,Option.bind_eq_some_iff] at hc
    first
    |(obtain⟨_,_,hc⟩:=hc;first|(exact hn _ (Option.some.inj hc).symm)|(exact iY _ (Option.some.inj hc).symm)|(exact aM _ (Option.some.inj hc).symm)|(cases hc;done))
    |(obtain⟨_,_,_,_,hc⟩:=hc;first|(exact hn _ (Option.some.inj hc).symm)|(exact iY _ (Option.some.inj hc).symm)|(exact aM _ (Option.some.inj hc).symm)|(cases hc;done))
    |(obtain⟨_,_,_,_,_,_,hc⟩:=hc;first|(exact hn _ (Option.some.inj hc).symm)|(exact iY _ (Option.some.inj hc).symm)|(exact aM _ (Option.some.inj hc).symm)|(cases hc;done))
    |(obtain⟨_,_,hc⟩:=hc
      split at hc<;>first
       |(first|(exact hn _ (Option.some.inj hc).symm)|(exact iY _ (Option.some.inj hc).symm)|(exact aM _ (Option.some.inj hc).symm)|(cases hc;done))
       |(simp only[Option.bind_eq_some_iff] at hc
         first
         |(obtain⟨_,_,_,_,_,_,hc⟩:=hc;first|(exact hn _ (Option.some.inj hc).symm)|(exact iY _ (Option.some.inj hc).symm)|(exact aM _ (Option.some.inj hc).symm)|(cases hc;done))
         |(obtain⟨_,_,_,_,_,_,_,_,hc⟩:=hc;first|(exact hn _ (Option.some.inj hc).symm)|(exact iY _ (Option.some.inj hc).symm)|(exact aM _ (Option.some.inj hc).symm)|(cases hc;done))
         |(obtain⟨_,_,_,_,_,_,_,_,_,_,hc⟩:=hc;first|(exact hn _ (Option.some.inj hc).symm)|(exact iY _ (Option.some.inj hc).symm)|(exact aM _ (Option.some.inj hc).symm)|(cases hc;done))
         |(obtain⟨_,_,_,_,hc⟩:=hc;first|(exact hn _ (Option.some.inj hc).symm)|(exact iY _ (Option.some.inj hc).symm)|(exact aM _ (Option.some.inj hc).symm)|(cases hc;done))
         |(obtain⟨_,_,_,_,hc⟩:=hc
           split at hc
           ·simp only[Option.bind_eq_some_iff] at hc;obtain⟨_,_,hc⟩:=hc;first|(exact hn _ (Option.some.inj hc).symm)|(exact iY _ (Option.some.inj hc).symm)|(exact aM _ (Option.some.inj hc).symm)
           ·first|(exact hn _ (Option.some.inj hc).symm)|(exact iY _ (Option.some.inj hc).symm)|(exact aM _ (Option.some.inj hc).symm)|(cases hc))
         |(obtain⟨_,_,hc⟩:=hc
           split at hc<;>first
            |(first|(exact hn _ (Option.some.inj hc).symm)|(exact iY _ (Option.some.inj hc).symm)|(exact aM _ (Option.some.inj hc).symm)|(cases hc;done))
            |(simp only[Option.bind_eq_some_iff] at hc
              first
              |(obtain⟨_,_,_,_,_,_,_,_,_,_,hc⟩:=hc;first|(exact hn _ (Option.some.inj hc).symm)|(exact iY _ (Option.some.inj hc).symm)|(exact aM _ (Option.some.inj hc).symm)|(cases hc;done))
              |(obtain⟨_,_,_,_,_,_,hc⟩:=hc;first|(exact hn _ (Option.some.inj hc).symm)|(exact iY _ (Option.some.inj hc).symm)|(exact aM _ (Option.some.inj hc).symm)|(cases hc;done))))))
    |(obtain⟨_,_,_,_,_,_,hc⟩:=hc
      split at hc<;>first
       |(first|(exact hn _ (Option.some.inj hc).symm)|(exact iY _ (Option.some.inj hc).symm)|(exact aM _ (Option.some.inj hc).symm)|(cases hc;done))
       |(simp only[Option.bind_eq_some_iff] at hc
         obtain⟨_,_,hc⟩:=hc
         split at hc<;>first|(exact hn _ (Option.some.inj hc).symm)|(exact iY _ (Option.some.inj hc).symm)|(exact aM _ (Option.some.inj hc).symm)|(cases hc)))
    |(obtain⟨_,_,_,_,hc⟩:=hc
      split at hc
      ·simp only[Option.bind_eq_some_iff] at hc;obtain⟨_,_,_,_,hc⟩:=hc;first|(exact hn _ (Option.some.inj hc).symm)|(exact iY _ (Option.some.inj hc).symm)|(exact aM _ (Option.some.inj hc).symm)
      ·first|(exact hn _ (Option.some.inj hc).symm)|(exact iY _ (Option.some.inj hc).symm)|(exact aM _ (Option.some.inj hc).symm)|(cases hc))))
theorem Zo {dst:Option Nat} {op:Op} {r:bU} (hc:te P md dst op=some r) (hr:(∃f as,r= .call f as)\/ ∃x as,r= .dyn x as):
 ∃c x,op= .call c/\c.callee= .value x/\
  ((∃f as,r= .call f as/\x= .func f/\bZ P f=true/\mN md.pr c.args.toList=some as)\/
   ∃ox as,r= .dyn ox as/\bd md.pr x=some ox/\mN md.pr c.args.toList=some as):=by
 rcases Hg hc with h1|h1|h1
 ·exfalso
  rcases Nw h1 with⟨q,rfl⟩|⟨c,b',-,-,hk⟩
  ·rcases hr with⟨_,_,h⟩|⟨_,_,h⟩<;>cases h
  ·rcases Hr hk with⟨_,_,_,_,_,_,_,_,_,_,_,_,_,_,_,_,_,_,_,_,rfl⟩|⟨_,_,_,_,_,_,_,_,_,rfl⟩|⟨_,_,_,_,_,_,_,_,_,_,_,_,rfl⟩|⟨_,_,_,_,_,_,_,_,_,_,_,_,_,_,_,rfl⟩<;>(rcases hr with⟨_,_,h⟩|⟨_,_,h⟩<;>cases h)
 ·exact alC h1 hr
 ·subst h1;rcases hr with⟨_,_,h⟩|⟨_,_,h⟩<;>cases h
theorem Xu {f:Nat} (hf:bZ P f=true) (args:Array Value) (w:World):(callFunc f args).run P w= .ok (.enter f args) w:=by
 unfold bZ at hf
 split at hf
 ·rename_i fn ji
  simp only[Bool.and_eq_true,bne_iff_ne,ne_eq] at hf
  obtain⟨h1,h2⟩:=hf
  obtain⟨c,dm⟩:=Option.isSome_iff_exists.1 h2
  simp[callFunc,ji,h1,dm]
 ·cases hf
theorem an5 {n:Nat} {ρ:Env} {a:Act} (A:AR ι I w n ρ a) {o:Oper} {f:Nat} {as:List au} (hc:te P md o.dst o.op=some (.call f as)):
 ∃bP:Array Value,(execOp a.eval o).run P w= .ok (.enter f bP) w/\LR ι I w (as.map (au.ev ρ)) bP.toList:=by
 obtain⟨dst,op,ty,pos,after,guard⟩:=o
 obtain⟨c,x,rfl,hx,⟨f',as',h1,rfl,xM,has⟩|⟨_,_,h1,_,_⟩⟩:=Zo hc (.inl ⟨f,as,rfl⟩)
 ·cases h1
  refine⟨c.args.map a.eval,?_,by have:=wN A has;simpa using this⟩
  simp only[execOp,resolve,hx,Act.eval,Deferred.ofValue,Sem.run_bind,Sem.run_pure,Result.andThen_ok,invoke]
  have:=Xu xM (#[]++Array.map (Act.eval a) c.args++ #[]) w
  simpa using this
 ·cases h1
theorem aoS {n:Nat} {ρ:Env} {a:Act} (A:AR ι I w n ρ a) {o:Oper} {x:au} {as:List au} (hc:te P md o.dst o.op=some (.dyn x as)) {f:Nat} {fs cs:List AV} (hx:x.ev ρ= .fn f fs cs) (hf:bZ P f=true):
 ∃bP:Array Value,(execOp a.eval o).run P w= .ok (.enter f bP) w/\LR ι I w (fs++as.map (au.ev ρ)++cs) bP.toList:=by
 obtain⟨dst,op,ty,pos,after,guard⟩:=o
 obtain⟨c,y,rfl,hy,⟨_,_,h1,_,_,_⟩|⟨ox,as',h1,bh,has⟩⟩:=Zo hc (.inr ⟨x,as,rfl⟩)
 ·cases h1
 ·cases h1
  have hv:VR ι I w (x.ev ρ) (a.eval y):=bF A bh
  rw[hx] at hv
  generalize hey:a.eval y=cy at hv
  cases hv
  rename_i eo bD ee wi fY jP
  refine⟨eo.toArray++c.args.map a.eval++bD.toArray,?_,?_⟩
  ·simp only[execOp,resolve,hy,hey,Deferred.ofValue,Sem.run_bind,Sem.run_pure,Result.andThen_ok,invoke]
   exact Xu hf _ w
  ·have h2:=wN A has
   have h3:=(LR.append (show LR ι I w fs eo from⟨ee,wi⟩) h2).append (show LR ι I w cs bD from⟨fY,jP⟩)
   simpa using h3
end
end
section
open Go
def an (P:Program) (f:Nat) (args:List AV) (h:aa) (r:AV) (h':aa):Prop:=
 ∀(ι:aI) (I:aR) (w:World) (bP:Array Value),HR ι I h w->LR ι I w args bP.toList->
  Calls P f bP w fun e w'=> ∃v ι' I',e= .returned v/\VR ι' I' w' r v/\HR ι' I' h' w'/\Ext (h.next<= ·) ι I h w ι' I' h' w'
def bV (o:RO) (ρ:Env):Option Bool:=
 match o.guard with
 |none=>some true
 |some (g,b)=>match ρ g with
  | .bool c=>some (c==b)
  | .az []=>some false
  |_=>none
def gF (P:Program) (op:bU) (id:Nat) (ρ:Env) (h:aa) (v:AV) (h':aa):Prop:=
 match op with
 | .p q=>aX q ρ h=some v/\h'=h
 | .a q=> ∃b,ic q ρ id=some (b,v)/\h'=h.at id b
 | .e q=>bN q ρ id h=some (v,h')
 | .call f as=>an P f (as.map (au.ev ρ)) h v h'
 | .dyn x as=> ∃f fs cs,x.ev ρ= .fn f fs cs/\bZ P f=true/\an P f (fs++as.map (au.ev ρ)++cs) h v h'
def br (P:Program) (o:RO) (id:Nat) (ρ:Env) (h:aa) (r:Option AV) (h':aa):Prop:=
 match bV o ρ with
 |some true=> ∃v,r=some v/\gF P o.op id ρ h v h'
 |some false=>r=none/\h'=h
 |none=>False
def fO (r:Option AV):AV:=r.getD (.az [])
def exec (P:Program):List RO->Env->aa->(Env->aa->Prop)->Prop
 |[],ρ,h,K=>K ρ h
 |o::os,ρ,h,K=> ∃r h',br P o h.next ρ h r h'/\exec P os (put ρ o.dst (fO r)) h' K
section
variable {P:Program} {md:Mode} {ι:aI} {I:aR} {h:aa} {w:World}
theorem AR.put {n:Nat} {ρ:Env} {a:Act} (A:AR ι I w n ρ a) {d:Option Nat} {v:AV} {c:Value} (hd: ∀x,d=some x->x<n) (hv:VR ι I w v c):AR ι I w n (put ρ d v) (a.put d c):=by
 cases d with
 |none=>exact A
 |some d=>
  have Gm:=hd d rfl
  refine⟨A.defers,by simp[Act.put,A.size],fun t=>?_⟩
  simp only[Am.put,Act.put]
  by_cases ht:t=d
  ·subst ht
   simp only[if_true]
   have:(a.tmps.setIfInBounds t c).getD t Go.undef=c:=by simp[Array.getD,A.size,Gm]
   rw[this];exact hv
  ·simp only[ht,if_false]
   have:(a.tmps.setIfInBounds d c).getD t Go.undef=a.tmps.getD t Go.undef:=by
    simp only[Array.getD_eq_getD_getElem?,Array.getElem?_setIfInBounds_ne (Ne.symm ht)]
   rw[this];exact A.get t
theorem Zw:VR ι I w (.az []) Go.undef:= .az [] [] rfl (fun i v c h=>by simp at h)
theorem Zn {n:Nat} {ops:Array Oper} {o:Oper} {ro:RO} (hc:uD P md n ops o=some ro):te P md o.dst o.op=some ro.op/\ro.dst=o.dst/\(∀x,o.dst=some x->x<n)/\
 (match o.guard with|none=>ro.guard=none|some (j,AP)=> ∃d,(ops[j]?).bind (·.dst)=some d/\ro.guard=some (d,AP)):=by
 simp only[uD,Option.bind_eq_some_iff] at hc
 obtain⟨op,bO,g,hg,hc⟩:=hc
 split at hc
 ·rename_i hd
  cases hc
  refine⟨bO,rfl,?_,?_⟩
  ·intro x hx
   rw[hx] at hd
   simpa [aeu] using hd
  ·cases kX:o.guard with
   |none=>simp[kX,Og] at hg ⊢;exact hg.symm
   |some p=>
    obtain⟨j,AP⟩:=p
    simp only[kX,Og,Option.map_eq_some_iff] at hg ⊢
    obtain⟨d,hd1,hg⟩:=hg
    exact⟨d,hd1,hg.symm⟩
 ·cases hc
theorem Za {n:Nat} {ρ:Env} {a:Act} (A:AR ι I w n ρ a) {ops:Array Oper} {o:Oper} {ro:RO} (hc:uD P md n ops o=some ro) {b:Bool} (hg:bV ro ρ=some b):Region.wanted o (yielded ops a.tmps)=b:=by
 obtain⟨_,_,_,kX⟩:=Zn hc
 unfold Region.wanted
 cases hog:o.guard with
 |none=>
  rw[hog] at kX
  simp[bV,kX] at hg
  simp[hg]
 |some p=>
  obtain⟨j,AP⟩:=p
  rw[hog] at kX
  obtain⟨d,hd,kX⟩:=kX
  simp only[bV,kX] at hg
  have hv:=A.get d
  simp only[yielded,hd,Option.bind_some]
  split at hg
  ·rename_i c hρ
   rw[hρ] at hv
   cases hg
   have:a.tmps[d]? =some (.bool c):=by
    generalize hq:a.tmps.getD d Go.undef=u at hv
    cases hv
    cases hx:a.tmps[d]? with
    |none=>simp[Array.getD_eq_getD_getElem?,hx,Go.undef] at hq
    |some y=>simp[Array.getD_eq_getD_getElem?,hx] at hq;rw[hq]
   simp only[this]
   cases c<;>cases AP<;>rfl
  ·rename_i hρ
   rw[hρ] at hv
   cases hg
   generalize hq:a.tmps.getD d Go.undef=u at hv
   cases hv
   rename_i bD hl fZ
   cases hx:a.tmps[d]? with
   |none=>rfl
   |some y=>
    simp[Array.getD_eq_getD_getElem?,hx] at hq
    rw[hq]
    rfl
  ·cases hg
theorem ML (H:HR ι I h w) {n:Nat} {ρ:Env} {a:Act} (A:AR ι I w n ρ a) {ops:Array Oper} {o:Oper} {ro:RO} (hc:uD P md n ops o=some ro) {id:Nat} (aL:ι id=none)
 {r:Option AV} {h':aa} (hs:br P ro id ρ h r h') {K:Act->World->Prop} {Q:Exit->Act->World->Prop}
 (hK: ∀a' w' ι' I',AR ι' I' w' n (put ρ ro.dst (fO r)) a'->HR ι' I' h' w'->Ext (fun b=>b=id\/h.next<=b) ι I h w ι' I' h' w'->K a' w'):
 if Region.wanted o (yielded ops a.tmps) then o.wp P a w K Q\/(o.asks P a w/\LetsOut Q) else K (a.put o.dst Go.undef) w:=by
 obtain⟨bO,AZ,Gm,_⟩:=Zn hc
 unfold br at hs
 split at hs
 ·rename_i hg
  obtain⟨v,rfl,bQ⟩:=hs
  rw[Za A hc hg]
  simp only[if_true]
  left
  unfold Oper.wp
  have eX: ∀c w' ι' I',VR ι' I' w' v c->HR ι' I' h' w'->Ext (fun b=>b=id\/h.next<=b) ι I h w ι' I' h' w'->K (a.put o.dst c) w':=by
   intro c w' ι' I' hv H' E
   refine hK _ w' ι' I' ?_ H' E
   rw[AZ]
   exact(A.mono (fun x v=>E.vr H)).put Gm hv
  unfold gF at bQ
  split at bQ
  ·rename_i q hq
   obtain⟨hv,rfl⟩:=bQ
   rw[hq] at bO
   obtain⟨c,w',I',hr,gO,H',E⟩:=auT H A bO hv
   rw[hr]
   exact eX c w' ι I' gO H' (E.mono (fun _ h=>h.elim))
  ·rename_i q hq
   obtain⟨b,hv,rfl⟩:=bQ
   rw[hq] at bO
   obtain⟨x,c,w',ι',I',hr,hx,gO,H',E⟩:=auV H A aL bO hv
   rw[hr]
   rcases hx with rfl|⟨rfl,rfl⟩
   ·exact eX c w' ι' I' gO H' (E.mono (fun _ h=> .inl h))
   ·exact eX _ w' ι' I' (.undef _) H' (E.mono (fun _ h=> .inl h))
  ·rename_i q hq
   rw[hq] at bO
   obtain⟨x,c,w',ι',I',hr,hx,gO,H',E⟩:=auU H A aL bO bQ
   rw[hr]
   rcases hx with rfl|⟨rfl,rfl⟩
   ·exact eX c w' ι' I' gO H' (E.mono (fun _ h=> .inl h))
   ·exact eX _ w' ι' I' (.undef _) H' (E.mono (fun _ h=> .inl h))
  ·rename_i f as hq
   rw[hq] at bO
   obtain⟨bP,hr,hl⟩:=an5 A bO
   rw[hr]
   refine(bQ ι I w bP H hl).mono ?_
   rintro e w' ⟨v',ι',I',rfl,gO,H',E⟩
   exact eX v' w' ι' I' gO H' (E.mono (fun _ h=> .inr h))
  ·rename_i x as hq
   rw[hq] at bO
   obtain⟨f,fs,cs,hx,xM,bQ⟩:=bQ
   obtain⟨bP,hr,hl⟩:=aoS A bO hx xM
   rw[hr]
   refine(bQ ι I w bP H hl).mono ?_
   rintro e w' ⟨v',ι',I',rfl,gO,H',E⟩
   exact eX v' w' ι' I' gO H' (E.mono (fun _ h=> .inr h))
 ·rename_i hg
  obtain⟨rfl,rfl⟩:=hs
  rw[Za A hc hg]
  simp only[Bool.false_eq_true,if_false]
  refine hK _ w ι I ?_ H (.refl _ _ _ _ _)
  rw[AZ]
  exact A.put Gm Zw
 ·exact hs.elim
theorem Nx {n:Nat} {ops:Array Oper}: ∀{os:List Oper} {al:List RO},tY P md n ops os=some al->os.length=al.length/\ ∀(i:Nat) (o:Oper) (ro:RO),os[i]? =some o->al[i]? =some ro->uD P md n ops o=some ro
 |[],al,hc=>by simp[tY] at hc;subst hc;exact⟨rfl,fun i o ro h=>by simp at h⟩
 |o::os,al,hc=>by
  simp only[tY] at hc
  split at hc
  ·rename_i ro l h1 h2
   cases hc
   obtain⟨e1,e2⟩:=Nx h2
   refine⟨by simp[e1],fun i o' VZ h3 h4=>?_⟩
   cases i with
   |zero=>simp at h3 h4;subst h3;subst h4;exact h1
   |succ i=>exact e2 i o' VZ (by simpa using h3) (by simpa using h4)
  ·cases hc
theorem YL {n:Nat} {ops:Array Oper} {Q:Exit->Act->World->Prop} {K:Env->aa->Prop}: ∀(al:List RO) (k:Nat) {ι:aI} {I:aR} {h:aa} {w:World} {ρ:Env} {a:Act},HR ι I h w->AR ι I w n ρ a->
 (∀i ro,al[i]? =some ro-> ∃o,ops[k+i]? =some o/\uD P md n ops o=some ro)->exec P al ρ h K->
 (∀ρ' h' a' w' ι' I',K ρ' h'->AR ι' I' w' n ρ' a'->HR ι' I' h' w'->Ext (h.next<= ·) ι I h w ι' I' h' w'->Q .normal a' w')->
 wpOps P ops Q (List.range' k al.length) a w
 |[],k,ι,I,h,w,ρ,a,H,A,_,he,hQ=>by
  simp only[List.length_nil,List.range'_zero,wpOps]
  exact hQ ρ h a w ι I he A H (.refl _ _ _ _ _)
 |ro::al,k,ι,I,h,w,ρ,a,H,A,hco,he,hQ=>by
  obtain⟨r,h',hs,dJ⟩:=he
  obtain⟨o,ho,hc⟩:=hco 0 ro rfl
  simp only[List.length_cons,List.range'_succ,wpOps]
  rw[Nat.add_zero] at ho
  rw[ho]
  simp only[]
  have aL:ι h.next=none:=by
   cases hq:ι h.next with
   |none=>rfl
   |some l=>have:=H.cG _ _ hq;omega
  refine ML (Q:=Q) H A hc aL hs ?_
  intro a' w' ι' I' A' H' E
  have E':Ext (h.next<= ·) ι I h w ι' I' h' w':=E.mono (fun b hb=>by rcases hb with rfl|hb;exact Nat.le_refl _;exact hb)
  refine YL al (k+1) H' A' (fun i VZ hi=>?_) dJ ?_
  ·obtain⟨o',ed,cS⟩:=hco (i+1) VZ (by simpa using hi)
   exact⟨o',by rw[show k+1+i=k+(i+1) by omega];exact ed,cS⟩
  ·intro ρ2 h2 a2 w2 ι2 I2 hK A2 H2 E2
   exact hQ ρ2 h2 a2 w2 ι2 I2 hK A2 H2 (E'.trans E2 (fun b hb=>Nat.le_trans E'.next hb))
end
end
section
open Go
section
variable {P:Program} {md:Mode} {ι:aI} {I:aR} {h:aa} {w:World}
theorem HR.DF (H:HR ι I h w) {h':aa} (eX: ∀b l,ι b=some l->b<h'.next) (dg: ∀b l x,ι b=some l->h'.get b=some x->h.get b=some x):HR ι I h' w where
 cG:=eX
 inside:=H.inside
 cells b cs l hg hb:=H.cells b cs l (dg b l _ hb hg) hb
 maps b es l hg hb:=H.maps b es l (dg b l _ hb hg) hb
 eR b l hg hb:=H.eR b l (dg b l _ hb hg) hb
 dC b b' l l' x x' k j aM hb bC hg cF:=H.dC b b' l l' x x' k j aM hb bC (dg b l x hb hg) (dg b' l' x' bC cF)
 bz b l x k j hb hg:=H.bz b l x k j hb (dg b l x hb hg)
 dw:=H.dw
 pl b cs cb o room hg hb:=H.pl b cs cb o room (dg b _ _ hb hg) hb
theorem HR.join {N:Nat->Prop} {ι':aI} {I':aR} {g0 g J:aa} {w':World} (H:HR ι I h w) (G:HR ι' I' g w') (E:Ext N ι I g0 w ι' I' g w')
 (h0: ∀b l x,ι b=some l->g0.get b=some x->h.get b=some x)
 (eX:g.next<=J.next)
 (hJ: ∀b x,J.get b=some x->g.get b=some x\/(h.get b=some x/\g0.get b=none/\ ∃l,ι b=some l)\/ι' b=none):HR ι' I' J w':=by
 have cM: ∀a v,VR ι I w a v->VR ι' I' w' a v:=fun a v hv=>hv.mono E.bM E.bz (fun k j hk=>E.cell k j (H.dw k j hk) (fun⟨b,l,x,hb,hg,hl⟩=>H.bz b l x k j hb (h0 b l x hb hg) hl hk))
 have sx: ∀b l x k j,ι b=some l->h.get b=some x->g0.get b=none->l.has k j-> ¬eB ι g0 k j:=by
  rintro b l x k j hb hg hn hl ⟨b',l',x',bC,cF,bj⟩
  by_cases lD:b'=b
  ·subst lD;rw[hn] at cF;cases cF
  ·exact H.dC b' b l' l x' x k j lD bC hb (h0 b' l' x' bC cF) hg bj hl
 have aC: ∀b l k j,ι b=some l->l.has k j->k<w.heap.size:=fun b l k j hb hl=>by rw[Loc.wM hl];exact H.inside b l hb
 have key: ∀b l x,ι' b=some l->J.get b=some x->g.get b=some x\/(h.get b=some x/\g0.get b=none/\ι b=some l):=by
  intro b l x hb hg
  rcases hJ b x hg with h1|⟨h1,h2,l',h3⟩|h1
  ·exact .inl h1
  ·have:=E.bM b l' h3
   rw[hb] at this
   cases this
   exact .inr ⟨h1,h2,h3⟩
  ·rw[hb] at h1;cases h1
 refine{cG:=fun b l hb=>Nat.lt_of_lt_of_le (G.cG b l hb) eX,inside:=G.inside,cells:=?_,maps:=?_,eR:=?_,dC:=?_,bz:=?_,dw:=G.dw
        pl:=fun b cs cb o room hg hb n=>by
         rcases key b _ _ hb hg with h1|⟨h1,h2,h3⟩
         ·exact G.pl b cs cb o room h1 hb n
         ·rw[E.frozen cb n (H.inside b _ h3) (sx b _ _ cb n h3 h1 h2 rfl)];exact H.pl b cs cb o room h1 h3 n}
 ·intro b cs l hg hb
  rcases key b l _ hb hg with h1|⟨h1,h2,h3⟩
  ·exact G.cells b cs l h1 hb
  ·obtain⟨cb,o,room,rfl,hle,cV,hc⟩:=H.cells b cs l h1 h3
   have aE:cb<w.heap.size:=H.inside b _ h3
   refine⟨cb,o,room,rfl,hle,cV,fun j hj=>?_⟩
   obtain⟨c,bn,bk,jk⟩:=hc j hj
   exact⟨c,by rw[E.cell _ _ aE (sx b _ _ cb (o+j) h3 h1 h2 rfl)];exact bn,by rw[E.frozen _ _ aE (sx b _ _ cb (o+j) h3 h1 h2 rfl)];exact bk,fun v hv=>cM _ _ (jk v hv)⟩
 ·intro b es l hg hb
  rcases key b l _ hb hg with h1|⟨h1,h2,h3⟩
  ·exact G.maps b es l h1 hb
  ·obtain⟨cb,aV,clock,rfl,hm,bj,hv⟩:=H.maps b es l h1 h3
   have aE:cb<w.heap.size:=H.inside b _ h3
   exact⟨cb,aV,clock,rfl,by rw[E.block cb aE (fun j=>sx b _ _ cb j h3 h1 h2 rfl)];exact hm,bj,fun i k v e e1 e2=>⟨cM _ _ (hv i k v e e1 e2).1,cM _ _ (hv i k v e e1 e2).2⟩⟩
 ·intro b l hg hb
  rcases key b l _ hb hg with h1|⟨h1,h2,h3⟩
  ·exact G.eR b l h1 hb
  ·obtain⟨cb,lo,hi,rfl,hc⟩:=H.eR b l h1 h3
   have aE:cb<w.heap.size:=H.inside b _ h3
   refine⟨cb,lo,hi,rfl,fun j e1 e2=>?_⟩
   obtain⟨c,bn,bk⟩:=hc j e1 e2
   exact⟨c,by rw[E.cell _ _ aE (sx b _ _ cb j h3 h1 h2 ⟨rfl,e1,e2⟩)];exact bn,by rw[E.frozen _ _ aE (sx b _ _ cb j h3 h1 h2 ⟨rfl,e1,e2⟩)];exact bk⟩
 ·intro b b' l l' x x' k j aM hb bC hg cF hl bj
  have mix: ∀b b' l l' x x',b≠b'->ι' b=some l->g.get b=some x->l.has k j->h.get b'=some x'->g0.get b'=none->ι b'=some l'->l'.has k j->False:=by
   intro b b' l l' x x' aM hb hg hl h1 h2 h3 bj
   rcases E.own k j ⟨b,l,x,hb,hg,hl⟩ with ho|ho
   ·exact sx b' l' x' k j h3 h1 h2 bj ho
   ·have:=aC b' l' k j h3 bj;omega
  rcases key b l x hb hg with h1|⟨h1,h2,h3⟩<;>rcases key b' l' x' bC cF with dc|⟨dc,fH,nf⟩
  ·exact G.dC b b' l l' x x' k j aM hb bC h1 dc hl bj
  ·exact mix b b' l l' x x' aM hb h1 hl dc fH nf bj
  ·exact mix b' b l' l x' x (Ne.symm aM) bC dc bj h1 h2 h3 hl
  ·exact H.dC b b' l l' x x' k j aM h3 nf h1 dc hl bj
 ·intro b l x k j hb hg hl hI
  rcases key b l x hb hg with h1|⟨h1,h2,h3⟩
  ·exact G.bz b l x k j hb h1 hl hI
  ·rcases E.gz k j hI with h4|h4|h4
   ·exact H.bz b l x k j h3 h1 hl h4
   ·exact sx b l x k j h3 h1 h2 hl h4
   ·have:=aC b l k j h3 hl;omega
def tU (ρ ρ':Env) (l:List au):Prop:= ∀x∈l,x.ev ρ=x.ev ρ'
theorem Yc {ρ ρ':Env}: ∀(ps:List (Nat×Nat×au)) (cs:List AV),tU ρ ρ' (ps.map fun p=>p.2.2)->kJ ρ cs ps=kJ ρ' cs ps
 |[],cs,_=>rfl
 |(off,sz,x)::ps,cs,ha=>by
  have hx:=ha x (by simp)
  simp only[kJ,hx]
  split
  ·exact Yc ps _ (fun y hy=>ha y (by simp at hy ⊢;exact .inr hy))
  ·rfl
theorem MF {ρ ρ':Env} {sz:Nat}: ∀(ps:List (Nat×au)) (rows:List (List AV)),tU ρ ρ' (ps.map fun p=>p.2)->iQ ρ sz rows ps=iQ ρ' sz rows ps
 |[],rows,_=>rfl
 |(i,x)::ps,rows,ha=>by
  have hx:=ha x (by simp)
  simp only[iQ,hx]
  split
  ·exact MF ps _ (fun y hy=>ha y (by simp at hy ⊢;exact .inr hy))
  ·rfl
theorem map_congr {ρ ρ':Env} {l:List au} (ha:tU ρ ρ' l):l.map (au.ev ρ)=l.map (au.ev ρ'):=List.map_congr_left fun x hx=>ha x hx
theorem Xo {mx:Bool} {ρ ρ':Env}: ∀(ys:List au) (x:AV),tU ρ ρ' ys->ph mx ρ x ys=ph mx ρ' x ys
 |[],x,_=>rfl
 |y::ys,x,ha=>by
  simp only[ph,ha y (by simp)]
  congr 1
  funext z
  exact Xo ys z (fun y hy=>ha y (by simp[hy]))
theorem My {ρ ρ':Env} {d:Nat} {x:Option au} (ha:tU ρ ρ' (CN x)):cC ρ d x=cC ρ' d x:=by
 cases x with
 |none=>rfl
 |some x=>simp only[cC,ha x (by simp[CN])]
theorem MH (q:a8) {ρ ρ':Env} (h:aa) (ha:tU ρ ρ' q.dT):aX q ρ h=aX q ρ' h:=by
 cases q<;>simp only[aX]
 case build z ps=>rw[Yc ps _ ha]
 case cr n z ps=>rw[MF ps _ ha]
 case kO f a b=>rw[map_congr (fun x hx=>ha x (by simp[a8.dT,hx])),map_congr (l:=b) (fun x hx=>ha x (by simp[a8.dT,hx]))]
 case nH mx x r=>rw[ha x (by simp[a8.dT]),Xo r _ (fun y hy=>ha y (by simp[a8.dT,hy]))]
 case b9 sz x lo hi mx=>
  have e1:=ha x (by simp[a8.dT])
  have e2: ∀d,cC ρ d lo=cC ρ' d lo:=fun d=>My (fun y hy=>ha y (by simp[a8.dT,hy]))
  have e3: ∀d,cC ρ d hi=cC ρ' d hi:=fun d=>My (fun y hy=>ha y (by simp[a8.dT,hy]))
  have e4: ∀d,cC ρ d mx=cC ρ' d mx:=fun d=>My (fun y hy=>ha y (by simp[a8.dT,hy]))
  simp only[i7,e1,e2,e3,e4]
 case pick c a b=>rw[ha c (by simp[a8.dT]),ha a (by simp[a8.dT]),ha b (by simp[a8.dT])]
 all_goals first
  |rfl
  |(rename_i x y;rw[ha x (by simp[a8.dT]),ha y (by simp[a8.dT])];done)
  |(rename_i x;rw[ha x (by simp[a8.dT])];done)
theorem ajW (q:kD) {ρ ρ':Env} (id:Nat) (ha:tU ρ ρ' q.dT):ic q ρ id=ic q ρ' id:=by
 cases q<;>simp only[ic]
 case box x=>rw[ha x (by simp[kD.dT])]
 case uY z b l c=>rw[ha l (by simp[kD.dT]),ha c (by simp[kD.dT])]
 case CJ n z ps=>rw[MF ps _ ha]
theorem alL (q:gf) {ρ ρ':Env} (id:Nat) (h:aa) (ha:tU ρ ρ' q.dT):bN q ρ id h=bN q ρ' id h:=by
 cases q<;>simp only[bN]
 case rS m k v=>rw[ha m (by simp[gf.dT]),ha k (by simp[gf.dT]),ha v (by simp[gf.dT])]
 case px z x=>rw[ha x (by simp[gf.dT])]
 case mark x=>rw[ha x (by simp[gf.dT])]
 all_goals (rename_i x y;rw[ha x (by simp[gf.dT]),ha y (by simp[gf.dT])])
theorem Yl {o:RO} {id:Nat} {ρ ρ':Env} {h h':aa} {r:Option AV} (ha: ∀t∈o.tL,ρ t=ρ' t) (hs:br P o id ρ h r h'):br P o id ρ' h r h':=by
 have rn:tU ρ ρ' o.op.dT:=by
  intro x hx
  cases x with
  |const v=>rfl
  |tmp t=>exact ha t (by simp only[RO.tL,List.mem_append,List.mem_flatMap];exact .inl ⟨_,hx,by simp[au.slot]⟩)
 have hg:bV o ρ=bV o ρ':=by
  unfold bV
  cases kX:o.guard with
  |none=>rfl
  |some p=>
   obtain⟨g,b⟩:=p
   simp only[]
   rw[ha g (by simp[RO.tL,kX])]
 unfold br at*
 rw[<-hg]
 split
 ·rename_i hq
  rw[hq] at hs
  obtain⟨v,hr,bQ⟩:=hs
  refine⟨v,hr,?_⟩
  unfold gF at*
  cases bO:o.op with
  |p q=>rw[bO] at bQ rn;exact⟨by rw[<-MH q h rn];exact bQ.1,bQ.2⟩
  |a q=>rw[bO] at bQ rn;obtain⟨b,h1,h2⟩:=bQ;exact⟨b,by rw[<-ajW q id rn];exact h1,h2⟩
  |e q=>rw[bO] at bQ rn;simp only at*;rw[<-alL q id h rn];exact bQ
  |call f as=>rw[bO] at bQ rn;simp only at*;rw[<-map_congr (l:=as) rn];exact bQ
  |dyn x as=>
   rw[bO] at bQ rn
   obtain⟨f,fs,cs,h1,h2,h3⟩:=bQ
   refine⟨f,fs,cs,by rw[<-rn x (by simp[bU.dT])];exact h1,h2,?_⟩
   rw[<-map_congr (l:=as) (fun y hy=>rn y (by simp[bU.dT,hy]))]
   exact h3
 ·rename_i hq;rw[hq] at hs;exact hs
 ·rename_i hq;rw[hq] at hs;exact hs
end
end
section
open Go
def lJ (o:RO) (ρ:Env) (r:Option AV) (h':aa) (ok:RO) (d:Env×aa×Option AV):Prop:=
 if o.op.cq then(match d.2.2,ok.op with|some v, .p q=>aX q d.1 h'=some v|_,_=>True)
 else(match r,o.op with|some v, .p q=>aX q ρ d.2.1=some v|_,_=>True)
def l7 (P:Program) (al:List RO) (un:List (List Nat)) (base:Nat):List RO->Nat->Env->aa->List (Env×aa×Option AV)->(Env->aa->Prop)->Prop
 |[],_,ρ,h,_,K=>K ρ h
 |o::os,i,ρ,h,done,K=> ∃r h',br P o (base+i) ρ h r h'/\
   (∀k∈un.getD i [],∀ok d,al[k]? =some ok->done[k]? =some d->lJ o ρ r h' ok d)/\
   (o.op.cq=true-> ∀j,i<j->j<al.length->h'.get (base+j)=none)/\
   l7 P al un base os (i+1) (put ρ o.dst (fO r)) h' (done++[(ρ,h,r)]) K
def fq (tr:List (Env×aa×Option AV)) (ρ:Env) (h:aa) (i:Nat):Env×aa:=
 match tr[i]? with
 |some d=>(d.1,d.2.1)
 |none=>(ρ,h)
def UN (P:Program) (al:List RO) (un:List (List Nat)) (base:Nat) (tr:List (Env×aa×Option AV)) (ρ:Env) (h:aa):Prop:=
 ∀(i:Nat) (ro:RO) (d:Env×aa×Option AV),al[i]? =some ro->tr[i]? =some d->
  br P ro (base+i) (fq tr ρ h i).1 (fq tr ρ h i).2 d.2.2 (fq tr ρ h (i+1)).2/\
  (fq tr ρ h (i+1)).1=put (fq tr ρ h i).1 ro.dst (fO d.2.2)/\
  (ro.op.cq=true-> ∀j,i<j->j<al.length->(fq tr ρ h (i+1)).2.get (base+j)=none)/\
  ∀k∈un.getD i [],∀ok dk,al[k]? =some ok->tr[k]? =some dk->k<i->lJ ro (fq tr ρ h i).1 d.2.2 (fq tr ρ h (i+1)).2 ok dk
theorem Zz {P:Program} {al:List RO} {un:List (List Nat)} {base:Nat} {K:Env->aa->Prop}: ∀(os pre:List RO) (ρ:Env) (h:aa) (done:List (Env×aa×Option AV)),
 al=pre++os->done.length=pre.length->UN P al un base done ρ h->l7 P al un base os pre.length ρ h done K->
 ∃(tr:List (Env×aa×Option AV)) (ρn:Env) (hn:aa),tr.length=al.length/\K ρn hn/\UN P al un base tr ρn hn/\(∀(i:Nat) (d:Env×aa×Option AV),done[i]? =some d->tr[i]? =some d)/\(done.length=0->fq tr ρn hn 0=(ρ,h))
 |[],pre,ρ,h,done,hr,hl,ha,he=>by
  refine⟨done,ρ,h,by rw[hl,hr];simp,he,ha,fun i d hd=>hd,fun h0=>?_⟩
  have:done=[]:=List.eq_nil_of_length_eq_zero h0
  subst this
  rfl
 |o::os,pre,ρ,h,done,hr,hl,ha,he=>by
  obtain⟨r,h',hs,hc,fF,dJ⟩:=he
  have a7:al[pre.length]? =some o:=by rw[hr];simp
  have dE: ∀i,i<=done.length->fq (done++[(ρ,h,r)]) (put ρ o.dst (fO r)) h' i=fq done ρ h i:=by
   intro i hi
   unfold fq
   by_cases aC:i<done.length
   ·rw[List.getElem?_append_left aC,List.getElem?_eq_getElem aC]
   ·have:i=done.length:=by omega
    subst this
    simp
  have yd:fq (done++[(ρ,h,r)]) (put ρ o.dst (fO r)) h' (done.length+1)=(put ρ o.dst (fO r),h'):=by simp[fq]
  have ha':UN P al un base (done++[(ρ,h,r)]) (put ρ o.dst (fO r)) h':=by
   intro i ro d hi hd
   by_cases aC:i<done.length
   ·rw[List.getElem?_append_left aC] at hd
    obtain⟨a1,a2,a4,a3⟩:=ha i ro d hi hd
    rw[dE i (by omega),dE (i+1) (by omega)]
    refine⟨a1,a2,a4,fun k hk ok dk aY cB mB=>a3 k hk ok dk aY ?_ mB⟩
    rwa [List.getElem?_append_left (by omega)] at cB
   ·have aB:=(List.getElem?_eq_some_iff.1 hd).1
    simp at aB
    have:i=done.length:=by omega
    subst this
    simp at hd
    subst hd
    rw[hl,a7] at hi
    cases hi
    rw[dE _ (Nat.le_refl _),yd]
    have h0:fq done ρ h done.length=(ρ,h):=by simp[fq]
    rw[h0]
    refine⟨by rw[hl];exact hs,rfl,by rw[hl];exact fF,fun k hk ok dk aY cB mB=>?_⟩
    rw[List.getElem?_append_left mB] at cB
    rw[hl] at hk
    exact hc k hk ok dk aY cB
  obtain⟨tr,ρn,hn,e1,e2,e3,e4,e5⟩:=Zz os (pre++[o]) _ h' (done++[(ρ,h,r)]) (by rw[hr];simp) (by simp[hl]) ha' (by simpa using dJ)
  refine⟨tr,ρn,hn,e1,e2,e3,fun i d hd=>e4 i d (by rw[List.getElem?_append_left (List.getElem?_eq_some_iff.1 hd).1];exact hd),fun h0=>?_⟩
  have:=e4 done.length (ρ,h,r) (by simp)
  rw[h0] at this
  simp[fq,this]
theorem Xn: ∀(os:List Oper) (acc:List (List Nat)),∃rest,fN os acc=acc++rest
 |[],acc=>⟨[],by simp[fN]⟩
 |o::os,acc=>by
  obtain⟨rest,hr⟩:=Xn os (acc++[(o.after.toList.filter fun e=>Region.binds .any e).flatMap fun e=>e.on::acc.getD e.on []])
  exact⟨_,by rw[fN,hr,List.append_assoc]⟩
theorem Yv: ∀(os:List Oper) (acc:List (List Nat)) (i j:Nat),acc.length<=j->i∈(fN os acc).getD j []->
 (∀k o,os[k]? =some o-> ∀e∈o.after.toList,Region.binds .any e=true->e.on<acc.length+k)->
 ∃o e,os[j-acc.length]? =some o/\e∈o.after.toList/\Region.binds .any e=true/\(i=e.on\/i∈(fN os acc).getD e.on [])
 |[],acc,i,j,hj,hi,_=>by
  simp[fN,List.getD,List.getElem?_eq_none hj] at hi
 |o::os,acc,i,j,hj,hi,hb=>by
  by_cases hjj:j=acc.length
  ·subst hjj
   obtain⟨rest,hr⟩:=Xn os (acc++[(o.after.toList.filter fun e=>Region.binds .any e).flatMap fun e=>e.on::acc.getD e.on []])
   have kV:fN (o::os) acc=acc++([(o.after.toList.filter fun e=>Region.binds .any e).flatMap fun e=>e.on::acc.getD e.on []]++rest):=by rw[fN,hr,List.append_assoc]
   rw[kV] at hi
   simp only[List.getD,List.getElem?_append_right (Nat.le_refl _),Nat.sub_self,List.singleton_append,List.getElem?_cons_zero,Option.getD_some,List.mem_flatMap,List.mem_filter] at hi
   obtain⟨e,⟨he1,uy⟩,he3⟩:=hi
   refine⟨o,e,by simp,he1,uy,?_⟩
   rcases List.mem_cons.1 he3 with h|h
   ·exact .inl h
   ·right
    have aC:e.on<acc.length:=by have:=hb 0 o rfl e he1 uy;omega
    rw[kV]
    simp only[List.getD]
    rw[List.getElem?_append_left aC]
    exact h
  ·have kW:acc.length+1<=j:=by omega
   obtain⟨o',e,h1,h2,h3,h4⟩:=Yv os _ i j (by simp;omega) (show i∈(fN os (acc++[(o.after.toList.filter fun e=>Region.binds .any e).flatMap fun e=>e.on::acc.getD e.on []])).getD j [] from hi)
    (fun k o' ed e he WJ=>by have:=hb (k+1) o' (by simpa using ed) e he WJ;simp;omega)
   refine⟨o',e,?_,h2,h3,h4⟩
   simp at h1
   rw[show j-acc.length=(j-(acc.length+1))+1 by omega,List.getElem?_cons_succ]
   exact h1
theorem zn {ops:Array Oper} (hb: ∀k o,ops.toList[k]? =some o-> ∀e∈o.after.toList,Region.binds .any e=true->e.on<k) {S:Nat->Prop}
 (hS: ∀j o,S j->ops.toList[j]? =some o-> ∀e∈o.after.toList,Region.binds .any e=true->S e.on):
 ∀(j i:Nat),kN (fN ops.toList []) i j=true->((∃o,ops.toList[j]? =some o/\ ∀e∈o.after.toList,Region.binds .any e=true->S e.on)\/S j)->S i:=by
 intro j
 induction j using Nat.strongRecOn with
 |_ j ih=>
  intro i ho hj
  have hi:i∈(fN ops.toList []).getD j []:=by simpa [kN] using ho
  obtain⟨o,e,h1,h2,h3,h4⟩:=Yv ops.toList [] i j (by simp) hi (fun k o ho e he WJ=>by simpa using hb k o ho e he WJ)
  simp at h1
  have dc:ops.toList[j]? =some o:=by simpa using h1
  have hse:S e.on:=by
   rcases hj with⟨o',ed,h⟩|h
   ·rw[dc] at ed;cases ed;exact h e h2 h3
   ·exact hS j o h dc e h2 h3
  rcases h4 with rfl|h4
  ·exact hse
  ·exact ih e.on (hb j o dc e h2 h3) i (by simpa [kN] using h4) (.inr hse)
end
section
open Go
section
variable {P:Program} {md:Mode}
theorem Ext.step {N0 N:Nat->Prop} {ι0 ι ι':aI} {I0 I I':aR} {h0 H G G' H':aa} {w0 w w':World} (E:Ext N0 ι0 I0 h0 w0 ι I H w) (F:Ext N ι I G w ι' I' G' w')
 (hN: ∀b,N b->N0 b) (dg: ∀b l x,ι b=some l->G.get b=some x-> ∃y,H.get b=some y)
 (js: ∀b l x,ι' b=some l->H'.get b=some x->(∃y,G'.get b=some y)\/(ι b=some l/\ ∃y,H.get b=some y))
 (eX:H.next<=H'.next) (DQ: ∀b,¬N0 b->ι0 b=none->H'.get b=h0.get b):Ext N0 ι0 I0 h0 w0 ι' I' H' w':=by
 have Gs: ∀k j,eB ι G k j->eB ι0 h0 k j\/w0.heap.size<=k:=by
  rintro k j ⟨b,l,x,hb,hg,hl⟩
  obtain⟨y,hy⟩:=dg b l x hb hg
  exact E.own k j ⟨b,l,y,hb,hy,hl⟩
 exact
 {eZ:=fun b hb=>(F.eZ b (fun h=>hb (hN b h))).trans (E.eZ b hb)
  bM:=fun b l h=>F.bM b l (E.bM b l h)
  next:=Nat.le_trans E.next eX
  bz:=fun k j h=>F.bz k j (E.bz k j h)
  os:=F.os.trans E.os
  tape:=F.tape.trans E.tape
  output:=F.output.trans E.output
  size:=Nat.le_trans E.size F.size
  block:=fun k hk ho=>(F.block k (Nat.lt_of_lt_of_le hk E.size) (fun j hj=>(Gs k j hj).elim (ho j) (fun h=>by omega))).trans (E.block k hk ho)
  cell:=fun k j hk ho=>(F.cell k j (Nat.lt_of_lt_of_le hk E.size) (fun hj=>(Gs k j hj).elim ho (fun h=>by omega))).trans (E.cell k j hk ho)
  frozen:=fun k j hk ho=>(F.frozen k j (Nat.lt_of_lt_of_le hk E.size) (fun hj=>(Gs k j hj).elim ho (fun h=>by omega))).trans (E.frozen k j hk ho)
  own:=by
   rintro k j ⟨b,l,x,hb,hg,hl⟩
   rcases js b l x hb hg with⟨y,hy⟩|⟨bC,y,hy⟩
   ·rcases F.own k j ⟨b,l,y,hb,hy,hl⟩ with h|h
    ·exact Gs k j h
    ·exact .inr (Nat.le_trans E.size h)
   ·exact E.own k j ⟨b,l,y,bC,hy,hl⟩
  gz:=by
   intro k j h
   rcases F.gz k j h with h|h|h
   ·exact E.gz k j h
   ·exact .inr (Gs k j h)
   ·exact .inr (.inr (Nat.le_trans E.size h))
  lost:=DQ}
structure TR (P:Program) (ops:Array Oper) (al:List RO) (un:List (List Nat)) (base:Nat) (ρs:Nat->Env) (hs:Nat->aa) (rs:Nat->Option AV):Prop where
 step: ∀(i:Nat) (ro:RO),al[i]? =some ro->br P ro (base+i) (ρs i) (hs i) (rs i) (hs (i+1))/\ρs (i+1)=put (ρs i) ro.dst (fO (rs i))
 lJ: ∀(i k:Nat) (ro ok:RO),al[i]? =some ro->al[k]? =some ok->k<i->k∈un.getD i []->lJ ro (ρs i) (rs i) (hs (i+1)) ok (ρs k,hs k,rs k)
 abc: ∀j,j<al.length->(hs 0).get (base+j)=none
 abb: ∀(i:Nat) (ro:RO),al[i]? =some ro->ro.op.cq=true-> ∀j,i<j->j<al.length->(hs (i+1)).get (base+j)=none
 asP:base+al.length<=(hs 0).next
 d1: ∀(i j:Nat) (ri rj:RO) (t:Nat),al[i]? =some ri->al[j]? =some rj->ri.dst=some t->rj.dst=some t->i=j
 d2: ∀(k:Nat) (o:Oper),ops.toList[k]? =some o-> ∀e∈o.after.toList,Region.binds .any e=true->e.on<k
 d3: ∀(i j:Nat) (ri rj:RO) (t:Nat),al[i]? =some ri->al[j]? =some rj->i≠j->t∈ri.tL->rj.dst=some t->if j<i then kN (fN ops.toList []) j i=true else kN (fN ops.toList []) i j=true
 d4: ∀(i j:Nat) (ri rj:RO),i<j->al[i]? =some ri->al[j]? =some rj->ri.op.cq=true->rj.op.cq=true->kN (fN ops.toList []) i j=true
 d5: ∀(i k:Nat) (ri rk:RO),k<i->al[i]? =some ri->al[k]? =some rk->((ri.op.reads=true/\rk.op.cq=true)\/(ri.op.cq=true/\rk.op.reads=true))->kN (fN ops.toList []) k i=false->k∈un.getD i []
section trace
variable {ops:Array Oper} {al:List RO} {un:List (List Nat)} {base:Nat} {ρs:Nat->Env} {hs:Nat->aa} {rs:Nat->Option AV} (T:TR P ops al un base ρs hs rs)
theorem XT {ro:RO} {id:Nat} {ρ:Env} {h h':aa} {r:Option AV} (he:ro.op.cq=false) (hs:br P ro id ρ h r h'):h'=h\/ ∃B8,h'=h.at id B8:=by
 unfold br at hs
 split at hs
 ·obtain⟨v,_,bQ⟩:=hs
  unfold gF at bQ
  cases bO:ro.op with
  |p q=>rw[bO] at bQ;exact .inl bQ.2
  |a q=>rw[bO] at bQ;obtain⟨b,_,hh⟩:=bQ;exact .inr ⟨b,hh⟩
  |e q=>rw[bO] at he;cases he
  |call f as=>rw[bO] at he;cases he
  |dyn x as=>rw[bO] at he;cases he
 ·exact .inl hs.2
 ·exact hs.elim
include T in
theorem TR.one {i:Nat} {ro:RO} (hi:al[i]? =some ro) (he:ro.op.cq=false) (b:Nat) (hb:b≠base+i):(hs (i+1)).get b=(hs i).get b:=by
 rcases XT he (T.step i ro hi).1 with h|⟨B8,h⟩
 ·rw[h]
 ·rw[h];simp[aa.at,hb]
def zu (al:List RO) (i j:Nat):Prop:= ∀k ro,i<=k->k<j->al[k]? =some ro->ro.op.cq=false
include T in
theorem TR.w7: ∀(d i:Nat),i+d<=al.length->zu al i (i+d)-> ∀b,(∀k,i<=k->k<i+d->b≠base+k)->(hs (i+d)).get b=(hs i).get b
 |0,i,_,_,b,_=>rfl
 |d+1,i,hle,hq,b,hb=>by
  have aC:i+d<al.length:=by omega
  have h1:=T.one (List.getElem?_eq_getElem aC) (hq (i+d) _ (by omega) (by omega) (List.getElem?_eq_getElem aC)) b (hb (i+d) (by omega) (by omega))
  have h2:=TR.w7 d i (by omega) (fun k ro h3 h4=>hq k ro h3 (by omega)) b (fun k h3 h4=>hb k h3 (by omega))
  rw[show i+(d+1)=i+d+1 by omega,h1,h2]
include T in
theorem TR.MO: ∀(d i:Nat),i+d<=al.length->zu al i (i+d)->base+al.length<=(hs i).next->(hs (i+d)).next=(hs i).next
 |0,i,_,_,_=>rfl
 |d+1,i,hle,hq,hn=>by
  have aC:i+d<al.length:=by omega
  have h2:=TR.MO d i (by omega) (fun k ro h3 h4=>hq k ro h3 (by omega)) hn
  rw[show i+(d+1)=i+d+1 by omega,<-h2]
  rcases XT (hq (i+d) _ (by omega) (by omega) (List.getElem?_eq_getElem aC)) (T.step (i+d) _ (List.getElem?_eq_getElem aC)).1 with h|⟨B8,h⟩
  ·rw[h]
  ·rw[h];simp only[aa.at];omega
include T in
theorem TR.fresh: ∀(i j:Nat),i<=j->j<al.length->(hs i).get (base+j)=none
 |0,j,_,hj=>T.abc j hj
 |i+1,j,oO,hj=>by
  have aC:i<al.length:=by omega
  have hi:=List.getElem?_eq_getElem aC
  cases he:(al[i]).op.cq with
  |true=>exact T.abb i _ hi he j (by omega) hj
  |false=>rw[T.one hi he (base+j) (by omega)];exact TR.fresh i j (by omega) hj
include T in
theorem TR.env: ∀(i:Nat),i<=al.length->(∀t,(∀j ro,j<i->al[j]? =some ro->ro.dst≠some t)->ρs i t=ρs 0 t)/\
 (∀t j ro,j<i->al[j]? =some ro->ro.dst=some t->ρs i t=fO (rs j))
 |0,_=>⟨fun _ _=>rfl,fun t j ro h=>by omega⟩
 |i+1,hi=>by
  obtain⟨e1,e2⟩:=TR.env i (by omega)
  have aC:i<al.length:=by omega
  have a7:=List.getElem?_eq_getElem aC
  have dE:=(T.step i _ a7).2
  refine⟨fun t ht=>?_,fun t j ro hj dN AZ=>?_⟩
  ·rw[dE]
   have aM:=ht i _ (by omega) a7
   have:put (ρs i) (al[i]).dst (fO (rs i)) t=ρs i t:=by
    cases hd:(al[i]).dst with
    |none=>rfl
    |some d=>
     have:t≠d:=fun h=>aM (by rw[hd,h])
     simp[put,this]
   rw[this]
   exact e1 t (fun j ro hj dN=>ht j ro (by omega) dN)
  ·rw[dE]
   by_cases d7:j=i
   ·subst d7
    rw[a7] at dN
    cases dN
    simp[put,AZ]
   ·have aM:(al[i]).dst≠some t:=fun h=>d7 (T.d1 j i ro _ t dN a7 AZ h)
    have:put (ρs i) (al[i]).dst (fO (rs i)) t=ρs i t:=by
     cases hd:(al[i]).dst with
     |none=>rfl
     |some d=>
      have:t≠d:=fun h=>aM (by rw[hd,h])
      simp[put,this]
    rw[this]
    exact e2 t j ro (by omega) dN AZ
end trace
end
end
section
open Go
theorem anA {o:a8} {ρ:Env} {h:aa} {v:AV} {b:Nat} (hk:o.key ρ=some b) (hv:aX o ρ h=some v): ∃x,h.get b=some x:=by
 cases hg:h.get b with
 |some x=>exact⟨x,rfl⟩
 |none=>
  exfalso
  cases o<;>simp only[a8.key] at hk<;>try cases hk
  case load ag sz x=>
   simp only[aX] at hv
   split at hk<;>cases hk
   rename_i hx
   simp only[hx,kL,cellsOf,hg] at hv
   simp at hv
  case rN x=>
   simp only[aX] at hv
   split at hk<;>cases hk
   all_goals
    rename_i hx
    simp only[hx,cQ,cellsOf,hg] at hv
    simp at hv
  case pM sz x y=>
   simp only[aX] at hv
   split at hk<;>cases hk
   rename_i hx
   rw[hx] at hv
   unfold vN at hv
   split at hv
   ·rename_i h1 h2
    cases h2
    simp[cellsOf,hg] at hv
   ·cases hv
  case lookup z ok m k=>
   simp only[aX] at hv
   split at hk<;>cases hk
   rename_i hx
   rw[hx] at hv
   unfold pj at hv
   simp only[] at hv
   split at hv
   ·rename_i h1 h2;cases h1
   ·rename_i h1 h2;cases h1;simp[hg] at hv
   ·cases hv
section
variable {P:Program} {md:Mode}
theorem aoz {ι:aI} {I:aR} {w:World} {n:Nat} {ρ:Env} {a:Act} (A:AR ι I w n ρ a) {o:a8} (hc:o.qn=true) {b:Nat} (hk:o.key ρ=some b): ∃l,ι b=some l:=by
 have go: ∀(x:au) (v:AV),x.ev ρ=v->(∀c,x≠ .const c)-> ∃u,VR ι I w v u:=by
  intro x v hx hn
  cases x with
  |const c=>exact(hn c rfl).elim
  |tmp t=>exact⟨_,by rw[<-hx];exact A.get t⟩
 cases o<;>simp only[a8.key] at hk<;>try cases hk
 case load ag sz x=>
  split at hk<;>cases hk
  rename_i hx
  obtain⟨v,hv⟩:=go x _ hx (by rintro c rfl;simp[a8.qn] at hc)
  cases hv;exact⟨_,by assumption⟩
 case rN x=>
  split at hk<;>cases hk
  all_goals
   rename_i hx
   obtain⟨v,hv⟩:=go x _ hx (by rintro c rfl;simp[a8.qn] at hc)
   cases hv;exact⟨_,by assumption⟩
 case pM sz x y=>
  split at hk<;>cases hk
  rename_i hx
  obtain⟨v,hv⟩:=go y _ hx (by rintro c rfl;simp[a8.qn] at hc)
  cases hv;exact⟨_,by assumption⟩
 case lookup z ok m k=>
  split at hk<;>cases hk
  rename_i hx
  obtain⟨v,hv⟩:=go m _ hx (by rintro c rfl;simp[a8.qn] at hc)
  cases hv;exact⟨_,by assumption⟩
theorem aa.same {h h':aa} (hg: ∀b,h.get b=h'.get b) (hn:h.next=h'.next):h=h':=by
 cases h;cases h';simp only at hg hn;subst hn;congr;funext b;exact hg b
structure nu (P:Program) (ops:Array Oper) (al:List RO) (n base:Nat) (ρs:Nat->Env) (hs:Nat->aa) (rs:Nat->Option AV) (ι0:aI) (I0:aR) (w0:World)
 (S:Nat->Prop) (m:Nat) (ρ:Env) (H:aa) (ι:aI) (I:aR) (a:Act) (w:World):Prop where
 ar:AR ι I w n ρ a
 hr:HR ι I H w
 ext:Ext (base<= ·) ι0 I0 (hs 0) w0 ι I H w
 ρ0: ∀(t:Nat),(∀(j:Nat) (ro:RO),S j->al[j]? =some ro->ro.dst≠some t)->ρ t=ρs 0 t
 ρ1: ∀(t j:Nat) (ro:RO),S j->al[j]? =some ro->ro.dst=some t->ρ t=fO (rs j)
 h1: ∀(j:Nat),S j->m<=j->j<al.length->H.get (base+j)=(hs (j+1)).get (base+j)
 h2: ∀(b:Nat),(∀j,b=base+j->m<=j->j<al.length-> ¬S j)->H.get b=(hs m).get b
 hn:H.next=(hs m).next
 lt: ∀(j:Nat),S j->j<al.length
 closed: ∀(j:Nat) (o:Oper),S j->ops.toList[j]? =some o-> ∀e∈o.after.toList,Region.binds .any e=true->S e.on
 yG:m<=al.length
 vR: ∀(j:Nat) (ro:RO),S j->al[j]? =some ro->ro.op.cq=true->j<m
 A4: ∀(j:Nat) (ro:RO),j<m->al[j]? =some ro->ro.op.cq=true->S j
 As:m=0\/ ∃ro,al[m-1]? =some ro/\ro.op.cq=true
 inj: ∀(j:Nat),j<al.length-> ¬S j->ι (base+j)=none
 pb: ∀(j:Nat),j<m-> ¬S j->(hs m).get (base+j)=(hs (j+1)).get (base+j)
 next:base+al.length<=(hs m).next
section inv
variable {ops:Array Oper} {al:List RO} {un:List (List Nat)} {n base:Nat} {ρs:Nat->Env} {hs:Nat->aa} {rs:Nat->Option AV} {ι0:aI} {I0:aR} {w0:World}
 {S:Nat->Prop} {m:Nat} {ρ:Env} {H:aa} {ι:aI} {I:aR} {a:Act} {w:World}
theorem TR.asD (T:TR P ops al un base ρs hs rs) (V:nu P ops al n base ρs hs rs ι0 I0 w0 S m ρ H ι I a w) (hS: ∀j,j<al.length->S j):ρ=ρs al.length/\H=hs al.length:=by
 have hq:zu al m (m+(al.length-m)):=by
  intro k ro h1 h2 h3
  cases he:ro.op.cq with
  |false=>rfl
  |true=>have:=V.vR k ro (hS k (by have:=V.yG;omega)) h3 he;omega
 have hm:m+(al.length-m)=al.length:=by have:=V.yG;omega
 constructor
 ·obtain⟨e1,e2⟩:=T.env al.length (Nat.le_refl _)
  funext t
  by_cases hx: ∃(j:Nat) (ro:RO),al[j]? =some ro/\ro.dst=some t
  ·obtain⟨j,ro,h1,h2⟩:=hx
   have hj:=(List.getElem?_eq_some_iff.1 h1).1
   rw[V.ρ1 t j ro (hS j hj) h1 h2,e2 t j ro hj h1 h2]
  ·rw[V.ρ0 t (fun j ro _ h1 h2=>hx ⟨j,ro,h1,h2⟩),e1 t (fun j ro _ h1 h2=>hx ⟨j,ro,h1,h2⟩)]
 ·refine aa.same (fun b=>?_) ?_
  ·by_cases hx: ∃j,b=base+j/\m<=j/\j<al.length
   ·obtain⟨j,rfl,h1,h2⟩:=hx
    rw[V.h1 j (hS j h2) h1 h2]
    have:=T.w7 (al.length-(j+1)) (j+1) (by omega) (fun k ro e1 e2 e3=>hq k ro (by omega) (by omega) e3) (base+j) (fun k e1 e2=>by omega)
    rw[show j+1+(al.length-(j+1))=al.length by omega] at this
    exact this.symm
   ·rw[V.h2 b (fun j h1 h2 h3 _=>hx ⟨j,h1,h2,h3⟩)]
    have:=T.w7 (al.length-m) m (by omega) hq b (fun k e1 e2 e3=>hx ⟨k,e3,e1,by omega⟩)
    rw[hm] at this
    exact this.symm
  ·rw[V.hn]
   have:=T.MO (al.length-m) m (by omega) hq V.next
   rw[hm] at this
   exact this.symm
theorem TR.am6 (T:TR P ops al un base ρs hs rs) (V:nu P ops al n base ρs hs rs ι0 I0 w0 S m ρ H ι I a w) {i:Nat} {ro:RO} {o:Oper} (dN:al[i]? =some ro) (ho:ops.toList[i]? =some o) (hi: ¬S i)
 (kG: ∀e∈o.after.toList,Region.binds .any e=true->S e.on): ∀t∈ro.tL,ρs i t=ρ t:=by
 intro t ht
 have ix:=(List.getElem?_eq_some_iff.1 dN).1
 obtain⟨e1,e2⟩:=T.env i (by omega)
 by_cases hx: ∃(j:Nat) (rj:RO),al[j]? =some rj/\rj.dst=some t/\j≠i
 ·obtain⟨j,rj,h1,h2,h3⟩:=hx
  have hd:=T.d3 i j ro rj t dN h1 (Ne.symm h3) ht h2
  by_cases d7:j<i
  ·simp only[d7,if_true] at hd
   have wA:=zn T.d2 V.closed i j hd (.inl ⟨o,ho,kG⟩)
   rw[e2 t j rj d7 h1 h2,V.ρ1 t j rj wA h1 h2]
  ·simp only[d7,if_false] at hd
   have wA: ¬S j:=fun hsj=>hi (zn T.d2 V.closed j i hd (.inr hsj))
   rw[e1 t (fun k rk hk h4 h5=>by have:=T.d1 j k rj rk t h1 h4 h2 h5;omega),V.ρ0 t (fun k rk hk h4 h5=>by have:=T.d1 j k rj rk t h1 h4 h2 h5;subst this;exact wA hk)]
 ·rw[e1 t (fun k rk hk h4 h5=>hx ⟨k,rk,h4,h5,by omega⟩),V.ρ0 t (fun k rk hk h4 h5=>hx ⟨k,rk,h4,h5,fun e=>by subst e;exact hi hk⟩)]
theorem TR.aaq (T:TR P ops al un base ρs hs rs) (V:nu P ops al n base ρs hs rs ι0 I0 w0 S m ρ H ι I a w) {r:Nat} (hmr:m<=r) (hr:r<=al.length) (hq:zu al m r)
 {b:Nat} {l:Loc} {x:cI} (hb:ι b=some l) (hx:(hs r).get b=some x):H.get b=(hs r).get b:=by
 by_cases hj: ∃j,b=base+j/\m<=j/\j<al.length
 ·obtain⟨j,rfl,h1,h2⟩:=hj
  have wA:S j:=Classical.byContradiction fun hn=>by rw[V.inj j h2 hn] at hb;cases hb
  rw[V.h1 j wA h1 h2]
  by_cases hjr:j<r
  ·have:=T.w7 (r-(j+1)) (j+1) (by omega) (fun k ro e1 e2 e3=>hq k ro (by omega) (by omega) e3) (base+j) (fun k e1 e2=>by omega)
   rw[show j+1+(r-(j+1))=r by omega] at this
   exact this.symm
  ·have:=T.fresh r j (by omega) h2
   rw[this] at hx;cases hx
 ·rw[V.h2 b (fun j e1 e2 e3 _=>hj ⟨j,e1,e2,e3⟩)]
  have:=T.w7 (r-m) m (by omega) (by rw[show m+(r-m)=r by omega];exact hq) b (fun k e1 e2 e3=>hj ⟨k,e3,e1,by omega⟩)
  rw[show m+(r-m)=r by omega] at this
  exact this.symm
theorem TR.ref (T:TR P ops al un base ρs hs rs) (V:nu P ops al n base ρs hs rs ι0 I0 w0 S m ρ H ι I a w) {i:Nat} {ro:RO} {o:Oper} (dN:al[i]? =some ro) (ho:ops.toList[i]? =some o) (hi: ¬S i)
 (kG: ∀e∈o.after.toList,Region.binds .any e=true->S e.on) {q:a8} (hq:ro.op= .p q) (ku:q.reads=true) {v:AV} (dE:rs i=some v) (hv:aX q (ρs i) (hs i)=some v):
 ∃r,m<=r/\r<=al.length/\zu al m r/\(r<al.length->r=m\/ ¬S r)/\aX q (ρs i) (hs r)=some v:=by
 have ix:=(List.getElem?_eq_some_iff.1 dN).1
 have aM:ro.op.cq=false:=by rw[hq];rfl
 have hrr:ro.op.reads=true:=by rw[hq];exact ku
 by_cases pR:m<=i
 ·
  by_cases hx: ∃k rk,m<=k/\k<i/\al[k]? =some rk/\rk.op.cq=true
  ·have: ∃k,(∃rk,m<=k/\k<i/\al[k]? =some rk/\rk.op.cq=true)/\ ∀k',k'<k-> ¬ ∃rk,m<=k'/\k'<i/\al[k']? =some rk/\rk.op.cq=true:=by
    obtain⟨k,hk⟩:=hx
    induction k using Nat.strongRecOn with
    |_ k ih=>
     by_cases hy: ∃k',k'<k/\ ∃rk,m<=k'/\k'<i/\al[k']? =some rk/\rk.op.cq=true
     ·obtain⟨k',h1,h2⟩:=hy
      exact ih k' h1 h2
     ·exact⟨k,hk,fun k' h1 h2=>hy ⟨k',h1,h2⟩⟩
   obtain⟨k,⟨rk,h1,h2,h3,h4⟩,h5⟩:=this
   have hkS: ¬S k:=fun h=>by have:=V.vR k rk h h3 h4;omega
   have UZ:kN (fN ops.toList []) k i=false:=by
    cases gP:kN (fN ops.toList []) k i with
    |false=>rfl
    |true=>exact(hkS (zn T.d2 V.closed i k gP (.inl ⟨o,ho,kG⟩))).elim
   have F5:=T.d5 i k ro rk h2 dN h3 (.inl ⟨hrr,h4⟩) UZ
   have lf:=T.lJ i k ro rk dN h3 h2 F5
   unfold Am.lJ at lf
   rw[aM,dE,hq] at lf
   simp only[Bool.false_eq_true,if_false] at lf
   exact⟨k,h1,by omega,fun k' rk' e1 e2 e3=>by cases he:rk'.op.cq with
    |false=>rfl
    |true=>exact(h5 k' e2 ⟨rk',e1,by omega,e3,he⟩).elim,fun _=> .inr hkS,lf⟩
  ·exact⟨i,pR,by omega,fun k rk e1 e2 e3=>by cases he:rk.op.cq with
    |false=>rfl
    |true=>exact(hx ⟨k,rk,e1,e2,e3,he⟩).elim,fun _=> .inr hi,hv⟩
 ·rcases V.As with h0|⟨rm,h1,h2⟩
  ·omega
  ·have Gr:=V.A4 (m-1) rm (by omega) h1 h2
   have Fl:i≠m-1:=fun e=>by subst e;exact hi Gr
   have UZ:kN (fN ops.toList []) i (m-1)=false:=by
    cases gP:kN (fN ops.toList []) i (m-1) with
    |false=>rfl
    |true=>exact(hi (zn T.d2 V.closed (m-1) i gP (.inr Gr))).elim
   have F5:=T.d5 (m-1) i rm ro (by omega) h1 dN (.inr ⟨h2,hrr⟩) UZ
   have lf:=T.lJ (m-1) i rm ro h1 dN (by omega) F5
   unfold Am.lJ at lf
   rw[h2,dE,hq] at lf
   simp only[if_true] at lf
   rw[show m-1+1=m by omega] at lf
   exact⟨m,Nat.le_refl _,V.yG,fun k rk e1 e2=>by omega,fun _=> .inl rfl,lf⟩
end inv
end
end
section
open Go
section
variable {P:Program} {md:Mode}
variable {ops:Array Oper} {al:List RO} {un:List (List Nat)} {n base:Nat} {ρs:Nat->Env} {hs:Nat->aa} {rs:Nat->Option AV} {ι0:aI} {I0:aR} {w0:World}
 {S:Nat->Prop} {m:Nat} {ρ:Env} {H:aa} {ι:aI} {I:aR} {a:Act} {w:World}
theorem YY {ρ:Env} {d:Option Nat} {v:AV} {t:Nat} (h:d≠some t):put ρ d v t=ρ t:=by
 cases d with
 |none=>rfl
 |some d=>
  have:t≠d:=fun e=>h (by rw[e])
  simp[put,this]
theorem ang {ρ:Env} {d:Option Nat} {v:AV} {t:Nat} (h:d=some t):put ρ d v t=v:=by subst h;simp[put]
theorem TR.Yo (T:TR P ops al un base ρs hs rs) (V:nu P ops al n base ρs hs rs ι0 I0 w0 S m ρ H ι I a w) {i:Nat} {ro:RO} (dN:al[i]? =some ro) (hi: ¬S i):
 (∀(t:Nat),(∀(j:Nat) (rj:RO),(S j\/j=i)->al[j]? =some rj->rj.dst≠some t)->put ρ ro.dst (fO (rs i)) t=ρs 0 t)/\
 (∀(t j:Nat) (rj:RO),(S j\/j=i)->al[j]? =some rj->rj.dst=some t->put ρ ro.dst (fO (rs i)) t=fO (rs j)):=by
 constructor
 ·intro t ht
  rw[YY (ht i ro (.inr rfl) dN)]
  exact V.ρ0 t (fun j rj h1 h2=>ht j rj (.inl h1) h2)
 ·intro t j rj hj sR hd
  rcases hj with hj|rfl
  ·have aM:j≠i:=fun e=>hi (e▸hj)
   rw[YY (fun e=>aM (T.d1 j i rj ro t sR dN hd e))]
   exact V.ρ1 t j rj hj sR hd
  ·rw[dN] at sR;cases sR
   exact ang hd
theorem TR.Yg (V:nu P ops al n base ρs hs rs ι0 I0 w0 S m ρ H ι I a w) {i:Nat} {o:Oper} (ho:ops.toList[i]? =some o)
 (kG: ∀e∈o.after.toList,Region.binds .any e=true->S e.on):
 ∀(j:Nat) (oj:Oper),(S j\/j=i)->ops.toList[j]? =some oj-> ∀e∈oj.after.toList,Region.binds .any e=true->(S e.on\/e.on=i):=by
 intro j oj hj Ww e he hb
 rcases hj with hj|rfl
 ·exact .inl (V.closed j oj hj Ww e he hb)
 ·rw[ho] at Ww;cases Ww
  exact .inl (kG e he hb)
theorem TR.akX (T:TR P ops al un base ρs hs rs) (V:nu P ops al n base ρs hs rs ι0 I0 w0 S m ρ H ι I a w) {i:Nat} {ro:RO} {o:Oper} (dN:al[i]? =some ro) (ho:ops.toList[i]? =some o) (hi: ¬S i)
 (kG: ∀e∈o.after.toList,Region.binds .any e=true->S e.on) (he:ro.op.cq=false) {H1:aa} {ι':aI} {I':aR} {a':Act} {w':World}
 (g1: ∀b,b≠base+i->H1.get b=H.get b) (g2:H1.get (base+i)=(hs (i+1)).get (base+i)) (g3:H1.next=H.next)
 (A':AR ι' I' w' n (put ρ ro.dst (fO (rs i))) a') (H':HR ι' I' H1 w') (E:Ext (fun b=>b=base+i\/H.next<=b) ι I H w ι' I' H1 w'):
 nu P ops al n base ρs hs rs ι0 I0 w0 (fun j=>S j\/j=i) m (put ρ ro.dst (fO (rs i))) H1 ι' I' a' w':=by
 have ix:=(List.getElem?_eq_some_iff.1 dN).1
 obtain⟨s0,s1⟩:=T.Yo V dN hi
 have BK:base+al.length<=H.next:=by rw[V.hn];exact V.next
 exact
 {ar:=A',hr:=H',ρ0:=s0,ρ1:=s1,closed:=TR.Yg V ho kG,yG:=V.yG,As:=V.As,next:=V.next
  ext:=V.ext.trans E (fun b hb=>by rcases hb with rfl|hb<;>omega)
  h1:=by
   intro j hj h1 h2
   rcases hj with hj|rfl
   ·have aM:j≠i:=fun e=>hi (e▸hj)
    rw[g1 _ (by omega)];exact V.h1 j hj h1 h2
   ·exact g2
  h2:=by
   intro b hb
   by_cases cj:b=base+i
   ·subst cj
    have pT: ¬m<=i:=fun h=>hb i rfl h ix (.inr rfl)
    rw[g2,V.pb i (by omega) hi]
   ·rw[g1 b cj]
    exact V.h2 b (fun j h1 h2 h3 h4=>hb j h1 h2 h3 (.inl h4))
  hn:=by rw[g3];exact V.hn
  lt:=fun j hj=>by rcases hj with hj|rfl;exact V.lt j hj;exact ix
  vR:=fun j rj hj sR Gh=>by
   rcases hj with hj|rfl
   ·exact V.vR j rj hj sR Gh
   ·rw[dN] at sR;cases sR;rw[he] at Gh;cases Gh
  A4:=fun j rj h1 h2 h3=> .inl (V.A4 j rj h1 h2 h3)
  inj:=by
   intro j hj hn
   have:j≠i:=fun e=>hn (.inr e)
   rw[E.eZ _ (by omega)]
   exact V.inj j hj (fun h=>hn (.inl h))
  pb:=fun j hj hn=>V.pb j hj (fun h=>hn (.inl h))}
open Classical in
theorem TR.anR (T:TR P ops al un base ρs hs rs) (V:nu P ops al n base ρs hs rs ι0 I0 w0 S m ρ H ι I a w) {i:Nat} {ro:RO} {o:Oper} (dN:al[i]? =some ro) (ho:ops.toList[i]? =some o) (hi: ¬S i)
 (kG: ∀e∈o.after.toList,Region.binds .any e=true->S e.on) (he:ro.op.cq=true):
 HR ι I (hs i) w/\base+al.length<=(hs i).next/\ ∀{ι':aI} {I':aR} {a':Act} {w':World},
 AR ι' I' w' n (put ρ ro.dst (fO (rs i))) a'->HR ι' I' (hs (i+1)) w'->Ext (fun b=>b=base+i\/(hs i).next<=b) ι I (hs i) w ι' I' (hs (i+1)) w'->
 ∃J,nu P ops al n base ρs hs rs ι0 I0 w0 (fun j=>S j\/j=i) (i+1) (put ρ ro.dst (fO (rs i))) J ι' I' a' w':=by
 have ix:=(List.getElem?_eq_some_iff.1 dN).1
 have aay: ∀(k:Nat) (rk:RO),k<i->al[k]? =some rk->rk.op.cq=true->S k:=fun k rk h1 h2 h3=>
  zn T.d2 V.closed i k (T.d4 k i rk ro h1 h2 dN h3 he) (.inl ⟨o,ho,kG⟩)
 have aqX: ∀(k:Nat) (rk:RO),i<k->al[k]? =some rk->rk.op.cq=true-> ¬S k:=fun k rk h1 h2 h3 h4=>
  hi (zn T.d2 V.closed k i (T.d4 i k ro rk h1 dN h2 he h3) (.inr h4))
 have pR:m<=i:=by
  rcases V.As with h0|⟨rm,h1,h2⟩
  ·omega
  ·by_cases hq:m<=i
   ·exact hq
   ·have Gr:=V.A4 (m-1) rm (by omega) h1 h2
    by_cases iw:m-1=i
    ·exact(hi (iw▸Gr)).elim
    ·exact(aqX (m-1) rm (by omega) h1 h2 Gr).elim
 have hq:zu al m i:=by
  intro k rk h1 h2 h3
  cases yT:rk.op.cq with
  |false=>rfl
  |true=>have:=V.vR k rk (aay k rk h2 h3 yT) h3 yT;omega
 have fg:(hs i).next=(hs m).next:=by
  have:=T.MO (i-m) m (by omega) (by rw[show m+(i-m)=i by omega];exact hq) V.next
  rwa [show m+(i-m)=i by omega] at this
 have dE: ∀b,(∀k,m<=k->k<i->b≠base+k)->(hs i).get b=(hs m).get b:=by
  intro b hb
  have:=T.w7 (i-m) m (by omega) (by rw[show m+(i-m)=i by omega];exact hq) b (fun k h1 h2=>hb k h1 (by omega))
  rwa [show m+(i-m)=i by omega] at this
 have awl: ∀j,m<=j->j<i->(hs i).get (base+j)=(hs (j+1)).get (base+j):=by
  intro j h1 h2
  have:=T.w7 (i-(j+1)) (j+1) (by omega) (fun k rk e1 e2 e3=>hq k rk (by omega) (by omega) e3) (base+j) (fun k e1 e2=>by omega)
  rwa [show j+1+(i-(j+1))=i by omega] at this
 have Rb: ∀b l x,ι b=some l->(hs i).get b=some x->H.get b=(hs i).get b:=fun b l x hb hx=>
  T.aaq V pR (by omega) hq hb hx
 have HH:HR ι I (hs i) w:=V.hr.DF (fun b l hb=>by rw[fg,<-V.hn];exact V.hr.cG b l hb) (fun b l x hb hx=>by rw[Rb b l x hb hx];exact hx)
 refine⟨HH,by rw[fg];exact V.next,?_⟩
 intro ι' I' a' w' A' H' E
 obtain⟨s0,s1⟩:=T.Yo V dN hi
 let J:aa:={get:=fun b=>if∃j,b=base+j/\i+1<=j/\j<al.length/\S j then H.get b else(hs (i+1)).get b,next:=(hs (i+1)).next}
 have WS: ∀j,i+1<=j->j<al.length->S j->J.get (base+j)=H.get (base+j):=fun j h1 h2 h3=>if_pos ⟨j,rfl,h1,h2,h3⟩
 have Ma: ∀b,(¬ ∃j,b=base+j/\i+1<=j/\j<al.length/\S j)->J.get b=(hs (i+1)).get b:=fun b hb=>if_neg hb
 have iz: ∀j,j<al.length->j≠i->ι' (base+j)=ι (base+j):=fun j h1 h2=>E.eZ _ (by have:=V.next;omega)
 have HJ:HR ι' I' J w':=by
  refine V.hr.join H' E (fun b l x hb hx=>by rw[Rb b l x hb hx];exact hx) (Nat.le_refl _) ?_
  intro b x hx
  by_cases hb: ∃j,b=base+j/\i+1<=j/\j<al.length/\S j
  ·obtain⟨j,rfl,h1,h2,h3⟩:=hb
   rw[WS j h1 h2 h3] at hx
   cases hl:ι (base+j) with
   |none=>right;right;rw[iz j h2 (by omega)];exact hl
   |some l=>right;left;exact⟨hx,T.fresh i j (by omega) h2,l,rfl⟩
  ·rw[Ma b hb] at hx
   exact .inl hx
 refine⟨J,?_⟩
 exact
 {ar:=A',hr:=HJ,ρ0:=s0,ρ1:=s1,closed:=TR.Yg V ho kG,yG:=by omega
  As:= .inr ⟨ro,by simpa using dN,he⟩
  next:=by have:=E.next;have:=V.next;omega
  hn:=rfl
  ext:=by
   refine V.ext.step E (fun b hb=>?_) (fun b l x hb hx=>⟨x,by rw[Rb b l x hb hx];exact hx⟩) ?_ ?_ ?_
   ·have:=V.next;rcases hb with rfl|hb<;>omega
   ·intro b l x hb hx
    by_cases hbj: ∃j,b=base+j/\i+1<=j/\j<al.length/\S j
    ·obtain⟨j,rfl,h1,h2,h3⟩:=hbj
     rw[WS j h1 h2 h3] at hx
     exact .inr ⟨by rw[<-iz j h2 (by omega)];exact hb,x,hx⟩
    ·rw[Ma b hbj] at hx
     exact .inl ⟨x,hx⟩
   ·show H.next<=(hs (i+1)).next
    have:=E.next;rw[V.hn];omega
   ·intro b hb hn
    have bC:b<base:=by simpa using hb
    rw[Ma b (by rintro⟨j,rfl,_⟩;omega),E.lost b (by have:=V.next;omega) (by rw[V.ext.eZ b hb];exact hn),dE b (fun k _ _=>by omega),<-V.h2 b (fun j h1=>by omega)]
    exact V.ext.lost b hb hn
  h1:=by
   intro j hj h1 h2
   rcases hj with hj|rfl
   ·rw[WS j h1 h2 hj];exact V.h1 j hj (by omega) h2
   ·omega
  h2:=by
   intro b hb
   exact Ma b (by rintro⟨j,h1,h2,h3,h4⟩;exact hb j h1 h2 h3 (.inl h4))
  lt:=fun j hj=>by rcases hj with hj|rfl;exact V.lt j hj;exact ix
  vR:=fun j rj hj sR Gh=>by
   rcases hj with hj|rfl
   ·have:=V.vR j rj hj sR Gh;omega
   ·omega
  A4:=fun j rj h1 h2 h3=>by
   by_cases d7:j=i
   ·exact .inr d7
   ·exact .inl (aay j rj (by omega) h2 h3)
  inj:=by
   intro j hj hn
   rw[iz j hj (fun e=>hn (.inr e))]
   exact V.inj j hj (fun h=>hn (.inl h))
  pb:=by
   intro j hj hn
   have d7:j≠i:=fun e=>hn (.inr e)
   have wA: ¬S j:=fun h=>hn (.inl h)
   rw[E.lost (base+j) (by have:=V.next;omega) (V.inj j (by omega) wA)]
   by_cases hjm:m<=j
   ·exact awl j hjm (by omega)
   ·rw[dE (base+j) (fun k _ _=>by omega)]
    exact V.pb j (by omega) wA}
end
end
section
open Go
theorem Xs {p p':Nat->Bool} (hle: ∀j,p' j=true->p j=true): ∀l:List Nat,(l.filter p').length<=(l.filter p).length
 |[]=>by simp
 |x::l=>by
  have ih:=Xs hle l
  by_cases h1:p' x=true
  ·simp[h1,hle x h1];exact ih
  ·by_cases h2:p x=true
   ·simp[h1,h2];omega
   ·simp[h1,h2];exact ih
theorem Xr {p p':Nat->Bool} (hle: ∀j,p' j=true->p j=true) {i:Nat} (hp:p i=true) (qY:p' i=false): ∀l:List Nat,i∈l->(l.filter p').length<(l.filter p).length
 |[],h=>by simp at h
 |x::l,h=>by
  have axB:=Xs hle l
  by_cases hxi:x=i
  ·subst hxi;simp[hp,qY];omega
  ·have ih:=Xr hle hp qY l (by simpa [Ne.symm hxi] using h)
   by_cases h1:p' x=true
   ·simp[h1,hle x h1];exact ih
   ·by_cases h2:p x=true
    ·simp[h1,h2];omega
    ·simp[h1,h2];exact ih
theorem mem_ready {ops:Array Oper} {eL:Array Bool} {i:Nat}:i∈Region.ready .any ops eL↔
 i<ops.size/\eL.getD i true=false/\ ∃o,ops.toList[i]? =some o/\ ∀e∈o.after.toList,Region.binds .any e=true->eL.getD e.on false=true:=by
 simp only[Region.ready,List.mem_filter,List.mem_range,Bool.and_eq_true,Bool.not_eq_true']
 refine and_congr_right fun hi=>and_congr_right fun _=>?_
 have:ops[i]? =ops.toList[i]?:=by simp
 rw[this]
 have aB:i<ops.toList.length:=by simpa using hi
 rw[List.getElem?_eq_getElem aB]
 simp only[Option.map_some,Option.getD_some,Option.some.injEq,exists_eq_left']
 rw[Array.all_eq_true_iff_forall_mem]
 constructor
 ·intro h e he hb
  have:=h e (by simpa using he)
  simpa [hb] using this
 ·intro h e he
  by_cases hb:Region.binds .any e=true
  ·simp[hb,h e (by simpa using he) hb]
  ·simp[hb]
section
variable {P:Program} {md:Mode}
variable {ops:Array Oper} {al:List RO} {un:List (List Nat)} {n base:Nat} {ρs:Nat->Env} {hs:Nat->aa} {rs:Nat->Option AV} {ι0:aI} {I0:aR} {w0:World}
 {Q:Exit->Act->World->Prop}
theorem TR.ank (T:TR P ops al un base ρs hs rs) (yV: ∀(i:Nat) (o:Oper) (ro:RO),ops.toList[i]? =some o->al[i]? =some ro->uD P md n ops o=some ro)
 (WC: ∀ro∈al,ro.op.qn=true)
 {S:Nat->Prop} {m:Nat} {ρ:Env} {H:aa} {ι:aI} {I:aR} {a:Act} {w:World} (V:nu P ops al n base ρs hs rs ι0 I0 w0 S m ρ H ι I a w)
 {i:Nat} {ro:RO} {o:Oper} (dN:al[i]? =some ro) (ho:ops.toList[i]? =some o) (hi: ¬S i)
 (kG: ∀e∈o.after.toList,Region.binds .any e=true->S e.on) {K:Act->World->Prop}
 (hK: ∀(m':Nat) (ρ':Env) (H':aa) (ι':aI) (I':aR) (a':Act) (w':World),nu P ops al n base ρs hs rs ι0 I0 w0 (fun j=>S j\/j=i) m' ρ' H' ι' I' a' w'->K a' w'):
 if Region.wanted o (yielded ops a.tmps) then o.wp P a w K Q\/(o.asks P a w/\LetsOut Q) else K (a.put o.dst Go.undef) w:=by
 have ix:=(List.getElem?_eq_some_iff.1 dN).1
 have hc:=yV i o ro ho dN
 have sj:=(T.step i ro dN).1
 have pP:=T.am6 V dN ho hi kG
 have aL:=V.inj i ix hi
 cases he:ro.op.cq with
 |true=>
  obtain⟨HH,fg,Va⟩:=T.anR V dN ho hi kG he
  refine ML (Q:=Q) HH V.ar hc aL (Yl pP sj) ?_
  intro a' w' ι' I' A' H' E
  obtain⟨J,V'⟩:=Va A' H' E
  exact hK _ _ _ _ _ _ _ V'
 |false=>
  have key: ∃H1,br P ro (base+i) ρ H (rs i) H1/\(∀b,b≠base+i->H1.get b=H.get b)/\H1.get (base+i)=(hs (i+1)).get (base+i)/\H1.next=H.next:=by
   have U3:ro∈al:=List.mem_of_getElem? dN
   have yd:=Yl pP sj
   have BK:base+al.length<=H.next:=by rw[V.hn];exact V.next
   have aa9:(hs (i+1)).get (base+i)=none->H.get (base+i)=(hs (i+1)).get (base+i):=by
    intro Jx
    by_cases pR:m<=i
    ·rw[V.h2 (base+i) (fun j h1 h2 h3=>by have:j=i:=by omega
                                          subst this;exact hi)]
     rw[T.fresh m i pR ix,Jx]
    ·rw[V.h2 (base+i) (fun j h1 h2 h3=>by omega)]
     exact V.pb i (by omega) hi
   unfold br at yd
   split at yd
   ·rename_i hg
    obtain⟨v,hv,bQ⟩:=yd
    unfold gF at bQ
    cases bO:ro.op with
    |p q=>
     rw[bO] at bQ
     obtain⟨wi,hh⟩:=bQ
     refine⟨H,?_,fun b _=>rfl,aa9 (by rw[hh];exact T.fresh i i (Nat.le_refl _) ix),rfl⟩
     have hvH:aX q ρ H=some v:=by
      by_cases ku:q.reads=true
      ·have LD:aX q (ρs i) (hs i)=some v:=by
        rw[MH q (ρ':=ρ) (hs i) ?_]
        ·exact wi
        ·intro x hx
         cases x with
         |const c=>rfl
         |tmp t=>exact pP t (by simp only[RO.tL,bO,bU.dT,List.mem_append,List.mem_flatMap];exact .inl ⟨_,hx,by simp[au.slot]⟩)
       obtain⟨r,h1,h2,h3,h4,h5⟩:=T.ref V dN ho hi kG bO ku hv LD
       rw[MH q (ρ':=ρ) (hs r) ?_] at h5
       ·rw[<-h5]
        refine rK q ρ H (hs r) (fun b hb=>?_)
        obtain⟨l,hl⟩:=aoz V.ar (by have:=WC ro U3;rw[bO] at this;exact this) hb
        obtain⟨x,hx⟩:=anA hb h5
        exact T.aaq V h1 h2 h3 hl hx
       ·intro x hx
        cases x with
        |const c=>rfl
        |tmp t=>exact pP t (by simp only[RO.tL,bO,bU.dT,List.mem_append,List.mem_flatMap];exact .inl ⟨_,hx,by simp[au.slot]⟩)
      ·rw[<-wi]
       refine rK q ρ H (hs i) (fun b hb=>?_)
       exfalso
       cases q<;>simp[a8.key,a8.reads] at hb ku
     unfold br
     rw[hg]
     refine⟨v,hv,?_⟩
     unfold gF
     rw[bO]
     exact⟨hvH,rfl⟩
    |a q=>
     rw[bO] at bQ
     obtain⟨B8,wi,hh⟩:=bQ
     refine⟨H.at (base+i) B8,?_,fun b hb=>by simp[aa.at,hb],by rw[hh];simp[aa.at],by simp only[aa.at];omega⟩
     unfold br
     rw[hg]
     refine⟨v,hv,?_⟩
     unfold gF
     rw[bO]
     exact⟨B8,wi,rfl⟩
    |e q=>rw[bO] at he;cases he
    |call f as=>rw[bO] at he;cases he
    |dyn x as=>rw[bO] at he;cases he
   ·rename_i hg
    obtain⟨hr,hh⟩:=yd
    refine⟨H,?_,fun b _=>rfl,aa9 (by rw[hh];exact T.fresh i i (Nat.le_refl _) ix),rfl⟩
    unfold br
    rw[hg]
    exact⟨hr,rfl⟩
   ·exact yd.elim
  obtain⟨H1,Ws,g1,g2,g3⟩:=key
  refine ML (Q:=Q) V.hr V.ar hc aL Ws ?_
  intro a' w' ι' I' A' H' E
  exact hK _ _ _ _ _ _ _ (T.akX V dN ho hi kG he g1 g2 g3 A' H' E)
theorem TR.amI (T:TR P ops al un base ρs hs rs) (hlen:ops.toList.length=al.length) (yV: ∀(i:Nat) (o:Oper) (ro:RO),ops.toList[i]? =some o->al[i]? =some ro->uD P md n ops o=some ro)
 (WC: ∀ro∈al,ro.op.qn=true)
 (hQ: ∀(ι:aI) (I:aR) (a:Act) (w:World),AR ι I w n (ρs al.length) a->HR ι I (hs al.length) w->Ext (base<= ·) ι0 I0 (hs 0) w0 ι I (hs al.length) w->Q .normal a w):
 ∀(fuel:Nat) (eL:Array Bool) {S:Nat->Prop} {m:Nat} {ρ:Env} {H:aa} {ι:aI} {I:aR} {a:Act} {w:World},nu P ops al n base ρs hs rs ι0 I0 w0 S m ρ H ι I a w->
 eL.size=ops.size->(∀j,S j↔eL[j]? =some true)->((List.range ops.size).filter fun j=>!eL.getD j true).length<=fuel->
 wpAny P .any ops Q fuel eL a w:=by
 have aP:ops.size=al.length:=by simpa using hlen
 have aek: ∀(eL:Array Bool) {S:Nat->Prop} {m:Nat} {ρ:Env} {H:aa} {ι:aI} {I:aR} {a:Act} {w:World},nu P ops al n base ρs hs rs ι0 I0 w0 S m ρ H ι I a w->
  eL.size=ops.size->(∀j,S j↔eL[j]? =some true)->Region.ready .any ops eL=[]->Q .normal a w:=by
  intro eL S m ρ H ι I a w V hl hS hr
  have gM: ∀j,j<al.length->S j:=by
   intro j
   induction j using Nat.strongRecOn with
   |_ j ih=>
    intro hj
    apply Classical.byContradiction
    intro hn
    have hjo:j<ops.toList.length:=by omega
    have:j∈Region.ready .any ops eL:=by
     rw[mem_ready]
     refine⟨by omega,?_,_,List.getElem?_eq_getElem hjo,fun e he hb=>?_⟩
     ·have dO:j<eL.size:=by omega
      have aM:eL[j]?≠some true:=fun h=>hn ((hS j).2 h)
      rw[Array.getElem?_eq_getElem dO] at aM
      simp only[Array.getD,dO,dif_pos]
      cases hq:eL[j] with
      |false=>simpa using hq
      |true=>exact(aM (by rw[hq])).elim
     ·have aC:=T.d2 j _ (List.getElem?_eq_getElem hjo) e he hb
      have:=(hS e.on).1 (ih e.on aC (by omega))
      simp[Array.getD_eq_getD_getElem?,this]
    rw[hr] at this
    simp at this
  obtain⟨rfl,rfl⟩:=T.asD V gM
  exact hQ ι I a w V.ar V.hr V.ext
 intro fuel
 induction fuel with
 |zero=>
  intro eL S m ρ H ι I a w V hl hS hf
  have hr:Region.ready .any ops eL=[]:=by
   cases hq:Region.ready .any ops eL with
   |nil=>rfl
   |cons i l=>
    have hi:i∈Region.ready .any ops eL:=by rw[hq];simp
    obtain⟨h1,h2,_⟩:=mem_ready.1 hi
    have hz:=List.eq_nil_of_length_eq_zero (Nat.le_zero.1 hf)
    have:i∈(List.range ops.size).filter fun j=>!eL.getD j true:=by
     rw[List.mem_filter]
     exact⟨List.mem_range.2 h1,by rw[h2];rfl⟩
    rw[hz] at this
    simp at this
  exact⟨hr,aek eL V hl hS hr⟩
 |succ fuel ih=>
  intro eL S m ρ H ι I a w V hl hS hf
  refine⟨aek eL V hl hS,fun i hi=>?_⟩
  obtain⟨h1,h2,o,ho,kG⟩:=mem_ready.1 hi
  have auA:i<al.length:=by omega
  have dN:=List.getElem?_eq_getElem auA
  have hnS: ¬S i:=by
   intro h
   have:=(hS i).1 h
   simp[Array.getD_eq_getD_getElem?,this] at h2
  have ku: ∀e∈o.after.toList,Region.binds .any e=true->S e.on:=by
   intro e he hb
   have hx:=kG e he hb
   rw[hS]
   cases hq:eL[e.on]? with
   |none=>simp[Array.getD_eq_getD_getElem?,hq] at hx
   |some b=>simp[Array.getD_eq_getD_getElem?,hq] at hx;rw[hx]
  have bO:ops[i]? =some o:=by simpa using ho
  unfold wpOp
  rw[bO]
  simp only[]
  refine T.ank yV WC V dN ho hnS ku ?_
  intro m' ρ' H' ι' I' a' w' V'
  refine ih (eL.setIfInBounds i true) V' (by simp[hl]) (fun j=>?_) ?_
  ·by_cases d7:j=i
   ·subst d7
    have:j<eL.size:=by omega
    simp[this]
   ·simp[d7,Array.getElem?_setIfInBounds_ne (Ne.symm d7),hS j]
  ·have aC:=Xr (p:=fun j=>!eL.getD j true) (p':=fun j=>!(eL.setIfInBounds i true).getD j true) (i:=i) (fun j hj=>?_) (by simp[h2]) ?_ (List.range ops.size) (by simpa using h1)
   ·omega
   ·by_cases d7:j=i
    ·subst d7
     have dO:j<eL.size:=by omega
     simp[Array.getD_eq_getD_getElem?,dO] at hj
    ·simpa [Array.getD_eq_getD_getElem?,Array.getElem?_setIfInBounds_ne (Ne.symm d7)] using hj
   ·have dO:i<eL.size:=by omega
    simp[Array.getD_eq_getD_getElem?,dO]
end
end
section
open Go
section
variable {P:Program} {md:Mode}
theorem YC {t7:List Nat} {pI:List (List Nat)} (h: ∀j i,(t7.getD j 0).testBit i=(pI.getD j []).contains i) (i:Nat): ∀es:List Edge,
 (CP t7 es).testBit i=(es.flatMap fun e=>e.on::pI.getD e.on []).contains i
 |[]=>by simp[CP]
 |e::es=>by
  rw[CP,Nat.testBit_or,Nat.testBit_or,YC h i es,h,Nat.testBit_two_pow,List.flatMap_cons]
  rw[Bool.eq_iff_iff]
  simp only[Bool.or_eq_true,decide_eq_true_eq,List.contains_iff_mem,List.mem_append,List.mem_cons]
  constructor
  ·rintro((h1|h1)|h1)
   ·exact .inl (.inl h1.symm)
   ·exact .inl (.inr h1)
   ·exact .inr h1
  ·rintro((h1|h1)|h1)
   ·exact .inl (.inl h1.symm)
   ·exact .inl (.inr h1)
   ·exact .inr h1
theorem Yu: ∀(os:List Oper) (t7:List Nat) (pI:List (List Nat)),t7.length=pI.length->(∀j i,(t7.getD j 0).testBit i=(pI.getD j []).contains i)->
 ∀j i,((rR os t7).getD j 0).testBit i=((fN os pI).getD j []).contains i
 |[],t7,pI,hl,h,j,i=>h j i
 |o::os,t7,pI,hl,h,j,i=>by
  rw[rR,fN]
  refine Yu os _ _ (by simp[hl]) (fun j i=>?_) j i
  simp only[List.getD_eq_getElem?_getD]
  by_cases hj:j<t7.length
  ·rw[List.getElem?_append_left hj,List.getElem?_append_left (by omega)]
   have:=h j i
   simpa only[List.getD_eq_getElem?_getD] using this
  ·rw[List.getElem?_append_right (by omega),List.getElem?_append_right (by omega),hl]
   by_cases pS:j=pI.length
   ·subst pS
    simpa using YC h i (o.after.toList.filter fun e=>Region.binds .any e)
   ·have:0<j-pI.length:=by omega
    obtain⟨d,hd⟩: ∃d,j-pI.length=d+1:=⟨j-pI.length-1,by omega⟩
    rw[hd]
    simp
theorem Hl {ops:Array Oper} {m i j:Nat} (hm:(rR ops.toList [])[j]? =some m):m.testBit i=kN (fN ops.toList []) i j:=by
 have:=Yu ops.toList [] [] rfl (fun j i=>by simp) j i
 rw[List.getD_eq_getElem?_getD,hm] at this
 simpa [kN] using this
theorem uT {al:List RO} {ms:List Nat} (hl:ms.length=al.length) {i:Nat} {ri:RO} (hi:al[i]? =some ri): ∃m,ms[i]? =some m/\((ri,m),i)∈Ap al ms:=by
 have aC:=(List.getElem?_eq_some_iff.1 hi).1
 have hm:=List.getElem?_eq_getElem (l:=ms) (i:=i) (by omega)
 refine⟨_,hm,?_⟩
 rw[Ap,List.mem_zipIdx_iff_getElem?,List.getElem?_zip_eq_some]
 exact⟨hi,hm⟩
theorem al9 {ops:Array Oper} {al:List RO} (h:FP ops al=true):
 (∀(i j:Nat) (ri rj:RO) (t:Nat),al[i]? =some ri->al[j]? =some rj->ri.dst=some t->rj.dst=some t->i=j)/\
 (∀(k:Nat) (o:Oper),ops.toList[k]? =some o-> ∀e∈o.after.toList,Region.binds .any e=true->e.on<k)/\
 (∀(i j:Nat) (ri rj:RO) (t:Nat),al[i]? =some ri->al[j]? =some rj->i≠j->t∈ri.tL->rj.dst=some t->if j<i then kN (fN ops.toList []) j i=true else kN (fN ops.toList []) i j=true)/\
 (∀(i j:Nat) (ri rj:RO),i<j->al[i]? =some ri->al[j]? =some rj->ri.op.cq=true->rj.op.cq=true->kN (fN ops.toList []) i j=true)/\
 (∀ro∈al,ro.op.qn=true)/\(rR ops.toList []).length=al.length:=by
 simp only[FP,Bool.and_eq_true] at h
 obtain⟨⟨⟨⟨⟨h0,h1⟩,h2⟩,h3⟩,h4⟩,h5⟩:=h
 have hl:(rR ops.toList []).length=al.length:=by simpa using h0
 simp only[List.all_eq_true] at h1 h3 h5
 refine⟨fun i j ri rj t hi hj hdi hdj=>?_,fun k o hk e he hb=>?_,fun i j ri rj t hi hj aM ht hd=>?_,fun i j ri rj oO hi hj hei LW=>?_,h5,hl⟩
 ·obtain⟨mi,pR,Bx⟩:=uT hl hi
  obtain⟨mj,LN,Ga⟩:=uT hl hj
  have:=h1 _ Bx _ Ga
  simp only[hdi,hdj] at this
  simpa using this
 ·rw[List.all_eq_true] at h2
  have:=h2 (o,k) (by rw[List.mem_iff_getElem?];exact⟨k,by simp[List.getElem?_zipIdx,hk]⟩)
  simp only[List.all_eq_true] at this
  have:=this e he
  simpa [hb] using this
 ·obtain⟨mi,pR,Bx⟩:=uT hl hi
  obtain⟨mj,LN,Ga⟩:=uT hl hj
  have:=h3 _ Bx t ht _ Ga
  simp only[hd] at this
  have Fl:(i==j)=false:=by simpa using aM
  rw[Fl] at this
  rw[<-Hl pR,<-Hl LN]
  split
  ·rename_i aC;simpa [aC] using this
  ·rename_i aC;simpa [aC] using this
 ·obtain⟨mi,pR,Bx⟩:=uT hl hi
  obtain⟨mj,LN,Ga⟩:=uT hl hj
  rw[List.all_eq_true] at h4
  have:=h4 _ Ga
  simp only[LW,Bool.not_true,Bool.false_or,List.all_eq_true] at this
  have:=this _ Bx
  rw[<-Hl LN]
  simpa [hei,oO] using this
theorem aoj {ops:Array Oper} {al:List RO} (hl:(rR ops.toList []).length=al.length) {i k:Nat} {ri rk:RO} (hk:k<i) (hi:al[i]? =some ri) (fh:al[k]? =some rk)
 (hx:(ri.op.reads=true/\rk.op.cq=true)\/(ri.op.cq=true/\rk.op.reads=true)) (ho:kN (fN ops.toList []) k i=false):k∈(yB ops al).getD i []:=by
 obtain⟨mi,pR,Bx⟩:=uT hl hi
 obtain⟨mk,hmk,hpk⟩:=uT hl fh
 have a7:(Ap al (rR ops.toList []))[i]? =some ((ri,mi),i):=by
  rw[Ap,List.getElem?_zipIdx,(List.getElem?_zip_eq_some (z:=(ri,mi))).2 ⟨hi,pR⟩]
  simp
 simp only[yB,List.getD_eq_getElem?_getD,List.getElem?_map,a7,Option.map_some,Option.getD_some]
 have awM:(ri.op.reads||ri.op.cq)=true:=by rcases hx with⟨h1,_⟩|⟨h1,_⟩<;>simp[h1]
 rw[if_pos awM,List.mem_map]
 refine⟨((rk,mk),k),?_,rfl⟩
 rw[List.mem_filter]
 refine⟨hpk,?_⟩
 simp only[Hl pR,ho]
 rcases hx with⟨h1,h2⟩|⟨h1,h2⟩<;>simp[h1,h2,hk]
theorem aky {ι:aI} {I:aR} {h:aa} {w:World} (H:HR ι I h w) (d:Nat):HR ι I h {w with drawn:=d}/\Ext (fun _=>False) ι I h w ι I h {w with drawn:=d}/\(∀x v,VR ι I w x v->VR ι I {w with drawn:=d} x v):=by
 have hv: ∀x v,VR ι I w x v->VR ι I {w with drawn:=d} x v:=fun x v hx=>VR.mono (w:=w) (w':={w with drawn:=d}) (fun _ _ h=>h) (fun _ _ h=>h) (fun _ _ _=>rfl) hx
 refine⟨{cG:=H.cG,inside:=H.inside,cells:=?_,maps:=?_,eR:=H.eR,dC:=H.dC,bz:=H.bz,dw:=H.dw,pl:=H.pl},?_,hv⟩
 ·intro b cs l hg hb
  obtain⟨cb,o,room,h1,h2,h3,h4⟩:=H.cells b cs l hg hb
  refine⟨cb,o,room,h1,h2,h3,fun j hj=>?_⟩
  obtain⟨c,e1,e2,e3⟩:=h4 j hj
  exact⟨c,e1,e2,fun v da=>hv _ _ (e3 v da)⟩
 ·intro b es l hg hb
  obtain⟨cb,aV,clock,h1,h2,h3,h4⟩:=H.maps b es l hg hb
  exact⟨cb,aV,clock,h1,h2,h3,fun i k v e e1 e2=>⟨hv _ _ (h4 i k v e e1 e2).1,hv _ _ (h4 i k v e e1 e2).2⟩⟩
 ·exact{eZ:=fun _ _=>rfl,bM:=fun _ _ h=>h,next:=Nat.le_refl _,bz:=fun _ _ h=>h,os:=rfl,tape:=rfl,output:=rfl,size:=Nat.le_refl _,block:=fun _ _ _=>rfl,cell:=fun _ _ _ _=>rfl,frozen:=fun _ _ _ _=>rfl,own:=fun _ _ h=> .inl h,gz:=fun _ _ h=> .inl h,lost:=fun _ _ _=>rfl}
theorem Ys (hm:P.follows .mixedOrders=true) {n:Nat} {rid:Nat} {ops:Array Oper} {al:List RO} (hc:tY P md n ops ops.toList=some al) (aY:FP ops al=true)
 {ι:aI} {I:aR} {h:aa} {w:World} {ρ:Env} {a:Act} (H:HR ι I h w) (A:AR ι I w n ρ a) (vn: ∀j,j<al.length->h.get (h.next+j)=none)
 {K:Env->aa->Prop} (he:l7 P al (yB ops al) h.next al 0 ρ {h with next:=h.next+al.length} [] K) {Q:Exit->Act->World->Prop}
 (hQ: ∀ρ' h' a' w' ι' I',K ρ' h'->AR ι' I' w' n ρ' a'->HR ι' I' h' w'->Ext (h.next<= ·) ι I h w ι' I' h' w'->Q .normal a' w'):
 (Code.region rid ops true).wp P Q a w:=by
 obtain⟨hlen,yV⟩:=Nx hc
 obtain⟨d1,d2,d3,d4,d6,dl⟩:=al9 aY
 obtain⟨tr,ρn,hn,uj,L8,gM,_,AY⟩:=Zz (P:=P) (K:=K) (al:=al) (un:=yB ops al) (base:=h.next) al [] ρ {h with next:=h.next+al.length} [] rfl rfl (fun i ro d _ hd=>by simp at hd) he
 have AY:=AY rfl
 have LG: ∀i,i<al.length-> ∃d,tr[i]? =some d:=fun i hi=>⟨_,List.getElem?_eq_getElem (by omega)⟩
 let ρs:Nat->Env:=fun i=>(fq tr ρn hn i).1
 let hs:Nat->aa:=fun i=>(fq tr ρn hn i).2
 let rs:Nat->Option AV:=fun i=>(tr[i]?).elim none fun d=>d.2.2
 have F9: ∀i d,tr[i]? =some d->rs i=d.2.2:=fun i d hd=>by simp[rs,hd]
 have dE: ∀i d,tr[i]? =some d->fq tr ρn hn i=(d.1,d.2.1):=fun i d hd=>by simp[fq,hd]
 have T:TR P ops al (yB ops al) h.next ρs hs rs:={
  step:=by
   intro i ro hi
   obtain⟨d,hd⟩:=LG i (List.getElem?_eq_some_iff.1 hi).1
   obtain⟨a1,a2,_,_⟩:=gM i ro d hi hd
   rw[F9 i d hd]
   exact⟨a1,a2⟩
  lJ:=by
   intro i k ro ok hi hk mB U3
   obtain⟨d,hd⟩:=LG i (List.getElem?_eq_some_iff.1 hi).1
   obtain⟨dk,cB⟩:=LG k (List.getElem?_eq_some_iff.1 hk).1
   obtain⟨_,_,_,a4⟩:=gM i ro d hi hd
   have:=a4 k U3 ok dk hk cB mB
   rw[F9 i d hd,F9 k dk cB]
   have e:(ρs k,hs k,dk.2.2)=dk:=by
    simp only[ρs,hs,dE k dk cB]
   rw[e]
   exact this
  abc:=by
   intro j hj
   show(fq tr ρn hn 0).2.get (h.next+j)=none
   rw[AY]
   exact vn j hj
  abb:=by
   intro i ro hi Vb j oO hj
   obtain⟨d,hd⟩:=LG i (List.getElem?_eq_some_iff.1 hi).1
   obtain⟨_,_,a3,_⟩:=gM i ro d hi hd
   exact a3 Vb j oO hj
  asP:=by
   show h.next+al.length<=(fq tr ρn hn 0).2.next
   rw[AY];exact Nat.le_refl _
  d1:=d1,d2:=d2,d3:=d3,d4:=d4
  d5:=fun i k ri rk mB hi hk hx ho=>aoj dl mB hi hk hx ho}
 refine wp_region_any hm ?_
 obtain⟨Hd,Ed,Vd⟩:=aky H (w.drawn+1)
 have um:hs 0={h with next:=h.next+al.length}:=by show(fq tr ρn hn 0).2=_;rw[AY]
 have ρs0:ρs 0=ρ:=by show(fq tr ρn hn 0).1=_;rw[AY]
 have LI:hs al.length=hn:=by
  show(fq tr ρn hn al.length).2=hn
  simp[fq,List.getElem?_eq_none (show tr.length<=al.length by omega)]
 have ρsn:ρs al.length=ρn:=by
  show(fq tr ρn hn al.length).1=ρn
  simp[fq,List.getElem?_eq_none (show tr.length<=al.length by omega)]
 have E0:Ext (h.next<= ·) ι I h w ι I {h with next:=h.next+al.length} {w with drawn:=w.drawn+1}:=
  {eZ:=fun _ _=>rfl,bM:=fun _ _ h=>h,next:=by simp,bz:=fun _ _ h=>h,os:=rfl,tape:=rfl,output:=rfl,size:=Nat.le_refl _,block:=fun _ _ _=>rfl,cell:=fun _ _ _ _=>rfl,frozen:=fun _ _ _ _=>rfl,own:=fun _ _ h=> .inl h,gz:=fun _ _ h=> .inl h,lost:=fun _ _ _=>rfl}
 have H0:HR ι I (hs 0) {w with drawn:=w.drawn+1}:=by
  rw[um]
  exact Hd.DF (fun b l hb=>by have:=H.cG b l hb;show b<h.next+al.length;omega) (fun b l x _ hx=>hx)
 refine T.amI hlen yV d6 (ι0:=ι) (I0:=I) (w0:={w with drawn:=w.drawn+1}) (Q:=Q) ?_ ops.size (Array.replicate ops.size false) (S:=fun _=>False) (m:=0) (ρ:=ρ) (H:=hs 0) (ι:=ι) (I:=I) ?_ (by simp) ?_ ?_
 ·intro ι' I' a' w' A' H' E'
  rw[ρsn] at A'
  rw[LI] at H'
  rw[um,LI] at E'
  exact hQ ρn hn a' w' ι' I' L8 A' H' (E0.trans E' (fun b hb=>hb))
 ·exact
  {ar:=A.mono Vd,hr:=H0,ext:= .refl _ _ _ _ _,ρ0:=fun t _=>by rw[ρs0],ρ1:=fun t j ro hj=>hj.elim,h1:=fun j hj=>hj.elim,h2:=fun b _=>rfl,hn:=rfl
   lt:=fun j hj=>hj.elim,closed:=fun j o hj=>hj.elim,yG:=Nat.zero_le _,vR:=fun j ro hj=>hj.elim,A4:=fun j ro hj=>by omega,As:= .inl rfl
   inj:=fun j hj _=>by
    cases hq:ι (h.next+j) with
    |none=>rfl
    |some l=>have:=H.cG _ _ hq;omega
   pb:=fun j hj=>by omega
   next:=by rw[um];exact Nat.le_refl _}
 ·intro j
  simp[Array.getElem?_replicate]
 ·exact Nat.le_trans (List.length_filter_le _ _) (by simp)
end
end
section
open Go
def aa.clean (h:aa) (n:Nat):aa:={get:=fun b=>if b<h.next then h.get b else none,next:=h.next+n}
def aQ.wX:aQ->Exit
 | .normal=> .normal
 | .exit id=> .exit id
 | .goto l=> .goto l
 | .ret=> .ret
def t8 (n:Nat) (ι:aI) (I:aR) (h:aa) (w:World) (e:aQ) (ρ':Env) (h':aa):Exit->Act->World->Prop:=fun x a' w'=>
 x=e.wX/\ ∃ι' I',AR ι' I' w' n ρ' a'/\HR ι' I' h' w'/\Ext (h.next<= ·) ι I h w ι' I' h' w'
def avE (P:Program) (md:Mode) (m:Nat) (c:aZ) (ρ:Env) (h:aa) (e:aQ) (ρ':Env) (h':aa):Prop:=
 ∀(n:Nat) (ι:aI) (I:aR) (w:World) (a:Act),HR ι I h w->AR ι I w n ρ a->
  match c with
  | .inScope body cur=> ∀cb cc,d9 P md n cb=some body->d9 P md n cc=some cur-> ∀b k cs,∃x a' w',t8 n ι I h w e ρ' h' x a' w'/\
     Arrives P (lone (b.at a (.code cc:: .inScope cb::k)) cs w) b k cs x a' w'
  | .loop c'=> ∀cc,d9 P md n cc=some c'->Code.rounds P cc (t8 n ι I h w e ρ' h') m a w
  |c=> ∀cc,d9 P md n cc=some c->cc.wp P (t8 n ι I h w e ρ' h') a w
def Mr (P:Program) (md:Mode) (c:aZ) (ρ:Env) (h:aa) (e:aQ) (ρ':Env) (h':aa):Prop:= ∃m,avE P md m c ρ h e ρ' h'
inductive eu (P:Program):aZ->Env->aa->aQ->Env->aa->Prop
 |skip {ρ:Env} {h:aa}:eu P .skip ρ h .normal ρ h
 |label {l:Nat} {ρ:Env} {h:aa}:eu P (.label l) ρ h .normal ρ h
 |exit {id:Nat} {ρ:Env} {h:aa}:eu P (.exit id) ρ h (.exit id) ρ h
 |goto {l:Nat} {ρ:Env} {h:aa}:eu P (.goto l) ρ h (.goto l) ρ h
 |ret {ρ:Env} {h:aa}:eu P .ret ρ h .ret ρ h
 |af {al:List RO} {ρ ρ1:Env} {h h1:aa} (he:exec P al ρ h (fun ρ' h'=>ρ'=ρ1/\h'=h1)):eu P (.af al) ρ h .normal ρ1 h1
 |aU {al:List RO} {un:List (List Nat)} {ρ ρ1:Env} {h h1:aa} (hf: ∀j,j<al.length->h.get (h.next+j)=none)
   (he:l7 P al un h.next al 0 ρ {h with next:=h.next+al.length} [] (fun ρ' h'=>ρ'=ρ1/\h'=h1)):eu P (.aU al un) ρ h .normal ρ1 h1
 |AU {al:List RO} {un:List (List Nat)} {ρ ρ1:Env} {h h1:aa} (he:l7 P al un h.next al 0 ρ (h.clean al.length) [] (fun ρ' h'=>ρ'=ρ1/\h'=h1)):eu P (.aU al un) ρ h .normal ρ1 h1
 |seq {a b:aZ} {ρ ρ1 ρ2:Env} {h h1 h2:aa} {e:aQ} (b1:eu P a ρ h .normal ρ1 h1) (b2:eu P b ρ1 h1 e ρ2 h2):eu P (.seq a b) ρ h e ρ2 h2
 |vM {a b:aZ} {ρ ρ1:Env} {h h1:aa} {e:aQ} (b1:eu P a ρ h e ρ1 h1) (he:e≠ .normal):eu P (.seq a b) ρ h e ρ1 h1
 |cond {c:au} {x y:aZ} {ρ ρ1:Env} {h h1:aa} {e:aQ} (t:Bool) (hc:c.ev ρ= .bool t) (b1:eu P (if t then x else y) ρ h e ρ1 h1):eu P (.cond c x y) ρ h e ρ1 h1
 |block {id:Nat} {c:aZ} {ρ ρ1:Env} {h h1:aa} {e:aQ} (b1:eu P c ρ h e ρ1 h1):eu P (.block id c) ρ h (if e= .exit id then .normal else e) ρ1 h1
 |loop {c:aZ} {ρ ρ1 ρ2:Env} {h h1 h2:aa} {e:aQ} (b1:eu P c ρ h .normal ρ1 h1) (b2:eu P (.loop c) ρ1 h1 e ρ2 h2):eu P (.loop c) ρ h e ρ2 h2
 |sg {c:aZ} {ρ ρ1:Env} {h h1:aa} {e:aQ} (b1:eu P c ρ h e ρ1 h1) (he:e≠ .normal):eu P (.loop c) ρ h e ρ1 h1
 |scope {c:aZ} {ρ ρ1:Env} {h h1:aa} {e:aQ} (b1:eu P (.inScope c c) ρ h e ρ1 h1):eu P (.scope c) ρ h e ρ1 h1
 |pN {body cur:aZ} {ρ ρ1:Env} {h h1:aa} {e:aQ} (b1:eu P cur ρ h e ρ1 h1) (he: ∀l,e= .goto l->fM body l=none):eu P (.inScope body cur) ρ h e ρ1 h1
 |LB {body cur rest:aZ} {l:Nat} {ρ ρ1 ρ2:Env} {h h1 h2:aa} {e:aQ} (b1:eu P cur ρ h (.goto l) ρ1 h1) (hl:fM body l=some rest) (b2:eu P (.inScope body rest) ρ1 h1 e ρ2 h2):
   eu P (.inScope body cur) ρ h e ρ2 h2
 |sem {a b:aZ} {ρ ρ1:Env} {h h1:aa} {e:aQ} (hs: ∀md,Mr P md (.ya a b) ρ h e ρ1 h1):eu P (.ya a b) ρ h e ρ1 h1
section
variable {P:Program} {md:Mode}
def ajr (P:Program) (md:Mode) (n:Nat) (cc:Code):aZ->Prop
 | .skip=>cc= .skip
 | .af al=> ∃id ops,cc= .region id ops false/\tY P md n ops ops.toList=some al
 | .aU al un=> ∃id ops,cc= .region id ops true/\tY P md n ops ops.toList=some al/\FP ops al=true/\un=yB ops al
 | .seq a b=> ∃x y,cc= .seq x y/\d9 P md n x=some a/\d9 P md n y=some b
 | .ya a b=> ∃x y,cc= .seq x y/\d9 P md n x=some a/\d9 P md n y=some b
 | .cond c a b=> ∃o x y,cc= .cond o x y/\bd md.pr o=some c/\d9 P md n x=some a/\d9 P md n y=some b
 | .block id a=> ∃x,cc= .block id x/\d9 P md n x=some a
 | .loop a=> ∃x,cc= .loop x/\d9 P md n x=some a
 | .exit id=>cc= .exit id
 | .scope a=> ∃x,cc= .scope x/\d9 P md n x=some a
 | .inScope _ _=>False
 | .label l=>cc= .label l
 | .goto l=>cc= .goto l
 | .ret=>cc= .ret
theorem k7 {n:Nat} {cc:Code} {r:aZ} (hc:d9 P md n cc=some r):ajr P md n cc r:=by
 cases cc<;>try(simp only[d9] at hc;first|(cases hc;rfl)|(cases hc;done))
 case region id ops d=>
  cases d with
  |false=>
   simp only[d9,Option.map_eq_some_iff] at hc
   obtain⟨al,h1,rfl⟩:=hc
   exact⟨id,ops,rfl,h1⟩
  |true=>
   simp only[d9,Option.bind_eq_bind,Option.bind_eq_some_iff] at hc
   obtain⟨al,h1,hc⟩:=hc
   split at hc
   ·rename_i aY;cases hc;exact⟨id,ops,rfl,h1,aY,rfl⟩
   ·cases hc
 case seq a b=>
  simp only[d9,Option.bind_eq_bind,Option.bind_eq_some_iff] at hc
  obtain⟨x,h1,y,h2,hc⟩:=hc
  cases hc
  cases x.AT
  ·exact⟨a,b,rfl,h1,h2⟩
  ·exact⟨a,b,rfl,h1,h2⟩
 case cond c a b=>
  simp only[d9,Option.bind_eq_bind,Option.bind_eq_some_iff] at hc
  obtain⟨o,h0,x,h1,y,h2,hc⟩:=hc
  cases hc
  exact⟨c,a,b,rfl,h0,h1,h2⟩
 case block id a=>
  simp only[d9,Option.bind_eq_bind,Option.bind_eq_some_iff] at hc
  obtain⟨x,h1,hc⟩:=hc
  cases hc
  exact⟨a,rfl,h1⟩
 case loop a=>
  simp only[d9,Option.bind_eq_bind,Option.bind_eq_some_iff] at hc
  obtain⟨x,h1,hc⟩:=hc
  cases hc
  exact⟨a,rfl,h1⟩
 case scope a=>
  simp only[d9,Option.bind_eq_bind,Option.bind_eq_some_iff] at hc
  obtain⟨x,h1,hc⟩:=hc
  cases hc
  exact⟨a,rfl,h1⟩
def FL (P:Program) (md:Mode) (n:Nat):Option Code->Option aZ->Prop
 |some x,some y=>d9 P md n x=some y
 |none,none=>True
 |_,_=>False
theorem ajs {l:Nat}: ∀{c r:aZ},fM c l=some r->r.AT=false:=by
 intro c
 induction c<;>intro r h<;>simp only[fM] at h<;>try(cases h;done)
 case seq a b Wj F2=>
  split at h
  ·cases h;rfl
  ·exact F2 h
 case ya a b Wj F2=>exact F2 h
 case label l'=>
  split at h
  ·cases h;rfl
  ·cases h
theorem ajt {l:Nat} {c:aZ} (h:c.AT=true):fM c l=none:=by
 cases c<;>simp only[aZ.AT] at h<;>first|rfl|cases h
theorem Yb {n:Nat} (l:Nat): ∀(cc:Code) (r:aZ),d9 P md n cc=some r->FL P md n (findLabel cc l) (fM r l):=by
 intro cc
 induction cc
 case seq a b Wj F2=>
  intro r hc
  simp only[d9,Option.bind_eq_bind,Option.bind_eq_some_iff] at hc
  obtain⟨x,h1,y,h2,hc⟩:=hc
  cases hc
  have ha:=Wj x h1
  have hb:=F2 y h2
  cases hr:x.AT with
  |true=>
   simp only[if_true,findLabel,fM]
   rw[ajt hr] at ha
   cases h3:findLabel a l<;>simp only[h3,FL] at ha ⊢
   exact hb
  |false=>
  simp only[Bool.false_eq_true,if_false,findLabel,fM]
  cases h3:findLabel a l<;>cases h4:fM x l<;>simp only[h3,h4] at ha<;>simp only[]
  ·exact hb
  ·exact ha.elim
  ·exact ha.elim
  ·simp only[FL] at ha ⊢
   simp[d9,ha,h2,ajs h4]
 case label l'=>
  intro r hc
  simp only[d9] at hc
  cases hc
  simp only[findLabel,fM]
  by_cases h:(l'==l)=true
  ·simp[h,FL,d9]
  ·simp[h,FL]
 all_goals
  intro r hc
  have hi:=k7 hc
  cases r<;>simp only[ajr] at hi<;>simp only[findLabel,fM,FL]
  all_goals (first|(cases hi;done)|(obtain⟨_,_,h,_⟩:=hi;cases h;done)|(obtain⟨_,_,_,h,_⟩:=hi;cases h;done))
end
end
section
open Go
theorem t8.trans {n:Nat} {ι ι1:aI} {I I1:aR} {h h1 h2:aa} {w w1:World} {e:aQ} {ρ2:Env} (E:Ext (h.next<= ·) ι I h w ι1 I1 h1 w1) {x:Exit} {a':Act} {w':World}
 (hp:t8 n ι1 I1 h1 w1 e ρ2 h2 x a' w'):t8 n ι I h w e ρ2 h2 x a' w':=by
 obtain⟨h1,ι',I',A,H,F⟩:=hp
 exact⟨h1,ι',I',A,H,E.trans F (fun b hb=>Nat.le_trans E.next hb)⟩
theorem XP {P:Program} {c:Code} {Q Q':Exit->Act->World->Prop} (hq: ∀e a w,Q e a w->Q' e a w): ∀(n:Nat) (a:Act) (w:World),Code.rounds P c Q n a w->Code.rounds P c Q' n a w
 |0,_,_,h=>h
 |n+1,a,w,h=>by
  rw[rounds_succ] at h ⊢
  refine wp_mono h (fun e a w he=>?_)
  cases e<;>simp only[Exit.then] at he ⊢ <;>first|exact XP hq n _ _ he|exact hq _ _ _ he
section
variable {P:Program} {md:Mode}
theorem Mr.wp {c:aZ} {ρ ρ':Env} {h h':aa} {e:aQ} (hs:Mr P md c ρ h e ρ' h') {n:Nat} {ι:aI} {I:aR} {w:World} {a:Act} (H:HR ι I h w) (A:AR ι I w n ρ a) {cc:Code} (hc:d9 P md n cc=some c):
 cc.wp P (t8 n ι I h w e ρ' h') a w:=by
 obtain⟨m,hs⟩:=hs
 have:=hs n ι I w a H A
 cases c<;>try exact this cc hc
 case loop c'=>
  obtain⟨x,rfl,hx⟩:=k7 hc
  exact wp_loop_rounds m (this x hx)
 case inScope body cur=>exact(k7 hc).elim
theorem HR.clean {ι:aI} {I:aR} {h:aa} {w:World} (H:HR ι I h w):HR ι I (h.clean 0) w where
 cG b l hb:=by have:=H.cG b l hb;simpa [aa.clean] using this
 inside:=H.inside
 cells b cs l hg hb:=H.cells b cs l (by have:=H.cG b l hb;simpa [aa.clean,this] using hg) hb
 maps b es l hg hb:=H.maps b es l (by have:=H.cG b l hb;simpa [aa.clean,this] using hg) hb
 eR b l hg hb:=H.eR b l (by have:=H.cG b l hb;simpa [aa.clean,this] using hg) hb
 dC b b' l l' x x' k j aM hb bC hg cF:=H.dC b b' l l' x x' k j aM hb bC (by have:=H.cG b l hb;simpa [aa.clean,this] using hg) (by have:=H.cG b' l' bC;simpa [aa.clean,this] using cF)
 bz b l x k j hb hg:=H.bz b l x k j hb (by have:=H.cG b l hb;simpa [aa.clean,this] using hg)
 dw:=H.dw
 pl b cs cb o room hg hb:=H.pl b cs cb o room (by have:=H.cG b _ hb;simpa [aa.clean,this] using hg) hb
theorem Ext.aoi {ι ι':aI} {I I':aR} {h h':aa} {w w':World} (E:Ext ((h.clean 0).next<= ·) ι I (h.clean 0) w ι' I' h' w') (H:HR ι I h w):Ext (h.next<= ·) ι I h w ι' I' h' w':=by
 have ho: ∀k j,eB ι (h.clean 0) k j↔eB ι h k j:=fun k j=>by
  constructor
  ·rintro⟨b,l,x,hb,hg,hl⟩
   exact⟨b,l,x,hb,by have:=H.cG b l hb;simpa [aa.clean,this] using hg,hl⟩
  ·rintro⟨b,l,x,hb,hg,hl⟩
   exact⟨b,l,x,hb,by have:=H.cG b l hb;simpa [aa.clean,this] using hg,hl⟩
 exact
 {eZ:=fun b hb=>E.eZ b (by simpa [aa.clean] using hb),bM:=E.bM,next:=E.next,bz:=E.bz,os:=E.os,tape:=E.tape,output:=E.output,size:=E.size
  block:=fun k hk hn=>E.block k hk (fun j hj=>hn j ((ho k j).1 hj))
  cell:=fun k j hk hn=>E.cell k j hk (fun hj=>hn ((ho k j).1 hj))
  frozen:=fun k j hk hn=>E.frozen k j hk (fun hj=>hn ((ho k j).1 hj))
  own:=fun k j hj=>(E.own k j hj).imp (ho k j).1 id
  gz:=fun k j hj=>by rcases E.gz k j hj with h|h|h;exact .inl h;exact .inr (.inl ((ho k j).1 h));exact .inr (.inr h)
  lost:=fun b hb hi=>by
   rw[E.lost b (by simpa [aa.clean] using hb) hi]
   have:b<h.next:=by omega
   simp[aa.clean,this]}
theorem YU {e:aQ} (he:e≠ .normal) {Q:Exit->Act->World->Prop} {K:Act->World->Prop} {a:Act} {w:World} (h:Q e.wX a w):Exit.then K Q e.wX a w:=by
 cases e<;>first|exact(he rfl).elim|exact h
theorem amF (hm:P.follows .mixedOrders=true) {c:aZ} {ρ ρ':Env} {h h':aa} {e:aQ} (hb:eu P c ρ h e ρ' h'):Mr P md c ρ h e ρ' h':=by
 induction hb with
 |sem hs=>exact hs md
 |skip=>
  refine⟨0,fun n ι I w a H A cc hc=>?_⟩
  obtain rfl:=k7 hc
  exact wp_skip ⟨rfl,ι,I,A,H, .refl _ _ _ _ _⟩
 |label=>
  refine⟨0,fun n ι I w a H A cc hc=>?_⟩
  obtain rfl:=k7 hc
  exact wp_label ⟨rfl,ι,I,A,H, .refl _ _ _ _ _⟩
 |exit=>
  refine⟨0,fun n ι I w a H A cc hc=>?_⟩
  obtain rfl:=k7 hc
  exact wp_exit ⟨rfl,ι,I,A,H, .refl _ _ _ _ _⟩
 |goto=>
  refine⟨0,fun n ι I w a H A cc hc=>?_⟩
  obtain rfl:=k7 hc
  exact wp_goto ⟨rfl,ι,I,A,H, .refl _ _ _ _ _⟩
 |ret=>
  refine⟨0,fun n ι I w a H A cc hc=>?_⟩
  obtain rfl:=k7 hc
  exact wp_ret ⟨rfl,ι,I,A,H, .refl _ _ _ _ _⟩
 | @af al ρ ρ1 h h1 he=>
   refine⟨0,fun n ι I w a H A cc hc=>?_⟩
   obtain⟨id,ops,rfl,hr⟩:=k7 hc
   obtain⟨hlen,yV⟩:=Nx hr
   refine wp_region ?_
   have:=YL (md:=md) (Q:=t8 n ι I h w .normal ρ1 h1) (ops:=ops) al 0 H A (fun i ro hi=>?_) he (fun ρ' h' a' w' ι' I' hk A' H' E=>by
    obtain⟨rfl,rfl⟩:=hk
    exact⟨rfl,ι',I',A',H',E⟩)
   ·rw[List.range_eq_range',show ops.size=al.length by simpa using hlen]
    exact this
   ·have WE:i<ops.toList.length:=by rw[hlen];exact(List.getElem?_eq_some_iff.1 hi).1
    refine⟨ops.toList[i],?_,yV i _ ro (List.getElem?_eq_getElem WE) hi⟩
    rw[Nat.zero_add]
    have:=List.getElem?_eq_getElem WE
    simpa using this
 | @aU al un ρ ρ1 h h1 hf he=>
   refine⟨0,fun n ι I w a H A cc hc=>?_⟩
   obtain⟨id,ops,rfl,hr,aY,rfl⟩:=k7 hc
   exact Ys hm hr aY H A hf he (fun ρ' h' a' w' ι' I' hk A' H' E=>by
    obtain⟨rfl,rfl⟩:=hk
    exact⟨rfl,ι',I',A',H',E⟩)
 | @AU al un ρ ρ1 h h1 he=>
   refine⟨0,fun n ι I w a H A cc hc=>?_⟩
   obtain⟨id,ops,rfl,hr,aY,rfl⟩:=k7 hc
   refine Ys (h:=h.clean 0) hm hr aY H.clean A (fun j _=>by simp only[aa.clean];rw[if_neg (by omega)]) he (fun ρ' h' a' w' ι' I' hk A' H' E=>by
    obtain⟨rfl,rfl⟩:=hk
    exact⟨rfl,ι',I',A',H',E.aoi H⟩)
 | @seq x y ρ ρ1 ρ2 h h1 h2 e b1 b2 fx kp=>
   refine⟨0,fun n ι I w a H A cc hc=>?_⟩
   obtain⟨cx,cy,rfl,hx,hy⟩:=k7 hc
   refine wp_seq (wp_mono (fx.wp H A hx) ?_)
   rintro _ a1 w1 ⟨rfl,ι1,I1,A1,H1,E1⟩
   exact wp_mono (kp.wp H1 A1 hy) (fun _ _ _ hp=>hp.trans E1)
 | @vM x y ρ ρ1 h h1 e b1 he fx=>
   refine⟨0,fun n ι I w a H A cc hc=>?_⟩
   obtain⟨cx,cy,rfl,hx,hy⟩:=k7 hc
   refine wp_seq (wp_mono (fx.wp H A hx) ?_)
   rintro _ a1 w1 ⟨rfl,hp⟩
   exact YU he ⟨rfl,hp⟩
 | @cond c x y ρ ρ1 h h1 e t fZ b1 fx=>
   refine⟨0,fun n ι I w a H A cc hc=>?_⟩
   obtain⟨o,cx,cy,rfl,ho,hx,hy⟩:=k7 hc
   have pQ:VR ι I w (c.ev ρ) (a.eval o):=bF A ho
   rw[fZ] at pQ
   have:a.eval o= .bool t:=by generalize a.eval o=u at pQ;cases pQ;rfl
   refine wp_cond this ?_
   cases t
   ·exact fx.wp H A hy
   ·exact fx.wp H A hx
 | @block id c ρ ρ1 h h1 e b1 fx=>
   refine⟨0,fun n ι I w a H A cc hc=>?_⟩
   obtain⟨cx,rfl,hx⟩:=k7 hc
   refine wp_block (wp_mono (fx.wp H A hx) ?_)
   rintro _ a1 w1 ⟨rfl,hp⟩
   cases e with
   |exit sN=>
    simp only[aQ.wX,Exit.inBlock]
    by_cases aL:sN=id
    ·simp only[aL,if_true];exact⟨rfl,hp⟩
    ·simp only[aL,if_false]
     have: ¬(aQ.exit sN=aQ.exit id):=fun h=>aL (aQ.exit.inj h)
     simp only[this,if_false]
     exact⟨rfl,hp⟩
   |normal=>simp only[aQ.wX,Exit.inBlock];exact⟨rfl,hp⟩
   |goto l=>simp only[aQ.wX,Exit.inBlock];exact⟨rfl,hp⟩
   |ret=>simp only[aQ.wX,Exit.inBlock];exact⟨rfl,hp⟩
 | @loop c ρ ρ1 ρ2 h h1 h2 e b1 b2 fx kp=>
   obtain⟨m,kp⟩:=kp
   refine⟨m+1,fun n ι I w a H A cc hc=>?_⟩
   rw[rounds_succ]
   refine wp_mono (fx.wp H A hc) ?_
   rintro _ a1 w1 ⟨rfl,ι1,I1,A1,H1,E1⟩
   exact XP (fun _ _ _ hp=>t8.trans E1 hp) m a1 w1 (kp n ι1 I1 w1 a1 H1 A1 cc hc)
 | @sg c ρ ρ1 h h1 e b1 he fx=>
   refine⟨1,fun n ι I w a H A cc hc=>?_⟩
   rw[rounds_succ]
   refine wp_mono (fx.wp H A hc) ?_
   rintro _ a1 w1 ⟨rfl,hp⟩
   exact YU he ⟨rfl,hp⟩
 | @scope c ρ ρ1 h h1 e b1 fx=>
   obtain⟨m,fx⟩:=fx
   refine⟨0,fun n ι I w a H A cc hc=>?_⟩
   obtain⟨cx,rfl,hx⟩:=k7 hc
   intro b k cs
   obtain⟨x,a',w',hp,sA⟩:=fx n ι I w a H A cx cx hx hx b k cs
   exact⟨x,a',w',hp, .of_steps (.one step_scope) sA⟩
 | @pN body cur ρ ρ1 h h1 e b1 he fx=>
   refine⟨0,fun n ι I w a H A cb cc dm jj b k cs=>?_⟩
   obtain⟨x,a',w',hp,sA⟩:=fx.wp H A jj b (.inScope cb::k) cs
   obtain⟨rfl,qY⟩:=hp
   refine⟨_,a',w',⟨rfl,qY⟩,?_⟩
   cases e with
   |normal=>exact Steps.trans sA (.one step_inScope)
   |exit id=>exact fun k' hk=>sA k' (by simp[exitTo,hk])
   |ret=>exact sA
   |goto l=>
    intro k' hk
    refine sA k' ?_
    have bH:=Yb l cb body dm
    rw[he l rfl] at bH
    cases hf:findLabel cb l with
    |none=>simp[gotoIn,hf,hk]
    |some r=>rw[hf] at bH;exact bH.elim
 | @LB body cur rest l ρ ρ1 ρ2 h h1 h2 e b1 hl b2 fx kp=>
   obtain⟨m,kp⟩:=kp
   refine⟨0,fun n ι I w a H A cb cc dm jj b k cs=>?_⟩
   obtain⟨x,a1,w1,hp,sA⟩:=fx.wp H A jj b (.inScope cb::k) cs
   obtain⟨rfl,ι1,I1,A1,H1,E1⟩:=hp
   have bH:=Yb l cb body dm
   rw[hl] at bH
   cases hf:findLabel cb l with
   |none=>rw[hf] at bH;exact bH.elim
   |some r=>
    rw[hf] at bH
    obtain⟨x,a2,w2,Gb,auG⟩:=kp n ι1 I1 w1 a1 H1 A1 cb r dm bH b k cs
    exact⟨x,a2,w2,Gb.trans E1, .of_steps (sA _ (by simp[gotoIn,hf])) auG⟩
end
end
section
open Go
def zJ (ρ:Env) (h:aa):fv->Option AV
 | .tmp t=>some (ρ t)
 | .cell t ag sz=>kL ag sz h (ρ t)
def dL (ρ:Env) (h:aa):List fv->Option (List AV)
 |[]=>some []
 |x::xs=>match zJ ρ h x,dL ρ h xs with
  |some a,some l=>some (a::l)
  |_,_=>none
def eQ:List AV->AV
 |[v]=>v
 |vs=> .az vs
def jZ (args:List AV):Env:=fun t=>args.getD t (.az [])
section
variable {P:Program} {md:Mode} {ι:aI} {I:aR} {h:aa} {w:World}
theorem an3 (H:HR ι I h w) {t:TypeId} {d:TypeDesc} {sz:Nat} (hu:P.underlying t=some d) (hs:(P.info? t).map (·.size)=some sz)
 {a v:AV} {c:Value} (ha:VR ι I w a c) (hl:kL d.isRow sz h a=some v): ∃u,(do loadVar t (<-asAddr c)).run P w= .ok u w/\VR ι I w v u:=by
 have key: ∀{cb o off:Nat} {cs:List AV},tT ι I w cb o cs->cut d.isRow sz off cs=some v-> ∃u,(loadVar t ⟨cb,o+off,none⟩).run P w= .ok u w/\VR ι I w v u:=by
  intro cb o off cs hr hc
  cases hd:d.isRow with
  |true=>
   rw[hd] at hc
   simp only[cut,if_true] at hc
   split at hc
   ·rename_i hle
    cases hc
    obtain⟨l',hl,h1,h2⟩:=(hr.sub off sz).list
    have hlen:l'.length=sz:=by rw[<-hl];simp;omega
    have:=run_loadVar_mid (P:=P) w cb (o+off) t l' d h1 hu hd (by rw[hlen];exact hs)
    exact⟨_,this, .agg _ _ hl h2⟩
   ·cases hc
  |false=>
   rw[hd] at hc
   simp only[cut,Bool.false_eq_true,if_false] at hc
   obtain⟨c,h1,h2⟩:=hr off v hc
   exact⟨c,by simp[loadVar,zD hu,hd,run_load,h1],h2⟩
 cases ha<;>simp only[kL] at hl<;>try(cases hl;done)
 case ptr b off cb o room hb=>
  simp only[cellsOf] at hl
  split at hl
  ·rename_i cs hg
   obtain⟨u,h1,h2⟩:=key (H.row (by simpa using hg) hb).1 hl
   exact⟨u,by simpa [asAddr] using h1,h2⟩
  ·cases hl
 case vp xs off cb o g hI hc hv h1=>
  obtain⟨u,h1,h2⟩:=key (cs:=xs) (o:=o) (cb:=cb) (fun j v hj=>by
   have aC:=(List.getElem?_eq_some_iff.1 hj).1
   exact⟨g j,hc j aC,hv j v hj⟩) hl
  exact⟨u,by simpa [asAddr] using h1,h2⟩
def CM (tmps:Array Value):ResultVar->Sem Value
 | .tmp t=>pure (tmps.getD t undef)
 | .cell a t=>do loadVar t (<-asAddr (tmps.getD a undef))
theorem ZF (H:HR ι I h w) {n:Nat} {ρ:Env} {a:Act} (A:AR ι I w n ρ a): ∀(rv:List ResultVar) (rs:List fv) (vs:List AV),zB P rv=some rs->dL ρ h rs=some vs->
 ∃us:List Value,(rv.mapM (CM a.tmps)).run P w= .ok us w/\LR ι I w vs us
 |[],rs,vs,hc,hv=>by
  simp only[zB] at hc
  cases hc
  simp only[dL] at hv
  cases hv
  exact⟨[],by simp,⟨rfl,fun i v c h=>by simp at h⟩⟩
 |x::xs,rs,vs,hc,hv=>by
  simp only[zB] at hc
  split at hc
  ·rename_i r l h1 h2
   cases hc
   simp only[dL] at hv
   split at hv
   ·rename_i v l' h3 h4
    cases hv
    obtain⟨us,h5,h6⟩:=ZF H A xs l l' h2 h4
    have: ∃u,(CM a.tmps x).run P w= .ok u w/\VR ι I w v u:=by
     cases x with
     |tmp t=>
      simp only[Vv] at h1
      cases h1
      simp only[zJ] at h3
      cases h3
      exact⟨_,by simp[CM],A.get t⟩
     |cell t ty=>
      simp only[Vv,Option.bind_eq_bind,Option.bind_eq_some_iff] at h1
      obtain⟨d,hd,sz,aP,h1⟩:=h1
      cases h1
      exact an3 H hd aP (A.get t) h3
    obtain⟨u,hu,hvu⟩:=this
    refine⟨u::us,by simp[List.mapM_cons,hu,h5],?_⟩
    exact LR.cons hvu h6
   ·cases hv
  ·cases hc
theorem aj6 (H:HR ι I h w) {n:Nat} {ρ:Env} {a:Act} (A:AR ι I w n ρ a) {fn:Func} {rs:List fv} {vs:List AV} (hc:zB P fn.results.toList=some rs) (hv:dL ρ h rs=some vs):
 ∃u,(results fn a.tmps).run P w= .ok u w/\VR ι I w (eQ vs) u:=by
 obtain⟨us,h1,h2⟩:=ZF H A _ rs vs hc hv
 have hm:(fn.results.mapM (CM a.tmps)).run P w= .ok us.toArray w:=by
  rw[<-Array.toArray_toList (xs:=fn.results),List.mapM_toArray]
  simp[h1]
 have awE:results fn a.tmps=(do
  let vs <-fn.results.mapM (CM a.tmps)
  pure (if h:vs.size=1 then vs[0] else .tuple vs)):=by
  unfold results
  congr 2
 rw[awE]
 refine⟨_,by simp only[Sem.run_bind,hm];rfl,?_⟩
 obtain⟨hl,hg⟩:=h2
 match vs,us,hl,hg with
 |[],[],_,hg=>exact .az [] [] rfl hg
 |[v],[u],_,hg=>exact hg 0 v u rfl rfl
 |v::v'::l,u::u'::l',hl,hg=>
  have: ¬((u::u'::l').toArray.size=1):=by simp
  rw[dif_neg this]
  exact .az _ _ hl hg
theorem nw (hm:P.follows .mixedOrders=true) {f:Nat} {fn:Func} {rf:aA} (hf:P.funcs[f]? =some fn) (hc:aD P md fn=some rf) {args:List AV} (ez:args.length<=rf.ntmps)
 {h h':aa} {e:aQ} {ρ':Env} {vs:List AV} (hb:eu P rf.code (jZ args) h e ρ' h') (he:e= .normal\/e= .ret) (hr:dL ρ' h' rf.results=some vs):an P f args h (eQ vs) h':=by
 intro ι I w bP H hl
 unfold aD at hc
 simp only[Option.bind_eq_bind,Option.bind_eq_some_iff] at hc
 obtain⟨c,auF,code,auD,rs,F9,hc⟩:=hc
 cases hc
 simp only at*
 refine calls_of_wp hf auF ?_
 have aP:bP.size=args.length:=by have:=hl.1;simpa using this.symm
 have A:AR ι I w fn.ntmps (jZ args) {tmps:=bP++Array.replicate (fn.ntmps-bP.size) undef,defers:=[]}:=by
  refine⟨rfl,by simp;omega,fun t=>?_⟩
  by_cases ht:t<args.length
  ·have h1:=List.getElem?_eq_getElem ht
   obtain⟨u,hu,hv⟩:=hl.get h1
   have e1:jZ args t=args[t]:=by simp[jZ,List.getD,h1]
   have e2:(bP++Array.replicate (fn.ntmps-bP.size) undef).getD t undef=u:=by
    rw[Array.getD_eq_getD_getElem?,Array.getElem?_append_left (by omega)]
    have:bP[t]? =some u:=by simpa using hu
    rw[this];rfl
   rw[e1,e2];exact hv
  ·have e1:jZ args t= .az []:=by simp[jZ,List.getD,List.getElem?_eq_none (show args.length<=t by omega)]
   have e2:(bP++Array.replicate (fn.ntmps-bP.size) undef).getD t undef=undef:=by
    rw[Array.getD_eq_getD_getElem?,Array.getElem?_append_right (by omega),Array.getElem?_replicate]
    split<;>rfl
   rw[e1,e2];exact Zw
 refine wp_mono ((amF (md:=md) hm hb).wp H A auD) ?_
 rintro _ a' w' ⟨rfl,ι',I',A',H',E⟩
 obtain⟨u,hu,hv⟩:=aj6 H' A' F9 hr
 have:bodyPost P fn (fun e w'=> ∃v ι' I',e= .returned v/\VR ι' I' w' (eQ vs) v/\HR ι' I' h' w'/\Ext (h.next<= ·) ι I h w ι' I' h' w') .normal a' w':=
  ⟨A'.defers,u,hu,u,ι',I',rfl,hv,H',E⟩
 rcases he with rfl|rfl
 ·exact this
 ·exact this
end
end
section
open Go
inductive Tr (α:Type) where
 |leaf
 |node (l:Tr α) (v:Option α) (r:Tr α)
 deriving Inhabited
def Tr.get {α:Type}:Tr α->Nat->Option α
 | .leaf,_=>none
 | .node l v r,n=>
   match n with
   |0=>v
   | .succ n=>match Nat.mod n 2 with
     |0=>l.get (Nat.div n 2)
     |_=>r.get (Nat.div n 2)
def Tr.iC {α R:Type}:Nat->Tr α->Nat->Option α->(Tr α->Option R)->Option R
 |0,_,_,_,_=>none
 | .succ f,t,n,v,k=>
   match t with
   | .leaf=>match n with
     |0=>k (.node .leaf v .leaf)
     | .succ n=>match Nat.mod n 2 with
       |0=>Tr.iC f .leaf (Nat.div n 2) v fun l=>k (.node l none .leaf)
       |_=>Tr.iC f .leaf (Nat.div n 2) v fun r=>k (.node .leaf none r)
   | .node l u r=>match n with
     |0=>k (.node l v r)
     | .succ n=>match Nat.mod n 2 with
       |0=>Tr.iC f l (Nat.div n 2) v fun l'=>k (.node l' u r)
       |_=>Tr.iC f r (Nat.div n 2) v fun r'=>k (.node l u r')
def Tr.env (t:Tr AV):Env:=fun n=>match t.get n with
 |some v=>v
 |none=> .az []
structure CH where
 t:Tr cI
 next:Nat
def CH.den (H:CH):aa:={get:=fun b=>H.t.get b,next:=H.next}
section
variable {R:Type}
def ke (n:Nat) (k:Nat->Option R):Option R:=match n with
 |0=>k 0
 | .succ n=>k (.succ n)
def Vn (i:Int) (k:Int->Option R):Option R:=match i with
 | .ofNat n=>ke n fun n=>k (.ofNat n)
 | .negSucc n=>ke n fun n=>k (.negSucc n)
def aer (b:Bool) (k:Bool->Option R):Option R:=match b with
 |true=>k true
 |false=>k false
def fS (v:AV) (k:AV->Option R):Option R:=match v with
 | .int kd n=>match kd with
   |kd=>Vn n fun n=>k (.int kd n)
 | .bool b=>aer b fun b=>k (.bool b)
 | .ptr b o=>ke b fun b=>ke o fun o=>k (.ptr b o)
 | .rs b o l s=>ke b fun b=>ke o fun o=>ke l fun l=>ke s fun s=>k (.rs b o l s)
 | .rk b o l s c=>ke b fun b=>ke o fun o=>ke l fun l=>ke s fun s=>ke c fun c=>k (.rk b o l s c)
 |v=>k v
def fL:List AV->(List AV->Option R)->Option R
 |[],k=>k []
 |x::xs,k=>fS x fun x=>fL xs fun xs=>k (x::xs)
def Mk:List (List AV)->(List (List AV)->Option R)->Option R
 |[],k=>k []
 |x::xs,k=>fL x fun x=>Mk xs fun xs=>k (x::xs)
def Ri (t:aH) (k:aH->Option R):Option R:=match t with
 | .ao=>k .ao
 | .full=>k .full
 | .own t=>ke t fun t=>k (.own t)
def BM (v:AV) (k:AV->Option R):Option R:=match v with
 | .agg l=>fL l fun l=>k (.agg l)
 | .vs xs t=>Mk xs fun xs=>Ri t fun t=>k (.vs xs t)
 | .vp xs o=>fL xs fun xs=>ke o fun o=>k (.vp xs o)
 |v=>fS v k
def Gt:List AV->(List AV->Option R)->Option R
 |[],k=>k []
 |x::xs,k=>BM x fun x=>Gt xs fun xs=>k (x::xs)
def fV (v:AV) (k:AV->Option R):Option R:=match v with
 | .az l=>Gt l fun l=>k (.az l)
 |v=>BM v k
def Ml:List (AV×AV)->(List (AV×AV)->Option R)->Option R
 |[],k=>k []
 |(x,y)::xs,k=>BM x fun x=>BM y fun y=>Ml xs fun xs=>k ((x,y)::xs)
def fB (b:cI) (k:cI->Option R):Option R:=match b with
 | .cells l=>Gt l fun l=>k (.cells l)
 | .map es=>Ml es fun es=>k (.map es)
 | .tail=>k .tail
theorem wU (n:Nat) (k:Nat->Option R):ke n k=k n:=by cases n<;>rfl
theorem aoJ (n:Int) (k:Int->Option R):Vn n k=k n:=by cases n<;>simp[Vn,wU]
theorem anL (n:Bool) (k:Bool->Option R):aer n k=k n:=by cases n<;>rfl
theorem aeq (v:AV) (k:AV->Option R):fS v k=k v:=by cases v<;>simp[fS,wU,aoJ,anL]
theorem Rj: ∀(l:List AV) (k:List AV->Option R),fL l k=k l
 |[],k=>rfl
 |x::xs,k=>by simp[fL,aeq,Rj xs]
theorem abe: ∀(l:List (List AV)) (k:List (List AV)->Option R),Mk l k=k l
 |[],k=>rfl
 |x::xs,k=>by simp[Mk,Rj,abe xs]
theorem anK (t:aH) (k:aH->Option R):Ri t k=k t:=by cases t<;>simp[Ri,wU]
theorem Od (v:AV) (k:AV->Option R):BM v k=k v:=by cases v<;>simp[BM,aeq,Rj,abe,anK,wU]
theorem Oc: ∀(l:List AV) (k:List AV->Option R),Gt l k=k l
 |[],k=>rfl
 |x::xs,k=>by simp[Gt,Od,Oc xs]
theorem DS (v:AV) (k:AV->Option R):fV v k=k v:=by cases v<;>simp[fV,Od,Oc]
theorem abf: ∀(l:List (AV×AV)) (k:List (AV×AV)->Option R),Ml l k=k l
 |[],k=>rfl
 |(x,y)::xs,k=>by simp[Ml,Od,abf xs]
theorem auL (v:cI) (k:cI->Option R):fB v k=k v:=by cases v<;>simp[fB,Oc,abf]
def fW (v:AV) (k:AV->Option R):Option R:=match v with
 | .undef=>k .undef
 | .int a b=>k (.int a b)
 | .bool a=>k (.bool a)
 | .fI a b=>k (.fI a b)
 | .fJ a b c=>k (.fJ a b c)
 | .str a=>k (.str a)
 | .nil=>k .nil
 | .ptr a b=>k (.ptr a b)
 | .vp a b=>k (.vp a b)
 | .vs a b=>k (.vs a b)
 | .bx=>k .bx
 | .rs a b c d=>k (.rs a b c d)
 | .rk a b c d e=>k (.rk a b c d e)
 | .vz=>k .vz
 | .map a=>k (.map a)
 | .fn a b c=>k (.fn a b c)
 | .jH=>k .jH
 | .agg a=>k (.agg a)
 | .az a=>k (.az a)
 | .fb=>k .fb
theorem aep (v:AV) (k:AV->Option R):fW v k=k v:=by cases v<;>rfl
def fP (q:a8) (v:AV) (k:AV->Option R):Option R:=match q with
 | .aj _| .pick _ _ _| .ext _ _| .load false _ _| .aF _=>fW v k
 |_=>fV v k
theorem auK (q:a8) (v:AV) (k:AV->Option R):fP q v k=k v:=by
 unfold fP
 split<;>first|exact aep v k|exact DS v k
def Gu:List AV->(List AV->Option R)->Option R
 |[],k=>k []
 |x::xs,k=>fW x fun x=>Gu xs fun xs=>k (x::xs)
theorem Oe: ∀(l:List AV) (k:List AV->Option R),Gu l k=k l
 |[],k=>rfl
 |x::xs,k=>by simp[Gu,aep,Oe xs]
def CH.iC (H:CH) (b:Nat) (x:Option cI) (k:CH->Option R):Option R:=
 match x with
 |none=>Tr.iC 24 H.t b none fun t=>k {t,next:=H.next}
 |some x=>fB x fun x=>Tr.iC 24 H.t b (some x) fun t=>k {t,next:=H.next}
def CH.Ar (H:CH) (n:Nat) (k:CH->Option R):Option R:=ke n fun n=>k {t:=H.t,next:=n}
def nD:AV->List Nat
 | .ptr b _=>[b]
 | .vs _ (.own t)=>[t]
 | .rs b _ _ _=>[b]
 | .rk b _ _ _ _=>[b]
 | .map (some b)=>[b]
 |_=>[]
def gf.fst:gf->au
 | .store _ x _| .append _ _ x _| .kF _ _ x _| .copy _ x _| .tI x _| .rS x _ _| .po _ _ x _| .nO _ x _| .px _ x| .mark x=>x
def UO (h':aa):List Nat->CH->(CH->Option R)->Option R
 |[],H,k=>k H
 |b::bs,H,k=>H.iC b (h'.get b) fun H=>UO h' bs H k
def Tr.KB (t:Tr AV) (d:Option Nat) (v:AV) (k:Tr AV->Option R):Option R:=
 match d with
 |none=>k t
 |some d=>Tr.iC 16 t d (some v) k
structure fk where
 fn:Nat->Option aA
 nat:Nat->Option (List AV->CH->Option (AV×CH))
 bZ:Nat->Bool
variable (l8:Nat->List AV->CH->(AV->CH->Option R)->Option R) (cb:Nat->Bool)
def Jf (o:RO) (id:Nat) (t:Tr AV) (H:CH) (k:Option AV->CH->Option R):Option R:=
 match bV o t.env with
 |none=>none
 |some false=>k none H
 |some true=>
  match o.op with
  | .p q=>match aX q t.env H.den with
    |some v=>fP q v fun v=>k (some v) H
    |none=>none
  | .a q=>match ic q t.env id with
    |some (b,v)=>H.iC id (some b) fun H=>H.Ar (max H.next (id+1)) fun H=>fV v fun v=>k (some v) H
    |none=>none
  | .e q=>match bN q t.env id H.den with
    |some (v,h')=>UO h' (id::nD (q.fst.ev t.env)) H fun H=>H.Ar h'.next fun H=>fV v fun v=>k (some v) H
    |none=>none
  | .call f as=>Gu (as.map (au.ev t.env)) fun as=>l8 f as H fun v H=>k (some v) H
  | .dyn x as=>match x.ev t.env with
    | .fn f fs cs=>match cb f with
      |true=>Gu (fs++as.map (au.ev t.env)++cs) fun as=>l8 f as H fun v H=>k (some v) H
      |false=>none
    |_=>none
def UR:List RO->Tr AV->CH->(Tr AV->CH->Option R)->Option R
 |[],t,H,k=>k t H
 |o::os,t,H,k=>Jf l8 cb o H.next t H fun r H=>t.KB o.dst (fO r) fun t=>UR os t H k
def sd {α:Type} (p:α->α->Bool) (l l':List α):Bool:=l.length==l'.length&&(l.zip l').all fun q=>p q.1 q.2
def sZ:Nat->AV->AV->Bool
 |0,_,_=>false
 |f+1,a,b=>
  match a,b with
  | .undef, .undef=>true
  | .int k x, .int k' y=>decide (k=k')&&x==y
  | .bool x, .bool y=>x==y
  | .nil, .nil=>true
  | .bx, .bx=>true
  | .vz, .vz=>true
  | .jH, .jH=>true
  | .ptr x y, .ptr x' y'=>x==x'&&y==y'
  | .rs x y z u, .rs x' y' z' u'=>x==x'&&y==y'&&z==z'&&u==u'
  | .rk x y z u v, .rk x' y' z' u' v'=>x==x'&&y==y'&&z==z'&&u==u'&&v==v'
  | .map none, .map none=>true
  | .map (some x), .map (some y)=>x==y
  | .agg l, .agg l'=>sd (sZ f) l l'
  | .az l, .az l'=>sd (sZ f) l l'
  | .vp l o, .vp l' o'=>o==o'&&sd (sZ f) l l'
  | .vs l t, .vs l' t'=>decide (t=t')&&sd (sd (sZ f)) l l'
  |_,_=>false
def Vt (o:RO) (ρ:Env) (r:Option AV) (h':aa) (ok:RO) (dρ:Env) (dh:aa) (dr:Option AV):Bool:=
 if o.op.cq then(match dr,ok.op with
  |some v, .p q=>match aX q dρ h' with
   |some u=>sZ 6 u v
   |none=>false
  |_,_=>true)
 else(match r,o.op with
  |some v, .p q=>match aX q ρ dh with
   |some u=>sZ 6 u v
   |none=>false
  |_,_=>true)
def xN (H:CH) (base:Nat):Nat->Nat->Bool
 |_,0=>true
 |i,n+1=>match H.t.get (base+i) with
  |none=>xN H base (i+1) n
  |some _=>false
def CU (al:List RO) (o:RO) (ρ:Env) (r:Option AV) (h':aa) (done:List (Tr AV×CH×Option AV)) (i:Nat):List Nat->Bool
 |[]=>true
 |k::ks=>match al[k]?,done[i-1-k]? with
  |some ok,some d=>decide (k<i)&&Vt o ρ r h' ok d.1.env d.2.1.den d.2.2&&CU al o ρ r h' done i ks
  |_,_=>false
def Aq (al:List RO) (n base:Nat):List RO->List (List Nat)->Nat->Tr AV->CH->List (Tr AV×CH×Option AV)->(Tr AV->CH->Option R)->Option R
 |[],_,_,t,H,_,k=>k t H
 |o::os,us,i,t,H,done,k=>Jf l8 cb o (base+i) t H fun r H'=>
  match CU al o t.env r H'.den done i (us.headD []) with
  |false=>none
  |true=>
   match o.op.cq with
   |false=>t.KB o.dst (fO r) fun t'=>Aq al n base os us.tail (i+1) t' H' ((t,H,r)::done) k
   |true=>match xN H' base (i+1) (n-(i+1)) with
    |false=>none
    |true=>t.KB o.dst (fO r) fun t'=>Aq al n base os us.tail (i+1) t' H' ((t,H,r)::done) k
def Ji (t:Tr AV) (h:aa) (rs:List fv) (k:AV->Option R):Option R:=match dL t.env h rs with
 |some vs=>fV (eQ vs) k
 |none=>none
def initK:List AV->Nat->Tr AV->(Tr AV->Option R)->Option R
 |[],_,t,k=>k t
 |x::xs,i,t,k=>Tr.iC 16 t i (some x) fun t=>initK xs (i+1) t k
def vf (tb:fk) (run:aZ->Tr AV->CH->(aQ->Tr AV->CH->Option R)->Option R) (f:Nat) (args:List AV) (H:CH) (k:AV->CH->Option R):Option R:=
 match tb.nat f with
 |some g=>match g args H with
  |some (v,H')=>fV v fun v=>k v H'
  |none=>none
 |none=>match tb.fn f with
  |none=>none
  |some rf=>match Nat.ble args.length rf.ntmps with
   |false=>none
   |true=>initK args 0 .leaf fun t=>run rf.code t H fun e t H=>match e with
    | .normal=>Ji t H.den rf.results fun v=>k v H
    | .ret=>Ji t H.den rf.results fun v=>k v H
    |_=>none
def runK (tb:fk):Nat->aZ->Tr AV->CH->(aQ->Tr AV->CH->Option R)->Option R
 |0,_,_,_,_=>none
 | .succ f,c,t,H,k=>
   match c with
   | .skip=>k .normal t H
   | .label _=>k .normal t H
   | .exit id=>k (.exit id) t H
   | .goto l=>k (.goto l) t H
   | .ret=>k .ret t H
   | .af al=>UR (vf tb (runK tb f)) tb.bZ al t H (k .normal)
   | .aU al un=>match xN H H.next 0 al.length with
     |false=>none
     |true=>H.Ar (H.next+al.length) fun H1=>Aq (vf tb (runK tb f)) tb.bZ al al.length H.next al un 0 t H1 [] (k .normal)
   | .seq a b=>runK tb f a t H fun e t H=>match e with
     | .normal=>runK tb f b t H k
     | .exit id=>k (.exit id) t H
     | .goto l=>k (.goto l) t H
     | .ret=>k .ret t H
   | .ya _ _=>none
   | .cond c x y=>match c.ev t.env with
     | .bool true=>runK tb f x t H k
     | .bool false=>runK tb f y t H k
     |_=>none
   | .block id c=>runK tb f c t H fun e t H=>match e with
     | .normal=>k .normal t H
     | .exit sN=>match Nat.beq sN id with
       |true=>k .normal t H
       |false=>k (.exit sN) t H
     | .goto l=>k (.goto l) t H
     | .ret=>k .ret t H
   | .loop c=>runK tb f c t H fun e t H=>match e with
     | .normal=>runK tb f (.loop c) t H k
     | .exit id=>k (.exit id) t H
     | .goto l=>k (.goto l) t H
     | .ret=>k .ret t H
   | .scope c=>runK tb f (.inScope c c) t H k
   | .inScope body cur=>runK tb f cur t H fun e t H=>match e with
     | .goto l=>match fM body l with
       |none=>k (.goto l) t H
       |some rest=>runK tb f (.inScope body rest) t H k
     | .normal=>k .normal t H
     | .exit id=>k (.exit id) t H
     | .ret=>k .ret t H
end
end
section
open Go
theorem Tr.uZ {α:Type} (l r:Tr α) (u:Option α) (m:Nat):(Tr.node l u r).get (m+1)=if m%2=0 then l.get (m/2) else r.get (m/2):=by
 show(match Nat.mod m 2 with|0=>l.get (Nat.div m 2)|_=>r.get (Nat.div m 2))=_
 have e1:Nat.mod m 2=m%2:=rfl
 have e2:Nat.div m 2=m/2:=rfl
 rw[e1,e2]
 rcases Nat.mod_two_eq_zero_or_one m with h|h<;>simp[h]
section
variable {R:Type}
theorem Tr.tA {α:Type}: ∀(f:Nat) (t:Tr α) (n:Nat) (v:Option α) (k:Tr α->Option R) (r:R),Tr.iC f t n v k=some r-> ∃t',(∀m,t'.get m=if m=n then v else t.get m)/\k t'=some r
 |0,_,_,_,_,_,h=>by simp[Tr.iC] at h
 |f+1,t,n,v,k,r,h=>by
  have main: ∀(l:Tr α) (u:Option α) (r0:Tr α) (k:Tr α->Option R),
   Tr.iC (f+1) (.node l u r0) n v k=some r->
   ∃t',(∀m,t'.get m=if m=n then v else(Tr.node l u r0).get m)/\k t'=some r:=by
   intro l u r0 k h
   simp only[Tr.iC] at h
   cases n with
   |zero=>
    refine⟨_,fun m=>?_,h⟩
    cases m with
    |zero=>rfl
    |succ m=>rw[Tr.uZ,Tr.uZ];simp
   |succ n=>
    simp only[] at h
    have e1:Nat.mod n 2=n%2:=rfl
    have e2:Nat.div n 2=n/2:=rfl
    rw[e1,e2] at h
    rcases Nat.mod_two_eq_zero_or_one n with hn|hn
    ·rw[hn] at h
     obtain⟨l',hl,hk⟩:=Tr.tA f l (n/2) v _ r h
     refine⟨_,fun m=>?_,hk⟩
     cases m with
     |zero=>rfl
     |succ m=>
      rw[Tr.uZ,Tr.uZ,hl]
      by_cases hm:m%2=0
      ·simp only[hm,if_true]
       by_cases sT:m/2=n/2
       ·have:m=n:=by omega
        simp[this]
       ·have: ¬m=n:=fun h=>sT (by rw[h])
        simp[sT,this]
      ·have: ¬m=n:=fun h=>hm (by rw[h];exact hn)
       simp[hm,this]
    ·rw[hn] at h
     obtain⟨l',hl,hk⟩:=Tr.tA f r0 (n/2) v _ r h
     refine⟨_,fun m=>?_,hk⟩
     cases m with
     |zero=>rfl
     |succ m=>
      rw[Tr.uZ,Tr.uZ,hl]
      by_cases hm:m%2=0
      ·have: ¬m=n:=fun h=>by rw[h] at hm;omega
       simp[hm,this]
      ·simp only[hm,if_false]
       by_cases sT:m/2=n/2
       ·have:m=n:=by omega
        simp[this]
       ·have: ¬m=n:=fun h=>sT (by rw[h])
        simp[sT,this]
  have auz: ∀m,(Tr.node .leaf none .leaf:Tr α).get m=(Tr.leaf:Tr α).get m:=by
   intro m
   cases m with
   |zero=>rfl
   |succ m=>rw[Tr.uZ];split<;>rfl
  cases t with
  |leaf=>
   obtain⟨t',h1,h2⟩:=main .leaf none .leaf k (by rw[<-h];cases n<;>rfl)
   exact⟨t',fun m=>by rw[h1,auz],h2⟩
  |node l u r0=>exact main l u r0 k h
theorem CH.tA {H:CH} {b:Nat} {x:Option cI} {k:CH->Option R} {r:R} (h:H.iC b x k=some r): ∃H':CH,(∀m,H'.den.get m=if m=b then x else H.den.get m)/\H'.next=H.next/\k H'=some r:=by
 cases x with
 |none=>
  obtain⟨t',h1,h2⟩:=Tr.tA _ _ _ _ _ _ h
  exact⟨{t:=t',next:=H.next},h1,rfl,h2⟩
 |some x=>
  simp only[CH.iC,auL] at h
  obtain⟨t',h1,h2⟩:=Tr.tA _ _ _ _ _ _ h
  exact⟨{t:=t',next:=H.next},h1,rfl,h2⟩
theorem Ym {h':aa}: ∀{bs:List Nat} {H:CH} {k:CH->Option R} {r:R},UO h' bs H k=some r-> ∃H':CH,(∀m,H'.den.get m=if m∈bs then h'.get m else H.den.get m)/\H'.next=H.next/\k H'=some r
 |[],H,k,r,h=>⟨H,fun m=>by simp,rfl,h⟩
 |b::bs,H,k,r,h=>by
  obtain⟨H1,h1,h2,h3⟩:=CH.tA h
  obtain⟨H2,h4,h5,h6⟩:=Ym h3
  refine⟨H2,fun m=>?_,h5.trans h2,h6⟩
  rw[h4,h1]
  by_cases hm:m∈bs
  ·simp[hm]
  ·by_cases hb:m=b
   ·simp[hb]
   ·simp[hm,hb]
theorem Tr.MN {t:Tr AV} {d:Option Nat} {v:AV} {k:Tr AV->Option R} {r:R} (h:t.KB d v k=some r): ∃t',t'.env=put t.env d v/\k t'=some r:=by
 cases d with
 |none=>exact⟨t,rfl,h⟩
 |some d=>
  obtain⟨t',h1,h2⟩:=Tr.tA _ _ _ _ _ _ h
  refine⟨t',?_,h2⟩
  funext m
  simp only[Tr.env,h1,put]
  by_cases hm:m=d<;>simp[hm]
theorem alJ {q:gf} {ρ:Env} {id:Nat} {h h':aa} {v:AV} (ha:bN q ρ id h=some (v,h')) (m:Nat) (hm:m∉id::nD (q.fst.ev ρ)):h'.get m=h.get m:=by
 simp only[List.mem_cons,not_or] at hm
 obtain⟨aL,hm⟩:=hm
 cases q<;>simp only[bN,gf.fst] at ha hm
 case store sz a x=>
  unfold wZ at ha
  split at ha
  ·rename_i hx
   rw[hx] at hm
   split at ha
   ·split at ha
    ·cases ha;simp[aa.set,nD] at hm ⊢;simp[hm]
    ·cases ha
   ·cases ha
  ·cases ha
 case append bytes sz x y=>
  split at ha
  ·cases ha
  ·rename_i ys hys
   split at ha
   ·rename_i xs t hx
    rw[hx] at hm
    split at ha
    ·cases ha;rfl
    ·split at ha
     ·split at ha
      ·cases ha;simp[aa.at,aL]
      ·split at ha
       ·cases ha;simp[aa.at,aa.set,nD] at hm ⊢;simp[aL,hm]
       ·cases ha
      ·cases ha
     ·cases ha
   ·split at ha
    ·cases ha;rfl
    ·split at ha
     ·cases ha;simp[aa.at,aL]
     ·cases ha
   ·cases ha
 case kF bytes sz x y=>
  split at ha
  ·cases ha
  ·rename_i ys hys
   split at ha
   ·split at ha
    ·cases ha;rfl
    ·split at ha
     ·cases ha;simp[aa.at,aL]
     ·cases ha
   ·split at ha
    ·cases ha;rfl
    ·split at ha
     ·cases ha;simp[aa.at,aL]
     ·cases ha
   ·rename_i b off len aO hx
    rw[hx] at hm
    split at ha
    ·cases ha;rfl
    ·split at ha
     ·split at ha
      ·cases ha;simp[aa.at,aa.set,nD] at hm ⊢;simp[aL,hm]
      ·cases ha
     ·cases ha
   ·rename_i b off len aO cap hx
    rw[hx] at hm
    split at ha
    ·split at ha
     ·cases ha;simp[aa.set,nD] at hm ⊢;simp[hm]
     ·cases ha
    ·cases ha
   ·cases ha
 case po bytes z x n=>
  split at ha
  ·split at ha
   ·split at ha
    ·split at ha
     ·cases ha;simp[aa.at,aL]
     ·cases ha
    ·split at ha
     ·split at ha
      ·cases ha;simp[aa.at,aL]
      ·cases ha
     ·cases ha
    ·cases ha
   ·cases ha
  ·cases ha
 case nO sz x y=>
  split at ha
  ·rename_i b off len aO cap mm hx hl
   rw[hx] at hm
   split at ha
   ·split at ha
    ·cases ha;simp[aa.set,nD] at hm ⊢;simp[hm]
    ·cases ha
   ·cases ha
  ·cases ha
 case mark x=>
  split at ha
  ·rename_i b off len aO hx
   rw[hx] at hm
   split at ha
   ·split at ha
    ·cases ha;simp[aa.set,nD] at hm ⊢;simp[hm]
    ·cases ha
   ·cases ha
  ·cases ha
 case px z x=>
  split at ha
  ·rename_i b off len aO cap hx
   rw[hx] at hm
   split at ha
   ·split at ha
    ·cases ha;simp[aa.set,nD] at hm ⊢;simp[hm]
    ·cases ha
   ·cases ha
  ·cases ha;rfl
  ·cases ha;rfl
  ·cases ha
 case copy sz x y=>
  split at ha
  ·rename_i b off len aO hx
   rw[hx] at hm
   split at ha
   ·split at ha
    ·cases ha;simp[aa.set,nD] at hm ⊢;simp[hm]
    ·cases ha
   ·cases ha
  ·split at ha
   ·cases ha;rfl
   ·cases ha
  ·split at ha
   ·cases ha;rfl
   ·cases ha
  ·cases ha
 case rS x k y=>
  split at ha
  ·rename_i b kd n hx hk
   rw[hx] at hm
   split at ha
   ·simp only[Option.map_eq_some_iff] at ha
    obtain⟨es,_,ha⟩:=ha
    cases ha;simp[aa.set,nD] at hm ⊢;simp[hm]
   ·cases ha
  ·cases ha
 case tI x k=>
  split at ha
  ·rename_i b kd n hx hk
   rw[hx] at hm
   split at ha
   ·simp only[Option.map_eq_some_iff] at ha
    obtain⟨es,_,ha⟩:=ha
    cases ha;simp[aa.set,nD] at hm ⊢;simp[hm]
   ·cases ha
  ·cases ha
def I9 (P:Program) (R:Type) (l8:Nat->List AV->CH->(AV->CH->Option R)->Option R):Prop:=
 ∀g args H k r,l8 g args H k=some r-> ∃v H',an P g args H.den v H'.den/\k v H'=some r
variable {P:Program} {l8:Nat->List AV->CH->(AV->CH->Option R)->Option R} {cb:Nat->Bool}
theorem XN (hC:I9 P R l8) (dm: ∀f,cb f=true->bZ P f=true) {o:RO} {id:Nat} {t:Tr AV} {H:CH} {k:Option AV->CH->Option R} {r:R} (h:Jf l8 cb o id t H k=some r):
 ∃x H',br P o id t.env H.den x H'.den/\k x H'=some r:=by
 unfold Jf at h
 split at h
 ·cases h
 ·rename_i hg
  refine⟨none,H,?_,h⟩
  unfold br
  rw[hg]
  exact⟨rfl,rfl⟩
 ·rename_i hg
  have go: ∀(v:AV) (H':CH),gF P o.op id t.env H.den v H'.den->br P o id t.env H.den (some v) H'.den:=by
   intro v H' hr
   unfold br
   rw[hg]
   exact⟨v,rfl,hr⟩
  split at h
  ·rename_i q bO
   split at h
   ·rename_i v hv
    rw[auK] at h
    exact⟨some v,H,go v H (by rw[bO];exact⟨hv,rfl⟩),h⟩
   ·cases h
  ·rename_i q bO
   split at h
   ·rename_i b v hv
    obtain⟨H1,h1,h2,h3⟩:=CH.tA h
    simp only[CH.Ar,wU,DS] at h3
    refine⟨some v,_,go v _ ?_,h3⟩
    rw[bO]
    refine⟨b,hv,aa.same (fun m=>?_) ?_⟩
    ·show H1.den.get m=_
     rw[h1]
     by_cases hm:m=id<;>simp[aa.at,hm]
    ·show max H1.next (id+1)=_
     rw[h2];rfl
   ·cases h
  ·rename_i q bO
   split at h
   ·rename_i v h' hv
    obtain⟨H1,h1,h2,h3⟩:=Ym h
    simp only[CH.Ar,wU,DS] at h3
    refine⟨some v,_,go v _ ?_,h3⟩
    rw[bO]
    show bN q t.env id H.den=some (v,_)
    rw[hv]
    congr 2
    refine aa.same (fun m=>?_) rfl
    show _=H1.den.get m
    rw[h1]
    by_cases hm:m∈id::nD (q.fst.ev t.env)
    ·rw[if_pos hm]
    ·rw[if_neg hm];exact alJ hv m hm
   ·cases h
  ·rename_i f as bO
   rw[Oe] at h
   obtain⟨v,H',h1,h2⟩:=hC _ _ _ _ _ h
   exact⟨some v,H',go v H' (by rw[bO];exact h1),h2⟩
  ·rename_i x as bO
   split at h
   ·rename_i f fs cs hx
    split at h
    ·rename_i hc
     rw[Oe] at h
     obtain⟨v,H',h1,h2⟩:=hC _ _ _ _ _ h
     exact⟨some v,H',go v H' (by rw[bO];exact⟨f,fs,cs,hx,dm f hc,h1⟩),h2⟩
    ·cases h
   ·cases h
theorem Yx (hC:I9 P R l8) (dm: ∀f,cb f=true->bZ P f=true): ∀{os:List RO} {t:Tr AV} {H:CH} {k:Tr AV->CH->Option R} {r:R},UR l8 cb os t H k=some r->
 ∃t' H',exec P os t.env H.den (fun ρ' h'=>ρ'=t'.env/\h'=H'.den)/\k t' H'=some r
 |[],t,H,k,r,h=>⟨t,H,⟨rfl,rfl⟩,h⟩
 |o::os,t,H,k,r,h=>by
  obtain⟨x,H1,h1,h2⟩:=XN hC dm h
  obtain⟨t1,h3,h4⟩:=Tr.MN h2
  obtain⟨t2,H2,h5,h6⟩:=Yx hC dm h4
  exact⟨t2,H2,⟨x,H1.den,h1,by rw[<-h3];exact h5⟩,h6⟩
end
end
section
open Go
theorem Mz {α:Type} {p:α->α->Bool} (hp: ∀a b,p a b=true->a=b): ∀(l l':List α),sd p l l'=true->l=l'
 |[],[],_=>rfl
 |[],_::_,h=>by simp[sd] at h
 |_::_,[],h=>by simp[sd] at h
 |x::l,y::l',h=>by
  simp only[sd,List.length_cons,List.zip_cons_cons,List.all_cons,Bool.and_eq_true,beq_iff_eq,Nat.add_right_cancel_iff] at h
  obtain⟨h1,h2,h3⟩:=h
  rw[hp x y h2,Mz hp l l' (by simp only[sd,Bool.and_eq_true,beq_iff_eq];exact⟨h1,h3⟩)]
theorem Hf: ∀(f:Nat) (a b:AV),sZ f a b=true->a=b
 |0,a,b,h=>by simp[sZ] at h
 |f+1,a,b,h=>by
  have ih:=Hf f
  have hl:=Mz ih
  have jQ:=Mz hl
  unfold sZ at h
  split at h<;>first
   |rfl
   |(cases h;done)
   |(rw[hl _ _ h];done)
   |(simp only[Bool.and_eq_true,beq_iff_eq,decide_eq_true_eq] at h;obtain⟨h1,h2⟩:=h;first|(rw[h1,hl _ _ h2];done)|(rw[h1,jQ _ _ h2];done))
   |(simp only[Bool.and_eq_true,beq_iff_eq,decide_eq_true_eq] at h;simp only[h];done)
section
variable {R:Type} {P:Program} {l8:Nat->List AV->CH->(AV->CH->Option R)->Option R} {cb:Nat->Bool}
theorem aly {o ok:RO} {ρ dρ:Env} {r dr:Option AV} {h' dh:aa} (h:Vt o ρ r h' ok dρ dh dr=true):Am.lJ o ρ r h' ok (dρ,dh,dr):=by
 unfold Am.lJ
 unfold Vt at h
 split
 ·rename_i he
  simp only[he,if_true] at h
  cases hd:dr with
  |none=>trivial
  |some v=>
   rw[hd] at h
   cases bO:ok.op with
   |p q=>
    rw[bO] at h
    simp only at h ⊢
    split at h
    ·rename_i u hu;rw[hu,Hf _ _ _ h]
    ·cases h
   |_=>trivial
 ·rename_i he
  simp only[he] at h
  cases hd:r with
  |none=>trivial
  |some v=>
   rw[hd] at h
   cases bO:o.op with
   |p q=>
    rw[bO] at h
    simp only[Bool.false_eq_true,if_false] at h ⊢
    split at h
    ·rename_i u hu;rw[hu,Hf _ _ _ h]
    ·cases h
   |_=>trivial
def Dn (d:Tr AV×CH×Option AV):Env×aa×Option AV:=(d.1.env,d.2.1.den,d.2.2)
theorem XI {al:List RO} {o:RO} {ρ:Env} {r:Option AV} {h':aa} {done:List (Tr AV×CH×Option AV)}: ∀{ks:List Nat},CU al o ρ r h' done done.length ks=true->
 ∀k∈ks,∀ok d,al[k]? =some ok->(done.reverse.map Dn)[k]? =some d->Am.lJ o ρ r h' ok d
 |[],_=>by simp
 |k0::ks,h=>by
  simp only[CU] at h
  split at h
  ·rename_i ok0 d0 aws hd0
   simp only[Bool.and_eq_true,decide_eq_true_eq] at h
   obtain⟨⟨h1,h2⟩,h3⟩:=h
   intro k hk ok d aY hd
   rcases List.mem_cons.1 hk with rfl|hk
   ·rw[aws] at aY;cases aY
    rw[List.getElem?_map,List.getElem?_reverse (by omega),hd0] at hd
    cases hd
    exact aly h2
   ·exact XI h3 k hk ok d aY hd
  ·cases h
theorem ME {H:CH} {base:Nat}: ∀{n i:Nat},xN H base i n=true-> ∀j,i<=j->j<i+n->H.den.get (base+j)=none
 |0,i,_,j,h1,h2=>by omega
 |n+1,i,h,j,h1,h2=>by
  simp only[xN] at h
  split at h
  ·rename_i hg
   by_cases hj:j=i
   ·subst hj;exact hg
   ·exact ME h j (by omega) (by omega)
  ·cases h
theorem XR (hC:I9 P R l8) (dm: ∀f,cb f=true->bZ P f=true) {al:List RO} {un:List (List Nat)} {base:Nat}: ∀{os:List RO} {i:Nat} {t:Tr AV} {H:CH} {done:List (Tr AV×CH×Option AV)} {k:Tr AV->CH->Option R} {r:R},
 i=done.length->Aq l8 cb al al.length base os (un.drop i) i t H done k=some r->
 ∃t' H',l7 P al un base os i t.env H.den (done.reverse.map Dn) (fun ρ' h'=>ρ'=t'.env/\h'=H'.den)/\k t' H'=some r
 |[],i,t,H,done,k,r,hi,h=>⟨t,H,⟨rfl,rfl⟩,h⟩
 |o::os,i,t,H,done,k,r,hi,h=>by
  simp only[Aq] at h
  obtain⟨x,H1,h1,h2⟩:=XN hC dm h
  have F5:(un.drop i).headD []=un.getD i []:=by
   rw[List.getD_eq_getElem?_getD]
   cases hq:un.drop i with
   |nil=>
    have:=List.drop_eq_nil_iff.1 hq
    simp[List.getElem?_eq_none this]
   |cons a l=>
    have:(un.drop i)[0]? =some a:=by rw[hq];rfl
    rw[List.getElem?_drop] at this
    simp at this
    simp[this]
  have uj:(un.drop i).tail=un.drop (i+1):=by simp
  have fin: ∀{t1:Tr AV},t1.env=put t.env o.dst (fO x)->CU al o t.env x H1.den done i ((un.drop i).headD [])=true->(o.op.cq=true-> ∀j,i<j->j<al.length->H1.den.get (base+j)=none)->
   Aq l8 cb al al.length base os (un.drop i).tail (i+1) t1 H1 ((t,H,x)::done) k=some r->
   ∃t' H',l7 P al un base (o::os) i t.env H.den (done.reverse.map Dn) (fun ρ' h'=>ρ'=t'.env/\h'=H'.den)/\k t' H'=some r:=by
   intro t1 ht1 lf fF hgo
   rw[uj] at hgo
   obtain⟨t2,H2,h5,h6⟩:=XR hC dm (by simp[hi]) hgo
   refine⟨t2,H2,⟨x,H1.den,h1,?_,fF,?_⟩,h6⟩
   ·rw[F5,hi] at lf
    rw[hi]
    exact XI lf
   ·rw[<-ht1]
    simp only[List.reverse_cons,List.map_append,List.map_cons,List.map_nil] at h5
    exact h5
  split at h2
  ·cases h2
  ·rename_i lf
   split at h2
   ·rename_i Vb
    obtain⟨t1,h3,h4⟩:=Tr.MN h2
    exact fin h3 lf (fun h=>by rw[Vb] at h;cases h) h4
   ·split at h2
    ·cases h2
    ·rename_i fF
     obtain⟨t1,h3,h4⟩:=Tr.MN h2
     exact fin h3 lf (fun _ j h5 h6=>ME fF j (by omega) (by omega)) h4
theorem X5: ∀{args:List AV} {i:Nat} {t:Tr AV} {k:Tr AV->Option R} {r:R},initK args i t k=some r-> ∃t',(∀m,t'.env m=if i<=m/\m<i+args.length then args.getD (m-i) (.az []) else t.env m)/\k t'=some r
 |[],i,t,k,r,h=>⟨t,fun m=>by simp;omega,h⟩
 |x::xs,i,t,k,r,h=>by
  simp only[initK] at h
  obtain⟨t1,h1,h2⟩:=Tr.tA _ _ _ _ _ _ h
  obtain⟨t2,h3,h4⟩:=X5 h2
  refine⟨t2,fun m=>?_,h4⟩
  rw[h3]
  by_cases hm:m=i
  ·subst hm
   rw[if_neg (by omega),if_pos ⟨Nat.le_refl _,by simp⟩]
   simp[Tr.env,h1]
  ·by_cases mA:i<=m/\m<i+(x::xs).length
   ·obtain⟨a1,a2⟩:=mA
    simp at a2
    rw[if_pos ⟨by omega,by omega⟩,if_pos ⟨a1,by simp;omega⟩]
    rw[show m-i=(m-(i+1))+1 by omega]
    simp
   ·have: ¬(i+1<=m/\m<i+1+xs.length):=by simp at mA ⊢;omega
    rw[if_neg this,if_neg mA]
    simp[Tr.env,h1,hm]
theorem XQ {t:Tr AV} {h:aa} {rs:List fv} {k:AV->Option R} {r:R} (hh:Ji t h rs k=some r): ∃vs,dL t.env h rs=some vs/\k (eQ vs)=some r:=by
 unfold Ji at hh
 split at hh
 ·rename_i vs hv;rw[DS] at hh;exact⟨vs,hv,hh⟩
 ·cases hh
structure ax (P:Program) (tb:fk):Prop where
 follow:P.follows .mixedOrders=true
 fn: ∀(f:Nat) (rf:aA),tb.fn f=some rf-> ∃fn md,P.funcs[f]? =some fn/\aD P md fn=some rf
 nat: ∀(f:Nat) (g:List AV->CH->Option (AV×CH)),tb.nat f=some g-> ∀args H v H',g args H=some (v,H')->an P f args H.den v H'.den
 bZ: ∀(f:Nat),tb.bZ f=true->bZ P f=true
def aiA (P:Program) (R:Type) (run:aZ->Tr AV->CH->(aQ->Tr AV->CH->Option R)->Option R):Prop:=
 ∀c t H k r,run c t H k=some r-> ∃e t' H',eu P c t.env H.den e t'.env H'.den/\k e t' H'=some r
theorem XJ {tb:fk} (hT:ax P tb) {run:aZ->Tr AV->CH->(aQ->Tr AV->CH->Option R)->Option R} (hR:aiA P R run):I9 P R (vf tb run):=by
 intro f args H k r h
 unfold vf at h
 split at h
 ·rename_i g hg
  split at h
  ·rename_i v H' hv
   rw[DS] at h
   exact⟨v,H',hT.nat f g hg args H v H' hv,h⟩
  ·cases h
 ·split at h
  ·cases h
  ·rename_i rf hrf
   split at h
   ·cases h
   ·rename_i hle
    obtain⟨t0,h1,h2⟩:=X5 h
    obtain⟨e,t',H',h3,h4⟩:=hR _ _ _ _ _ h2
    obtain⟨fn,md,h5,h6⟩:=hT.fn f rf hrf
    have awG:t0.env=jZ args:=by
     funext m
     rw[h1]
     by_cases hm:m<args.length
     ·rw[if_pos ⟨Nat.zero_le _,by omega⟩];rfl
     ·rw[if_neg (by omega)]
      simp[Tr.env,Tr.get,jZ,List.getD,List.getElem?_eq_none (show args.length<=m by omega)]
    rw[awG] at h3
    have sy:args.length<=rf.ntmps:=Nat.le_of_ble_eq_true hle
    split at h4
    ·obtain⟨vs,h7,h8⟩:=XQ h4
     exact⟨_,H',nw hT.follow h5 h6 sy h3 (.inl rfl) h7,h8⟩
    ·obtain⟨vs,h7,h8⟩:=XQ h4
     exact⟨_,H',nw hT.follow h5 h6 sy h3 (.inr rfl) h7,h8⟩
    ·cases h4
theorem Yq {tb:fk} (hT:ax P tb): ∀(f:Nat),aiA P R (runK tb f)
 |0=>fun c t H k r h=>by simp[runK] at h
 |f+1=>by
  have ih:=Yq hT f
  have hC:=XJ hT ih
  intro c t H k r h
  simp only[runK] at h
  split at h
  ·exact⟨_,_,_, .skip,h⟩
  ·exact⟨_,_,_, .label,h⟩
  ·exact⟨_,_,_, .exit,h⟩
  ·exact⟨_,_,_, .goto,h⟩
  ·exact⟨_,_,_, .ret,h⟩
  ·obtain⟨t',H',h1,h2⟩:=Yx hC hT.bZ h
   exact⟨_,_,_, .af h1,h2⟩
  ·rename_i al un
   split at h
   ·cases h
   ·rename_i fF
    simp only[CH.Ar,wU] at h
    obtain⟨t',H',h1,h2⟩:=XR (P:=P) (un:=un) (i:=0) (done:=[]) hC hT.bZ rfl h
    exact⟨_,_,_, .aU (fun j hj=>ME fF j (Nat.zero_le _) (by omega)) h1,h2⟩
  ·obtain⟨e,t1,H1,h1,h2⟩:=ih _ _ _ _ _ h
   cases e with
   |normal=>
    obtain⟨e2,t2,H2,h3,h4⟩:=ih _ _ _ _ _ h2
    exact⟨_,_,_, .seq h1 h3,h4⟩
   |exit id=>exact⟨_,_,_, .vM h1 (by simp),h2⟩
   |goto l=>exact⟨_,_,_, .vM h1 (by simp),h2⟩
   |ret=>exact⟨_,_,_, .vM h1 (by simp),h2⟩
  ·cases h
  ·split at h
   ·rename_i hc
    obtain⟨e,t1,H1,h1,h2⟩:=ih _ _ _ _ _ h
    exact⟨_,_,_, .cond true hc h1,h2⟩
   ·rename_i hc
    obtain⟨e,t1,H1,h1,h2⟩:=ih _ _ _ _ _ h
    exact⟨_,_,_, .cond false hc h1,h2⟩
   ·cases h
  ·rename_i id c
   obtain⟨e,t1,H1,h1,h2⟩:=ih _ _ _ _ _ h
   have hb:=eu.block (id:=id) h1
   cases e with
   |normal=>exact⟨_,_,_,by simpa using hb,h2⟩
   |exit sN=>
    simp only[] at h2
    split at h2
    ·rename_i aL
     have:sN=id:=Nat.eq_of_beq_eq_true aL
     subst this
     exact⟨_,_,_,by simpa using hb,h2⟩
    ·rename_i aL
     have: ¬(aQ.exit sN=aQ.exit id):=fun h=>by
      have:=aQ.exit.inj h
      subst this
      simp at aL
     rw[if_neg this] at hb
     exact⟨_,_,_,hb,h2⟩
   |goto l=>exact⟨_,_,_,by simpa using hb,h2⟩
   |ret=>exact⟨_,_,_,by simpa using hb,h2⟩
  ·obtain⟨e,t1,H1,h1,h2⟩:=ih _ _ _ _ _ h
   cases e with
   |normal=>
    obtain⟨e2,t2,H2,h3,h4⟩:=ih _ _ _ _ _ h2
    exact⟨_,_,_, .loop h1 h3,h4⟩
   |exit id=>exact⟨_,_,_, .sg h1 (by simp),h2⟩
   |goto l=>exact⟨_,_,_, .sg h1 (by simp),h2⟩
   |ret=>exact⟨_,_,_, .sg h1 (by simp),h2⟩
  ·obtain⟨e,t1,H1,h1,h2⟩:=ih _ _ _ _ _ h
   exact⟨_,_,_, .scope h1,h2⟩
  ·rename_i body cur
   obtain⟨e,t1,H1,h1,h2⟩:=ih _ _ _ _ _ h
   cases e with
   |goto l=>
    simp only[] at h2
    split at h2
    ·rename_i hl
     exact⟨_,_,_, .pN h1 (fun l' h=>by cases h;exact hl),h2⟩
    ·rename_i rest hl
     obtain⟨e2,t2,H2,h3,h4⟩:=ih _ _ _ _ _ h2
     exact⟨_,_,_, .LB h1 hl h3,h4⟩
   |normal=>exact⟨_,_,_, .pN h1 (by simp),h2⟩
   |exit id=>exact⟨_,_,_, .pN h1 (by simp),h2⟩
   |ret=>exact⟨_,_,_, .pN h1 (by simp),h2⟩
theorem alv {tb:fk} (hT:ax P tb) {fuel f:Nat} {args:List AV} {H:CH} {k:AV->CH->Option R} {r:R} (h:vf tb (runK tb fuel) f args H k=some r):
 ∃v H',an P f args H.den v H'.den/\k v H'=some r:=XJ hT (Yq hT fuel) f args H k r h
end
def Tr.tW {α:Type}:Tr α->List (Nat×α)
 | .leaf=>[]
 | .node l v r=>(match v with|some v=>[(0,v)]|none=>[])++(l.tW.map fun p=>(2*p.1+1,p.2))++(r.tW.map fun p=>(2*p.1+2,p.2))
theorem Tr.Cu {α:Type}: ∀{t:Tr α} {n:Nat} {v:α},t.get n=some v->(n,v)∈t.tW
 | .leaf,n,v,h=>by simp[Tr.get] at h
 | .node l u r,n,v,h=>by
   cases n with
   |zero=>
    simp only[Tr.get] at h
    subst h
    simp[Tr.tW]
   |succ m=>
    rw[Tr.uZ] at h
    simp only[Tr.tW,List.mem_append,List.mem_map]
    split at h
    ·exact .inl (.inr ⟨(m/2,v),Tr.Cu h,by simp;omega⟩)
    ·exact .inr ⟨(m/2,v),Tr.Cu h,by simp;omega⟩
end
section
open Go Go.ChangeShapes Go.WideShapes Go.ChangeAt Go.RowKit
def Kept (w w':World):Prop:=w'.os=w.os/\w'.output=w.output/\w.heap.size<=w'.heap.size/\ ∀k,k<w.heap.size->w'.heap[k]? =w.heap[k]?
theorem Kept.keptBut {w w':World} (h:Kept w w') (may:MemPlace->Prop):w.keptBut w' may:=by
 obtain⟨h1,h2,h3,h4⟩:=h
 refine⟨h1,h2,fun i hi=>?_⟩
 rw[h4 i hi]
 split
 ·rename_i c t fr c' t' fr' e1 e2
  rw[e1] at e2;cases e2
  exact⟨rfl,rfl,rfl,fun _ _=>rfl⟩
 ·rename_i es cl aV cl' e1 e2
  rw[e1] at e2;cases e2
  exact .inr ⟨rfl,rfl⟩
 ·rfl
theorem Kept.frozen {w w':World} (h:Kept w w') {a:Addr} (ha:a.block<w.heap.size):w'.frozen? a=w.frozen? a:=by
 simp only[World.frozen?,h.2.2.2 _ ha]
section
variable {H:Type} {enc:TypeId×Value->H} {P:Program}
theorem ajF {f:Func} {s:ChangeSpec} {apart fresh handsOn again:Bool} {W W':World} {args:Array Value} {v:Value} {ds gs:List (DataW H)} {before pa pv:List MemPlace}
 (hW:DataW.Whole enc P f.params.toList s.vars apart W args.toList ds gs before)
 (Fi: ∀(b:Nat) (sp:Nat->Bool) (hd:Bool),DataW.TrodAll enc P W' b sp hd f.resultTypes.toList (v.resultList f.resultTypes.size) (s.fn H (ds++gs)).results [])
 (ez: ∀sp:Nat->Bool,(∀p∈before,sp p.block=true)->DataW.TrodAll enc P W' 0 sp true f.params.toList args.toList (s.fn H (ds++gs)).args pa)
 (DL: ∀sp:Nat->Bool,(∀p∈before,sp p.block=true)->DataW.TrodVars enc P W' sp s.vars (s.fn H (ds++gs)).vars pv)
 (qX:before=pa++pv) (hk:Kept W W')
 (aY: ∀(j:Nat) (t:TypeId) (r:Value),f.resultTypes[j]? =some t->(v.resultList f.resultTypes.size)[j]? =some r->Value.okWide P W' .any 0 t r):
 s.post enc P f apart fresh handsOn again W args v W':=by
 have hold: ∀p∈before,(fun b=>decide (b<W.heap.size)) p.block=true:=fun p hp=>by simpa using hW.lt p hp
 refine⟨ds,gs,before,[],pa,pv,hW,Fi _ _ _,ez _ hold,DL _ hold,World.keptBut_mono (fun p hp=>⟨hp,?_⟩) (hk.keptBut (· ∈before)),fun _=>?_⟩
 ·rw[qX,List.mem_append] at hp
  exact Or.inr hp
 ·have aC:=fun p hp=>hW.lt p hp
  obtain⟨_,_,_,_,_,hz,hn⟩:=hW
  refine⟨aY,_,_,([]++pa)++pv,⟨[]++pa,pv,trodAll_append (ez _ (fun _ _=>rfl)) (Fi _ _ _),DL _ (fun _ _=>rfl),rfl,?_,?_⟩,?_⟩
  ·intro b off hp
   have qY:MemPlace.cell b off∈before:=by rw[qX];simpa using hp
   rw[hk.frozen (a:=⟨b,off,none⟩) (aC _ qY)]
   exact hz b off qY
  ·intro ha
   have:=hn ha
   rw[qX] at this
   simpa using this
  ·intro p hp _
   rw[qX]
   simpa using hp
end
section
variable {P:Program} {w:World}
theorem aaa (I:aR) (hI: ∀k j,I k j->k<w.heap.size):HR (fun _=>none) I aa.empty w where
 cG b l h:=by cases h
 inside b l h:=by cases h
 cells b cs l h:=by cases h
 maps b es l h:=by cases h
 eR b l h:=by cases h
 dC b b' l l' x x' k j _ h:=by cases h
 bz b l x k j h:=by cases h
 dw:=hI
 pl b cs cb o room h:=by cases h
theorem trod_bool {H:Type} {enc:TypeId×Value->H} {base:Nat} {sp:Nat->Bool} {hd:Bool} {t:TypeId} (hu:P.underlying t=some .bool) (b:Bool):DataW.Trod enc P w base sp hd t (.bool b) (.lit (.bool b)) []:=
 ⟨1,by simp[DataW.trod,Value.cells,hu]⟩
theorem okWide_bool {t:TypeId} (hu:P.underlying t=some .bool) (b:Bool):Value.okWide P w .any 0 t (.bool b):=by
 simp[Value.okWide,hu,Cell.okWide,Cell.ok]
theorem alz {f:Nat} {args:List AV} {h':aa} (hc:an P f args aa.empty (.bool true) h') {I:aR} (hI: ∀k j,I k j->k<w.heap.size) {bP:Array Value} (hl:LR (fun _=>none) I w args bP.toList):
 Calls P f bP w fun e w'=>e= .returned (.bool true)/\Kept w w':=by
 refine(hc (fun _=>none) I w bP (aaa I hI) hl).mono ?_
 rintro e w' ⟨v,ι',I',rfl,hv,H',E⟩
 cases hv
 exact⟨rfl,E.os,E.output,E.size,fun k hk=>E.block k hk (fun j ⟨b,l,x,hb,_⟩=>by cases hb)⟩
end
end
section
open Go
section
variable {P:Program}
theorem Ze {K:Env->aa->Prop}: ∀{al:List RO} {ρ:Env} {h:aa},exec P al ρ h K-> ∃ρ1 h1,exec P al ρ h (fun ρ' h'=>ρ'=ρ1/\h'=h1)/\K ρ1 h1
 |[],ρ,h,hk=>⟨ρ,h,⟨rfl,rfl⟩,hk⟩
 |o::os,ρ,h,⟨r,h',hs,hk⟩=>by
  obtain⟨ρ1,h1,he,hk⟩:=Ze hk
  exact⟨ρ1,h1,⟨r,h',hs,he⟩,hk⟩
theorem zp {K:Env->aa->Prop} {all:List RO} {un:List (List Nat)} {base:Nat}: ∀{al:List RO} {i:Nat} {ρ:Env} {h:aa} {done:List (Env×aa×Option AV)},l7 P all un base al i ρ h done K->
 ∃ρ1 h1,l7 P all un base al i ρ h done (fun ρ' h'=>ρ'=ρ1/\h'=h1)/\K ρ1 h1
 |[],i,ρ,h,done,hk=>⟨ρ,h,⟨rfl,rfl⟩,hk⟩
 |o::os,i,ρ,h,done,⟨r,h',hs,hc,hf,hk⟩=>by
  obtain⟨ρ1,h1,he,hk⟩:=zp hk
  exact⟨ρ1,h1,⟨r,h',hs,hc,hf,he⟩,hk⟩
def WP (P:Program) (c:aZ) (K:aQ->Env->aa->Prop) (ρ:Env) (h:aa):Prop:= ∃e ρ' h',eu P c ρ h e ρ' h'/\K e ρ' h'
variable {K:aQ->Env->aa->Prop} {ρ:Env} {h:aa}
theorem WP.mono {c:aZ} {K':aQ->Env->aa->Prop} (hw:WP P c K ρ h) (hk: ∀e ρ h,K e ρ h->K' e ρ h):WP P c K' ρ h:=by
 obtain⟨e,ρ',h',hb,fh⟩:=hw
 exact⟨e,ρ',h',hb,hk _ _ _ fh⟩
def i9 (k:Env->aa->Prop) (K:aQ->Env->aa->Prop):aQ->Env->aa->Prop
 | .normal,ρ,h=>k ρ h
 |e,ρ,h=>K e ρ h
def iO (id:Nat) (K:aQ->Env->aa->Prop):aQ->Env->aa->Prop
 | .exit i,ρ,h=>if i=id then K .normal ρ h else K (.exit i) ρ h
 |e,ρ,h=>K e ρ h
theorem Zt (hk:K .normal ρ h):WP P .skip K ρ h:=⟨_,_,_, .skip,hk⟩
theorem YS {l:Nat} (hk:K .normal ρ h):WP P (.label l) K ρ h:=⟨_,_,_, .label,hk⟩
theorem amU {id:Nat} (hk:K (.exit id) ρ h):WP P (.exit id) K ρ h:=⟨_,_,_, .exit,hk⟩
theorem amT {l:Nat} (hk:K (.goto l) ρ h):WP P (.goto l) K ρ h:=⟨_,_,_, .goto,hk⟩
theorem aoe (hk:K .ret ρ h):WP P .ret K ρ h:=⟨_,_,_, .ret,hk⟩
theorem api {al:List RO} (he:exec P al ρ h (K .normal)):WP P (.af al) K ρ h:=by
 obtain⟨ρ1,h1,he,hk⟩:=Ze he
 exact⟨_,_,_, .af he,hk⟩
theorem Ht {a b:aZ} (hw:WP P a (i9 (WP P b K) K) ρ h):WP P (.seq a b) K ρ h:=by
 obtain⟨e,ρ',h',hb,hk⟩:=hw
 cases e with
 |normal=>obtain⟨e2,ρ2,h2,bY,oL⟩:=hk;exact⟨_,_,_, .seq hb bY,oL⟩
 |exit id=>exact⟨_,_,_, .vM hb (by simp),hk⟩
 |goto l=>exact⟨_,_,_, .vM hb (by simp),hk⟩
 |ret=>exact⟨_,_,_, .vM hb (by simp),hk⟩
theorem amV {c:au} {x y:aZ} {t:Bool} (hc:c.ev ρ= .bool t) (hw:WP P (if t then x else y) K ρ h):WP P (.cond c x y) K ρ h:=by
 obtain⟨e,ρ',h',hb,hk⟩:=hw
 exact⟨_,_,_, .cond t hc hb,hk⟩
theorem alS {id:Nat} {c:aZ} (hw:WP P c (iO id K) ρ h):WP P (.block id c) K ρ h:=by
 obtain⟨e,ρ',h',hb,hk⟩:=hw
 refine⟨_,_,_, .block hb,?_⟩
 cases e with
 |exit i=>
  simp only[iO] at hk
  by_cases hi:i=id
  ·subst hi;simpa using hk
  ·rw[if_neg hi] at hk
   have: ¬(aQ.exit i=aQ.exit id):=fun h=>hi (aQ.exit.inj h)
   rw[if_neg this];exact hk
 |normal=>simpa [iO] using hk
 |goto l=>simpa [iO] using hk
 |ret=>simpa [iO] using hk
theorem dn {c:aZ} (I:Nat->Env->aa->Prop) (round: ∀n ρ h,I n ρ h->WP P c (i9 (fun ρ' h'=> ∃m,m<n/\I m ρ' h') K) ρ h): ∀(n:Nat) {ρ:Env} {h:aa},I n ρ h->WP P (.loop c) K ρ h:=by
 intro n
 induction n using Nat.strongRecOn with
 |_ n ih=>
  intro ρ h hI
  obtain⟨e,ρ',h',hb,hk⟩:=round n ρ h hI
  cases e with
  |normal=>
   obtain⟨m,hm,oP⟩:=hk
   obtain⟨e2,ρ2,h2,bY,oL⟩:=ih m hm oP
   exact⟨_,_,_, .loop hb bY,oL⟩
  |exit id=>exact⟨_,_,_, .sg hb (by simp),hk⟩
  |goto l=>exact⟨_,_,_, .sg hb (by simp),hk⟩
  |ret=>exact⟨_,_,_, .sg hb (by simp),hk⟩
def qU (k:Nat->Option (Env->aa->Prop)) (K:aQ->Env->aa->Prop):aQ->Env->aa->Prop
 | .goto l,ρ,h=>match k l with
   |some k=>k ρ h
   |none=>K (.goto l) ρ h
 |e,ρ,h=>K e ρ h
theorem Jc {body cur:aZ} (hw:WP P cur (qU (fun l=>(fM body l).map fun rest=>WP P (.inScope body rest) K) K) ρ h):WP P (.inScope body cur) K ρ h:=by
 obtain⟨e,ρ',h',hb,hk⟩:=hw
 cases e with
 |goto l=>
  simp only[qU] at hk
  cases hf:fM body l with
  |none=>rw[hf] at hk;exact⟨_,_,_, .pN hb (fun l' h=>by cases h;exact hf),hk⟩
  |some rest=>
   rw[hf] at hk
   obtain⟨e2,ρ2,h2,bY,oL⟩:=hk
   exact⟨_,_,_, .LB hb hf bY,oL⟩
 |normal=>exact⟨_,_,_, .pN hb (by simp),hk⟩
 |exit id=>exact⟨_,_,_, .pN hb (by simp),hk⟩
 |ret=>exact⟨_,_,_, .pN hb (by simp),hk⟩
theorem MZ {c:aZ} (hw:WP P (.inScope c c) K ρ h):WP P (.scope c) K ρ h:=by
 obtain⟨e,ρ',h',hb,hk⟩:=hw
 exact⟨_,_,_, .scope hb,hk⟩
theorem amS {body rest:aZ} (l:Nat) (hf:fM body l=some rest) (J:Nat->Env->aa->Prop)
 (pass: ∀n ρ h,J n ρ h->WP P rest (qU (fun l'=>if l'=l then some (fun ρ' h'=> ∃m,m<n/\J m ρ' h') else none) K) ρ h)
 (dH: ∀l' ρ h,l'≠l->K (.goto l') ρ h->False): ∀(n:Nat) {ρ:Env} {h:aa},J n ρ h->WP P (.inScope body rest) K ρ h:=by
 intro n
 induction n using Nat.strongRecOn with
 |_ n ih=>
  intro ρ h hJ
  obtain⟨e,ρ',h',hb,hk⟩:=pass n ρ h hJ
  cases e with
  |goto l'=>
   simp only[qU] at hk
   by_cases hl:l'=l
   ·subst hl
    simp only[if_true] at hk
    obtain⟨m,hm,hJ'⟩:=hk
    obtain⟨e2,ρ2,h2,bY,oL⟩:=ih m hm hJ'
    exact⟨_,_,_, .LB hb hf bY,oL⟩
   ·simp only[hl,if_false] at hk
    exact(dH l' ρ' h' hl hk).elim
  |normal=>exact⟨_,_,_, .pN hb (by simp),hk⟩
  |exit id=>exact⟨_,_,_, .pN hb (by simp),hk⟩
  |ret=>exact⟨_,_,_, .pN hb (by simp),hk⟩
def JD (rs:List fv) (r:AV) (h1:aa):aQ->Env->aa->Prop
 | .normal,ρ,h=>(dL ρ h rs).map eQ=some r/\h=h1
 | .ret,ρ,h=>(dL ρ h rs).map eQ=some r/\h=h1
 |_,_,_=>False
theorem ajV {md:Mode} (hm:P.follows .mixedOrders=true) {f:Nat} {fn:Func} {rf:aA} (hf:P.funcs[f]? =some fn) (hc:aD P md fn=some rf) {args:List AV} (ez:args.length<=rf.ntmps)
 {h1:aa} {r:AV} (hw:WP P rf.code (JD rf.results r h1) (jZ args) h):an P f args h r h1:=by
 obtain⟨e,ρ',h',hb,hk⟩:=hw
 cases e with
 |normal=>
  obtain⟨hr,rfl⟩:=hk
  obtain⟨vs,hv,rfl⟩:=Option.map_eq_some_iff.1 hr
  exact nw hm hf hc ez hb (.inl rfl) hv
 |ret=>
  obtain⟨hr,rfl⟩:=hk
  obtain⟨vs,hv,rfl⟩:=Option.map_eq_some_iff.1 hr
  exact nw hm hf hc ez hb (.inr rfl) hv
 |exit id=>exact hk.elim
 |goto l=>exact hk.elim
end
end
section
open Go
mutual
def AV.bB (p:Nat->Bool):AV->Bool
 | .ptr b _=>p b
 | .rs b _ _ _=>p b
 | .rk b _ _ _ _=>p b
 | .map (some b)=>p b
 | .vs xs t=>AV.iA p xs&&(match t with| .own t=>p t|_=>true)
 | .vp xs _=>AV.bX p xs
 | .agg xs=>AV.bX p xs
 | .az xs=>AV.bX p xs
 | .fn _ a b=>AV.bX p a&&AV.bX p b
 |_=>true
def AV.bX (p:Nat->Bool):List AV->Bool
 |[]=>true
 |x::xs=>x.bB p&&AV.bX p xs
def AV.iA (p:Nat->Bool):List (List AV)->Bool
 |[]=>true
 |x::xs=>AV.bX p x&&AV.iA p xs
end
theorem u1 {p:Nat->Bool}: ∀{l:List AV} {i:Nat} {v:AV},AV.bX p l=true->l[i]? =some v->v.bB p=true
 |[],i,v,_,h=>by simp at h
 |x::xs,i,v,ha,h=>by
  simp only[AV.bX,Bool.and_eq_true] at ha
  cases i with
  |zero=>simp at h;subst h;exact ha.1
  |succ i=>exact u1 ha.2 (by simpa using h)
theorem Zq {p:Nat->Bool}: ∀{l:List (List AV)} {i:Nat} {v:List AV},AV.iA p l=true->l[i]? =some v->AV.bX p v=true
 |[],i,v,_,h=>by simp at h
 |x::xs,i,v,ha,h=>by
  simp only[AV.iA,Bool.and_eq_true] at ha
  cases i with
  |zero=>simp at h;subst h;exact ha.1
  |succ i=>exact Zq ha.2 (by simpa using h)
theorem wV {p:Nat->Bool}: ∀{l:List AV},(∀(i:Nat) (v:AV),l[i]? =some v->v.bB p=true)->AV.bX p l=true
 |[],_=>rfl
 |x::xs,h=>by
  simp only[AV.bX,Bool.and_eq_true]
  exact⟨h 0 x rfl,wV (fun i v hv=>h (i+1) v (by simpa using hv))⟩
theorem aad {p:Nat->Bool}: ∀{l:List (List AV)},(∀(i:Nat) (v:List AV),l[i]? =some v->AV.bX p v=true)->AV.iA p l=true
 |[],_=>rfl
 |x::xs,h=>by
  simp only[AV.iA,Bool.and_eq_true]
  exact⟨h 0 x rfl,aad (fun i v hv=>h (i+1) v (by simpa using hv))⟩
theorem VR.change {ι ι2:aI} {I:aR} {w:World} {p:Nat->Bool} (hp: ∀b l,p b=true->ι b=some l->ι2 b=some l) {v:AV} {c:Value} (h:VR ι I w v c):v.bB p=true->VR ι2 I w v c:=by
 induction h with
 |undef v=>intro _;exact .undef v
 |fb v h=>intro _;exact .fb v h
 |int k n=>intro _;exact .int k n
 |bool b=>intro _;exact .bool b
 |fI k b=>intro _;exact .fI k b
 |fJ k a b=>intro _;exact .fJ k a b
 |str s=>intro _;exact .str s
 |nil=>intro _;exact .nil
 |ptr b off cb o room h=>intro ha;exact .ptr b off cb o room (hp _ _ ha h)
 |vp xs off cb o g hI hc hv h1 ih=>intro ha;exact .vp xs off cb o g hI hc (fun j v hj=>ih j v hj (u1 ha hj)) h1
 |vs xs t cb o s cap g hs hI hc hv h1 bt ht ih=>
  intro ha
  simp only[AV.bB,Bool.and_eq_true] at ha
  refine .vs xs t cb o s cap g hs hI hc (fun i row j v hi hj=>ih i row j v hi hj (u1 (Zq ha.1 hi) hj)) h1 bt ?_
  cases t with
  |ao=>exact ht
  |full=>exact ht
  |own t=>exact⟨ht.1,hp _ _ ha.2 ht.2⟩
 |gu t ht=>intro _;exact .gu t ht
 |fU t a cap ht=>intro _;exact .fU t a cap ht
 |bx=>intro _;exact .bx
 |rs b off len sz cb o room cap h h1 h2=>intro ha;exact .rs b off len sz cb o room cap (hp _ _ ha h) h1 h2
 |rk b off len sz cap cb o room h h1 h2=>intro ha;exact .rk b off len sz cap cb o room (hp _ _ ha h) h1 h2
 |vz a cap=>intro _;exact .vz a cap
 |qm=>intro _;exact .qm
 |map b cb h=>intro ha;exact .map b cb (hp _ _ ha h)
 |fn f fs cs eo bD hf hc LV fZ fx kp=>
  intro ha
  simp only[AV.bB,Bool.and_eq_true] at ha
  exact .fn f fs cs eo bD hf hc (fun i v c h1 h2=>fx i v c h1 h2 (u1 ha.1 h1)) (fun i v c h1 h2=>kp i v c h1 h2 (u1 ha.2 h1))
 |jH=>intro _;exact .jH
 |agg cs bD hl hv ih=>intro ha;exact .agg cs bD hl (fun i v c h1 h2=>ih i v c h1 h2 (u1 ha h1))
 |az cs bD hl hv ih=>intro ha;exact .az cs bD hl (fun i v c h1 h2=>ih i v c h1 h2 (u1 ha h1))
theorem VR.cG {ι:aI} {I:aR} {w:World} {p:Nat->Bool} (hp: ∀b l,ι b=some l->p b=true) {v:AV} {c:Value} (h:VR ι I w v c):v.bB p=true:=by
 induction h with
 |ptr b off cb o room h=>exact hp _ _ h
 |vp xs off cb o g hI hc hv h1 ih=>exact wV (fun j v hj=>ih j v hj)
 |vs xs t cb o s cap g hs hI hc hv h1 bt ht ih=>
  simp only[AV.bB,Bool.and_eq_true]
  refine⟨aad (fun i row hi=>wV (fun j v hj=>ih i row j v hi hj)),?_⟩
  cases t with
  |ao=>rfl
  |full=>rfl
  |own t=>exact hp _ _ ht.2
 |gu t ht=>rcases ht with rfl|rfl<;>rfl
 |fU t a cap ht=>rcases ht with rfl|⟨rfl,_⟩<;>rfl
 |rs b off len sz cb o room cap h h1 h2=>exact hp _ _ h
 |rk b off len sz cap cb o room h h1 h2=>exact hp _ _ h
 |map b cb h=>exact hp _ _ h
 |fn f fs cs eo bD hf hc LV fZ fx kp=>
  simp only[AV.bB,Bool.and_eq_true]
  refine⟨wV (fun i v hi=>?_),wV (fun i v hi=>?_)⟩
  ·have:=(List.getElem?_eq_some_iff.1 hi).1
   exact fx i v _ hi (List.getElem?_eq_getElem (by omega))
  ·have:=(List.getElem?_eq_some_iff.1 hi).1
   exact kp i v _ hi (List.getElem?_eq_getElem (by omega))
 |agg cs bD hl hv ih=>
  refine wV (fun i v hi=>?_)
  have:=(List.getElem?_eq_some_iff.1 hi).1
  exact ih i v _ hi (List.getElem?_eq_getElem (by omega))
 |az cs bD hl hv ih=>
  refine wV (fun i v hi=>?_)
  have:=(List.getElem?_eq_some_iff.1 hi).1
  exact ih i v _ hi (List.getElem?_eq_getElem (by omega))
 |_=>rfl
section
variable {P:Program}
theorem LR.change {ι ι2:aI} {I:aR} {w:World} {p:Nat->Bool} (hp: ∀b l,p b=true->ι b=some l->ι2 b=some l) {l:List AV} {l':List Value} (h:LR ι I w l l') (ha:AV.bX p l=true):LR ι2 I w l l':=
 ⟨h.1,fun i v c h1 h2=>(h.2 i v c h1 h2).change hp (u1 ha h1)⟩
theorem an.frame {f:Nat} {args:List AV} {r:AV} {h':aa} (hc:an P f args aa.empty r h') (ha:AV.bX (fun _=>false) args=true) (hr:r.bB (fun _=>false)=true) (h:aa):an P f args h r h:=by
 intro ι I w bP H hl
 have yQ:LR (fun _=>none) I w args bP.toList:=hl.change (p:=fun _=>false) (fun b l hb=>by cases hb) ha
 refine(hc (fun _=>none) I w bP (aaa I H.dw) yQ).mono ?_
 rintro e w' ⟨v,ι',I',rfl,hv,H',E⟩
 have dH: ∀k j,¬eB (fun _=>none) aa.empty k j:=fun k j ⟨b,l,x,hb,_⟩=>by cases hb
 have bq: ∀k j,k<w.heap.size->w'.cell? ⟨k,j,none⟩=w.cell? ⟨k,j,none⟩:=fun k j hk=>E.cell k j hk (dH k j)
 have oP: ∀k j,I' k j->I k j\/w.heap.size<=k:=fun k j hk=>by
  rcases E.gz k j hk with h|h|h
  ·exact .inl h
  ·exact(dH k j h).elim
  ·exact .inr h
 have aC: ∀b l k j,ι b=some l->l.has k j->k<w.heap.size:=fun b l k j hb hl=>by rw[Loc.wM hl];exact H.inside b l hb
 have cM: ∀a c,VR ι I w a c->VR ι I' w' a c:=fun a c hx=>hx.mono (fun _ _ h=>h) E.bz (fun k j hk=>bq k j (H.dw k j hk))
 refine⟨v,ι,I',rfl,hv.change (p:=fun _=>false) (fun b l hb=>by cases hb) hr,?_,?_⟩
 ·exact
  {cG:=H.cG,inside:=fun b l hb=>Nat.lt_of_lt_of_le (H.inside b l hb) E.size
   cells:=fun b cs l hg hb=>by
    obtain⟨cb,o,room,rfl,h1,h2,h3⟩:=H.cells b cs l hg hb
    refine⟨cb,o,room,rfl,h1,h2,fun j hj=>?_⟩
    obtain⟨c,e1,e2,e3⟩:=h3 j hj
    have aE:cb<w.heap.size:=H.inside b _ hb
    exact⟨c,by rw[bq _ _ aE];exact e1,by rw[E.frozen _ _ aE (dH _ _)];exact e2,fun v hv=>cM _ _ (e3 v hv)⟩
   maps:=fun b es l hg hb=>by
    obtain⟨cb,aV,clock,rfl,h1,h2,h3⟩:=H.maps b es l hg hb
    have aE:cb<w.heap.size:=H.inside b _ hb
    exact⟨cb,aV,clock,rfl,by rw[E.block cb aE (fun j=>dH cb j)];exact h1,h2,fun i k v e e1 e2=>⟨cM _ _ (h3 i k v e e1 e2).1,cM _ _ (h3 i k v e e1 e2).2⟩⟩
   eR:=fun b l hg hb=>by
    obtain⟨cb,lo,hi,rfl,h1⟩:=H.eR b l hg hb
    have aE:cb<w.heap.size:=H.inside b _ hb
    refine⟨cb,lo,hi,rfl,fun j e1 e2=>?_⟩
    obtain⟨c,e3,e4⟩:=h1 j e1 e2
    exact⟨c,by rw[bq _ _ aE];exact e3,by rw[E.frozen _ _ aE (dH _ _)];exact e4⟩
   dC:=H.dC
   bz:=fun b l x k j hb hg hl hk=>by
    rcases oP k j hk with h1|h1
    ·exact H.bz b l x k j hb hg hl h1
    ·have:=aC b l k j hb hl;omega
   dw:=H'.dw
   pl:=fun b cs cb o room hg hb n=>by rw[E.frozen cb n (H.inside b _ hb) (dH _ _)];exact H.pl b cs cb o room hg hb n}
 ·exact
  {eZ:=fun _ _=>rfl,bM:=fun _ _ h=>h,next:=Nat.le_refl _,bz:=E.bz,os:=E.os,tape:=E.tape,output:=E.output,size:=E.size
   block:=fun k hk _=>E.block k hk (fun j=>dH k j)
   cell:=fun k j hk _=>bq k j hk
   frozen:=fun k j hk _=>E.frozen k j hk (dH k j)
   own:=fun k j h=> .inl h
   gz:=fun k j hk=>by rcases oP k j hk with h1|h1;exact .inl h1;exact .inr (.inr h1)
   lost:=fun _ _ _=>rfl}
theorem an.restore {f:Nat} {args:List AV} {r:AV} {h h':aa} (hc:an P f args h r h') (iP: ∀b,b<h.next->h'.get b=h.get b) (hr:r.bB (fun b=>decide (b<h.next))=true):an P f args h r h:=by
 intro ι I w bP H hl
 refine(hc ι I w bP H hl).mono ?_
 rintro e w' ⟨v,ι',I',rfl,hv,H',E⟩
 let ι2:aI:=fun b=>if b<h.next then ι' b else none
 have f0: ∀b l,decide (b<h.next)=true->ι' b=some l->ι2 b=some l:=fun b l hb hl=>by
  have:b<h.next:=by simpa using hb
  simp only[ι2,this,if_true];exact hl
 have mE: ∀b l,ι2 b=some l->b<h.next/\ι' b=some l:=fun b l hb=>by
  simp only[ι2] at hb
  split at hb
  ·rename_i aC;exact⟨aC,hb⟩
  ·cases hb
 have hold: ∀b,b<h.next->ι' b=ι b:=fun b hb=>E.eZ b (by omega)
 have gO: ∀a c c',VR ι I w a c->VR ι' I' w' a c'->VR ι2 I' w' a c':=fun a c c' hx hy=>
  hy.change f0 (hx.cG (fun b l hb=>by simpa using H.cG b l hb))
 refine⟨v,ι2,I',rfl,hv.change f0 hr,?_,?_⟩
 ·exact
  {cG:=fun b l hb=>(mE b l hb).1
   inside:=fun b l hb=>H'.inside b l (mE b l hb).2
   cells:=fun b cs l hg hb=>by
    obtain⟨aC,bC⟩:=mE b l hb
    obtain⟨cb,o,room,rfl,h1,h2,h3⟩:=H'.cells b cs l (by rw[iP b aC];exact hg) bC
    refine⟨cb,o,room,rfl,h1,h2,fun j hj=>?_⟩
    obtain⟨c,e1,e2,e3⟩:=h3 j hj
    refine⟨c,e1,e2,fun v hv=>?_⟩
    obtain⟨cb0,o0,axq,heq,g1,g2,g3⟩:=H.cells b cs _ hg (by rw[<-hold b aC];exact bC)
    cases heq
    obtain⟨c0,f1,f2,f3⟩:=g3 j hj
    exact gO v c0 c (f3 v hv) (e3 v hv)
   maps:=fun b es l hg hb=>by
    obtain⟨aC,bC⟩:=mE b l hb
    obtain⟨cb,aV,clock,rfl,h1,h2,h3⟩:=H'.maps b es l (by rw[iP b aC];exact hg) bC
    obtain⟨cb0,es0,axo,heq,g1,g2,g3⟩:=H.maps b es _ hg (by rw[<-hold b aC];exact bC)
    cases heq
    refine⟨cb,aV,clock,rfl,h1,h2,fun i k v e e1 e2=>?_⟩
    have hi:=(List.getElem?_eq_some_iff.1 e1).1
    have h0:=g3 i k v _ e1 (Array.getElem?_eq_getElem (by omega))
    have h4:=h3 i k v e e1 e2
    exact⟨gO _ _ _ h0.1 h4.1,gO _ _ _ h0.2 h4.2⟩
   eR:=fun b l hg hb=>by
    obtain⟨aC,bC⟩:=mE b l hb
    exact H'.eR b l (by rw[iP b aC];exact hg) bC
   dC:=fun b b' l l' x x' k j aM hb bC hg cF=>H'.dC b b' l l' x x' k j aM (mE b l hb).2 (mE b' l' bC).2 (by rw[iP b (mE b l hb).1];exact hg) (by rw[iP b' (mE b' l' bC).1];exact cF)
   bz:=fun b l x k j hb hg=>H'.bz b l x k j (mE b l hb).2 (by rw[iP b (mE b l hb).1];exact hg)
   dw:=H'.dw
   pl:=fun b cs cb o room hg hb=>H'.pl b cs cb o room (by rw[iP b (mE b _ hb).1];exact hg) (mE b _ hb).2}
 ·exact
  {eZ:=fun b hb=>by
    have aC:b<h.next:=by simpa using hb
    simp only[ι2,aC,if_true]
    exact E.eZ b hb
   bM:=fun b l hb=>f0 b l (by simpa using H.cG b l hb) (E.bM b l hb)
   next:=Nat.le_refl _,bz:=E.bz,os:=E.os,tape:=E.tape,output:=E.output,size:=E.size,block:=E.block,cell:=E.cell,frozen:=E.frozen
   own:=fun k j ⟨b,l,x,hb,hg,hl⟩=>E.own k j ⟨b,l,x,(mE b l hb).2,by rw[iP b (mE b l hb).1];exact hg,hl⟩
   gz:=E.gz
   lost:=fun _ _ _=>rfl}
end
end
section
open Go
section
variable {P:Program} {ρ:Env} {h:aa} {K:Env->aa->Prop}
theorem aq0 {d:Option Nat} {q:a8} {os:List RO}:exec P (⟨d,none, .p q⟩::os) ρ h K↔ ∃v,aX q ρ h=some v/\exec P os (put ρ d v) h K:=by
 constructor
 ·rintro⟨r,h',hs,hk⟩
  simp only[br,bV,gF] at hs
  obtain⟨v,rfl,hv,rfl⟩:=hs
  exact⟨v,hv,hk⟩
 ·rintro⟨v,hv,hk⟩
  exact⟨some v,h,⟨v,rfl,hv,rfl⟩,hk⟩
def gK (v:AV) (b:Bool) (A B:Prop):Prop:=match v with
 | .bool c=>if c=b then A else B
 | .az []=>B
 |_=>False
theorem aq2 {d:Option Nat} {q:kD} {os:List RO}:exec P (⟨d,none, .a q⟩::os) ρ h K↔ ∃b v,ic q ρ h.next=some (b,v)/\exec P os (put ρ d v) (h.at h.next b) K:=by
 constructor
 ·rintro⟨r,h',hs,hk⟩
  simp only[br,bV,gF] at hs
  obtain⟨v,rfl,b,hv,rfl⟩:=hs
  exact⟨b,v,hv,hk⟩
 ·rintro⟨b,v,hv,hk⟩
  exact⟨some v,_,⟨v,rfl,b,hv,rfl⟩,hk⟩
theorem aq1 {d:Option Nat} {q:gf} {os:List RO}:exec P (⟨d,none, .e q⟩::os) ρ h K↔ ∃v h',bN q ρ h.next h=some (v,h')/\exec P os (put ρ d v) h' K:=by
 constructor
 ·rintro⟨r,h',hs,hk⟩
  simp only[br,bV,gF] at hs
  obtain⟨v,rfl,hv⟩:=hs
  exact⟨v,h',hv,hk⟩
 ·rintro⟨v,h',hv,hk⟩
  exact⟨some v,h',⟨v,rfl,hv⟩,hk⟩
theorem amt {d:Option Nat} {f:Nat} {as:List au} {os:List RO} {v:AV} {h':aa} (hc:an P f (as.map (au.ev ρ)) h v h') (hk:exec P os (put ρ d v) h' K):exec P (⟨d,none, .call f as⟩::os) ρ h K:=
 ⟨some v,h',⟨v,rfl,hc⟩,hk⟩
section
variable {P:Program} {ρ:Env} {h:aa} {K:aQ->Env->aa->Prop}
def kI (l:Nat) (J:Env->aa->Prop) (K:aQ->Env->aa->Prop):aQ->Env->aa->Prop
 | .goto l',ρ,h=>if l'=l then J ρ h else K (.goto l') ρ h
 |e,ρ,h=>K e ρ h
theorem ajA {c rest:aZ} (l:Nat) (hf:fM c l=some rest) (J:Nat->Env->aa->Prop) (dH: ∀l' ρ h,K (.goto l') ρ h->False)
 (first:WP P c (kI l (fun ρ' h'=> ∃m,J m ρ' h') K) ρ h)
 (pass: ∀n ρ h,J n ρ h->WP P rest (kI l (fun ρ' h'=> ∃m,m<n/\J m ρ' h') K) ρ h):WP P (.scope c) K ρ h:=by
 have loop: ∀(n:Nat) (ρ:Env) (h:aa),J n ρ h->WP P (.inScope c rest) K ρ h:=fun n ρ h hJ=>
  amS l hf J (fun n ρ h hJ=>(pass n ρ h hJ).mono (fun e ρ h hk=>by
   cases e with
   |goto l'=>
    simp only[kI,qU] at hk ⊢
    by_cases hl:l'=l
    ·simpa [hl] using hk
    ·simpa [hl] using hk
   |normal=>exact hk
   |exit id=>exact hk
   |ret=>exact hk)) (fun l' ρ h _ hk=>dH l' ρ h hk) n hJ
 refine MZ (Jc (first.mono (fun e ρ h hk=>?_)))
 cases e with
 |goto l'=>
  simp only[kI,qU] at hk ⊢
  by_cases hl:l'=l
  ·subst hl
   rw[hf]
   simp only[if_true] at hk
   obtain⟨m,hm⟩:=hk
   exact loop m ρ h hm
  ·rw[if_neg hl] at hk
   exact(dH l' ρ h hk).elim
 |normal=>exact hk
 |exit id=>exact hk
 |ret=>exact hk
end
end
section
variable {P:Program}
def Js (rs:List fv) (r:AV) (h:aa):aQ->Env->aa->Prop
 | .normal,ρ,h'=>(dL ρ h' rs).map eQ=some r/\ ∀b,b<h.next->h'.get b=h.get b
 | .ret,ρ,h'=>(dL ρ h' rs).map eQ=some r/\ ∀b,b<h.next->h'.get b=h.get b
 |_,_,_=>False
theorem akI {md:Mode} (hm:P.follows .mixedOrders=true) {f:Nat} {fn:Func} {rf:aA} (hf:P.funcs[f]? =some fn) (hc:aD P md fn=some rf) {args:List AV} (ez:args.length<=rf.ntmps)
 {h:aa} {r:AV} (hr:r.bB (fun b=>decide (b<h.next))=true) (hw:WP P rf.code (Js rf.results r h) (jZ args) h):an P f args h r h:=by
 obtain⟨e,ρ',h',hb,hk⟩:=hw
 cases e with
 |normal=>
  obtain⟨hv,hs⟩:=hk
  obtain⟨vs,jP,rfl⟩:=Option.map_eq_some_iff.1 hv
  exact(nw hm hf hc ez hb (.inl rfl) jP).restore hs hr
 |ret=>
  obtain⟨hv,hs⟩:=hk
  obtain⟨vs,jP,rfl⟩:=Option.map_eq_some_iff.1 hv
  exact(nw hm hf hc ez hb (.inr rfl) jP).restore hs hr
 |exit id=>exact hk.elim
 |goto l=>exact hk.elim
end
theorem aa.I8 {h:aa} {id j:Nat} {b:cI}:(h.at id b).get j=if j=id then some b else h.get j:=rfl
theorem aa.HP {h:aa} {id:Nat} {b:cI}:(h.at id b).next=max h.next (id+1):=rfl
theorem al3 {cs vs:List AV} (h:cs.length=vs.length):dq cs 0 vs=vs:=by
 simp[dq,List.drop_eq_nil_of_le,h]
end
section
open Go Go.ChangeShapes
section
variable {P:Program} {H:Type} {enc:TypeId×Value->H} {w:World} {base:Nat} {sp:Nat->Bool} {held:Bool}
theorem Hm {α β:Type} {f:α->Option β}: ∀{l:List α} {r:List β},l.mapM f=some r-> ∀x∈l,∃y,f x=some y
 |[],r,h,x,hx=>by simp at hx
 |a::l,r,h,x,hx=>by
  rw[List.mapM_cons] at h
  simp only[Option.bind_eq_bind,Option.bind_eq_some_iff] at h
  obtain⟨b,hb,bs,uB,_⟩:=h
  rcases List.mem_cons.1 hx with rfl|hx
  ·exact⟨b,hb⟩
  ·exact Hm uB x hx
end
end
section
open Go Go.ChangeShapes
def vJ (w:World):aR:=fun k _=>k<w.heap.size
def Hd (P:Program):Nat->TypeId->List AV->Prop
 |0,_,_=>False
 |f+1,t,as=>
  match P.underlying t with
  |some .bool=> ∃b,as=[.bool b]
  |some (.int k)=> ∃n,as=[.int k n]/\(Lit.int k n).wf=true
  |some .string=> ∃s:ByteArray,as=[.str s]/\s.size<=maxLen
  |some (.slice e)=> ∃xs,as=[.vs xs .ao]/\xs.length<=maxLen/\ ∀row∈xs,Hd P f e row/\row.all AV.one=true
  |some (.struct fs)=>as.length=P.cellsOf t/\ ∀fd∈fs.toList,Hd P f fd.type ((as.drop fd.offset).take (P.cellsOf fd.type))
  |some (.array n e)=>as.length=n*P.cellsOf e/\ ∀i,i<n->Hd P f e ((as.drop (i*P.cellsOf e)).take (P.cellsOf e))
  |_=>as=[.fb]
def pw (P:Program):Nat->List Field->Option Nat
 |o,[]=>some o
 |o,f::fs=>if f.offset=o/\f.type<P.types.size then pw P (o+P.cellsOf f.type) fs else none
def KM (P:Program):Bool:=(List.range P.types.size).all fun t=>match P.underlying t with
 |some (.struct fs)=>pw P 0 fs.toList==some (P.cellsOf t)
 |some (.array n e)=>decide (e<P.types.size)&&P.cellsOf t==n*P.cellsOf e
 |some (.slice e)=>decide (e<P.types.size)&&decide (0<P.cellsOf e)
 |_=>true
section
variable {P:Program} {H:Type} {enc:TypeId×Value->H} {w:World} {sp:Nat->Bool} {held:Bool}
theorem so {ι:aI} {I:aR} {a:AV} {v:Value} (h:VR ι I w a v):LR ι I w [a] [v]:=LR.cons h LR.nil
theorem LR.app {ι:aI} {I:aR}: ∀{a b:List AV} {c d:List Value},LR ι I w a c->LR ι I w b d->LR ι I w (a++b) (c++d)
 |[],b,[],d,_,h=>h
 |[],b,c::cs,d,h,_=>by have:=h.1;simp at this
 |a::as,b,[],d,h,_=>by have:=h.1;simp at this
 |a::as,b,c::cs,d,h,h2=>by
  have h1:VR ι I w a c:=h.2 0 a c rfl rfl
  have h3:LR ι I w as cs:=⟨by have:=h.1;simpa using this,fun i v c e1 e2=>h.2 (i+1) v c (by simpa using e1) (by simpa using e2)⟩
  exact LR.cons h1 (LR.app h3 h2)
theorem Ye {n:Nat} {G:Nat->TypeId->List AV->Prop} {ι:aI} {I:aR}: ∀(fs:List Field) (o e:Nat) (cs:List Value),pw P o fs=some e->cs.length+o=e->
 (∀f∈fs,∀l,l=((cs.drop (f.offset-o)).take (P.cellsOf f.type))->f.offset+P.cellsOf f.type<=e-> ∃as,G n f.type as/\LR ι I w as l/\ ∀v∈as,v.one=true)->
 ∃as,LR ι I w as cs/\(∀v∈as,v.one=true)/\ ∀f∈fs,o<=f.offset/\G n f.type ((as.drop (f.offset-o)).take (P.cellsOf f.type))
 |[],o,e,cs,hc,hl,_=>by
  simp[pw] at hc
  subst hc
  have:cs=[]:=List.length_eq_zero_iff.1 (by omega)
  subst this
  exact⟨[],LR.nil,by simp,by simp⟩
 |f::fs,o,e,cs,hc,hl,hf=>by
  simp only[pw] at hc
  split at hc
  ·rename_i h1
   obtain⟨h1,_⟩:=h1
   have hle: ∀(fs:List Field) (o e:Nat),pw P o fs=some e->o<=e:=by
    intro fs
    induction fs with
    |nil=>intro o e h;simp[pw] at h;omega
    |cons g gs ih=>intro o e h;simp only[pw] at h;split at h;exact Nat.le_trans (Nat.le_add_right _ _) (ih _ _ h);cases h
   have h2:=hle _ _ _ hc
   obtain⟨a,m9,rq,LZ⟩:=hf f (by simp) _ rfl (by omega)
   have hlen:a.length=P.cellsOf f.type:=by rw[rq.1,List.length_take,List.length_drop];omega
   obtain⟨b,ef,bY,WK⟩:=Ye fs (o+P.cellsOf f.type) e (cs.drop (P.cellsOf f.type)) hc (by simp;omega) (fun g hg l hl sy=>by
    have BE: ∀(fs:List Field) (o e:Nat),pw P o fs=some e-> ∀g∈fs,o<=g.offset:=by
     intro fs
     induction fs with
     |nil=>intro o e h g hg;simp at hg
     |cons q qs ih=>
      intro o e h g hg
      simp only[pw] at h
      split at h
      ·rename_i hq
       rcases List.mem_cons.1 hg with rfl|hg
       ·omega
       ·have:=ih _ _ h g hg;omega
      ·cases h
    have:=BE _ _ _ hc g hg
    refine hf g (List.mem_cons_of_mem _ hg) l ?_ sy
    rw[hl,List.drop_drop]
    congr 2
    omega)
   refine⟨a++b,?_,?_,?_⟩
   ·have:=LR.app rq ef
    rw[h1,Nat.sub_self,List.drop_zero,List.take_append_drop] at this
    exact this
   ·intro v hv
    rcases List.mem_append.1 hv with hv|hv
    ·exact LZ v hv
    ·exact bY v hv
   ·intro g hg
    rcases List.mem_cons.1 hg with rfl|hg
    ·refine⟨by omega,?_⟩
     rw[h1,Nat.sub_self,List.drop_zero,List.take_append_of_le_length (by omega),List.take_of_length_le (by omega)]
     exact m9
    ·obtain⟨h3,h4⟩:=WK g hg
     refine⟨by omega,?_⟩
     have:g.offset-o=a.length+(g.offset-(o+P.cellsOf f.type)):=by omega
     rw[this,List.drop_append,List.drop_eq_nil_of_le (by omega),Nat.add_sub_cancel_left,List.nil_append]
     exact h4
  ·cases hc
theorem akQ {b off:Nat} {v:Value} (h:w.cell? ⟨b,off,none⟩=some v):vJ w b off:=by
 apply Classical.byContradiction
 intro hn
 have:w.heap[b]? =none:=by
  have gQ: ¬b<w.heap.size:=hn
  simp;omega
 simp[World.cell?,this] at h
theorem Yw {G:List AV->Prop} {ι:aI} {I:aR} {s:Nat}: ∀(n:Nat) (cs:List Value),cs.length=n*s->
 (∀i,i<n-> ∃as,G as/\LR ι I w as ((cs.drop (i*s)).take s)/\ ∀v∈as,v.one=true)->
 ∃as,LR ι I w as cs/\(∀v∈as,v.one=true)/\ ∀i,i<n->G ((as.drop (i*s)).take s)
 |0,cs,hl,_=>by
  have:cs=[]:=List.length_eq_zero_iff.1 (by simpa using hl)
  subst this
  exact⟨[],LR.nil,by simp,by omega⟩
 |n+1,cs,hl,hf=>by
  have hs:(n+1)*s=n*s+s:=Nat.succ_mul n s
  obtain⟨a,m9,rq,LZ⟩:=hf 0 (by omega)
  have hlen:a.length=s:=by rw[rq.1,List.length_take,List.length_drop];omega
  obtain⟨b,ef,bY,WK⟩:=Yw (G:=G) (s:=s) n (cs.drop s) (by rw[List.length_drop];omega) (fun i hi=>by
   obtain⟨x,h1,h2,h3⟩:=hf (i+1) (by omega)
   refine⟨x,h1,?_,h3⟩
   rw[List.drop_drop]
   rw[Nat.succ_mul,Nat.add_comm] at h2
   exact h2)
  refine⟨a++b,?_,?_,?_⟩
  ·have:=LR.app rq ef
   rw[Nat.zero_mul,List.drop_zero,List.take_append_drop] at this
   exact this
  ·intro v hv
   rcases List.mem_append.1 hv with hv|hv
   ·exact LZ v hv
   ·exact bY v hv
  ·intro i hi
   cases i with
   |zero=>
    rw[Nat.zero_mul,List.drop_zero,List.take_append_of_le_length (by omega),List.take_of_length_le (by omega)]
    exact m9
   |succ i=>
    have:(i+1)*s=a.length+i*s:=by rw[Nat.succ_mul];omega
    rw[this,List.drop_append,List.drop_eq_nil_of_le (by omega),Nat.add_sub_cancel_left,List.nil_append]
    exact WK i (by omega)
theorem akZ (hl:KM P=true): ∀{fuel:Nat} {t:TypeId} {cs:List Value} {x:DataW H×List MemPlace},t<P.types.size->DataW.trod enc P w 0 sp held fuel t cs=some x->
 ∃as,Hd P fuel t as/\LR (fun _=>none) (vJ w) w as cs/\ ∀v∈as,v.one=true:=by
 intro fuel
 induction fuel with
 |zero=>intro t cs x _ h;simp[DataW.trod] at h
 |succ n ih=>
  intro t cs x ht h
  have ou:=List.all_eq_true.1 hl t (List.mem_range.2 ht)
  unfold DataW.trod at h
  unfold Hd
  split at h
  ·rename_i b hu
   rw[hu];exact⟨[.bool b],⟨b,rfl⟩,so (.bool b),by simp[AV.one]⟩
  ·rename_i k k' m hu
   rw[hu]
   split at h
   ·rename_i hc
    obtain⟨rfl,hc⟩:=hc
    exact⟨[.int k' m],⟨m,rfl,hc⟩,so (.int k' m),by simp[AV.one]⟩
   ·cases h
  ·rename_i hu;rw[hu];exact⟨[.fb],rfl,so (.fb _ rfl),by simp[AV.one]⟩
  ·rename_i s hu
   rw[hu]
   split at h
   ·rename_i hc
    exact⟨[.str s],⟨s,rfl,hc⟩,so (.str s),by simp[AV.one]⟩
   ·cases h
  ·rename_i hu;rw[hu];exact⟨[.fb],rfl,so (.fb _ rfl),by simp[AV.one]⟩
  ·rename_i hu;rw[hu];exact⟨[.fb],rfl,so (.fb _ rfl),by simp[AV.one]⟩
  ·rename_i hu
   rw[hu]
   exact⟨[.vs [] .ao],⟨[],rfl,by simp,by simp⟩,so (.gu _ (.inl rfl)),by simp[AV.one]⟩
  ·rename_i e a len cap hu
   rw[hu] at ou ⊢
   simp only[Bool.and_eq_true,decide_eq_true_eq] at ou
   obtain⟨Wp,iS⟩:=ou
   split at h
   ·rename_i hc
    obtain⟨_,hlc,Gn⟩:=hc
    simp only[Option.bind_eq_some_iff] at h
    obtain⟨elems,Gl,_⟩:=h
    rcases Nat.eq_zero_or_pos len with h0|h0
    ·subst h0
     exact⟨[.vs [] .ao],⟨[],rfl,by simp,by simp⟩,so (.fU _ _ _ (.inl rfl)),by simp[AV.one]⟩
    ·have key: ∀i,∃as:List AV,i<len->Hd P n e as/\as.length=P.cellsOf e/\(∀v∈as,v.one=true)/\
      ∀j,j<P.cellsOf e-> ∃u,w.cell? ((a.add (i*P.cellsOf e)).add j)=some u/\ ∀v,as[j]? =some v->VR (fun _=>none) (vJ w) w v u:=by
      intro i
      by_cases hi:i<len
      ·obtain⟨y,hy⟩:=Hm Gl i (List.mem_range.2 hi)
       obtain⟨csi,h1,h2⟩:=Option.bind_eq_some_iff.1 hy
       obtain⟨_,dj,jj⟩:=World.cells?_some h1
       obtain⟨as,h3,h4,h5⟩:=ih Wp h2
       refine⟨as,fun _=>⟨h3,by rw[h4.1,dj],h5,fun j hj=>?_⟩⟩
       have dO:j<csi.length:=by omega
       refine⟨csi[j],by rw[jj j hj,List.getElem?_eq_getElem dO],fun v hv=>h4.2 j v _ hv (List.getElem?_eq_getElem dO)⟩
      ·exact⟨[],fun h=>absurd h hi⟩
     obtain⟨f,hf⟩:=Classical.skolem.1 key
     have aed:a.spot=none:=by
      obtain⟨_,_,_,h4⟩:=hf 0 h0
      obtain⟨u,iI,_⟩:=h4 0 iS
      have:=World.cell?_spot iI
      simpa [Addr.add] using this
     obtain⟨cb,o,spt⟩:=a
     simp only at aed
     subst aed
     have cw: ∀(i:Nat) (row:List AV),((List.range len).map f)[i]? =some row->i<len/\row=f i:=by
      intro i row hi
      have aC:i<len:=by have:=(List.getElem?_eq_some_iff.1 hi).1;simpa using this
      simp[List.getElem?_map,List.getElem?_range aC] at hi
      exact⟨aC,hi.symm⟩
     have bq: ∀i j,i<len->j<P.cellsOf e-> ∃u,w.cell? ⟨cb,o+i*P.cellsOf e+j,none⟩=some u/\ ∀v,(f i)[j]? =some v->VR (fun _=>none) (vJ w) w v u:=by
      intro i j hi hj
      obtain⟨_,_,_,h4⟩:=hf i hi
      have:=h4 j hj
      rw[Addr.add_mid,Addr.add_mid] at this
      exact this
     have hv:=VR.vs (ι:=fun _=>none) (I:=vJ w) (w:=w) ((List.range len).map f) .ao cb o (P.cellsOf e) cap (fun i j=>(w.cell? ⟨cb,o+i*P.cellsOf e+j,none⟩).getD undef)
      (fun i row hi=>by obtain⟨h1,rfl⟩:=cw i row hi;exact(hf i h1).2.1)
      (fun i j hi hj=>by obtain⟨u,hu,_⟩:=bq i j (by simpa using hi) hj;exact akQ hu)
      (fun i j hi hj=>by obtain⟨u,hu,_⟩:=bq i j (by simpa using hi) hj;simp[hu])
      (fun i row j v hi hj=>by
        obtain⟨h1,rfl⟩:=cw i row hi
        have kW:j<P.cellsOf e:=by rw[<-(hf i h1).2.1];exact(List.getElem?_eq_some_iff.1 hj).1
        obtain⟨u,hu,hv⟩:=bq i j h1 kW
        simp only[hu,Option.getD_some]
        exact hv v hj)
      (fun row hr v hv=>by
        obtain⟨i,hi⟩:=List.mem_iff_getElem?.1 hr
        obtain⟨h1,rfl⟩:=cw i row hi
        exact(hf i h1).2.2.1 v hv)
      (by simpa using hlc) trivial
     have mY:((List.range len).map f).length=len:=by simp
     rw[mY] at hv
     refine⟨[.vs ((List.range len).map f) .ao],⟨_,rfl,by rw[mY];omega,fun row hr=>?_⟩,so hv,by simp[AV.one]⟩
     obtain⟨i,hi⟩:=List.mem_iff_getElem?.1 hr
     obtain⟨h1,rfl⟩:=cw i row hi
     exact⟨(hf i h1).1,List.all_eq_true.2 (hf i h1).2.2.1⟩
   ·cases h
  ·rename_i cs _ _ fs hu
   rw[hu] at ou ⊢
   simp only[beq_iff_eq] at ou
   split at h
   ·rename_i hlen
    obtain⟨xs,Wl,_⟩:=Option.map_eq_some_iff.1 h
    have awi: ∀(fs:List Field) (o e:Nat),pw P o fs=some e-> ∀g∈fs,g.type<P.types.size:=by
     intro fs
     induction fs with
     |nil=>intro o e h g hg;simp at hg
     |cons q qs ih=>
      intro o e h g hg
      simp only[pw] at h
      split at h
      ·rename_i hq
       rcases List.mem_cons.1 hg with rfl|hg
       ·exact hq.2
       ·exact ih _ _ h g hg
      ·cases h
    obtain⟨as,h1,h2,h3⟩:=Ye (P:=P) (w:=w) (n:=n) (G:=fun f t as=>Hd P f t as) fs.toList 0 _ cs ou (by omega) (fun f hf l hl _=>by
     obtain⟨y,hy⟩:=Hm Wl f hf
     rw[Nat.sub_zero] at hl
     rw[<-hl] at hy
     exact ih (awi _ _ _ ou f hf) hy)
    exact⟨as,⟨by rw[h1.1,hlen],fun f hf=>by have:=(h3 f hf).2;rwa [Nat.sub_zero] at this⟩,h1,h2⟩
   ·cases h
  ·rename_i cs _ _ m e hu
   rw[hu] at ou ⊢
   simp only[beq_iff_eq,Bool.and_eq_true,decide_eq_true_eq] at ou
   obtain⟨Wp,ou⟩:=ou
   split at h
   ·rename_i hlen
    obtain⟨xs,Wl,_⟩:=Option.map_eq_some_iff.1 h
    obtain⟨as,h1,h2,h3⟩:=Yw (w:=w) (G:=Hd P n e) m cs (by rw[hlen,ou]) (fun i hi=>by
     obtain⟨y,hy⟩:=Hm Wl i (List.mem_range.2 hi)
     exact ih Wp hy)
    exact⟨as,⟨by rw[h1.1,hlen,ou],h3⟩,h1,h2⟩
   ·cases h
  all_goals first
   |(cases h;done)
   |(rename_i hu;rw[hu];exact⟨[.fb],rfl,so (.fb _ rfl),by simp[AV.one]⟩)
   |skip
end
end
section
open Go Go.ChangeShapes Go.WideShapes Go.ChangeAt Go.RowKit
def ze (P:Program) (t:TypeId) (a:AV):Prop:=
 ∃f,match P.underlying t with
 |some (.struct _)|some (.array _ _)=> ∃cs,a= .agg cs/\Hd P f t cs/\cs.all AV.one=true
 |_=>Hd P f t [a]
def UM (P:Program):List TypeId->List AV->Prop
 |[],as=>as=[]
 |t::ts,as=> ∃a bs,as=a::bs/\ze P t a/\UM P ts bs
section
variable {P:Program} {H:Type} {enc:TypeId×Value->H} {w w':World}
theorem ze.ano {t:TypeId} {d:TypeDesc} {a:AV} (hu:P.underlying t=some d) (hd:d.isRow=false) (h:ze P t a): ∃f,Hd P f t [a]:=by
 obtain⟨f,h⟩:=h
 rw[hu] at h
 cases d<;>first|(simp[TypeDesc.isRow] at hd;done)|exact⟨f,h⟩
theorem anj (hl:KM P=true) {t:TypeId} {v:Value} {base:Nat} (ht:t<P.types.size) (aY:Value.okWide P w .any base t v) {sp:Nat->Bool} {held:Bool} {d:DataW H} {p:List MemPlace}
 (h:DataW.Trod enc P w 0 sp held t v d p): ∃a,ze P t a/\VR (fun _=>none) (vJ w) w a v:=by
 obtain⟨n,hn⟩:=h
 obtain⟨as,h1,h2,h3⟩:=akZ hl ht hn
 unfold ze
 unfold Value.okWide at aY
 split at aY
 ·rename_i hu
  obtain⟨cs,rfl,aP,_⟩:=aY
  refine⟨.agg as,⟨n,?_⟩,?_⟩
  ·rw[hu];exact⟨as,rfl,h1,List.all_eq_true.2 h3⟩
  ·have:(Value.agg cs).cells.toList=cs.toList:=rfl
   rw[this] at h2
   have:=VR.agg as cs.toList h2.1 h2.2
   simpa using this
 ·rename_i hu
  obtain⟨cs,rfl,aP,_⟩:=aY
  refine⟨.agg as,⟨n,?_⟩,?_⟩
  ·rw[hu];exact⟨as,rfl,h1,List.all_eq_true.2 h3⟩
  ·have:(Value.agg cs).cells.toList=cs.toList:=rfl
   rw[this] at h2
   have:=VR.agg as cs.toList h2.1 h2.2
   simpa using this
 ·rename_i hns iY
  have hc:v.cells.toList=[v]:=by
   cases v<;>first|rfl|(unfold Cell.okWide Cell.ok at aY;split at aY<;>simp_all)
  rw[hc] at h2
  have hlen:=h2.1
  match as,hlen,h1,h2,h3 with
  |[a],_,h1,h2,h3=>
   refine⟨a,⟨n,?_⟩,h2.2 0 a v rfl rfl⟩
   split
   ·rename_i hu;exact(hns _ hu).elim
   ·rename_i hu;exact(iY _ _ hu).elim
   ·exact h1
theorem ZK (hl:KM P=true) {base:Nat} {sp:Nat->Bool} {held:Bool}: ∀{ts:List TypeId} {vs:List Value} {ds:List (DataW H)} {p:List MemPlace},(∀t∈ts,t<P.types.size)->
 (∀(j:Nat) t v,ts[j]? =some t->vs[j]? =some v->Value.okWide P w .any base t v)->DataW.TrodAll enc P w 0 sp held ts vs ds p->
 ∃as,UM P ts as/\LR (fun _=>none) (vJ w) w as vs
 |[],vs,ds,p,_,_,h=>by
  obtain⟨rfl,_,_⟩:=trodAll_nil h
  exact⟨[],rfl,LR.nil⟩
 |t::ts,vs,ds,p,ht,aY,h=>by
  obtain⟨v,vs',d,ds',p',q,rfl,rfl,rfl,h1,h2⟩:=trodAll_cons h
  obtain⟨a,m9,rq⟩:=anj hl (ht t (by simp)) (aY 0 t v rfl rfl) h1
  obtain⟨as,ef,bY⟩:=ZK hl (fun x hx=>ht x (List.mem_cons_of_mem _ hx)) (fun j t v e1 e2=>aY (j+1) t v (by simpa using e1) (by simpa using e2)) h2
  exact⟨a::as,⟨a,as,rfl,m9,ef⟩,LR.cons rq bY⟩
theorem XM {base:Nat} {sp:Nat->Bool} {held:Bool}: ∀{ts:List TypeId} {vs:List Value} {ds:List (DataW H)} {ps:List MemPlace},DataW.TrodAll enc P w base sp held ts vs ds ps->vs.length=ts.length/\ds.length=ts.length
 |[],_,_,_,h=>by
  obtain⟨rfl,rfl,_⟩:=trodAll_nil h
  exact⟨rfl,rfl⟩
 |_::_,_,_,_,h=>by
  obtain⟨v,vs1,d,ds1,a,b,rfl,rfl,rfl,_,h2⟩:=trodAll_cons h
  have:=XM h2
  simp[this.1,this.2]
theorem Kept.same (h:Kept w w') {p:MemPlace} (hp:p.block<w.heap.size):w.sameAt w' p:=by
 cases p with
 |cell b off=>
  have:=h.2.2.2 b hp
  simp only[World.sameAt,World.cell?,this]
 |map b=>exact h.2.2.2 b hp
theorem Xj (hl:laidOutB P=true) {sp:Nat->Bool} (hk:Kept w w'): ∀{ts:List TypeId} {vs:List Value} {ds:List (DataW H)} {p:List MemPlace},
 (∀t∈ts,P.readableRec t=true/\t<P.types.size)->(∀x∈p,x.block<w.heap.size)->(∀x∈p,sp x.block=true)->
 DataW.TrodAll enc P w 0 (fun _=>true) true ts vs ds p->DataW.TrodAll enc P w' 0 sp true ts vs ds p
 |[],vs,ds,p,_,_,_,h=>by
  obtain⟨rfl,rfl,rfl⟩:=trodAll_nil h
  exact trodAll_mk0
 |t::ts,vs,ds,p,ht,aC,wj,h=>by
  obtain⟨v,vs',d,ds',p',q,rfl,rfl,rfl,h1,h2⟩:=trodAll_cons h
  refine⟨p',q,?_,?_,rfl⟩
  ·exact WideElems.Trod_stays hl (ht t (by simp)).1 (ht t (by simp)).2 h1 (fun x hx=>hk.same (aC x (by simp[hx]))) (fun x hx=>wj x (by simp[hx]))
  ·exact Xj hl hk (fun x hx=>ht x (List.mem_cons_of_mem _ hx)) (fun x hx=>aC x (by simp[hx])) (fun x hx=>wj x (by simp[hx])) h2
end
section
variable {C:Checked} {os:Os} {f:FuncId} {fn:Func} {s:ChangeSpec} {conds:List PathCond} {H:Type} {enc:TypeId×Value->H}
theorem axi (own:ownKnob C.prog.godebug=none) (started:os.Started) (apv:C.prog.inits.idxOf? f=none) (ji:C.prog.funcs[f]? =some fn)
 (witness: ∃(w:World) (tape:Tape) (i:Input),w.os=os/\(w.forCall tape i).Shaped C.prog/\i.vars=[]/\Input.okWide C.prog (w.forCall tape i) .any w.heap.size f i/\
   s.pre6 enc C.prog fn conds false (w.forCall tape i).memory i.args/\({}:Assume).holds C.prog (lone (Frame.enter C.prog f i.args .normal) [] (w.forCall tape i)))
 (ee:laidOutB C.prog=true) (fY:KM C.prog=true) (DL:s.vars=[])
 (aur: ∀ds:List (DataW H),ds.length=fn.params.size->s.fn H ds={results:=[.lit (.bool true)],args:=ds})
 {tb:TypeId} (Fi:fn.resultTypes= #[tb]) (hb:C.prog.underlying tb=some .bool)
 (awp:(fn.params.toList.all fun t=>C.prog.readableRec t&&decide (t<C.prog.types.size))=true)
 (xM: ∀as,UM C.prog fn.params.toList as-> ∃h',an C.prog f as aa.empty (.bool true) h'):
 ReturnsInHanded {} C os f .any (s.pre6 enc C.prog fn conds false) (s.post enc C.prog fn false true false false):=by
 have aee: ∀t∈fn.params.toList,C.prog.readableRec t=true/\t<C.prog.types.size:=fun t ht=>by
  have:=List.all_eq_true.1 awp t ht
  simpa using this
 refine returnsInHanded_of_change (C:=C) own started apv ji witness ?_
 intro W base args ds gs before oq hW axH _
 have lF:=hW
 obtain⟨p,q,hA,hV,rfl,pU,hnd⟩:=hW
 rw[DL] at hV
 obtain⟨rfl,rfl⟩:=trodVars_none hV
 simp only[List.append_nil] at lF
 have aC: ∀x∈p,x.block<W.heap.size:=fun x hx=>lF.lt x hx
 obtain⟨as,h1,h2⟩:=ZK fY (fun t ht=>(aee t ht).2) (fun j t v e1 e2=>oq j t v (by simpa using e1) (by simpa using e2)) hA
 obtain⟨h',hc⟩:=xM as h1
 have hlen:=(XM hA).2
 have wj:s.fn H (ds++[])={results:=[.lit (.bool true)],args:=ds}:=by
  rw[List.append_nil];exact aur ds (by simpa using hlen)
 refine(alz hc (I:=vJ W) (fun k j h=>h) h2).mono fun e W' ⟨he,hk⟩=>?_
 subst he
 refine⟨_,rfl,ajF (pa:=p) (pv:=[]) lF ?_ ?_ ?_ (by simp) hk ?_⟩
 ·intro b sp hd
  rw[wj,Fi]
  exact trodAll_mk1 (trod_bool hb true)
 ·intro sp hs
  rw[wj]
  exact Xj ee hk aee aC hs hA
 ·intro sp hs
  rw[DL]
  rw[wj]
  exact rfl
 ·exact ok_one Fi rfl (okWide_bool hb true)
end
end
section
open Go
section
variable {P:Program} {K:aQ->Env->aa->Prop} {ρ:Env} {h:aa}
theorem Nc {K K':Env->aa->Prop} (hk: ∀ρ h,K ρ h->K' ρ h): ∀{al:List RO} {ρ:Env} {h:aa},exec P al ρ h K->exec P al ρ h K'
 |[],ρ,h,he=>hk _ _ he
 |o::os,ρ,h,⟨r,h',hs,he⟩=>⟨r,h',hs,Nc hk he⟩
theorem aaU:WP P .skip K ρ h↔K .normal ρ h:=⟨fun⟨_,_,_,hb,hk⟩=>by cases hb;exact hk,Zt⟩
theorem aoc {l:Nat}:WP P (.label l) K ρ h↔K .normal ρ h:=⟨fun⟨_,_,_,hb,hk⟩=>by cases hb;exact hk,YS⟩
theorem apd {i:Nat}:WP P (.exit i) K ρ h↔K (.exit i) ρ h:=⟨fun⟨_,_,_,hb,hk⟩=>by cases hb;exact hk,amU⟩
theorem apc {i:Nat}:WP P (.goto i) K ρ h↔K (.goto i) ρ h:=⟨fun⟨_,_,_,hb,hk⟩=>by cases hb;exact hk,amT⟩
theorem asE:WP P .ret K ρ h↔K .ret ρ h:=⟨fun⟨_,_,_,hb,hk⟩=>by cases hb;exact hk,aoe⟩
theorem vh {al:List RO}:WP P (.af al) K ρ h↔exec P al ρ h (K .normal):=
 ⟨fun⟨_,_,_,hb,hk⟩=>by cases hb;rename_i he;exact Nc (fun ρ h ⟨e1,e2⟩=>by subst e1;subst e2;exact hk) he,api⟩
theorem tK {a b:aZ}:WP P (.seq a b) K ρ h↔WP P a (i9 (WP P b K) K) ρ h:=by
 constructor
 ·rintro⟨e,ρ',h',hb,hk⟩
  cases hb with
  |seq b1 b2=>exact⟨_,_,_,b1,_,_,_,b2,hk⟩
  |vM b1 he=>
   refine⟨_,_,_,b1,?_⟩
   cases e with
   |normal=>exact absurd rfl he
   |_=>exact hk
 ·exact Ht
def DV (v:AV) (A B:Prop):Prop:=match v with
 | .bool c=>if c=true then A else B
 |_=>False
theorem ape {c:au} {x y:aZ}:WP P (.cond c x y) K ρ h↔DV (c.ev ρ) (WP P x K ρ h) (WP P y K ρ h):=by
 constructor
 ·rintro⟨e,ρ',h',hb,hk⟩
  cases hb with
  |cond t hc b1=>
   rw[hc]
   cases t
   ·exact⟨_,_,_,b1,hk⟩
   ·exact⟨_,_,_,b1,hk⟩
 ·intro hc
  unfold DV at hc
  split at hc
  ·rename_i t ht
   refine amV ht ?_
   cases t<;>simpa using hc
  ·exact hc.elim
theorem aod {id:Nat} {c:aZ}:WP P (.block id c) K ρ h↔WP P c (iO id K) ρ h:=by
 constructor
 ·rintro⟨e,ρ',h',hb,hk⟩
  cases hb with
  |block b1=>
   rename_i e1
   refine⟨_,_,_,b1,?_⟩
   cases e1 with
   |exit i=>
    simp only[iO]
    by_cases hi:i=id
    ·subst hi;simpa using hk
    ·have: ¬(aQ.exit i=aQ.exit id):=fun h=>hi (aQ.exit.inj h)
     rw[if_neg this] at hk
     rw[if_neg hi];exact hk
   |normal=>simpa [iO] using hk
   |goto l=>simpa [iO] using hk
   |ret=>simpa [iO] using hk
 ·exact alS
section
variable {K:Env->aa->Prop}
theorem ajz {d:Option Nat} {f:Nat} {as:List au} {os:List RO}:exec P (⟨d,none, .call f as⟩::os) ρ h K↔ ∃v h',an P f (as.map (au.ev ρ)) h v h'/\exec P os (put ρ d v) h' K:=by
 constructor
 ·rintro⟨r,h',hs,hk⟩
  simp only[br,bV,gF] at hs
  obtain⟨v,rfl,hv⟩:=hs
  exact⟨v,h',hv,hk⟩
 ·rintro⟨v,h',hv,hk⟩
  exact amt hv hk
theorem alq {d:Option Nat} {g:Nat} {b:Bool} {op:bU} {os:List RO}:exec P (⟨d,some (g,b),op⟩::os) ρ h K↔gK (ρ g) b (exec P (⟨d,none,op⟩::os) ρ h K) (exec P os (put ρ d (.az [])) h K):=by
 unfold gK
 split
 ·rename_i c hc
  by_cases dm:c=b
  ·subst dm
   simp only[if_true]
   constructor
   ·rintro⟨r,h',hs,hk⟩
    simp only[br,bV,hc,beq_self_eq_true] at hs
    exact⟨r,h',hs,hk⟩
   ·rintro⟨r,h',hs,hk⟩
    refine⟨r,h',?_,hk⟩
    simp only[br,bV,hc,beq_self_eq_true]
    exact hs
  ·have tV:(c==b)=false:=by simpa using dm
   rw[if_neg dm]
   constructor
   ·rintro⟨r,h',hs,hk⟩
    simp only[br,bV,hc,tV] at hs
    obtain⟨rfl,rfl⟩:=hs
    exact hk
   ·intro hk
    refine⟨none,h,?_,hk⟩
    simp only[br,bV,hc,tV]
    trivial
 ·rename_i hc
  constructor
  ·rintro⟨r,h',hs,hk⟩
   simp only[br,bV,hc] at hs
   obtain⟨rfl,rfl⟩:=hs
   exact hk
  ·intro hk
   refine⟨none,h,?_,hk⟩
   simp only[br,bV,hc]
   trivial
 ·rename_i h1 h2
  constructor
  ·rintro⟨r,h',hs,hk⟩
   unfold br at hs
   have:bV ⟨d,some (g,b),op⟩ ρ=none:=by
    unfold bV
    simp only[]
   rw[this] at hs
   exact hs
  ·exact fun h=>h.elim
end
end
section
variable {P:Program} {ρ:Env} {h:aa} {K:Env->aa->Prop} {d:Option Nat} {os:List RO}
def JB (P:Program) (d:Option Nat) (os:List RO) (ρ:Env) (h:aa) (K:Env->aa->Prop) (o:Option AV):Prop:= ∃v,o=some v/\exec P os (put ρ d v) h K
def Rl (P:Program) (d:Option Nat) (os:List RO) (ρ:Env) (h:aa) (K:Env->aa->Prop) (o:Option (cI×AV)):Prop:= ∃b v,o=some (b,v)/\exec P os (put ρ d v) (h.at h.next b) K
def Rk (P:Program) (d:Option Nat) (os:List RO) (ρ:Env) (K:Env->aa->Prop) (o:Option (AV×aa)):Prop:= ∃v h',o=some (v,h')/\exec P os (put ρ d v) h' K
def aet (P:Program) (d:Option Nat) (os:List RO) (ρ:Env) (h:aa) (K:Env->aa->Prop) (f:Nat) (as:List AV):Prop:= ∃v h',an P f as h v h'/\exec P os (put ρ d v) h' K
def l6 (P:Program) (d:Option Nat) (op:bU) (os:List RO) (ρ:Env) (h:aa) (K:Env->aa->Prop) (b:Bool) (v:AV):Prop:=gK v b (exec P (⟨d,none,op⟩::os) ρ h K) (exec P os (put ρ d (.az [])) h K)
def y6 (P:Program) (x y:aZ) (K:aQ->Env->aa->Prop) (ρ:Env) (h:aa) (v:AV):Prop:=DV v (WP P x K ρ h) (WP P y K ρ h)
theorem alr {v:AV}:JB P d os ρ h K (some v)↔exec P os (put ρ d v) h K:=by simp[JB]
theorem alu {b:cI} {v:AV}:Rl P d os ρ h K (some (b,v))↔exec P os (put ρ d v) (h.at h.next b) K:=
 ⟨fun⟨_,_,e,h⟩=>by cases e;exact h,fun h=>⟨_,_,rfl,h⟩⟩
theorem als {v:AV} {h':aa}:Rk P d os ρ K (some (v,h'))↔exec P os (put ρ d v) h' K:=
 ⟨fun⟨_,_,e,h⟩=>by cases e;exact h,fun h=>⟨_,_,rfl,h⟩⟩
theorem aq {f:Nat} {as:List AV} {v:AV} {h':aa} (hc:an P f as h v h') (hk:exec P os (put ρ d v) h' K):aet P d os ρ h K f as:=⟨v,h',hc,hk⟩
theorem anN {op:bU}:l6 P d op os ρ h K true (.bool true)↔exec P (⟨d,none,op⟩::os) ρ h K:=by simp[l6,gK]
theorem anQ {op:bU}:l6 P d op os ρ h K false (.bool false)↔exec P (⟨d,none,op⟩::os) ρ h K:=by simp[l6,gK]
theorem anO {op:bU}:l6 P d op os ρ h K true (.bool false)↔exec P os (put ρ d (.az [])) h K:=by simp[l6,gK]
theorem anP {op:bU}:l6 P d op os ρ h K false (.bool true)↔exec P os (put ρ d (.az [])) h K:=by simp[l6,gK]
theorem amu {op:bU} {b:Bool}:l6 P d op os ρ h K b (.az [])↔exec P os (put ρ d (.az [])) h K:=Iff.rfl
variable {K:aQ->Env->aa->Prop} {x y:aZ}
theorem avC:y6 P x y K ρ h (.bool true)↔WP P x K ρ h:=by simp[y6,DV]
theorem avD:y6 P x y K ρ h (.bool false)↔WP P y K ρ h:=by simp[y6,DV]
end
def bL (P:Program) (n base:Nat):List RO->Nat->Env->aa->(Env->aa->Prop)->Prop
 |[],_,ρ,h,K=>K ρ h
 |o::os,i,ρ,h,K=> ∃r h',br P o (base+i) ρ h r h'/\(o.op.cq=true-> ∀j,i<j->j<n->h'.get (base+j)=none)/\bL P n base os (i+1) (put ρ o.dst (fO r)) h' K
theorem Zj {P:Program} {al:List RO} {un:List (List Nat)} {base:Nat} {K:Env->aa->Prop} (hu:un.all (·.isEmpty)=true): ∀(os:List RO) (i:Nat) (ρ:Env) (h:aa) (done:List (Env×aa×Option AV)),
 bL P al.length base os i ρ h K->l7 P al un base os i ρ h done K
 |[],i,ρ,h,done,he=>he
 |o::os,i,ρ,h,done,⟨r,h',hs,hf,he⟩=>by
  refine⟨r,h',hs,fun k hk=>?_,hf,Zj hu os (i+1) _ h' _ he⟩
  have:un.getD i []=[]:=by
   rw[List.getD_eq_getElem?_getD]
   cases hq:un[i]? with
   |none=>rfl
   |some l=>
    have:=List.all_eq_true.1 hu l (List.mem_of_getElem? hq)
    cases l with
    |nil=>rfl
    |cons a b=>simp at this
  rw[this] at hk
  cases hk
theorem Hs {P:Program} {al:List RO} {un:List (List Nat)} {K:aQ->Env->aa->Prop} {ρ:Env} {h:aa} (hu:un.all (·.isEmpty)=true) (he:bL P al.length h.next al 0 ρ (h.clean al.length) (K .normal)):WP P (.aU al un) K ρ h:=by
 obtain⟨ρ1,h1,he,hk⟩:=zp (Zj hu al 0 ρ _ [] he)
 exact⟨_,_,_, .AU he,hk⟩
section
variable {P:Program} {n base i:Nat} {ρ:Env} {h:aa} {K:Env->aa->Prop} {d:Option Nat} {os:List RO}
def Gv (P:Program) (n base:Nat) (os:List RO) (i:Nat) (d:Option Nat) (ρ:Env) (h:aa) (K:Env->aa->Prop) (o:Option AV):Prop:= ∃v,o=some v/\bL P n base os (i+1) (put ρ d v) h K
def Mn (P:Program) (n base:Nat) (os:List RO) (i:Nat) (d:Option Nat) (ρ:Env) (h:aa) (K:Env->aa->Prop) (o:Option (cI×AV)):Prop:= ∃b v,o=some (b,v)/\bL P n base os (i+1) (put ρ d v) (h.at (base+i) b) K
def cU (n base i:Nat) (h:aa):Prop:= ∀j,i<j->j<n->h.get (base+j)=none
def Mm (P:Program) (n base:Nat) (os:List RO) (i:Nat) (d:Option Nat) (ρ:Env) (K:Env->aa->Prop) (o:Option (AV×aa)):Prop:= ∃v h',o=some (v,h')/\cU n base i h'/\bL P n base os (i+1) (put ρ d v) h' K
def W3 (P:Program) (n base:Nat) (os:List RO) (i:Nat) (d:Option Nat) (ρ:Env) (h:aa) (K:Env->aa->Prop) (f:Nat) (as:List AV):Prop:= ∃v h',an P f as h v h'/\cU n base i h'/\bL P n base os (i+1) (put ρ d v) h' K
def jS (P:Program) (n base:Nat) (op:bU) (os:List RO) (i:Nat) (d:Option Nat) (ρ:Env) (h:aa) (K:Env->aa->Prop) (b:Bool) (v:AV):Prop:=
 gK v b (bL P n base (⟨d,none,op⟩::os) i ρ h K) (cU n base i h/\bL P n base os (i+1) (put ρ d (.az [])) h K)
theorem awR {q:a8}:bL P n base (⟨d,none, .p q⟩::os) i ρ h K↔Gv P n base os i d ρ h K (aX q ρ h):=by
 constructor
 ·rintro⟨r,h',hs,_,he⟩
  simp only[br,bV,gF] at hs
  obtain⟨v,rfl,hv,rfl⟩:=hs
  exact⟨v,hv,he⟩
 ·rintro⟨v,hv,he⟩
  exact⟨some v,h,⟨v,rfl,hv,rfl⟩,fun hh=>by simp[bU.cq] at hh,he⟩
theorem awW {q:kD}:bL P n base (⟨d,none, .a q⟩::os) i ρ h K↔Mn P n base os i d ρ h K (ic q ρ (base+i)):=by
 constructor
 ·rintro⟨r,h',hs,_,he⟩
  simp only[br,bV,gF] at hs
  obtain⟨v,rfl,b,hv,rfl⟩:=hs
  exact⟨b,v,hv,he⟩
 ·rintro⟨b,v,hv,he⟩
  exact⟨some v,_,⟨v,rfl,b,hv,rfl⟩,fun hh=>by simp[bU.cq] at hh,he⟩
theorem awU {q:gf}:bL P n base (⟨d,none, .e q⟩::os) i ρ h K↔Mm P n base os i d ρ K (bN q ρ (base+i) h):=by
 constructor
 ·rintro⟨r,h',hs,hf,he⟩
  simp only[br,bV,gF] at hs
  obtain⟨v,rfl,hv⟩:=hs
  exact⟨v,h',hv,hf rfl,he⟩
 ·rintro⟨v,h',hv,hf,he⟩
  exact⟨some v,h',⟨v,rfl,hv⟩,fun _=>hf,he⟩
theorem awV {f:Nat} {as:List au}:bL P n base (⟨d,none, .call f as⟩::os) i ρ h K↔W3 P n base os i d ρ h K f (as.map (au.ev ρ)):=by
 constructor
 ·rintro⟨r,h',hs,hf,he⟩
  simp only[br,bV,gF] at hs
  obtain⟨v,rfl,hv⟩:=hs
  exact⟨v,h',hv,hf rfl,he⟩
 ·rintro⟨v,h',hv,hf,he⟩
  exact⟨some v,h',⟨v,rfl,hv⟩,fun _=>hf,he⟩
theorem awT {g:Nat} {b:Bool} {op:bU} (he:jS P n base op os i d ρ h K b (ρ g)):bL P n base (⟨d,some (g,b),op⟩::os) i ρ h K:=by
 unfold jS gK at he
 split at he
 ·rename_i c hc
  by_cases dm:c=b
  ·subst dm
   rw[if_pos rfl] at he
   obtain⟨r,h',hs,hf,he⟩:=he
   refine⟨r,h',?_,hf,he⟩
   simp only[br,bV,hc,beq_self_eq_true]
   exact hs
  ·have tV:(c==b)=false:=by simpa using dm
   rw[if_neg dm] at he
   refine⟨none,h,?_,fun _=>he.1,he.2⟩
   simp only[br,bV,hc,tV]
   trivial
 ·rename_i hc
  refine⟨none,h,?_,fun _=>he.1,he.2⟩
  simp only[br,bV,hc]
  trivial
 ·exact he.elim
theorem auM {g:Nat} {b:Bool} {q:a8}:bL P n base (⟨d,some (g,b), .p q⟩::os) i ρ h K↔gK (ρ g) b (bL P n base (⟨d,none, .p q⟩::os) i ρ h K) (bL P n base os (i+1) (put ρ d (.az [])) h K):=by
 unfold gK
 split
 ·rename_i c hc
  by_cases dm:c=b
  ·subst dm
   rw[if_pos rfl]
   constructor
   ·rintro⟨r,h',hs,hf,he⟩
    simp only[br,bV,hc,beq_self_eq_true] at hs
    exact⟨r,h',hs,hf,he⟩
   ·rintro⟨r,h',hs,hf,he⟩
    refine⟨r,h',?_,hf,he⟩
    simp only[br,bV,hc,beq_self_eq_true]
    exact hs
  ·have tV:(c==b)=false:=by simpa using dm
   rw[if_neg dm]
   constructor
   ·rintro⟨r,h',hs,hf,he⟩
    simp only[br,bV,hc,tV] at hs
    obtain⟨rfl,rfl⟩:=hs
    exact he
   ·intro he
    refine⟨none,h,?_,fun hh=>by simp[bU.cq] at hh,he⟩
    simp only[br,bV,hc,tV]
    trivial
 ·rename_i hc
  constructor
  ·rintro⟨r,h',hs,hf,he⟩
   simp only[br,bV,hc] at hs
   obtain⟨rfl,rfl⟩:=hs
   exact he
  ·intro he
   refine⟨none,h,?_,fun hh=>by simp[bU.cq] at hh,he⟩
   simp only[br,bV,hc]
   trivial
 ·constructor
  ·rintro⟨r,h',hs,hf,he⟩
   unfold br at hs
   have:bV ⟨d,some (g,b), .p q⟩ ρ=none:=by unfold bV;simp only[]
   rw[this] at hs
   exact hs
  ·exact fun h=>h.elim
theorem auN {g:Nat} {b:Bool} {f:Nat} {as:List au}:bL P n base (⟨d,some (g,b), .call f as⟩::os) i ρ h K↔jS P n base (.call f as) os i d ρ h K b (ρ g):=by
 refine⟨?_,awT⟩
 rintro⟨r,h',hs,hf,he⟩
 unfold jS gK
 split
 ·rename_i c hc
  by_cases dm:c=b
  ·subst dm
   rw[if_pos rfl]
   simp only[br,bV,hc,beq_self_eq_true] at hs
   exact⟨r,h',hs,hf,he⟩
  ·have tV:(c==b)=false:=by simpa using dm
   rw[if_neg dm]
   simp only[br,bV,hc,tV] at hs
   obtain⟨rfl,rfl⟩:=hs
   exact⟨hf rfl,he⟩
 ·rename_i hc
  simp only[br,bV,hc] at hs
  obtain⟨rfl,rfl⟩:=hs
  exact⟨hf rfl,he⟩
 ·unfold br at hs
  have:bV ⟨d,some (g,b), .call f as⟩ ρ=none:=by unfold bV;simp only[]
  rw[this] at hs
  exact hs.elim
theorem aq7 {op:bU}:jS P n base op os i d ρ h K true (.bool true)↔bL P n base (⟨d,none,op⟩::os) i ρ h K:=by simp[jS,gK]
theorem ara {op:bU}:jS P n base op os i d ρ h K false (.bool false)↔bL P n base (⟨d,none,op⟩::os) i ρ h K:=by simp[jS,gK]
theorem aq8 {op:bU}:jS P n base op os i d ρ h K true (.bool false)↔cU n base i h/\bL P n base os (i+1) (put ρ d (.az [])) h K:=by simp[jS,gK]
theorem aq9 {op:bU}:jS P n base op os i d ρ h K false (.bool true)↔cU n base i h/\bL P n base os (i+1) (put ρ d (.az [])) h K:=by simp[jS,gK]
theorem aoM {op:bU} {b:Bool}:jS P n base op os i d ρ h K b (.az [])↔cU n base i h/\bL P n base os (i+1) (put ρ d (.az [])) h K:=Iff.rfl
def lG (P:Program) (n base:Nat) (q:a8) (os:List RO) (i:Nat) (d:Option Nat) (ρ:Env) (h:aa) (K:Env->aa->Prop) (b:Bool) (v:AV):Prop:=
 gK v b (bL P n base (⟨d,none, .p q⟩::os) i ρ h K) (bL P n base os (i+1) (put ρ d (.az [])) h K)
theorem awS {g:Nat} {b:Bool} {q:a8}:bL P n base (⟨d,some (g,b), .p q⟩::os) i ρ h K↔lG P n base q os i d ρ h K b (ρ g):=auM
theorem aq3 {q:a8}:lG P n base q os i d ρ h K true (.bool true)↔bL P n base (⟨d,none, .p q⟩::os) i ρ h K:=by simp[lG,gK]
theorem aq6 {q:a8}:lG P n base q os i d ρ h K false (.bool false)↔bL P n base (⟨d,none, .p q⟩::os) i ρ h K:=by simp[lG,gK]
theorem aq4 {q:a8}:lG P n base q os i d ρ h K true (.bool false)↔bL P n base os (i+1) (put ρ d (.az [])) h K:=by simp[lG,gK]
theorem aq5 {q:a8}:lG P n base q os i d ρ h K false (.bool true)↔bL P n base os (i+1) (put ρ d (.az [])) h K:=by simp[lG,gK]
theorem aoL {q:a8} {b:Bool}:lG P n base q os i d ρ h K b (.az [])↔bL P n base os (i+1) (put ρ d (.az [])) h K:=Iff.rfl
theorem aks {n m:Nat} {h:aa}:cU n h.next i (h.clean m)↔True:=by
 simp only[cU,iff_true,aa.clean]
 intro j _ _
 rw[if_neg (by omega)]
theorem jD {b:Nat} {x:Option cI} (hb:b<base):cU n base i (h.set b x)↔cU n base i h:=by
 simp only[cU,aa.set]
 exact⟨fun hh j h1 h2=>by have:=hh j h1 h2;rwa [if_neg (by omega)] at this,fun hh j h1 h2=>by rw[if_neg (by omega)];exact hh j h1 h2⟩
theorem anS {v:AV}:Gv P n base os i d ρ h K (some v)↔bL P n base os (i+1) (put ρ d v) h K:=by simp[Gv]
theorem anU {b:cI} {v:AV}:Mn P n base os i d ρ h K (some (b,v))↔bL P n base os (i+1) (put ρ d v) (h.at (base+i) b) K:=
 ⟨fun⟨_,_,e,h⟩=>by cases e;exact h,fun h=>⟨_,_,rfl,h⟩⟩
theorem anT {v:AV} {h':aa}:Mm P n base os i d ρ K (some (v,h'))↔cU n base i h'/\bL P n base os (i+1) (put ρ d v) h' K:=
 ⟨fun⟨_,_,e,h⟩=>by cases e;exact h,fun h=>⟨_,_,rfl,h⟩⟩
theorem fA {f:Nat} {as:List AV} {v:AV} {h':aa} (hc:an P f as h v h') (hf:cU n base i h') (hk:bL P n base os (i+1) (put ρ d v) h' K):W3 P n base os i d ρ h K f as:=⟨v,h',hc,hf,hk⟩
end
def fQ (un:List (List Nat)) (k:Nat):Bool:=!(un.getD k []).isEmpty||un.any (·.contains k)
def tQ (base:Nat):Option Nat->Prop
 |none=>True
 |some b=>b<base
def xa (base:Nat) (h h':aa):Prop:= ∀b,b<base->h'.get b=h.get b
def dW (P:Program) (un:List (List Nat)) (n base:Nat):List RO->Nat->Env->aa->(Env->aa->Prop)->Prop
 |[],_,ρ,h,K=>K ρ h
 |o::os,i,ρ,h,K=> ∃r h',br P o (base+i) ρ h r h'/\(o.op.cq=true-> ∀j,i<j->j<n->h'.get (base+j)=none)/\xa base h h'/\
   (∀q,o.op= .p q->fQ un i=true->tQ base (q.key ρ))/\dW P un n base os (i+1) (put ρ o.dst (fO r)) h' K
theorem Zi {P:Program} {al:List RO} {un:List (List Nat)} {base:Nat} {K:Env->aa->Prop}: ∀(os:List RO) (i:Nat) (ρ:Env) (h:aa) (done:List (Env×aa×Option AV)),
 done.length=i->al.drop i=os->
 (∀k d,done[k]? =some d->xa base d.2.1 h/\ ∀ok q v,al[k]? =some ok->ok.op= .p q->fQ un k=true->d.2.2=some v->aX q d.1 d.2.1=some v/\tQ base (q.key d.1))->
 dW P un al.length base os i ρ h K->l7 P al un base os i ρ h done K
 |[],i,ρ,h,done,_,_,_,he=>he
 |o::os,i,ρ,h,done,hl,hd,hinv,⟨r,h',hs,hf,hk,iq,he⟩=>by
  have lA:al[i]? =some o:=by
   have:(al.drop i)[0]? =some o:=by rw[hd];rfl
   rw[List.getElem?_drop] at this
   simpa using this
  have bH: ∀k,k∈un.getD i []->fQ un i=true/\fQ un k=true:=fun k hk=>by
   constructor
   ·unfold fQ
    cases hq:un.getD i [] with
    |nil=>rw[hq] at hk;cases hk
    |cons a b=>rfl
   ·unfold fQ
    have:un.any (fun l=>l.contains k)=true:=by
     rw[List.any_eq_true]
     rw[List.getD_eq_getElem?_getD] at hk
     cases hq:un[i]? with
     |none=>rw[hq] at hk;cases hk
     |some l=>rw[hq] at hk;exact⟨l,List.mem_of_getElem? hq,by simpa using hk⟩
    rw[this,Bool.or_true]
  have oq: ∀q v,o.op= .p q->r=some v->aX q ρ h=some v/\h'=h:=fun q v hq hr=>by
   unfold br at hs
   split at hs
   ·obtain⟨v',h1,h2⟩:=hs
    rw[hr] at h1;cases h1
    rw[hq] at h2
    exact h2
   ·rw[hr] at hs;cases hs.1
   ·exact hs.elim
  refine⟨r,h',hs,fun k yR ok d aY cB=>?_,hf,?_⟩
  ·obtain⟨f1,f2⟩:=bH k yR
   obtain⟨hold,sv⟩:=hinv k d cB
   unfold lJ
   split
   ·split
    ·rename_i v q hv hq
     obtain⟨h1,h2⟩:=sv ok q v aY hq f2 hv
     rw[<-h1]
     refine(rK q d.1 d.2.1 h' (fun b hb=>?_)).symm
     rw[hb] at h2
     rw[hk b h2,hold b h2]
    ·trivial
   ·split
    ·rename_i v q hq
     obtain⟨h1,rfl⟩:=oq q v hq rfl
     have h2:=iq q hq f1
     rw[<-h1]
     refine rK q ρ d.2.1 h' (fun b hb=>?_)
     rw[hb] at h2
     exact(hold b h2).symm
    ·trivial
  ·refine Zi os (i+1) _ h' _ (by simp[hl]) ?_ ?_ he
   ·rw[<-List.drop_drop,hd];rfl
   ·intro k d cB
    rw[List.getElem?_append] at cB
    split at cB
    ·obtain⟨g1,g2⟩:=hinv k d cB
     exact⟨fun b hb=>by rw[hk b hb,g1 b hb],g2⟩
    ·rename_i aC
     have mB:k=i:=by
      have:=(List.getElem?_eq_some_iff.1 cB).1
      simp at this;omega
     subst mB
     simp[hl] at cB
     subst cB
     refine⟨hk,fun ok q v aY hq bH hv=>?_⟩
     rw[lA] at aY;cases aY
     exact⟨(oq q v hq hv).1,iq q hq bH⟩
theorem zC {P:Program} {al:List RO} {un:List (List Nat)} {K:aQ->Env->aa->Prop} {ρ:Env} {h:aa} (he:dW P un al.length h.next al 0 ρ (h.clean al.length) (K .normal)):WP P (.aU al un) K ρ h:=by
 obtain⟨ρ1,h1,he,hk⟩:=zp (Zi al 0 ρ _ [] rfl rfl (fun k d hd=>by simp at hd) he)
 exact⟨_,_,_, .AU he,hk⟩
section
variable {P:Program} {un:List (List Nat)} {n base i:Nat} {ρ:Env} {h:aa} {K:Env->aa->Prop} {d:Option Nat} {os:List RO}
def wD (P:Program) (un:List (List Nat)) (n base:Nat) (os:List RO) (i:Nat) (d:Option Nat) (ρ:Env) (h:aa) (K:Env->aa->Prop) (o:Option AV):Prop:= ∃v,o=some v/\dW P un n base os (i+1) (put ρ d v) h K
def Gw (P:Program) (un:List (List Nat)) (n base:Nat) (os:List RO) (i:Nat) (d:Option Nat) (ρ:Env) (h:aa) (K:Env->aa->Prop) (o:Option (cI×AV)):Prop:= ∃b v,o=some (b,v)/\dW P un n base os (i+1) (put ρ d v) (h.at (base+i) b) K
def Mo (P:Program) (un:List (List Nat)) (n base:Nat) (os:List RO) (i:Nat) (d:Option Nat) (ρ:Env) (h:aa) (K:Env->aa->Prop) (o:Option (AV×aa)):Prop:= ∃v h',o=some (v,h')/\cU n base i h'/\xa base h h'/\dW P un n base os (i+1) (put ρ d v) h' K
def BN (P:Program) (un:List (List Nat)) (n base:Nat) (os:List RO) (i:Nat) (d:Option Nat) (ρ:Env) (h:aa) (K:Env->aa->Prop) (f:Nat) (as:List AV):Prop:= ∃v h',an P f as h v h'/\cU n base i h'/\xa base h h'/\dW P un n base os (i+1) (put ρ d v) h' K
theorem awZ {q:a8}:dW P un n base (⟨d,none, .p q⟩::os) i ρ h K↔(fQ un i=true->tQ base (q.key ρ))/\wD P un n base os i d ρ h K (aX q ρ h):=by
 constructor
 ·rintro⟨r,h',hs,_,_,hk,he⟩
  simp only[br,bV,gF] at hs
  obtain⟨v,rfl,hv,rfl⟩:=hs
  exact⟨hk q rfl,v,hv,he⟩
 ·rintro⟨hk,v,hv,he⟩
  exact⟨some v,h,⟨v,rfl,hv,rfl⟩,fun hh=>by simp[bU.cq] at hh,fun _ _=>rfl,(fun q' hq=>by cases hq;exact hk),he⟩
theorem aw2 {q:kD} (he:Gw P un n base os i d ρ h K (ic q ρ (base+i))):dW P un n base (⟨d,none, .a q⟩::os) i ρ h K:=by
 obtain⟨b,v,hv,he⟩:=he
 exact⟨some v,_,⟨v,rfl,b,hv,rfl⟩,fun hh=>by simp[bU.cq] at hh,fun b hb=>by simp only[aa.at];rw[if_neg (by omega)],(fun q' hq=>by cases hq),he⟩
theorem auO {q:kD}:dW P un n base (⟨d,none, .a q⟩::os) i ρ h K↔Gw P un n base os i d ρ h K (ic q ρ (base+i)):=by
 refine⟨?_,aw2⟩
 rintro⟨r,h',hs,_,_,hk,he⟩
 simp only[br,bV,gF] at hs
 obtain⟨v,rfl,b,hv,rfl⟩:=hs
 exact⟨b,v,hv,he⟩
theorem aw0 {q:gf}:dW P un n base (⟨d,none, .e q⟩::os) i ρ h K↔Mo P un n base os i d ρ h K (bN q ρ (base+i) h):=by
 constructor
 ·rintro⟨r,h',hs,hf,hk,_,he⟩
  simp only[br,bV,gF] at hs
  obtain⟨v,rfl,hv⟩:=hs
  exact⟨v,h',hv,hf rfl,hk,he⟩
 ·rintro⟨v,h',hv,hf,hk,he⟩
  exact⟨some v,h',⟨v,rfl,hv⟩,fun _=>hf,hk,(fun q' hq=>by cases hq),he⟩
theorem aw1 {f:Nat} {as:List au}:dW P un n base (⟨d,none, .call f as⟩::os) i ρ h K↔BN P un n base os i d ρ h K f (as.map (au.ev ρ)):=by
 constructor
 ·rintro⟨r,h',hs,hf,hk,_,he⟩
  simp only[br,bV,gF] at hs
  obtain⟨v,rfl,hv⟩:=hs
  exact⟨v,h',hv,hf rfl,hk,he⟩
 ·rintro⟨v,h',hv,hf,hk,he⟩
  exact⟨some v,h',⟨v,rfl,hv⟩,fun _=>hf,hk,fun q' hq=>(by cases hq),he⟩
theorem i6 {f:Nat} {as:List AV} {v:AV} (hc:an P f as h v h) (hf:cU n base i h) (he:dW P un n base os (i+1) (put ρ d v) h K):BN P un n base os i d ρ h K f as:=⟨v,h,hc,hf,fun _ _=>rfl,he⟩
def pX (P:Program) (un:List (List Nat)) (n base:Nat) (q:a8) (os:List RO) (i:Nat) (d:Option Nat) (ρ:Env) (h:aa) (K:Env->aa->Prop) (b:Bool) (v:AV):Prop:=
 gK v b (wD P un n base os i d ρ h K (aX q ρ h)) (dW P un n base os (i+1) (put ρ d (.az [])) h K)
def pY (P:Program) (un:List (List Nat)) (n base:Nat) (f:Nat) (as:List AV) (os:List RO) (i:Nat) (d:Option Nat) (ρ:Env) (h:aa) (K:Env->aa->Prop) (b:Bool) (v:AV):Prop:=
 gK v b (BN P un n base os i d ρ h K f as) (cU n base i h/\dW P un n base os (i+1) (put ρ d (.az [])) h K)
theorem Z3 {v:AV} {b:Bool} {A B:Prop} (hg:gK v b A B):(v= .bool b/\A)\/((v= .bool (!b)\/v= .az [])/\B):=by
 unfold gK at hg
 split at hg
 ·rename_i c
  by_cases hc:c=b
  ·subst hc;rw[if_pos rfl] at hg;exact .inl ⟨rfl,hg⟩
  ·rw[if_neg hc] at hg
   refine .inr ⟨.inl ?_,hg⟩
   cases c<;>cases b<;>first|rfl|exact(hc rfl).elim
 ·exact .inr ⟨.inr rfl,hg⟩
 ·exact hg.elim
theorem aba {v:AV} {b:Bool} {A B:Prop} (hv:v= .bool b) (ha:A):gK v b A B:=by subst hv;simp[gK,ha]
theorem aeo {v:AV} {b:Bool} {A B:Prop} (hv:v= .bool (!b)\/v= .az []) (hb:B):gK v b A B:=by
 rcases hv with rfl|rfl
 ·cases b<;>simp[gK,hb]
 ·simp[gK,hb]
theorem Y9 {ro:RO} {g:Nat} {b:Bool} (hr:ro.guard=some (g,b)) (hv:ρ g= .bool b):bV ro ρ=some true:=by simp[bV,hr,hv]
theorem ZY {ro:RO} {g:Nat} {b:Bool} (hr:ro.guard=some (g,b)) (hv:ρ g= .bool (!b)\/ρ g= .az []):bV ro ρ=some false:=by
 rcases hv with hv|hv
 ·cases b<;>simp[bV,hr,hv]
 ·simp[bV,hr,hv]
theorem GZ {ro:RO} {g:Nat} {b:Bool} (hr:ro.guard=some (g,b)) {c:Bool} (h:bV ro ρ=some c):(c=true/\ρ g= .bool b)\/(c=false/\(ρ g= .bool (!b)\/ρ g= .az [])):=by
 unfold bV at h
 rw[hr] at h
 simp only at h
 split at h
 ·rename_i x hx
  cases h
  cases x<;>cases b<;>simp[hx]
 ·rename_i hx;cases h;exact .inr ⟨rfl, .inr hx⟩
 ·cases h
theorem awX {g:Nat} {b:Bool} {q:a8}:dW P un n base (⟨d,some (g,b), .p q⟩::os) i ρ h K↔(fQ un i=true->tQ base (q.key ρ))/\pX P un n base q os i d ρ h K b (ρ g):=by
 constructor
 ·rintro⟨r,h',hs,_,_,hk,he⟩
  refine⟨hk q rfl,?_⟩
  unfold br at hs
  split at hs
  ·rename_i hg
   obtain⟨v,rfl,hv,rfl⟩:=hs
   rcases GZ rfl hg with⟨_,da⟩|⟨hf,_⟩
   ·exact aba da ⟨v,hv,he⟩
   ·cases hf
  ·rename_i hg
   obtain⟨rfl,rfl⟩:=hs
   rcases GZ rfl hg with⟨hf,_⟩|⟨_,da⟩
   ·cases hf
   ·exact aeo da he
  ·exact hs.elim
 ·rintro⟨hk,he⟩
  rcases Z3 he with⟨hv,v,jP,he⟩|⟨hv,he⟩
  ·exact⟨some v,h,by unfold br;rw[Y9 rfl hv];exact⟨v,rfl,jP,rfl⟩,fun hh=>by simp[bU.cq] at hh,fun _ _=>rfl,(fun q' hq=>by cases hq;exact hk),he⟩
  ·exact⟨none,h,by unfold br;rw[ZY rfl hv];exact⟨rfl,rfl⟩,fun hh=>by simp[bU.cq] at hh,fun _ _=>rfl,(fun q' hq=>by cases hq;exact hk),he⟩
theorem awY {g:Nat} {b:Bool} {f:Nat} {as:List au}:dW P un n base (⟨d,some (g,b), .call f as⟩::os) i ρ h K↔pY P un n base f (as.map (au.ev ρ)) os i d ρ h K b (ρ g):=by
 constructor
 ·rintro⟨r,h',hs,hf,WD,hk,he⟩
  unfold br at hs
  split at hs
  ·rename_i hg
   obtain⟨v,rfl,hv⟩:=hs
   rcases GZ rfl hg with⟨_,da⟩|⟨hf,_⟩
   ·exact aba da ⟨v,h',hv,hf rfl,WD,he⟩
   ·cases hf
  ·rename_i hg
   obtain⟨rfl,rfl⟩:=hs
   rcases GZ rfl hg with⟨hf,_⟩|⟨_,da⟩
   ·cases hf
   ·exact aeo da ⟨hf rfl,he⟩
  ·exact hs.elim
 ·intro he
  rcases Z3 he with⟨hv,v,h',hc,hf,WD,he⟩|⟨hv,hf,he⟩
  ·exact⟨some v,h',by unfold br;rw[Y9 rfl hv];exact⟨v,rfl,hc⟩,fun _=>hf,WD,(fun q' hq=>by cases hq),he⟩
  ·exact⟨none,h,by unfold br;rw[ZY rfl hv];exact⟨rfl,rfl⟩,fun _=>hf,fun _ _=>rfl,(fun q' hq=>by cases hq),he⟩
theorem anW {v:AV} {h':aa}:Mo P un n base os i d ρ h K (some (v,h'))↔cU n base i h'/\xa base h h'/\dW P un n base os (i+1) (put ρ d v) h' K:=
 ⟨fun⟨_,_,e,h⟩=>by cases e;exact h,fun h=>⟨_,_,rfl,h⟩⟩
def kv:AV->Option Nat
 | .ptr b _=>some b
 |_=>none
theorem anB {ag:Bool} {sz:Nat} {x:au}:(a8.load ag sz x).key ρ=kv (x.ev ρ):=by
 simp only[a8.key]
 cases x.ev ρ<;>rfl
theorem anV {v:AV}:wD P un n base os i d ρ h K (some v)↔dW P un n base os (i+1) (put ρ d v) h K:=by simp[wD]
theorem anX {b:cI} {v:AV}:Gw P un n base os i d ρ h K (some (b,v))↔dW P un n base os (i+1) (put ρ d v) (h.at (base+i) b) K:=
 ⟨fun⟨_,_,e,h⟩=>by cases e;exact h,fun h=>⟨_,_,rfl,h⟩⟩
end
def mapOf (h:aa) (b:Nat):Option (List (AV×AV)):=match h.get b with
 |some (.map es)=>some es
 |_=>none
theorem Nq {h:aa} {b:Nat} {es:List (AV×AV)} (e:h.get b=some (.map es)):mapOf h b=some es:=by simp[mapOf,e]
def Jb (z:AV) (ok:Bool) (r:Option AV):AV:=match r with
 |some v=>if ok then .az [v, .bool true] else v
 |none=>if ok then .az [z, .bool false] else z
theorem Mw {z:AV} {ok:Bool} {h:aa} {b:Nat} {kd:IntKind} {n:Int}:pj z ok h (.map (some b)) (.int kd n)=(mapOf h b).bind fun es=>(u2 (.int kd n) es).map (Jb z ok):=by
 unfold pj mapOf
 simp only[]
 split
 ·rename_i es he;rw[he];simp only[Option.bind_some];congr 1
 ·rename_i he
  split
  ·rename_i es hes;exact absurd hes (he es)
  ·rfl
def HD (h:aa) (m k v:AV):Option (AV×aa):=match m,k with
 | .map (some b), .int kd n=>match h.get b with
   |some (.map es)=>(rT (.int kd n) v.strip es).map fun aV=>(.undef,h.set b (some (.map aV)))
   |_=>none
 |_,_=>none
theorem ajJ {h:aa} {b:Nat} {kd:IntKind} {n:Int} {v:AV}:HD h (.map (some b)) (.int kd n) v=(mapOf h b).bind fun es=>(rT (.int kd n) v.strip es).map fun aV=>(.undef,h.set b (some (.map aV))):=by
 unfold HD mapOf
 cases hg:h.get b with
 |none=>simp[hg]
 |some x=>cases x<;>simp[hg]
def HE (h:aa) (m k:AV):Option (AV×aa):=match m,k with
 | .map (some b), .int kd n=>match h.get b with
   |some (.map es)=>(rU (.int kd n) es).map fun aV=>(.az [],h.set b (some (.map aV)))
   |_=>none
 |_,_=>none
theorem ajK {h:aa} {b:Nat} {kd:IntKind} {n:Int}:HE h (.map (some b)) (.int kd n)=(mapOf h b).bind fun es=>(rU (.int kd n) es).map fun aV=>(.az [],h.set b (some (.map aV))):=by
 unfold HE mapOf
 cases hg:h.get b with
 |none=>simp[hg]
 |some x=>cases x<;>simp[hg]
def mr (bytes sz id:Nat) (h:aa) (x:AV):Option (List (List AV))->Option (AV×aa)
 |none=>none
 |some ys=>match x with
  | .vs xs t=>
    if ys=[] then some (.vs xs t,h) else
    if dF sz xs/\(xs.length+ys.length)*bytes<2^40/\xs.length+ys.length<2^40 then
     match t with
     | .full=>some (.vs (xs++ys) (.own id),h.at id .tail)
     | .own t=>match h.get t with
       |some .tail=>some (.vs (xs++ys) (.own id),(h.set t none).at id .tail)
       |_=>none
     | .ao=>none
    else none
  | .bx=>
    if ys=[] then some (.bx,h) else
    if ys.length*bytes<2^40/\ys.length<2^40 then some (.vs ys (.own id),h.at id .tail) else none
  |_=>none
theorem akH {ρ:Env} {id bytes sz:Nat} {h:aa} {x y:au}:bN (.append bytes sz x y) ρ id h=mr bytes sz id h (x.ev ρ) (cQ sz h (y.ev ρ)):=by
 simp only[bN]
 cases cQ sz h (y.ev ρ)<;>rfl
def qy (base:Nat) (h:aa) (a:AV) (xs:List (List AV)):Prop:=(a= .vs [] .full/\xs=[])\/ ∃t,a= .vs xs (.own t)/\h.get t=some .tail/\base<=t/\t<h.next
theorem qy.nil {base:Nat} {h:aa}:qy base h (.vs [] .full) []:= .inl ⟨rfl,rfl⟩
theorem qy.vs {base:Nat} {h:aa} {a:AV} {xs:List (List AV)} (A:qy base h a xs): ∃t,a= .vs xs t:=by
 rcases A with⟨rfl,rfl⟩|⟨t,rfl,_⟩
 ·exact⟨_,rfl⟩
 ·exact⟨_,rfl⟩
theorem qy.of {base:Nat} {h h':aa} {a:AV} {xs:List (List AV)} (A:qy base h a xs) (hn:h.next<=h'.next) (hk: ∀t,h.get t=some .tail->h'.get t=some .tail):qy base h' a xs:=by
 rcases A with⟨rfl,rfl⟩|⟨t,rfl,h1,h2,h3⟩
 ·exact .nil
 ·exact .inr ⟨t,rfl,hk t h1,h2,by omega⟩
theorem alM {base bytes sz id:Nat} {h:aa} {a:AV} {xs ys:List (List AV)} (A:qy base h a xs) (aL:h.next<=id) (hb:base<=id) (hy:ys≠[]) (hh:dF sz xs=true) (h1:(xs.length+ys.length)*bytes<2^40) (h2:xs.length+ys.length<2^40):
 ∃a' h',mr bytes sz id h a (some ys)=some (a',h')/\qy base h' a' (xs++ys)/\h'.next=id+1/\(∀b,b≠id->h.get b≠some .tail->h'.get b=h.get b)/\ ∀b,b<base->h'.get b=h.get b:=by
 rcases A with⟨rfl,rfl⟩|⟨t,rfl,h3,h4,h5⟩
 ·refine⟨.vs ([]++ys) (.own id),h.at id .tail,?_, .inr ⟨id,rfl,by simp[aa.at],hb,by simp[aa.at];omega⟩,by simp[aa.at];omega,fun b hb _=>by simp[aa.at,hb],fun b hb=>by simp[aa.at];omega⟩
  simp only[mr]
  rw[if_neg hy,if_pos ⟨hh,h1,h2⟩]
 ·refine⟨.vs (xs++ys) (.own id),(h.set t none).at id .tail,?_, .inr ⟨id,rfl,by simp[aa.at],hb,by simp[aa.at,aa.set];omega⟩,by simp[aa.at,aa.set];omega,fun b hb hn=>?_,fun b hb=>?_⟩
  ·simp only[mr]
   rw[if_neg hy,if_pos ⟨hh,h1,h2⟩]
   simp only[h3]
  ·have:b≠t:=fun e=>hn (by rw[e];exact h3)
   simp[aa.at,aa.set,hb,this]
  ·have e1:b≠t:=by omega
   have e2:b≠id:=by omega
   simp[aa.at,aa.set,e1,e2]
def Ln:AV->Option Nat
 | .int _ i=>if 0<=i then some i.toNat else none
 |_=>none
theorem akC {ρ:Env} {d:Nat} {x:au}:cC ρ d (some x)=Ln (x.ev ρ):=by
 unfold cC Ln
 generalize e:x.ev ρ=y
 cases y<;>simp only[e]
theorem amG {ρ:Env} {sz:Nat} {xs:List (List AV)} {t:aH} {lo hi:Option au}:i7 ρ sz (.vs xs t) lo hi none=(cC ρ xs.length hi).bind fun h=>(cC ρ 0 lo).bind fun l=>
 if l<=h/\h<=xs.length/\dF sz xs=true then some (.vs ((xs.drop l).take (h-l)) (pe t xs.length l h)) else none:=rfl
def fp (bytes sz id:Nat) (h:aa) (x:AV):Option (List (List AV))->Option (AV×aa)
 |none=>none
 |some ys=>match x with
  | .vs [] .full=>if ys=[] then some (.vs [] .full,h) else if ys.length*bytes<2^40/\ys.length<2^40 then some (.rs id 0 ys.length sz,h.at id (.cells ys.flatten)) else none
  | .bx=>if ys=[] then some (.bx,h) else if ys.length*bytes<2^40/\ys.length<2^40 then some (.rs id 0 ys.length sz,h.at id (.cells ys.flatten)) else none
  | .rs b off len aO=>
    if ys=[] then some (.rs b off len aO,h) else
    (cellsOf h b).bind fun cs=>if aO=sz/\off=0/\len*sz<=cs.length/\(len+ys.length)*bytes<2^40/\len+ys.length<2^40 then
      some (.rs id 0 (len+ys.length) sz,(h.set b none).at id (.cells (cs.take (len*sz)++ys.flatten)))
      else none
  | .rk b off len aO cap=>(cellsOf h b).bind fun cs=>if aO=sz/\len+ys.length<=cap/\off+len*sz<=cs.length then
     some (.rk b off (len+ys.length) sz cap,h.set b (some (.cells (dq cs (off+len*sz) ys.flatten))))
     else none
  |_=>none
theorem zg {ρ:Env} {id bytes sz:Nat} {h:aa} {x y:au}:bN (.kF bytes sz x y) ρ id h=fp bytes sz id h (x.ev ρ) (cQ sz h (y.ev ρ)):=by
 simp only[bN]
 generalize x.ev ρ=v
 cases cQ sz h (y.ev ρ) with
 |none=>rfl
 |some ys=>
  cases v<;>try rfl
  case vs xs t=>cases xs<;>cases t<;>rfl
  case rs b off len aO=>simp only[fp];cases cellsOf h b<;>rfl
  case rk b off len aO cap=>simp only[fp];cases cellsOf h b<;>rfl
def vH (bytes:Nat) (z:List AV) (id:Nat) (h:aa) (x n:AV):Option (AV×aa):=
 match n with
 | .int _ m=>
   if 0<m/\m<2^40 then
    match x with
    | .bx=>if m.toNat*bytes<2^40 then some (.rs id 0 m.toNat z.length,h.at id (.cells (List.replicate m.toNat z).flatten)) else none
    | .rk b off len aO cap=>(cellsOf h b).bind fun cs=>
       if aO=z.length/\cap<len+m.toNat/\off+len*z.length<=cs.length/\(len+m.toNat)*bytes<2^40/\len+m.toNat<2^40 then
        some (.rs id 0 (len+m.toNat) z.length,h.at id (.cells (rowsOf cs off z.length len++List.replicate m.toNat z).flatten))
       else none
    |_=>none
   else none
 |_=>none
theorem ajU {ρ:Env} {id bytes:Nat} {z:List AV} {h:aa} {x n:au}:bN (.po bytes z x n) ρ id h=vH bytes z id h (x.ev ρ) (n.ev ρ):=by
 simp only[bN,vH]
 generalize x.ev ρ=v
 generalize n.ev ρ=u
 cases u<;>try rfl
 cases v<;>try rfl
 case rk b off len aO cap=>simp only[];cases cellsOf h b<;>rfl
def xg (sz:Nat) (h:aa) (x y:AV):Option (AV×aa):=
 match x with
 | .rk b off len aO _=>(gI y).bind fun m=>(pA sz (min m len) h y).bind fun ys=>(cellsOf h b).bind fun cs=>
    if aO=sz/\off<=cs.length then some (.int .i64 (min m len:Nat),h.set b (some (.cells (dq cs off ys.flatten)))) else none
 |_=>none
theorem alK {ρ:Env} {id sz:Nat} {h:aa} {x y:au}:bN (.nO sz x y) ρ id h=xg sz h (x.ev ρ) (y.ev ρ):=by
 simp only[bN,xg]
 cases x.ev ρ<;>try rfl
 rename_i b off len aO cap
 cases gI (y.ev ρ) with
 |none=>rfl
 |some m=>
  simp only[Option.bind_some]
  cases pA sz (min m len) h (y.ev ρ) with
  |none=>rfl
  |some ys=>cases cellsOf h b<;>rfl
def AB (sz:Nat) (h:aa) (x y:AV):Option (AV×aa):=
 match x with
 | .rs b off len aO=>(cQ sz h y).bind fun ys=>(cellsOf h b).bind fun cs=>
    if aO=sz/\off+len*sz<=cs.length then some (.int .i64 (min ys.length len:Nat),h.set b (some (.cells (dq cs off (ys.take (min ys.length len)).flatten)))) else none
 | .vs [] _=>(cQ sz h y).bind fun _=>some (.int .i64 0,h)
 | .bx=>(cQ sz h y).bind fun _=>some (.int .i64 0,h)
 |_=>none
theorem Zr {ρ:Env} {id sz:Nat} {h:aa} {x y:au}:bN (.copy sz x y) ρ id h=AB sz h (x.ev ρ) (y.ev ρ):=by
 simp only[bN,AB]
 generalize x.ev ρ=v
 generalize cQ sz h (y.ev ρ)=r
 cases v<;>try rfl
 case vs xs t=>cases xs<;>cases r<;>rfl
 case rs b off len aO=>simp only[];cases r<;>cases cellsOf h b<;>rfl
 case bx=>cases r<;>rfl
def Q6 (h:aa) (x:AV):Option (AV×aa):=
 match x with
 | .rs b off len sz=>(cellsOf h b).bind fun cs=>if off+len*sz<=cs.length then some (.vs (rowsOf cs off sz len) .ao,h.set b none) else none
 |_=>none
theorem amK {ρ:Env} {id:Nat} {h:aa} {x:au}:bN (.mark x) ρ id h=Q6 h (x.ev ρ):=by
 simp only[bN,Q6]
 generalize x.ev ρ=v
 cases v<;>try rfl
 case rs b off len sz=>simp only[];cases cellsOf h b<;>rfl
def CG (z:List AV) (h:aa) (x:AV):Option (AV×aa):=
 match x with
 | .rk b off len aO _=>(cellsOf h b).bind fun cs=>if aO=z.length/\off+len*z.length<=cs.length then some (.az [],h.set b (some (.cells (dq cs off (List.replicate len z).flatten)))) else none
 | .vs [] _=>some (.az [],h)
 | .bx=>some (.az [],h)
 |_=>none
theorem akG {ρ:Env} {id:Nat} {z:List AV} {h:aa} {x:au}:bN (.px z x) ρ id h=CG z h (x.ev ρ):=by
 simp only[bN,CG]
 generalize x.ev ρ=v
 cases v<;>try rfl
 case vs xs t=>cases xs<;>rfl
 case rk b off len aO cap=>simp only[];cases cellsOf h b<;>rfl
theorem amH {ρ:Env} {sz b off len aO cap:Nat} {lo hi mx:Option au}:i7 ρ sz (.rk b off len aO cap) lo hi mx=(cC ρ len hi).bind fun h=>(cC ρ 0 lo).bind fun l=>(cC ρ cap mx).bind fun m=>
 if l<=h/\h<=m/\m<=cap/\aO=sz/\(mx.isSome->hi.isSome) then(if m=l then some (.vs [] .full) else some (.rk b (off+l*sz) (h-l) sz (m-l))) else none:=rfl
theorem Nf {ρ:Env} {sz b off len aO:Nat} {lo hi:Option au}:i7 ρ sz (.rs b off len aO) lo hi none=(cC ρ len hi).bind fun h=>(cC ρ 0 lo).bind fun l=>
 if l<=h/\h<=len/\aO=sz then(if l=h then(if lo.isNone then some (.rs b off 0 sz) else some (.vs [] .ao)) else some (.rs b (off+l*sz) (h-l) sz)) else none:=by
 simp[i7]
theorem anc {sz b off len aO cap:Nat} {h:aa}:cQ sz h (.rk b off len aO cap)=if aO=sz then(cellsOf h b).bind fun cs=>if off+len*sz<=cs.length then some (rowsOf cs off sz len) else none else none:=by
 simp only[cQ]
 split
 ·cases cellsOf h b<;>rfl
 ·rfl
theorem anb {sz n b off len aO cap:Nat} {h:aa}:pA sz n h (.rk b off len aO cap)=if aO=sz/\n<=len then(cellsOf h b).bind fun cs=>if off+n*sz<=cs.length then some (rowsOf cs off sz n) else none else none:=by
 simp only[pA]
 split
 ·cases cellsOf h b<;>rfl
 ·rfl
end
section
open Go
theorem st:((∀{P:Program} {K:aQ->Env->aa->Prop} {ρ:Env} {h:aa},WP P .skip K ρ h↔K .normal ρ h)
 /\(∀{P:Program} {K:aQ->Env->aa->Prop} {ρ:Env} {h:aa} {l:Nat},WP P (.label l) K ρ h↔K .normal ρ h)
 /\(∀{P:Program} {K:aQ->Env->aa->Prop} {ρ:Env} {h:aa} {l:Nat},WP P (.exit l) K ρ h↔K (.exit l) ρ h)
 /\(∀{P:Program} {K:aQ->Env->aa->Prop} {ρ:Env} {h:aa} {l:Nat},WP P (.goto l) K ρ h↔K (.goto l) ρ h)
 /\(∀{P:Program} {K:aQ->Env->aa->Prop} {ρ:Env} {h:aa},WP P .ret K ρ h↔K .ret ρ h)
 /\(∀{P:Program} {K:aQ->Env->aa->Prop} {ρ:Env} {h:aa} {al:List RO},WP P (.af al) K ρ h↔exec P al ρ h (K .normal))
 /\(∀{P:Program} {K:aQ->Env->aa->Prop} {ρ:Env} {h:aa} {a b:aZ},WP P (.seq a b) K ρ h↔WP P a (i9 (WP P b K) K) ρ h)
 /\(∀{P:Program} {K:aQ->Env->aa->Prop} {ρ:Env} {h:aa} {c:au} {a b:aZ},WP P (.cond c a b) K ρ h↔y6 P a b K ρ h (c.ev ρ))
 /\(∀{P:Program} {K:aQ->Env->aa->Prop} {ρ:Env} {h:aa} {a b:aZ},y6 P a b K ρ h (.bool true)↔WP P a K ρ h)
 /\(∀{P:Program} {K:aQ->Env->aa->Prop} {ρ:Env} {h:aa} {a b:aZ},y6 P a b K ρ h (.bool false)↔WP P b K ρ h)
 /\(∀{P:Program} {K:aQ->Env->aa->Prop} {ρ:Env} {h:aa} {id:Nat} {c:aZ},WP P (.block id c) K ρ h↔WP P c (iO id K) ρ h)
 /\(∀{k:Env->aa->Prop} {K:aQ->Env->aa->Prop} {ρ:Env} {h:aa},i9 k K .normal ρ h=k ρ h)
 /\(∀{k:Env->aa->Prop} {K:aQ->Env->aa->Prop} {ρ:Env} {h:aa},i9 k K .ret ρ h=K .ret ρ h)
 /\(∀{k:Env->aa->Prop} {K:aQ->Env->aa->Prop} {ρ:Env} {h:aa} {i:Nat},i9 k K (.exit i) ρ h=K (.exit i) ρ h)
 /\(∀{k:Env->aa->Prop} {K:aQ->Env->aa->Prop} {ρ:Env} {h:aa} {i:Nat},i9 k K (.goto i) ρ h=K (.goto i) ρ h)
 /\(∀{id:Nat} {K:aQ->Env->aa->Prop} {ρ:Env} {h:aa},iO id K .normal ρ h=K .normal ρ h)
 /\(∀{id:Nat} {K:aQ->Env->aa->Prop} {ρ:Env} {h:aa},iO id K .ret ρ h=K .ret ρ h)
 /\(∀{id i:Nat} {K:aQ->Env->aa->Prop} {ρ:Env} {h:aa},iO id K (.exit i) ρ h=if i=id then K .normal ρ h else K (.exit i) ρ h))
 /\((∀{id i:Nat} {K:aQ->Env->aa->Prop} {ρ:Env} {h:aa},iO id K (.goto i) ρ h=K (.goto i) ρ h)
 /\(∀{l:Nat} {J:Env->aa->Prop} {K:aQ->Env->aa->Prop} {ρ:Env} {h:aa},kI l J K .normal ρ h=K .normal ρ h)
 /\(∀{l:Nat} {J:Env->aa->Prop} {K:aQ->Env->aa->Prop} {ρ:Env} {h:aa},kI l J K .ret ρ h=K .ret ρ h)
 /\(∀{l i:Nat} {J:Env->aa->Prop} {K:aQ->Env->aa->Prop} {ρ:Env} {h:aa},kI l J K (.exit i) ρ h=K (.exit i) ρ h)
 /\(∀{l i:Nat} {J:Env->aa->Prop} {K:aQ->Env->aa->Prop} {ρ:Env} {h:aa},kI l J K (.goto i) ρ h=if i=l then J ρ h else K (.goto i) ρ h)
 /\(∀{P:Program} {K:Env->aa->Prop} {ρ:Env} {h:aa},exec P [] ρ h K↔K ρ h)
 /\(∀{P:Program} {K:Env->aa->Prop} {ρ:Env} {h:aa} {d:Option Nat} {os:List RO} {q:a8},exec P (⟨d,none, .p q⟩::os) ρ h K↔JB P d os ρ h K (aX q ρ h))
 /\(∀{P:Program} {K:Env->aa->Prop} {ρ:Env} {h:aa} {d:Option Nat} {os:List RO} {v:AV},JB P d os ρ h K (some v)↔exec P os (put ρ d v) h K)
 /\(∀{P:Program} {K:Env->aa->Prop} {ρ:Env} {h:aa} {d:Option Nat} {os:List RO} {q:kD},exec P (⟨d,none, .a q⟩::os) ρ h K↔Rl P d os ρ h K (ic q ρ h.next))
 /\(∀{P:Program} {K:Env->aa->Prop} {ρ:Env} {h:aa} {d:Option Nat} {os:List RO} {b:cI} {v:AV},Rl P d os ρ h K (some (b,v))↔exec P os (put ρ d v) (h.at h.next b) K)
 /\(∀{P:Program} {K:Env->aa->Prop} {ρ:Env} {h:aa} {d:Option Nat} {os:List RO} {q:gf},exec P (⟨d,none, .e q⟩::os) ρ h K↔Rk P d os ρ K (bN q ρ h.next h))
 /\(∀{P:Program} {K:Env->aa->Prop} {ρ:Env} {d:Option Nat} {os:List RO} {v:AV} {h':aa},Rk P d os ρ K (some (v,h'))↔exec P os (put ρ d v) h' K)
 /\(∀{P:Program} {K:Env->aa->Prop} {ρ:Env} {h:aa} {d:Option Nat} {os:List RO} {f:Nat} {as:List au},exec P (⟨d,none, .call f as⟩::os) ρ h K↔aet P d os ρ h K f (as.map (au.ev ρ)))
 /\(∀{P:Program} {K:Env->aa->Prop} {ρ:Env} {h:aa} {d:Option Nat} {os:List RO} {g:Nat} {b:Bool} {op:bU},exec P (⟨d,some (g,b),op⟩::os) ρ h K↔l6 P d op os ρ h K b (ρ g))
 /\(∀{P:Program} {K:Env->aa->Prop} {ρ:Env} {h:aa} {d:Option Nat} {os:List RO} {op:bU},l6 P d op os ρ h K true (.bool true)↔exec P (⟨d,none,op⟩::os) ρ h K)
 /\(∀{P:Program} {K:Env->aa->Prop} {ρ:Env} {h:aa} {d:Option Nat} {os:List RO} {op:bU},l6 P d op os ρ h K false (.bool false)↔exec P (⟨d,none,op⟩::os) ρ h K)
 /\(∀{P:Program} {K:Env->aa->Prop} {ρ:Env} {h:aa} {d:Option Nat} {os:List RO} {op:bU},l6 P d op os ρ h K true (.bool false)↔exec P os (put ρ d (.az [])) h K)
 /\(∀{P:Program} {K:Env->aa->Prop} {ρ:Env} {h:aa} {d:Option Nat} {os:List RO} {op:bU},l6 P d op os ρ h K false (.bool true)↔exec P os (put ρ d (.az [])) h K))
 /\((∀{P:Program} {K:Env->aa->Prop} {ρ:Env} {h:aa} {d:Option Nat} {os:List RO} {op:bU} {b:Bool},l6 P d op os ρ h K b (.az [])↔exec P os (put ρ d (.az [])) h K)
 /\(∀{P:Program} {n base i:Nat} {ρ:Env} {h:aa} {K:Env->aa->Prop},bL P n base [] i ρ h K↔K ρ h)
 /\(∀{P:Program} {n base i:Nat} {ρ:Env} {h:aa} {K:Env->aa->Prop} {d:Option Nat} {os:List RO} {q:a8},bL P n base (⟨d,none, .p q⟩::os) i ρ h K↔Gv P n base os i d ρ h K (aX q ρ h))
 /\(∀{P:Program} {n base i:Nat} {ρ:Env} {h:aa} {K:Env->aa->Prop} {d:Option Nat} {os:List RO} {q:kD},bL P n base (⟨d,none, .a q⟩::os) i ρ h K↔Mn P n base os i d ρ h K (ic q ρ (base+i)))
 /\(∀{P:Program} {n base i:Nat} {ρ:Env} {h:aa} {K:Env->aa->Prop} {d:Option Nat} {os:List RO} {q:gf},bL P n base (⟨d,none, .e q⟩::os) i ρ h K↔Mm P n base os i d ρ K (bN q ρ (base+i) h))
 /\(∀{P:Program} {n base i:Nat} {ρ:Env} {h:aa} {K:Env->aa->Prop} {d:Option Nat} {os:List RO} {f:Nat} {as:List au},bL P n base (⟨d,none, .call f as⟩::os) i ρ h K↔W3 P n base os i d ρ h K f (as.map (au.ev ρ)))
 /\(∀{P:Program} {n base i:Nat} {ρ:Env} {h:aa} {K:Env->aa->Prop} {d:Option Nat} {os:List RO} {g:Nat} {b:Bool} {q:a8},bL P n base (⟨d,some (g,b), .p q⟩::os) i ρ h K↔lG P n base q os i d ρ h K b (ρ g))
 /\(∀{P:Program} {n base i:Nat} {ρ:Env} {h:aa} {K:Env->aa->Prop} {d:Option Nat} {os:List RO} {g:Nat} {b:Bool} {f:Nat} {as:List au},bL P n base (⟨d,some (g,b), .call f as⟩::os) i ρ h K↔jS P n base (.call f as) os i d ρ h K b (ρ g))
 /\(∀{P:Program} {n base i:Nat} {ρ:Env} {h:aa} {K:Env->aa->Prop} {d:Option Nat} {os:List RO} {q:a8},lG P n base q os i d ρ h K true (.bool true)↔bL P n base (⟨d,none, .p q⟩::os) i ρ h K)
 /\(∀{P:Program} {n base i:Nat} {ρ:Env} {h:aa} {K:Env->aa->Prop} {d:Option Nat} {os:List RO} {op:bU},jS P n base op os i d ρ h K true (.bool true)↔bL P n base (⟨d,none,op⟩::os) i ρ h K)
 /\(∀{P:Program} {n base i:Nat} {ρ:Env} {h:aa} {K:Env->aa->Prop} {d:Option Nat} {os:List RO} {q:a8},lG P n base q os i d ρ h K false (.bool false)↔bL P n base (⟨d,none, .p q⟩::os) i ρ h K)
 /\(∀{P:Program} {n base i:Nat} {ρ:Env} {h:aa} {K:Env->aa->Prop} {d:Option Nat} {os:List RO} {op:bU},jS P n base op os i d ρ h K false (.bool false)↔bL P n base (⟨d,none,op⟩::os) i ρ h K)
 /\(∀{P:Program} {n base i:Nat} {ρ:Env} {h:aa} {K:Env->aa->Prop} {d:Option Nat} {os:List RO} {q:a8},lG P n base q os i d ρ h K true (.bool false)↔bL P n base os (i+1) (put ρ d (.az [])) h K)
 /\(∀{P:Program} {n base i:Nat} {ρ:Env} {h:aa} {K:Env->aa->Prop} {d:Option Nat} {os:List RO} {op:bU},jS P n base op os i d ρ h K true (.bool false)↔cU n base i h/\bL P n base os (i+1) (put ρ d (.az [])) h K)
 /\(∀{P:Program} {n base i:Nat} {ρ:Env} {h:aa} {K:Env->aa->Prop} {d:Option Nat} {os:List RO} {q:a8},lG P n base q os i d ρ h K false (.bool true)↔bL P n base os (i+1) (put ρ d (.az [])) h K)
 /\(∀{P:Program} {n base i:Nat} {ρ:Env} {h:aa} {K:Env->aa->Prop} {d:Option Nat} {os:List RO} {op:bU},jS P n base op os i d ρ h K false (.bool true)↔cU n base i h/\bL P n base os (i+1) (put ρ d (.az [])) h K)
 /\(∀{P:Program} {n base i:Nat} {ρ:Env} {h:aa} {K:Env->aa->Prop} {d:Option Nat} {os:List RO} {q:a8} {b:Bool},lG P n base q os i d ρ h K b (.az [])↔bL P n base os (i+1) (put ρ d (.az [])) h K)
 /\(∀{P:Program} {n base i:Nat} {ρ:Env} {h:aa} {K:Env->aa->Prop} {d:Option Nat} {os:List RO} {op:bU} {b:Bool},jS P n base op os i d ρ h K b (.az [])↔cU n base i h/\bL P n base os (i+1) (put ρ d (.az [])) h K))
 /\((∀{P:Program} {n base i:Nat} {ρ:Env} {h:aa} {K:Env->aa->Prop} {d:Option Nat} {os:List RO} {v:AV},Gv P n base os i d ρ h K (some v)↔bL P n base os (i+1) (put ρ d v) h K)
 /\(∀{P:Program} {n base i:Nat} {ρ:Env} {h:aa} {K:Env->aa->Prop} {d:Option Nat} {os:List RO} {b:cI} {v:AV},Mn P n base os i d ρ h K (some (b,v))↔bL P n base os (i+1) (put ρ d v) (h.at (base+i) b) K)
 /\(∀{P:Program} {n base i:Nat} {ρ:Env} {K:Env->aa->Prop} {d:Option Nat} {os:List RO} {v:AV} {h':aa},Mm P n base os i d ρ K (some (v,h'))↔cU n base i h'/\bL P n base os (i+1) (put ρ d v) h' K)
 /\(∀{P:Program} {un:List (List Nat)} {n base i:Nat} {ρ:Env} {h:aa} {K:Env->aa->Prop},dW P un n base [] i ρ h K↔K ρ h)
 /\(∀{P:Program} {un:List (List Nat)} {n base i:Nat} {ρ:Env} {h:aa} {K:Env->aa->Prop} {d:Option Nat} {os:List RO} {q:a8},dW P un n base (⟨d,none, .p q⟩::os) i ρ h K↔(fQ un i=true->tQ base (q.key ρ))/\wD P un n base os i d ρ h K (aX q ρ h))
 /\(∀{P:Program} {un:List (List Nat)} {n base i:Nat} {ρ:Env} {h:aa} {K:Env->aa->Prop} {d:Option Nat} {os:List RO} {q:kD},dW P un n base (⟨d,none, .a q⟩::os) i ρ h K↔Gw P un n base os i d ρ h K (ic q ρ (base+i)))
 /\(∀{P:Program} {un:List (List Nat)} {n base i:Nat} {ρ:Env} {h:aa} {K:Env->aa->Prop} {d:Option Nat} {os:List RO} {f:Nat} {as:List au},dW P un n base (⟨d,none, .call f as⟩::os) i ρ h K↔BN P un n base os i d ρ h K f (as.map (au.ev ρ)))
 /\(∀{P:Program} {un:List (List Nat)} {n base i:Nat} {ρ:Env} {h:aa} {K:Env->aa->Prop} {d:Option Nat} {os:List RO} {g:Nat} {b:Bool} {q:a8},dW P un n base (⟨d,some (g,b), .p q⟩::os) i ρ h K↔(fQ un i=true->tQ base (q.key ρ))/\pX P un n base q os i d ρ h K b (ρ g))
 /\(∀{P:Program} {un:List (List Nat)} {n base i:Nat} {ρ:Env} {h:aa} {K:Env->aa->Prop} {d:Option Nat} {os:List RO} {g:Nat} {b:Bool} {f:Nat} {as:List au},dW P un n base (⟨d,some (g,b), .call f as⟩::os) i ρ h K↔pY P un n base f (as.map (au.ev ρ)) os i d ρ h K b (ρ g))
 /\(∀{P:Program} {un:List (List Nat)} {n base i:Nat} {ρ:Env} {h:aa} {K:Env->aa->Prop} {d:Option Nat} {os:List RO} {q:gf},dW P un n base (⟨d,none, .e q⟩::os) i ρ h K↔Mo P un n base os i d ρ h K (bN q ρ (base+i) h))
 /\(∀{P:Program} {un:List (List Nat)} {n base i:Nat} {ρ:Env} {h:aa} {K:Env->aa->Prop} {d:Option Nat} {os:List RO} {q:a8},pX P un n base q os i d ρ h K true (.bool true)↔wD P un n base os i d ρ h K (aX q ρ h))
 /\(∀{P:Program} {un:List (List Nat)} {n base i:Nat} {ρ:Env} {h:aa} {K:Env->aa->Prop} {d:Option Nat} {os:List RO} {q:a8},pX P un n base q os i d ρ h K true (.bool false)↔dW P un n base os (i+1) (put ρ d (.az [])) h K)
 /\(∀{P:Program} {un:List (List Nat)} {n base i:Nat} {ρ:Env} {h:aa} {K:Env->aa->Prop} {d:Option Nat} {os:List RO} {f:Nat} {as:List AV},pY P un n base f as os i d ρ h K true (.bool true)↔BN P un n base os i d ρ h K f as)
 /\(∀{P:Program} {un:List (List Nat)} {n base i:Nat} {ρ:Env} {h:aa} {K:Env->aa->Prop} {d:Option Nat} {os:List RO} {f:Nat} {as:List AV},pY P un n base f as os i d ρ h K true (.bool false)↔cU n base i h/\dW P un n base os (i+1) (put ρ d (.az [])) h K)
 /\(∀{P:Program} {un:List (List Nat)} {n base i:Nat} {ρ:Env} {h:aa} {K:Env->aa->Prop} {d:Option Nat} {os:List RO} {q:a8},pX P un n base q os i d ρ h K false (.bool false)↔wD P un n base os i d ρ h K (aX q ρ h))
 /\(∀{P:Program} {un:List (List Nat)} {n base i:Nat} {ρ:Env} {h:aa} {K:Env->aa->Prop} {d:Option Nat} {os:List RO} {q:a8},pX P un n base q os i d ρ h K false (.bool true)↔dW P un n base os (i+1) (put ρ d (.az [])) h K)
 /\(∀{P:Program} {un:List (List Nat)} {n base i:Nat} {ρ:Env} {h:aa} {K:Env->aa->Prop} {d:Option Nat} {os:List RO} {f:Nat} {as:List AV},pY P un n base f as os i d ρ h K false (.bool false)↔BN P un n base os i d ρ h K f as)
 /\(∀{P:Program} {un:List (List Nat)} {n base i:Nat} {ρ:Env} {h:aa} {K:Env->aa->Prop} {d:Option Nat} {os:List RO} {f:Nat} {as:List AV},pY P un n base f as os i d ρ h K false (.bool true)↔cU n base i h/\dW P un n base os (i+1) (put ρ d (.az [])) h K))
 /\((∀{P:Program} {un:List (List Nat)} {n base i:Nat} {ρ:Env} {h:aa} {K:Env->aa->Prop} {d:Option Nat} {os:List RO} {q:a8} {b:Bool},pX P un n base q os i d ρ h K b (.az [])↔dW P un n base os (i+1) (put ρ d (.az [])) h K)
 /\(∀{P:Program} {un:List (List Nat)} {n base i:Nat} {ρ:Env} {h:aa} {K:Env->aa->Prop} {d:Option Nat} {os:List RO} {f:Nat} {as:List AV} {b:Bool},pY P un n base f as os i d ρ h K b (.az [])↔cU n base i h/\dW P un n base os (i+1) (put ρ d (.az [])) h K)
 /\(∀{P:Program} {un:List (List Nat)} {n base i:Nat} {ρ:Env} {h:aa} {K:Env->aa->Prop} {d:Option Nat} {os:List RO} {v:AV} {h':aa},Mo P un n base os i d ρ h K (some (v,h'))↔cU n base i h'/\xa base h h'/\dW P un n base os (i+1) (put ρ d v) h' K)
 /\(∀{ρ:Env} {ag:Bool} {sz:Nat} {x:au},(a8.load ag sz x).key ρ=kv (x.ev ρ))
 /\(∀{b o:Nat},kv (.ptr b o)=some b)
 /\(∀{l:List AV} {o:Nat},kv (.vp l o)=none)
 /\(∀{P:Program} {un:List (List Nat)} {n base i:Nat} {ρ:Env} {h:aa} {K:Env->aa->Prop} {d:Option Nat} {os:List RO} {v:AV},wD P un n base os i d ρ h K (some v)↔dW P un n base os (i+1) (put ρ d v) h K)
 /\(∀{P:Program} {un:List (List Nat)} {n base i:Nat} {ρ:Env} {h:aa} {K:Env->aa->Prop} {d:Option Nat} {os:List RO} {b:cI} {v:AV},Gw P un n base os i d ρ h K (some (b,v))↔dW P un n base os (i+1) (put ρ d v) (h.at (base+i) b) K)
 /\(∀{base:Nat},tQ base none↔True)
 /\(∀{base b:Nat},tQ base (some b)↔b<base)
 /\(∀{ρ:Env} {ag:Bool} {sz:Nat} {x:au},a8.key (.load ag sz x) ρ=(match x.ev ρ with| .ptr b _=>some b|_=>none))
 /\(∀{n m i:Nat} {h:aa},cU n h.next i (h.clean m)↔True)
 /\(∀{h:aa} {n b:Nat},(h.clean n).get b=if b<h.next then h.get b else none)
 /\(∀{h:aa} {n:Nat},(h.clean n).next=h.next+n)
 /\(∀{h:aa} {n b:Nat},cellsOf (h.clean n) b=if b<h.next then cellsOf h b else none)
 /\(∀{t:Nat} {ρ:Env},au.ev ρ (.tmp t)=ρ t)
 /\(∀{v:AV} {ρ:Env},au.ev ρ (.const v)=v)
 /\(∀{ρ:Env} {d i:Nat} {v:AV},put ρ (some d) v i=if i=d then v else ρ i))
 /\((∀{ρ:Env} {v:AV},put ρ none v=ρ)
 /\(∀{ρ:Env},List.map (au.ev ρ) []=[])
 /\(∀{ρ:Env} {x:au} {xs:List au},List.map (au.ev ρ) (x::xs)=x.ev ρ::List.map (au.ev ρ) xs)
 /\(∀{ρ:Env} {h:aa} {x:au},aX (.aj x) ρ h=some (x.ev ρ))
 /\(∀{ρ:Env} {h:aa} {c a b:au},aX (.pick c a b) ρ h=Jj (c.ev ρ) (a.ev ρ) (b.ev ρ))
 /\(∀{ρ:Env} {h:aa} {z:List AV} {ps:List (Nat×Nat×au)},aX (.build z ps) ρ h=(kJ ρ z ps).map .agg)
 /\(∀{ρ:Env} {h:aa} {n:Nat} {z:List AV} {ps:List (Nat×au)},aX (.cr n z ps) ρ h=(iQ ρ z.length (List.replicate n z) ps).map (.vs · .full))
 /\(∀{ρ:Env} {h:aa} {ag:Bool} {sz:Nat} {x:au},aX (.load ag sz x) ρ h=kL ag sz h (x.ev ρ))
 /\(∀{ρ:Env} {h:aa} {x:au},aX (.aF x) ρ h=notNil (x.ev ρ))
 /\(∀{ρ:Env} {h:aa} {tb:Bool} {op:BinOp} {x y:au},aX (.bin tb op x y) ρ h=cR tb op (x.ev ρ) (y.ev ρ))
 /\(∀{ρ:Env} {h:aa} {kd:Nat} {neg:Bool} {x:au},aX (.gG kd neg x) ρ h=(iM kd (x.ev ρ)).map fun b=> .bool (if neg then !b else b))
 /\(∀{ρ:Env} {h:aa} {neg:Bool} {os:List Nat} {x y:au},aX (.JC neg os x y) ρ h=CS neg os (x.ev ρ) (y.ev ρ))
 /\(∀{ρ:Env} {h:aa} {op:UnOp} {x:au},aX (.un op x) ρ h=B9 op (x.ev ρ))
 /\(∀{ρ:Env} {h:aa} {k:IntKind} {x:au},aX (.toInt k x) ρ h=CK k (x.ev ρ))
 /\(∀{ρ:Env} {h:aa} {x:au},aX (.rN x) ρ h=((cQ 1 h (x.ev ρ)).bind tD).map fun bs=> .str ⟨bs.toArray⟩)
 /\(∀{ρ:Env} {h:aa} {x:au},aX (.Hh x) ρ h=G4 (x.ev ρ))
 /\(∀{ρ:Env} {h:aa} {off:Nat} {x:au},aX (.Ax off x) ρ h=zO off (x.ev ρ))
 /\(∀{ρ:Env} {h:aa} {ag:Bool} {sz off:Nat} {x:au},aX (.Mj ag sz off x) ρ h=Fq ag sz off (x.ev ρ)))
 /\((∀{ρ:Env} {h:aa} {sz:Nat} {x i:au},aX (.i5 sz x i) ρ h=iL sz (x.ev ρ) (i.ev ρ))
 /\(∀{ρ:Env} {h:aa} {sz len:Nat} {x i:au},aX (.CR sz len x i) ρ h=zF sz len (x.ev ρ) (i.ev ρ))
 /\(∀{ρ:Env} {h:aa} {ag:Bool} {sz len:Nat} {x i:au},aX (.KO ag sz len x i) ρ h=DK ag sz len (x.ev ρ) (i.ev ρ))
 /\(∀{ρ:Env} {h:aa} {sz:Nat} {x:au} {lo hi mx:Option au},aX (.b9 sz x lo hi mx) ρ h=i7 ρ sz (x.ev ρ) lo hi mx)
 /\(∀{ρ:Env} {h:aa} {i:Nat} {x:au},aX (.ext i x) ρ h=Fs i (x.ev ρ))
 /\(∀{ρ:Env} {h:aa} {x:au},aX (.j9 x) ρ h=(gI (x.ev ρ)).map fun(n:Nat)=>AV.int .i64 n)
 /\(∀{ρ:Env} {h:aa} {x:au},aX (.HU x) ρ h=HF (x.ev ρ))
 /\(∀{ρ:Env} {h:aa} {n:Nat},aX (.KJ n) ρ h=some (.int .i64 n))
 /\(∀{ρ:Env} {h:aa} {z:AV} {ok:Bool} {m k:au},aX (.lookup z ok m k) ρ h=pj z ok h (m.ev ρ) (k.ev ρ))
 /\(∀{ρ:Env} {h:aa} {f:Nat} {a b:List au},aX (.kO f a b) ρ h=some (.fn f (a.map (au.ev ρ)) (b.map (au.ev ρ))))
 /\(∀{ρ:Env} {h:aa} {mx:Bool} {x:au} {r:List au},aX (.nH mx x r) ρ h=ph mx ρ (x.ev ρ) r)
 /\(∀{ρ:Env} {h:aa} {im:Bool} {x:au},aX (.part im x) ρ h=Jk im (x.ev ρ))
 /\(∀{ρ:Env} {h:aa} {z:List AV} {b:Nat} {l c:au},aX (.HC z b l c) ρ h=(lT b (l.ev ρ) (c.ev ρ)).map fun n=> .vs (List.replicate n z) .full)
 /\(∀{a:aZ} {l:List aZ},List.foldr aZ.seq .skip (a::l)= .seq a (List.foldr aZ.seq .skip l))
 /\(List.foldr aZ.seq .skip []= .skip)
 /\(∀{ρ:Env} {d:Nat},cC ρ d none=some d)
 /\(∀{ρ:Env} {d:Nat} {x:au},cC ρ d (some x)=Ln (x.ev ρ))
 /\(∀{k:IntKind} {i:Int},Ln (.int k i)=if 0<=i then some i.toNat else none))
 /\((∀{ρ:Env} {sz:Nat} {xs:List (List AV)} {t:aH} {lo hi:Option au},i7 ρ sz (.vs xs t) lo hi none=(cC ρ xs.length hi).bind fun h=>(cC ρ 0 lo).bind fun l=>if l<=h/\h<=xs.length/\dF sz xs=true then some (.vs ((xs.drop l).take (h-l)) (pe t xs.length l h)) else none)
 /\(∀{n l h:Nat},pe .ao n l h= .ao)
 /\(∀{ρ:Env} {id:Nat} {x:au},ic (.box x) ρ id=if(x.ev ρ).cells.all AV.one then some (.cells (x.ev ρ).cells, .ptr id 0) else none)
 /\(∀{ρ:Env} {id:Nat} {z:List AV},ic (.alloc z) ρ id=some (.cells z, .ptr id 0))
 /\(∀{ρ:Env} {id:Nat} {z:List AV} {b:Nat} {l c:au},ic (.uY z b l c) ρ id=(lT b (l.ev ρ) (c.ev ρ)).map fun n=>(.cells (List.replicate n z).flatten, .rs id 0 n z.length))
 /\(∀{ρ:Env} {id n:Nat} {z:List AV} {ps:List (Nat×au)},ic (.CJ n z ps) ρ id=(iQ ρ z.length (List.replicate n z) ps).map fun rows=>(.cells rows.flatten, .rs id 0 n z.length))
 /\(∀{ρ:Env} {id:Nat},ic .vi ρ id=some (.map [], .map (some id)))
 /\(∀{ρ:Env} {id sz:Nat} {h:aa} {a v:au},bN (.store sz a v) ρ id h=wZ sz h (a.ev ρ) (v.ev ρ))
 /\(∀{ρ:Env} {id:Nat} {h:aa} {m k v:au},bN (.rS m k v) ρ id h=HD h (m.ev ρ) (k.ev ρ) (v.ev ρ))
 /\(∀{ρ:Env} {id:Nat} {h:aa} {m k:au},bN (.tI m k) ρ id h=HE h (m.ev ρ) (k.ev ρ))
 /\(∀{h:aa} {b:Nat} {kd:IntKind} {n:Int} {v:AV},HD h (.map (some b)) (.int kd n) v=(mapOf h b).bind fun es=>(rT (.int kd n) v.strip es).map fun aV=>(.undef,h.set b (some (.map aV))))
 /\(∀{h:aa} {b:Nat} {kd:IntKind} {n:Int},HE h (.map (some b)) (.int kd n)=(mapOf h b).bind fun es=>(rU (.int kd n) es).map fun aV=>(.az [],h.set b (some (.map aV))))
 /\(∀{ρ:Env} {id bytes sz:Nat} {h:aa} {x y:au},bN (.append bytes sz x y) ρ id h=mr bytes sz id h (x.ev ρ) (cQ sz h (y.ev ρ)))
 /\(∀{sz:Nat} {h:aa} {xs:List (List AV)} {t:aH},cQ sz h (.vs xs t)=if dF sz xs=true then some xs else none)
 /\(∀{sz:Nat},dF sz []=true)
 /\(∀{sz:Nat} {r:List AV} {rs:List (List AV)},(dF sz (r::rs)=true)↔r.length=sz)
 /\(∀{h:aa} {id j:Nat} {cs:List AV},mapOf (h.at id (.cells cs)) j=if j=id then none else mapOf h j)
 /\(∀{h:aa} {id j:Nat} {cs:List AV},mapOf (h.set id (some (.cells cs))) j=if j=id then none else mapOf h j))
 /\((∀{h:aa} {id j:Nat} {es:List (AV×AV)},mapOf (h.at id (.map es)) j=if j=id then some es else mapOf h j)
 /\(∀{h:aa} {id j:Nat} {es:List (AV×AV)},mapOf (h.set id (some (.map es))) j=if j=id then some es else mapOf h j)
 /\(∀{h:aa} {n b:Nat},mapOf (h.clean n) b=if b<h.next then mapOf h b else none)
 /\(∀{ρ:Env} {h:aa} {x:au},aX (.tX x) ρ h=(vS (x.ev ρ)).map fun(n:Nat)=>AV.int .i64 n)
 /\(∀{ρ:Env} {h:aa} {x i:au},aX (.zL x i) ρ h=CE (x.ev ρ) (i.ev ρ))
 /\(∀{ρ:Env} {h:aa} {sz:Nat} {x y:au},aX (.pM sz x y) ρ h=vN sz h (x.ev ρ) (y.ev ρ))
 /\(vS .bx=some 0)
 /\(∀{xs:List (List AV)},vS (.vs xs .full)=some xs.length)
 /\(∀{b o n s c:Nat},vS (.rk b o n s c)=some c)
 /\(∀{b o n s c:Nat},gI (.rk b o n s c)=some n)
 /\(∀{b o n s c:Nat},AV.one (.rk b o n s c)=true)
 /\(∀{b o n s c:Nat},AV.cells (.rk b o n s c)=[.rk b o n s c])
 /\(∀{s:ByteArray} {k:IntKind} {i:Int},CE (.str s) (.int k i)=if 0<=i then(s[i.toNat]?).map fun b=>AV.int .u8 b.toNat else none)
 /\(∀{ρ:Env} {sz b off len aO cap:Nat} {lo hi mx:Option au},i7 ρ sz (.rk b off len aO cap) lo hi mx=(cC ρ len hi).bind fun h=>(cC ρ 0 lo).bind fun l=>(cC ρ cap mx).bind fun m=>if l<=h/\h<=m/\m<=cap/\aO=sz/\(mx.isSome->hi.isSome) then(if m=l then some (.vs [] .full) else some (.rk b (off+l*sz) (h-l) sz (m-l))) else none)
 /\(∀{sz b off len aO cap:Nat} {h:aa},cQ sz h (.rk b off len aO cap)=if aO=sz then(cellsOf h b).bind fun cs=>if off+len*sz<=cs.length then some (rowsOf cs off sz len) else none else none)
 /\(∀{sz n b off len aO cap:Nat} {h:aa},pA sz n h (.rk b off len aO cap)=if aO=sz/\n<=len then(cellsOf h b).bind fun cs=>if off+n*sz<=cs.length then some (rowsOf cs off sz n) else none else none)
 /\(∀{sz n:Nat} {h:aa} {xs:List (List AV)} {t:aH},pA sz n h (.vs xs t)=if dF sz xs=true then some (xs.take n) else none)
 /\(∀{ρ:Env} {id bytes sz:Nat} {h:aa} {x y:au},bN (.kF bytes sz x y) ρ id h=fp bytes sz id h (x.ev ρ) (cQ sz h (y.ev ρ))))
 /\((∀{ρ:Env} {id bytes:Nat} {z:List AV} {h:aa} {x n:au},bN (.po bytes z x n) ρ id h=vH bytes z id h (x.ev ρ) (n.ev ρ))
 /\(∀{ρ:Env} {id sz:Nat} {h:aa} {x y:au},bN (.nO sz x y) ρ id h=xg sz h (x.ev ρ) (y.ev ρ))
 /\(∀{ρ:Env} {id:Nat} {h:aa} {x:au},bN (.mark x) ρ id h=Q6 h (x.ev ρ))
 /\(∀{ρ:Env} {id:Nat} {z:List AV} {h:aa} {x:au},bN (.px z x) ρ id h=CG z h (x.ev ρ))
 /\(gI .vz=some 0)
 /\(∀{sz:Nat} {h:aa},cQ sz h .vz=some [])
 /\(∀{sz:Nat} {h:aa},cQ sz h .bx=some [])
 /\(iM 1 .vz=some false)
 /\(∀{b o n s c:Nat},iM 1 (.rk b o n s c)=some false)
 /\(∀{tb:Bool} {k:IntKind} {a b:Int},cR tb .add (.int k a) (.int k b)=some (.int k (k.wrap (a+b))))
 /\(∀{tb:Bool} {k:IntKind} {a b:Int},cR tb .sub (.int k a) (.int k b)=some (.int k (k.wrap (a-b))))
 /\(∀{tb:Bool} {k:IntKind} {a b:Int},cR tb .mul (.int k a) (.int k b)=some (.int k (k.wrap (a*b))))
 /\(∀{tb:Bool} {k:IntKind} {a b:Int},cR tb .quo (.int k a) (.int k b)=if b=0 then none else some (.int k (k.wrap (a.tdiv b))))
 /\(∀{tb:Bool} {k:IntKind} {a b:Int},cR tb .rem (.int k a) (.int k b)=if b=0 then none else some (.int k (a.tmod b)))
 /\(∀{tb:Bool} {k:IntKind} {a b:Int},cR tb .eql (.int k a) (.int k b)=some (.bool (decide (a=b))))
 /\(∀{tb:Bool} {k:IntKind} {a b:Int},cR tb .lss (.int k a) (.int k b)=some (.bool (decide (a<b))))
 /\(∀{tb:Bool} {k:IntKind} {a b:Int},cR tb .leq (.int k a) (.int k b)=some (.bool (decide (a<=b))))
 /\(∀{tb:Bool} {k:IntKind} {a b:Int},cR tb .gtr (.int k a) (.int k b)=some (.bool (decide (b<a)))))
 /\((∀{tb:Bool} {k:IntKind} {a b:Int},cR tb .geq (.int k a) (.int k b)=some (.bool (decide (b<=a))))
 /\(∀{tb:Bool} {k:IntKind} {a b:Int},cR tb .neq (.int k a) (.int k b)=some (.bool (decide (¬a=b))))
 /\(∀{a b:Bool},cR true .eql (.bool a) (.bool b)=some (.bool (a==b)))
 /\(∀{a b:Bool},cR true .neq (.bool a) (.bool b)=some (.bool (!(a==b))))
 /\(∀{tb:Bool} {k k':IntKind} {a b:Int},cR tb .shl (.int k a) (.int k' b)=if b<0 then none else some (.int k (k.wrap (a*2^(min b.toNat k.bits)))))
 /\(∀{tb:Bool} {k k':IntKind} {a b:Int},cR tb .shr (.int k a) (.int k' b)=if b<0 then none else some (.int k (a.fdiv (2^(min b.toNat k.bits)))))
 /\(∀{b:Bool},B9 .not (.bool b)=some (.bool !b))
 /\(∀{k:IntKind} {n:Int},B9 .neg (.int k n)=some (.int k (k.wrap (0-n))))
 /\(∀{k k':IntKind} {n:Int},CK k (.int k' n)=some (.int k (k.wrap n)))
 /\(∀{c:Bool} {a b:AV},Jj (.bool c) a b=some (if c=true then a else b))
 /\(∀{xs:List (List AV)} {t:aH},gI (.vs xs t)=some xs.length)
 /\(gI .bx=some 0)
 /\(∀{b o n s:Nat},gI (.rs b o n s)=some n)
 /\(∀{sz:Nat} {xs:List (List AV)} {t:aH} {k:IntKind} {i:Int},iL sz (.vs xs t) (.int k i)=if 0<=i then(xs[i.toNat]?).bind (fun row=>if row.length=sz then some (.vp row 0) else none) else none)
 /\(∀{sz b off len aO:Nat} {k:IntKind} {i:Int},iL sz (.rs b off len aO) (.int k i)=if 0<=i then(if aO=sz/\i<len then some (.ptr b (off+i.toNat*sz)) else none) else none)
 /\(∀{sz len b o:Nat} {k:IntKind} {i:Int},zF sz len (.ptr b o) (.int k i)=if 0<=i/\i<len then some (.ptr b (o+i.toNat*sz)) else none)
 /\(∀{sz len o:Nat} {xs:List AV} {k:IntKind} {i:Int},zF sz len (.vp xs o) (.int k i)=if 0<=i/\i<len then some (.vp xs (o+i.toNat*sz)) else none)
 /\(∀{ag:Bool} {sz len:Nat} {cs:List AV} {k:IntKind} {i:Int},DK ag sz len (.agg cs) (.int k i)=if 0<=i/\i<len then cut ag sz (i.toNat*sz) cs else none))
 /\((∀{off b o:Nat},zO off (.ptr b o)=some (.ptr b (o+off)))
 /\(∀{off o:Nat} {xs:List AV},zO off (.vp xs o)=some (.vp xs (o+off)))
 /\(∀{ag:Bool} {sz off:Nat} {cs:List AV},Fq ag sz off (.agg cs)=cut ag sz off cs)
 /\(∀{sz off:Nat} {cs:List AV},cut false sz off cs=cs[off]?)
 /\(∀{sz off:Nat} {cs:List AV},cut true sz off cs=if off+sz<=cs.length then some (.agg ((cs.drop off).take sz)) else none)
 /\(∀{ag:Bool} {sz:Nat} {h:aa} {b o:Nat},kL ag sz h (.ptr b o)=(cellsOf h b).bind (cut ag sz o))
 /\(∀{ag:Bool} {sz:Nat} {h:aa} {xs:List AV} {o:Nat},kL ag sz h (.vp xs o)=cut ag sz o xs)
 /\(∀{sz:Nat} {h:aa} {b o:Nat} {v:AV},wZ sz h (.ptr b o) v=(cellsOf h b).bind fun cs=>if v.cells.length=sz/\o+sz<=cs.length/\v.cells.all AV.one=true then some (.undef,h.set b (some (.cells (dq cs o v.cells)))) else none)
 /\(∀{i:Nat} {vs:List AV},Fs i (.az vs)=vs[i]?)
 /\(∀{b o:Nat},notNil (.ptr b o)=some (.ptr b o))
 /\(∀{xs:List AV} {o:Nat},notNil (.vp xs o)=some (.vp xs o))
 /\(∀{f:Nat} {a b:List AV},notNil (.fn f a b)=some (.fn f a b))
 /\(∀{cs:List AV},AV.cells (.agg cs)=cs)
 /\(∀{k:IntKind} {n:Int},AV.cells (.int k n)=[.int k n])
 /\(∀{b:Bool},AV.cells (.bool b)=[.bool b])
 /\(∀{b o:Nat},AV.cells (.ptr b o)=[.ptr b o])
 /\(∀{xs:List (List AV)} {t:aH},AV.cells (.vs xs t)=[.vs xs t])
 /\(∀{b o n s:Nat},AV.cells (.rs b o n s)=[.rs b o n s]))
 /\((∀{m:Option Nat},AV.cells (.map m)=[.map m])
 /\(∀{f:Nat} {a b:List AV},AV.cells (.fn f a b)=[.fn f a b])
 /\(AV.cells .nil=[.nil])
 /\(AV.cells .bx=[.bx])
 /\(AV.cells .fb=[.fb])
 /\(∀{k:IntKind} {n:Int},AV.one (.int k n)=true)
 /\(∀{b:Bool},AV.one (.bool b)=true)
 /\(∀{b o:Nat},AV.one (.ptr b o)=true)
 /\(∀{xs:List (List AV)} {t:aH},AV.one (.vs xs t)=true)
 /\(∀{b o n s:Nat},AV.one (.rs b o n s)=true)
 /\(∀{m:Option Nat},AV.one (.map m)=true)
 /\(∀{f:Nat} {a b:List AV},AV.one (.fn f a b)=true)
 /\(AV.one .nil=true)
 /\(AV.one .bx=true)
 /\(AV.one .fb=true)
 /\(∀{h:aa} {b:Nat} {cs:List AV},h.get b=some (.cells cs)->cellsOf h b=some cs)
 /\(∀{h:aa} {id j:Nat} {cs:List AV},cellsOf (h.at id (.cells cs)) j=if j=id then some cs else cellsOf h j)
 /\(∀{h:aa} {id j:Nat} {cs:List AV},cellsOf (h.set id (some (.cells cs))) j=if j=id then some cs else cellsOf h j))
 /\((∀{h:aa} {id j:Nat},cellsOf (h.at id .tail) j=if j=id then none else cellsOf h j)
 /\(∀{h:aa} {id j:Nat} {es:List (AV×AV)},cellsOf (h.at id (.map es)) j=if j=id then none else cellsOf h j)
 /\(∀{h:aa} {id j:Nat} {es:List (AV×AV)},cellsOf (h.set id (some (.map es))) j=if j=id then none else cellsOf h j)
 /\(∀{h:aa} {id j:Nat},cellsOf (h.set id none) j=if j=id then none else cellsOf h j)
 /\(∀{h:aa} {id j:Nat} {b:cI},(h.at id b).get j=if j=id then some b else h.get j)
 /\(∀{h:aa} {id j:Nat} {b:Option cI},(h.set id b).get j=if j=id then b else h.get j)
 /\(∀{h:aa} {id:Nat} {b:cI},(h.at id b).next=max h.next (id+1))
 /\(∀{h:aa} {id:Nat} {b:Option cI},(h.set id b).next=h.next)
 /\(∀{ρ:Env} {x:AV} {mx:Bool},ph mx ρ x []=some x)
 /\(∀{ρ:Env} {x:AV} {mx:Bool} {y:au} {ys:List au},ph mx ρ x (y::ys)=(qh mx x (y.ev ρ)).bind fun z=>ph mx ρ z ys)
 /\(∀{k:IntKind} {a b:Int},qh true (.int k a) (.int k b)=some (.int k (max a b)))
 /\(∀{k:IntKind} {a b:Int},qh false (.int k a) (.int k b)=some (.int k (min a b)))
 /\(∀{ρ:Env} {z:List AV},kJ ρ z []=some z)
 /\(∀{ρ:Env} {z:List AV} {off sz:Nat} {x:au} {ps:List (Nat×Nat×au)},kJ ρ z ((off,sz,x)::ps)=if(x.ev ρ).cells.length=sz/\off+sz<=z.length/\(x.ev ρ).cells.all AV.one=true then kJ ρ (dq z off (x.ev ρ).cells) ps else none)
 /\(∀{ρ:Env} {sz:Nat} {z:List (List AV)},iQ ρ sz z []=some z)
 /\(∀{ρ:Env} {sz i:Nat} {z:List (List AV)} {x:au} {ps:List (Nat×au)},iQ ρ sz z ((i,x)::ps)=if(x.ev ρ).cells.length=sz/\i<z.length/\(x.ev ρ).cells.all AV.one=true then iQ ρ sz (z.set i (x.ev ρ).cells) ps else none)
 /\(∀{rs:List fv} {r:AV} {h1:aa} {ρ:Env} {h:aa},JD rs r h1 .normal ρ h↔(dL ρ h rs).map eQ=some r/\h=h1)
 /\(∀{rs:List fv} {r:AV} {h1:aa} {ρ:Env} {h:aa},JD rs r h1 .ret ρ h↔(dL ρ h rs).map eQ=some r/\h=h1))
 /\((∀{rs:List fv} {r:AV} {h1:aa} {ρ:Env} {h:aa},Js rs r h1 .normal ρ h↔(dL ρ h rs).map eQ=some r/\ ∀b,b<h1.next->h.get b=h1.get b)
 /\(∀{rs:List fv} {r:AV} {h1:aa} {ρ:Env} {h:aa},Js rs r h1 .ret ρ h↔(dL ρ h rs).map eQ=some r/\ ∀b,b<h1.next->h.get b=h1.get b)
 /\(iM 0 .nil=some true)
 /\(∀{b o:Nat},iM 0 (.ptr b o)=some false)
 /\(∀{o:Nat} {xs:List AV},iM 0 (.vp xs o)=some false)
 /\(iM 1 .bx=some true)
 /\(∀{b o n s:Nat},iM 1 (.rs b o n s)=some false)
 /\(iM 2 .jH=some true)
 /\(∀{f:Nat} {a c:List AV},iM 2 (.fn f a c)=some false)
 /\(iM 3 (.map none)=some true)
 /\(∀{b:Nat},iM 3 (.map (some b))=some false)
 /\(∀{ρ:Env} {h:aa},dL ρ h []=some [])
 /\(∀{ρ:Env} {h:aa} {t:Nat} {rs:List fv},dL ρ h (.tmp t::rs)=(dL ρ h rs).map (ρ t:: ·))
 /\(∀{ρ:Env} {h:aa} {t sz:Nat} {ag:Bool} {rs:List fv},dL ρ h (.cell t ag sz::rs)=(kL ag sz h (ρ t)).bind fun v=>(dL ρ h rs).map (v:: ·))
 /\(eQ []= .az [])
 /\(∀{v:AV},eQ [v]=v)
 /\(∀{v u:AV} {l:List AV},eQ (v::u::l)= .az (v::u::l))
 /\(∀{as:List AV} {i:Nat},jZ as i=as.getD i (.az [])))
 /\((∀{a:AV} {l:List AV} {d:AV},(a::l).getD 0 d=a)
 /\(∀{a:AV} {l:List AV} {d:AV} {i:Nat},(a::l).getD (i+1) d=l.getD i d)
 /\(∀{α β:Type} {f:α->Option β} {a:α},(some a).bind f=f a)
 /\(∀{α β:Type} {f:α->β} {a:α},(some a).map f=some (f a))
 /\(∀{α:Type} {a b:α},(some a=some b)↔a=b)
 /\(∀{α:Type} {a:α},(some a=none)↔False)
 /\(∀{α:Type} {a:α},(none=some a)↔False)
 /\(∀{α β:Type} {a c:α} {b d:β},((a,b)=(c,d))↔a=c/\b=d)
 /\(∀{α:Type} {p:α->Prop} {a:α},(∃x,a=x/\p x)↔p a)
 /\(∀{α β:Type} {p:α->β->Prop} {a:α} {b:β},(∃x y,(a=x/\b=y)/\p x y)↔p a b)
 /\(∀{n:Nat},(0<=(n:Int))↔True)
 /\(∀{n:Nat},(n:Int).toNat=n)
 /\(∀{n:Nat},((n:Int)<0)↔False)
 /\(∀{a b:Nat},((a:Int)<(b:Int))↔a<b)
 /\(∀{a b:Nat},((a:Int)<=(b:Int))↔a<=b)
 /\(∀{a b:Nat},((a:Int)=(b:Int))↔a=b)
 /\(∀{α:Type} {a:α} {l:List α},(a::l)[0]? =some a)
 /\(∀{α:Type} {a:α} {l:List α} {i:Nat},(a::l)[i+1]? =l[i]?))
 /\((∀{α:Type} {a:α} {l:List α},(a::l).length=l.length+1)
 /\(∀{α:Type},([]:List α).length=0)
 /\(∀{p:AV->Bool} {a:AV} {l:List AV},(a::l).all p=(p a&&l.all p))
 /\(∀{p:AV->Bool},([]:List AV).all p=true)
 /\(∀{α:Type} {l:List α},List.take 0 l=[])
 /\(∀{α:Type} {a:α} {l:List α} {n:Nat},List.take (n+1) (a::l)=a::List.take n l)
 /\(∀{α:Type} {l:List α},List.drop 0 l=l)
 /\(∀{α:Type} {a:α} {l:List α} {n:Nat},List.drop (n+1) (a::l)=List.drop n l)
 /\(∀{α:Type} {l:List α},l++[]=l)
 /\(∀{α:Type} {l:List α},[]++l=l)
 /\(∀{α:Type} {a:α} {l m:List α},(a::l)++m=a::(l++m))
 /\(∀{cs vs:List AV} {off:Nat},dq cs off vs=cs.take off++vs++cs.drop (off+vs.length))
 /\(∀{p:Prop},(p/\True)↔p)
 /\(∀{p:Prop},(True/\p)↔p)
 /\(∀{p:Prop},(p/\False)↔False)
 /\(∀{p:Prop},(False/\p)↔False)
 /\(∀{p q r:Prop},((p/\q)/\r)↔p/\q/\r)
 /\(∀{p:Prop} [Decidable p],(decide p=true)↔p))
 /\((∀{p:Prop} [Decidable p],(decide p=false)↔ ¬p)
 /\(∀{α:Sort 1} {p:Prop} [Decidable p] {a b:α},(if¬p then a else b)=if p then b else a)
 /\(∀{α:Sort 1} {a b:α},(if True then a else b)=a)
 /\(∀{α:Sort 1} {a b:α},(if False then a else b)=b)
 /\(∀{p:Prop},¬ ¬p↔p)
 /\((¬True)↔False)
 /\((¬False)↔True)
 /\((false=true)↔False)
 /\((true=false)↔False)
 /\((!true)=false)
 /\((!false)=true)
 /\(∀{b:Bool},(true&&b)=b)
 /\(∀{b:Bool},(b&&true)=b)
 /\(∀{b:Bool},((!b)=true)↔b=false)
 /\(∀{b:Bool},((!b)=false)↔b=true)
 /\(∀{a b:Bool},((a&&b)=true)↔a=true/\b=true)
 /\(∀{α:Type} {a:α},(a=a)↔True)
 /\(((0:Nat):Int)=0))
 /\((((1:Nat):Int)=1)
 /\(∀{n:Nat},max n (n+1)=n+1)
 /\(∀{n:Nat},0+n=n)
 /\(∀{n:Nat},n+0=n)
 /\(∀{n:Nat},(n<=n)↔True)
 /\(∀{p q r:Prop},(p/\q->r)↔(p->q->r))
 /\(∀{p:Prop},(False->p)↔True)
 /\(∀{p:Prop},(True->p)↔p)
 /\(∀{p:Prop},(p->True)↔True)
 /\(∀{α:Type},(α->True)↔True)
 /\(decide True=true)
 /\(decide False=false)):=⟨⟨aaU,
  aoc,
  apd,
  apc,
  asE,
  vh,
  tK,
  ape,
  avC,
  avD,
  aod,
  by intros;rfl,
  by intros;rfl,
  by intros;rfl,
  by intros;rfl,
  by intros;rfl,
  by intros;rfl,
  by intros;rfl⟩,
  ⟨by intros;rfl,
  by intros;rfl,
  by intros;rfl,
  by intros;rfl,
  by intros;rfl,
  Iff.rfl,
  aq0,
  alr,
  aq2,
  alu,
  aq1,
  als,
  ajz,
  alq,
  anN,
  anQ,
  anO,
  anP⟩,
  ⟨amu,
  Iff.rfl,
  awR,
  awW,
  awU,
  awV,
  awS,
  auN,
  aq3,
  aq7,
  aq6,
  ara,
  aq4,
  aq8,
  aq5,
  aq9,
  aoL,
  aoM⟩,
  ⟨anS,
  anU,
  anT,
  Iff.rfl,
  awZ,
  auO,
  aw1,
  awX,
  awY,
  aw0,
  by intros;simp[pX,gK],
  by intros;simp[pX,gK],
  by intros;simp[pY,gK],
  by intros;simp[pY,gK],
  by intros;simp[pX,gK],
  by intros;simp[pX,gK],
  by intros;simp[pY,gK],
  by intros;simp[pY,gK]⟩,
  ⟨by intros;simp[pX,gK],
  by intros;simp[pY,gK],
  anW,
  anB,
  by intros;rfl,
  by intros;rfl,
  anV,
  anX,
  Iff.rfl,
  Iff.rfl,
  by intros;rfl,
  aks,
  by intros;rfl,
  by intros;rfl,
  by intro h n b;unfold cellsOf aa.clean;by_cases e:b<h.next<;>simp[e],
  by intros;rfl,
  by intros;rfl,
  by intros;rfl⟩,
  ⟨by intros;rfl,
  by intros;rfl,
  by intros;rfl,
  by intros;rfl,
  by intros;rfl,
  by intros;rfl,
  by intros;rfl,
  by intros;rfl,
  by intros;rfl,
  by intros;rfl,
  by intros;rfl,
  by intros;rfl,
  by intros;rfl,
  by intros;rfl,
  by intros;rfl,
  by intros;rfl,
  by intros;rfl,
  by intros;rfl⟩,
  ⟨by intros;rfl,
  by intros;rfl,
  by intros;rfl,
  by intros;rfl,
  by intros;rfl,
  by intros;rfl,
  by intros;rfl,
  by intros;rfl,
  by intros;rfl,
  by intros;rfl,
  by intros;rfl,
  by intros;rfl,
  by intros;rfl,
  by intros;rfl,
  by intros;rfl,
  by intros;rfl,
  akC,
  by intros;rfl⟩,
  ⟨amG,
  by intros;rfl,
  by intros;rfl,
  by intros;rfl,
  by intros;rfl,
  by intros;rfl,
  by intros;rfl,
  by intros;rfl,
  by intros;rfl,
  by intros;rfl,
  ajJ,
  ajK,
  akH,
  by intros;rfl,
  by intros;rfl,
  by simp[dF],
  by intro h id j cs;unfold mapOf aa.at;by_cases e:j=id<;>simp[e],
  by intro h id j cs;unfold mapOf aa.set;by_cases e:j=id<;>simp[e]⟩,
  ⟨by intro h id j es;unfold mapOf aa.at;by_cases e:j=id<;>simp[e],
  by intro h id j es;unfold mapOf aa.set;by_cases e:j=id<;>simp[e],
  by intro h n b;unfold mapOf aa.clean;by_cases e:b<h.next<;>simp[e],
  by intros;rfl,
  by intros;rfl,
  by intros;rfl,
  by intros;rfl,
  by intros;rfl,
  by intros;rfl,
  by intros;rfl,
  by intros;rfl,
  by intros;rfl,
  by intros;rfl,
  amH,
  anc,
  anb,
  by intros;rfl,
  zg⟩,
  ⟨ajU,
  alK,
  amK,
  akG,
  by intros;rfl,
  by intros;rfl,
  by intros;rfl,
  by intros;rfl,
  by intros;rfl,
  by intros;simp[cR,kR],
  by intros;simp[cR,kR],
  by intros;simp[cR,kR],
  by intros;simp[cR,kR],
  by intros;simp[cR,kR],
  by intros;simp[cR,kR]<;>rfl,
  by intros;simp[cR,kR]<;>rfl,
  by intros;simp[cR,kR]<;>rfl,
  by intros;simp[cR,kR]<;>rfl⟩,
  ⟨by intros;simp[cR,kR]<;>rfl,
  by intros tb k a b;simp only[cR,kR,if_true];by_cases h:a=b<;>simp[h],
  by intros;rfl,
  by intros;rfl,
  by intros;rfl,
  by intros;rfl,
  by intros;rfl,
  by intros;rfl,
  by intros;rfl,
  by intros;rfl,
  by intros;rfl,
  by intros;rfl,
  by intros;rfl,
  by intros sz xs t k i;simp only[iL];by_cases hi:0<=i<;>simp only[hi,if_true,if_false]<;>cases xs[i.toNat]?<;>rfl,
  by intros;rfl,
  by intros;rfl,
  by intros;rfl,
  by intros;rfl⟩,
  ⟨by intros;rfl,
  by intros;rfl,
  by intros;rfl,
  by intros;rfl,
  by intros;rfl,
  by intros;rfl,
  by intros;rfl,
  by intros sz h b o v;simp only[wZ];cases cellsOf h b<;>rfl,
  by intros;rfl,
  by intros;rfl,
  by intros;rfl,
  by intros;rfl,
  by intros;rfl,
  by intros;rfl,
  by intros;rfl,
  by intros;rfl,
  by intros;rfl,
  by intros;rfl⟩,
  ⟨by intros;rfl,
  by intros;rfl,
  by intros;rfl,
  by intros;rfl,
  by intros;rfl,
  by intros;rfl,
  by intros;rfl,
  by intros;rfl,
  by intros;rfl,
  by intros;rfl,
  by intros;rfl,
  by intros;rfl,
  by intros;rfl,
  by intros;rfl,
  by intros;rfl,
  by intros h b cs e;simp[cellsOf,e],
  by intro h id j cs;unfold cellsOf aa.at;by_cases e:j=id<;>simp[e],
  by intro h id j cs;unfold cellsOf aa.set;by_cases e:j=id<;>simp[e]⟩,
  ⟨by intro h id j;unfold cellsOf aa.at;by_cases e:j=id<;>simp[e],
  by intro h id j es;unfold cellsOf aa.at;by_cases e:j=id<;>simp[e],
  by intro h id j es;unfold cellsOf aa.set;by_cases e:j=id<;>simp[e],
  by intro h id j;unfold cellsOf aa.set;by_cases e:j=id<;>simp[e],
  by intros;rfl,
  by intros;rfl,
  by intros;rfl,
  by intros;rfl,
  by intros;rfl,
  by intros;rfl,
  by intros k a b;simp only[qh,if_true];congr 2;simp only[Int.max_def,gt_iff_lt];split<;>split<;>omega,
  by intros k a b;simp only[qh,if_true,Bool.false_eq_true,if_false];congr 2;simp only[Int.min_def];split<;>split<;>omega,
  by intros;rfl,
  by intros;rfl,
  by intros;rfl,
  by intros;rfl,
  Iff.rfl,
  Iff.rfl⟩,
  ⟨Iff.rfl,
  Iff.rfl,
  by intros;rfl,
  by intros;rfl,
  by intros;rfl,
  by intros;rfl,
  by intros;rfl,
  by intros;rfl,
  by intros;rfl,
  by intros;rfl,
  by intros;rfl,
  by intros;rfl,
  by intro ρ h t rs;simp only[dL,zJ];cases dL ρ h rs<;>rfl,
  by intro ρ h t sz ag rs;simp only[dL,zJ];cases kL ag sz h (ρ t)<;>cases dL ρ h rs<;>rfl,
  by intros;rfl,
  by intros;rfl,
  by intros;rfl,
  by intros;rfl⟩,
  ⟨by intros;rfl,
  by intros;rfl,
  by intros;rfl,
  by intros;rfl,
  by intros;exact Option.some_inj,
  by intros;simp,
  by intros;simp,
  by intros;simp,
  by intros;simp,
  by intro α β p a b;exact⟨fun⟨_,_,⟨e1,e2⟩,h⟩=>by subst e1;subst e2;exact h,fun h=>⟨_,_,⟨rfl,rfl⟩,h⟩⟩,
  by intros;simp,
  by intros;simp,
  by intros;simp,
  by intros;omega,
  by intros;omega,
  by intros;omega,
  by intros;rfl,
  by intros;rfl⟩,
  ⟨by intros;simp,
  by intros;rfl,
  by intros;simp,
  by intros;rfl,
  by intros;simp,
  by intros;simp,
  by intros;simp,
  by intros;simp,
  by intros;simp,
  by intros;simp,
  by intros;simp,
  by intros;rfl,
  by intros;simp,
  by intros;simp,
  by intros;simp,
  by intros;simp,
  by intros;exact and_assoc,
  by intros;exact decide_eq_true_iff⟩,
  ⟨by intros;exact decide_eq_false_iff_not,
  by intros;simp,
  by intros;exact if_pos trivial,
  by intros;exact if_neg id,
  by intros;exact Classical.not_not,
  by intros;exact not_true,
  by intros;exact not_false_iff,
  by intros;simp,
  by intros;simp,
  by intros;rfl,
  by intros;rfl,
  by intros;simp,
  by intros;simp,
  by intros;simp,
  by intros;simp,
  by intros;simp,
  by intros;simp,
  by intros;rfl⟩,
  ⟨by intros;rfl,
  by intros;omega,
  by intros;exact Nat.zero_add _,
  by intros;exact Nat.add_zero _,
  by intros;simp,
  by intros;exact and_imp,
  by intros;simp,
  by intros;simp,
  by intros;simp,
  by intros;simp,
  by intros;rfl,
  by intros;rfl⟩⟩
end
section
open Go
section
variable {P:Program}
theorem akr {t:TypeId} {k:IntKind} {f:Nat} {as:List AV} (hu:P.underlying t=some (.int k)) (h:Hd P f t as): ∃n,as=[.int k n]/\(Lit.int k n).wf=true:=by
 cases f with
 |zero=>exact h.elim
 |succ f=>unfold Hd at h;rw[hu] at h;exact h
theorem asG {n:Int} (h:(Lit.int .u8 n).wf=true):0<=n/\n<256:=by
 have h1:IntKind.min .u8=0:=rfl
 have h2:IntKind.max .u8=255:=by decide
 simp[Lit.wf,h1,h2] at h
 omega
theorem ajy {t e:TypeId} {f:Nat} {as:List AV} (hu:P.underlying t=some (.slice e)) (h:Hd P f t as): ∃xs,as=[.vs xs .ao]/\xs.length<=maxLen/\ ∃f,∀row∈xs,Hd P f e row/\row.all AV.one=true:=by
 cases f with
 |zero=>exact h.elim
 |succ f=>unfold Hd at h;rw[hu] at h;obtain⟨xs,h1,h2,h3⟩:=h;exact⟨xs,h1,h2,f,h3⟩
theorem anJ {t e:TypeId} {a:AV} (hu:P.underlying t=some (.slice e)) (h:ze P t a): ∃xs,a= .vs xs .ao/\xs.length<=maxLen/\ ∃f,∀row∈xs,Hd P f e row/\row.all AV.one=true:=by
 obtain⟨f,h⟩:=h.ano hu rfl
 obtain⟨xs,h1,h2⟩:=ajy hu h
 cases h1
 exact⟨xs,rfl,h2⟩
theorem YK {α β:Type} {f:α->β} {p:α->Prop}: ∀{l:List β},(∀x∈l,∃a,x=f a/\p a)-> ∃m:List α,l=m.map f/\ ∀a∈m,p a
 |[],_=>⟨[],rfl,by simp⟩
 |x::xs,h=>by
  obtain⟨a,rfl,ha⟩:=h x (by simp)
  obtain⟨m,rfl,hm⟩:=YK (l:=xs) (fun y hy=>h y (List.mem_cons_of_mem _ hy))
  exact⟨a::m,rfl,fun b hb=>by rcases List.mem_cons.1 hb with rfl|hb;exact ha;exact hm b hb⟩
theorem axl {t e:TypeId} {k:IntKind} {a:AV} (hu:P.underlying t=some (.slice e)) (he:P.underlying e=some (.int k)) (h:ze P t a):
 ∃ns:List Int,a= .vs (ns.map fun n=>[.int k n]) .ao/\ns.length<=maxLen/\ ∀n∈ns,(Lit.int k n).wf=true:=by
 obtain⟨xs,rfl,h1,f,h2⟩:=anJ hu h
 obtain⟨m,rfl,hm⟩:=YK (f:=fun n=>[AV.int k n]) (p:=fun n=>(Lit.int k n).wf=true) (fun row hr=>akr he (h2 row hr).1)
 exact⟨m,rfl,by simpa using h1,hm⟩
end
end
section
open Go
section
variable {P:Program}
theorem an.strip {f:Nat} {args:List AV} {h h':aa} {r:AV} (hc:an P f args h r h'):an P f args h r.strip h':=by
 intro ι I w bP H hl
 refine(hc ι I w bP H hl).mono ?_
 rintro e w' ⟨v,ι',I',rfl,hv,H',E⟩
 exact⟨v,ι',I',rfl,hv.strip,H',E⟩
theorem an.freeze {f:Nat} {args:List AV} {h h':aa} {r:AV} (hc:an P f args h r h') {b:Nat} {cs:List AV} (hg:h'.get b=some (.cells cs)) (hb:h.next<=b)
 (hr:(AV.eK b cs r).bB (fun i=>i !=b)=true):an P f args h (AV.eK b cs r) (h'.set b none):=by
 intro ι I w bP H hl
 refine(hc ι I w bP H hl).mono ?_
 rintro e w' ⟨v,ι',I',rfl,hv,H',E⟩
 cases cj:ι' b with
 |none=>
  have jP:VR ι' I' w' (AV.eK b cs r) v:=by
   clear hr hc
   induction hv with
   |rs b' off len sz iy o' pB cap h1 h2 h3=>
    unfold AV.eK
    by_cases lD:b'=b
    ·subst lD;rw[cj] at h1;cases h1
    ·rw[if_neg lD];exact .rs b' off len sz iy o' pB cap h1 h2 h3
   |rk b' off len sz cap iy o' pB h1 h2 h3=>
    unfold AV.eK
    by_cases lD:b'=b
    ·rw[if_pos lD];exact .undef _
    ·rw[if_neg lD];exact .rk b' off len sz cap iy o' pB h1 h2 h3
   |agg xs sI hl hv ih=>exact .agg _ _ (by rw[Cv];exact hl) (fun i v c h1 h2=>by obtain⟨u,e1,rfl⟩:=Cw h1;exact ih i u c e1 h2)
   |az xs sI hl hv ih=>exact .az _ _ (by rw[Cv];exact hl) (fun i v c h1 h2=>by obtain⟨u,e1,rfl⟩:=Cw h1;exact ih i u c e1 h2)
   |vs xs t iy o' s cap g hs hI hc hv h1 bt ht ih=>exact .vs xs t iy o' s cap g hs hI hc hv h1 bt ht
   |gu t ht=>exact .gu t ht
   |fU t a cap ht=>exact .fU t a cap ht
   |undef v=>exact .undef v
   |int k n=>exact .int k n
   |bool b=>exact .bool b
   |fI k b=>exact .fI k b
   |fJ k a b=>exact .fJ k a b
   |str s=>exact .str s
   |nil=>exact .nil
   |ptr b off cb o room h=>exact .ptr b off cb o room h
   |vp xs off iy o' g hI hc hv h1 ih=>exact .vp xs off iy o' g hI hc hv h1
   |bx=>exact .bx
   |vz a cap=>exact .vz a cap
   |qm=>exact .qm
   |map b cb h=>exact .map b cb h
   |fn f fs cs eo bD hf hc h1 h2 fx kp=>exact .fn f fs cs eo bD hf hc h1 h2
   |jH=>exact .jH
   |fb v h=>exact .fb v h
  have a7: ∀i l x,ι' i=some l->(h'.set b none).get i=some x->h'.get i=some x:=fun i l x hi hx=>by
   have:i≠b:=fun e=>by rw[e,cj] at hi;cases hi
   simpa [aa.set,this] using hx
  refine⟨v,ι',I',rfl,jP,?_,?_⟩
  ·exact{cG:=H'.cG,inside:=H'.inside,cells:=fun i cs l hg hi=>H'.cells i cs l (a7 i l _ hi hg) hi,maps:=fun i es l hg hi=>H'.maps i es l (a7 i l _ hi hg) hi,eR:=fun i l hg hi=>H'.eR i l (a7 i l _ hi hg) hi
         dC:=fun i j l l' x x' k j' aM hi hj hg cF=>H'.dC i j l l' x x' k j' aM hi hj (a7 i l _ hi hg) (a7 j l' _ hj cF)
         bz:=fun i l x k j hi hg=>H'.bz i l x k j hi (a7 i l _ hi hg),dw:=H'.dw,pl:=fun i cs cb o room hg hi=>H'.pl i cs cb o room (a7 i _ _ hi hg) hi}
  ·exact{E with
         own:=fun k j ⟨i,l,x,hi,hg,hl⟩=>E.own k j ⟨i,l,x,hi,a7 i l _ hi hg,hl⟩
         lost:=fun i hn hi=>by
          have:i≠b:=by omega
          simp only[aa.set,this,if_false];exact E.lost i hn hi}
 |some l=>
  obtain⟨cb,o,room,rfl,_,_,_⟩:=H'.cells b cs l hg cj
  have jP:=hv.eK H' hg cj
  have a7: ∀i x,(h'.set b none).get i=some x->i≠b/\h'.get i=some x:=fun i x hx=>by
   by_cases rh:i=b
   ·subst rh;simp[aa.set] at hx
   ·exact⟨rh,by simpa [aa.set,rh] using hx⟩
  have cM: ∀a c,VR ι' I' w' a c->VR ι' (yj I' cb o room) w' a c:=fun a c h=>h.mono (fun _ _ h=>h) (fun _ _ h=> .inl h) (fun _ _ _=>rfl)
  refine⟨v,ι',yj I' cb o room,rfl,jP,?_,?_⟩
  ·exact
   {cG:=H'.cG,inside:=H'.inside
    cells:=fun i cs l hg hi=>by
     obtain⟨iy,o',pB,e1,e2,e3,e4⟩:=H'.cells i cs l (a7 i _ hg).2 hi
     exact⟨iy,o',pB,e1,e2,e3,fun j hj=>by obtain⟨c,g1,g2,g3⟩:=e4 j hj;exact⟨c,g1,g2,fun v hv=>cM _ _ (g3 v hv)⟩⟩
    maps:=fun i es l hg hi=>by
     obtain⟨iy,aV,clock,e1,e2,e3,e4⟩:=H'.maps i es l (a7 i _ hg).2 hi
     exact⟨iy,aV,clock,e1,e2,e3,fun j k v e h1 h2=>⟨cM _ _ (e4 j k v e h1 h2).1,cM _ _ (e4 j k v e h1 h2).2⟩⟩
    eR:=fun i l hg hi=>H'.eR i l (a7 i _ hg).2 hi
    dC:=fun i j l l' x x' k j' aM hi hj hg cF=>H'.dC i j l l' x x' k j' aM hi hj (a7 i _ hg).2 (a7 j _ cF).2
    bz:=fun i l x k j hi hg hl hk=>by
     rcases hk with hk|⟨rfl,h1,h2⟩
     ·exact H'.bz i l x k j hi (a7 i _ hg).2 hl hk
     ·exact H'.dC i b l _ x _ k j (a7 i _ hg).1 hi cj (a7 i _ hg).2 ‹_› hl rfl
    dw:=fun k j hk=>by
     rcases hk with hk|⟨rfl,_,_⟩
     ·exact H'.dw k j hk
     ·exact H'.inside b _ cj
    pl:=fun i cs cb o room hg hi=>H'.pl i cs cb o room (a7 i _ hg).2 hi}
  ·exact{E with
         bz:=fun k j h=> .inl (E.bz k j h)
         own:=fun k j ⟨i,l,x,hi,hg,hl⟩=>E.own k j ⟨i,l,x,hi,(a7 i _ hg).2,hl⟩
         gz:=fun k j hk=>by
          rcases hk with hk|⟨rfl,h1,h2⟩
          ·exact E.gz k j hk
          ·rcases E.own k j ⟨b,_,_,cj,‹_›,rfl⟩ with h|h
           ·exact .inr (.inl h)
           ·exact .inr (.inr h)
         lost:=fun i hn hi=>by
          have:i≠b:=by omega
          simp only[aa.set,this,if_false];exact E.lost i hn hi}
end
end
section
open Go
section
variable {α:Type}
theorem zA {sz:Nat}: ∀{rows:List (List α)},(∀r∈rows,r.length=sz)->rows.flatten.length=rows.length*sz
 |[],_=>by simp
 |r::rs,h=>by
  have h0:=h r (by simp)
  have:=zA (rows:=rs) (fun x hx=>h x (List.mem_cons_of_mem _ hx))
  simp[h0,this,Nat.succ_mul,Nat.add_comm]
theorem wT {sz:Nat}: ∀{rows:List (List α)} {i j:Nat} {row:List α},(∀r∈rows,r.length=sz)->rows[i]? =some row->j<sz->rows.flatten[i*sz+j]? =row[j]?
 |[],i,j,row,_,h,_=>by simp at h
 |r::rs,0,j,row,hl,h,hj=>by
  have h0:=hl r (by simp)
  simp at h;subst h
  simp only[List.flatten_cons,Nat.zero_mul,Nat.zero_add]
  rw[List.getElem?_append_left (by omega)]
 |r::rs,i+1,j,row,hl,h,hj=>by
  have h0:=hl r (by simp)
  have ih:=wT (rows:=rs) (i:=i) (j:=j) (row:=row) (fun x hx=>hl x (List.mem_cons_of_mem _ hx)) (by simpa using h) hj
  simp only[List.flatten_cons]
  rw[List.getElem?_append_right (by rw[Nat.succ_mul];omega)]
  rw[show(i+1)*sz+j-r.length=i*sz+j by rw[Nat.succ_mul];omega]
  exact ih
theorem Z6 {sz:Nat}: ∀{rows:List (List α)} {i:Nat} {row:List α},(∀r∈rows,r.length=sz)->rows[i]? =some row->(rows.flatten.drop (i*sz)).take sz=row
 |[],i,row,_,h=>by simp at h
 |r::rs,0,row,hl,h=>by
  have h0:=hl r (by simp)
  simp at h;subst h
  simp only[List.flatten_cons,Nat.zero_mul,List.drop_zero]
  rw[List.take_append_of_le_length (by omega),List.take_of_length_le (by omega)]
 |r::rs,i+1,row,hl,h=>by
  have h0:=hl r (by simp)
  have ih:=Z6 (rows:=rs) (i:=i) (row:=row) (fun x hx=>hl x (List.mem_cons_of_mem _ hx)) (by simpa using h)
  simp only[List.flatten_cons]
  rw[show(i+1)*sz=r.length+i*sz by rw[Nat.succ_mul];omega,List.drop_append,List.drop_eq_nil_of_le (by omega),Nat.add_sub_cancel_left,List.nil_append]
  exact ih
theorem Cx {sz:Nat}: ∀{rows:List (List α)} {i j:Nat} {row v:List α},(∀r∈rows,r.length=sz)->rows[i]? =some row->j+v.length<=sz->
 rows.flatten.take (i*sz+j)++v++rows.flatten.drop (i*sz+j+v.length)=(rows.set i (row.take j++v++row.drop (j+v.length))).flatten
 |[],i,j,row,v,_,h,_=>by simp at h
 |r::rs,0,j,row,v,hl,h,hj=>by
  have h0:=hl r (by simp)
  simp at h;subst h
  simp only[List.flatten_cons,Nat.zero_mul,Nat.zero_add,List.set_cons_zero]
  rw[List.take_append_of_le_length (by omega),List.drop_append_of_le_length (by omega)]
  simp[List.append_assoc]
 |r::rs,i+1,j,row,v,hl,h,hj=>by
  have h0:=hl r (by simp)
  have ih:=Cx (rows:=rs) (i:=i) (j:=j) (row:=row) (v:=v) (fun x hx=>hl x (List.mem_cons_of_mem _ hx)) (by simpa using h) hj
  simp only[List.flatten_cons,List.set_cons_succ]
  rw[<-ih]
  have e1:(i+1)*sz+j=r.length+(i*sz+j):=by rw[Nat.succ_mul];omega
  rw[e1,List.take_append,List.take_of_length_le (by omega),Nat.add_sub_cancel_left]
  rw[show r.length+(i*sz+j)+v.length=r.length+(i*sz+j+v.length) by omega,List.drop_append,List.drop_eq_nil_of_le (by omega),Nat.add_sub_cancel_left]
  simp[List.append_assoc]
end
section
variable {P:Program}
theorem ax.calls {T:fk} (ok:ax P T) {f:Nat} {rf:aA} (hf:T.fn f=some rf) {args:List AV} (ez:args.length<=rf.ntmps)
 {h h1:aa} {r:AV} (hw:WP P rf.code (JD rf.results r h1) (jZ args) h):an P f args h r h1:=by
 obtain⟨fn,md,h2,h3⟩:=ok.fn f rf hf
 exact ajV ok.follow h2 h3 ez hw
theorem ax.keeps {T:fk} (ok:ax P T) {f:Nat} {rf:aA} (hf:T.fn f=some rf) {args:List AV} (ez:args.length<=rf.ntmps)
 {h:aa} {r:AV} (hr:r.bB (fun b=>decide (b<h.next))=true) (hw:WP P rf.code (Js rf.results r h) (jZ args) h):an P f args h r h:=by
 obtain⟨fn,md,h2,h3⟩:=ok.fn f rf hf
 exact akI ok.follow h2 h3 ez hr hw
theorem av {h:aa} {b:Nat} {cs:List AV} (e:h.get b=some (.cells cs)):cellsOf h b=some cs:=by simp[cellsOf,e]
theorem aa.gj {h:aa} {b:Nat} {x:Option cI} (e:h.get b=x):h.set b x=h:=by
 unfold aa.set
 have:(fun i=>if i=b then x else h.get i)=h.get:=by funext i;by_cases hi:i=b<;>simp[hi,e]
 rw[this]
theorem Cy {al:List RO} {ρ:Env} {h:aa} {K:Env->aa->Prop} (Q:Env->Prop) (h1:exec P al ρ h (fun ρ' h'=>Q ρ'/\h'=h)) (h2: ∀ρ',Q ρ'->K ρ' h):exec P al ρ h K:=
 Nc (fun ρ' h' ⟨e1,e2⟩=>by rw[e2];exact h2 ρ' e1) h1
def vk (rs:List fv) (r:AV) (h0:aa):aQ->Env->aa->Prop
 | .normal,ρ,h=> ∃r0,(dL ρ h rs).map eQ=some r0/\r0.strip=r/\ ∀b,b<h0.next->h.get b=h0.get b
 | .ret,ρ,h=> ∃r0,(dL ρ h rs).map eQ=some r0/\r0.strip=r/\ ∀b,b<h0.next->h.get b=h0.get b
 |_,_,_=>False
theorem bE {rs:List fv} {r:AV} {h0:aa} {ρ:Env} {h:aa}:vk rs r h0 .ret ρ h↔ ∃r0,(dL ρ h rs).map eQ=some r0/\r0.strip=r/\ ∀b,b<h0.next->h.get b=h0.get b:=Iff.rfl
theorem ax.eM {T:fk} (ok:ax P T) {f:Nat} {rf:aA} (hf:T.fn f=some rf) {args:List AV} (ez:args.length<=rf.ntmps)
 {h:aa} {r:AV} (hr:r.bB (fun b=>decide (b<h.next))=true) (hw:WP P rf.code (vk rf.results r h) (jZ args) h):an P f args h r h:=by
 obtain⟨fn,md,h2,h3⟩:=ok.fn f rf hf
 obtain⟨e,ρ',h',hb,hk⟩:=hw
 cases e with
 |normal=>
  obtain⟨r0,hv,hs,hh⟩:=hk
  obtain⟨vs,hv,ht⟩:=Option.map_eq_some_iff.1 hv
  have:=(nw ok.follow h2 h3 ez hb (.inl rfl) hv).strip
  rw[ht,hs] at this
  exact this.restore hh hr
 |ret=>
  obtain⟨r0,hv,hs,hh⟩:=hk
  obtain⟨vs,hv,ht⟩:=Option.map_eq_some_iff.1 hv
  have:=(nw ok.follow h2 h3 ez hb (.inr rfl) hv).strip
  rw[ht,hs] at this
  exact this.restore hh hr
 |exit id=>exact hk.elim
 |goto l=>exact hk.elim
def DT (rs:List fv) (r:AV) (Q:aa->Prop):aQ->Env->aa->Prop
 | .ret,ρ,h=>(dL ρ h rs).map eQ=some r/\Q h
 | .normal,ρ,h=>(dL ρ h rs).map eQ=some r/\Q h
 |_,_,_=>False
theorem kE {rs:List fv} {r:AV} {Q:aa->Prop} {ρ:Env} {h:aa}:DT rs r Q .ret ρ h↔(dL ρ h rs).map eQ=some r/\Q h:=Iff.rfl
theorem XD {rs:List fv} {r:AV} {Q:aa->Prop} {ρ:Env} {h:aa}:DT rs r Q .normal ρ h↔(dL ρ h rs).map eQ=some r/\Q h:=Iff.rfl
theorem ax.dz {T:fk} (ok:ax P T) {f:Nat} {rf:aA} (hf:T.fn f=some rf) {args:List AV} (ez:args.length<=rf.ntmps) {h:aa} {r:AV} {Q:aa->Prop}
 (hw:WP P rf.code (DT rf.results r Q) (jZ args) h): ∃h',an P f args h r h'/\Q h':=by
 obtain⟨fn,md,h2,h3⟩:=ok.fn f rf hf
 obtain⟨e,ρ',h',hb,hk⟩:=hw
 cases e with
 |normal=>
  obtain⟨hv,hq⟩:=hk
  obtain⟨vs,yL,rfl⟩:=Option.map_eq_some_iff.1 hv
  exact⟨h',nw ok.follow h2 h3 ez hb (.inl rfl) yL,hq⟩
 |ret=>
  obtain⟨hv,hq⟩:=hk
  obtain⟨vs,yL,rfl⟩:=Option.map_eq_some_iff.1 hv
  exact⟨h',nw ok.follow h2 h3 ez hb (.inr rfl) yL,hq⟩
 |exit id=>exact hk.elim
 |goto l=>exact hk.elim
theorem akO {c body:aZ} {K:aQ->Env->aa->Prop} (l:Nat) (hf:fM c l=some (.seq .skip body)) (J:Nat->Env->aa->Prop) (dH: ∀l' ρ h,K (.goto l') ρ h->False)
 (pass: ∀n ρ h,J n ρ h->WP P body (kI l (fun ρ' h'=> ∃m,m<n/\J m ρ' h') K) ρ h) {n:Nat} {ρ:Env} {h:aa} (hJ:J n ρ h):WP P body (kI l (fun ρ' h'=> ∃m,J m ρ' h') K) ρ h:=
 (pass n ρ h hJ).mono (fun e ρ h hk=>by
   cases e with
   |goto l'=>
    simp only[kI] at hk ⊢
    split at hk
    ·rename_i hl;rw[if_pos hl];obtain⟨m,_,hm⟩:=hk;exact⟨m,hm⟩
    ·rename_i hl;rw[if_neg hl];exact hk
   |normal=>exact hk
   |exit id=>exact hk
   |ret=>exact hk)
theorem aof {body:aZ} {K:aQ->Env->aa->Prop} {l:Nat} {J:Nat->Env->aa->Prop} (pass: ∀n ρ h,J n ρ h->WP P body (kI l (fun ρ' h'=> ∃m,m<n/\J m ρ' h') K) ρ h):
 ∀n ρ h,J n ρ h->WP P (.seq .skip body) (kI l (fun ρ' h'=> ∃m,m<n/\J m ρ' h') K) ρ h:=fun n ρ h hJ=>Ht (Zt (pass n ρ h hJ))
def GR:aZ->Nat->Option (List aZ×aZ)
 | .seq a b,l=>match a with
   | .label l'=>match Nat.beq l' l with
     |true=>some ([],b)
     |false=>none
   |a=>match GR b l with
    |some (i,c)=>some (a::i,c)
    |none=>none
 |_,_=>none
def ND (l:Nat) (inits:List aZ):Bool:=inits.all fun c=>(fM c l).isNone
def j7 (inits:List aZ):aZ:=inits.foldr .seq .skip
theorem Xf {l:Nat} {body:aZ}: ∀{inits:List aZ} {c:aZ},GR c l=some (inits,body)->ND l inits=true->fM c l=some (.seq .skip body)/\c=inits.foldr .seq (.seq (.label l) body)
 |inits, .seq a b,hs,hn=>by
  unfold GR at hs
  split at hs
  ·split at hs
   ·rename_i l' hb
    cases hs
    have:=Nat.eq_of_beq_eq_true hb
    subst this
    exact⟨by simp[fM],rfl⟩
   ·cases hs
  ·rename_i aM
   split at hs
   ·rename_i i c wj
    cases hs
    simp only[ND,List.all_cons,Bool.and_eq_true] at hn
    obtain⟨h1,h2⟩:=Xf (inits:=i) (c:=b) wj hn.2
    refine⟨?_,by rw[h2];rfl⟩
    simp only[fM]
    rw[Option.isNone_iff_eq_none.1 hn.1,h1]
   ·cases hs
theorem lQ {c body:aZ} {inits:List aZ} {K:aQ->Env->aa->Prop} {ρ:Env} {h:aa} (l:Nat) (hs:GR c l=some (inits,body)) (hn:ND l inits=true) (J:Nat->Env->aa->Prop) (dH: ∀l' ρ h,K (.goto l') ρ h->False)
 (first:WP P (j7 inits) (i9 (fun ρ' h'=> ∃n,J n ρ' h') K) ρ h) (pass: ∀n ρ h,J n ρ h->WP P body (kI l (fun ρ' h'=> ∃m,m<n/\J m ρ' h') K) ρ h):WP P (.scope c) K ρ h:=by
 obtain⟨hf,hc⟩:=Xf hs hn
 refine ajA l hf J dH ?_ (aof pass)
 rw[hc]
 clear hs hn hc
 induction inits generalizing ρ h with
 |nil=>
  obtain⟨n,hJ⟩:=(aaU.1 first: ∃n,J n ρ h)
  exact Ht (YS (akO l hf J dH pass hJ))
 |cons a i ih=>
  have aqZ:WP P a (i9 (WP P (j7 i) (i9 (fun ρ' h'=> ∃n,J n ρ' h') K)) (i9 (fun ρ' h'=> ∃n,J n ρ' h') K)) ρ h:=tK.1 first
  refine Ht (aqZ.mono (fun e ρ h hk=>?_))
  cases e with
  |normal=>exact ih hk
  |goto l'=>exact(dH l' ρ h hk).elim
  |exit id=>exact hk
  |ret=>exact hk
theorem bw {n:Int} (h0: -(2^62)<=n) (h1:n<2^62):IntKind.wrap .i64 n=n:=by
 rw[IntKind.wrap_i64];omega
theorem se {n:Nat} (h1:n<2^62):IntKind.wrap .i64 (n:Int)=n:=bw (by omega) (by omega)
theorem cT {n:Nat} (h1:n<2^61):IntKind.wrap .i64 ((n:Int)+1)=((n+1:Nat):Int):=by rw[bw]<;>omega
theorem fC {n:Nat} (h1:n<2^64):IntKind.wrap .u64 (n:Int)=n:=by
 rw[IntKind.wrap];simp[IntKind.signed,IntKind.bits];omega
end
end
section
open Go
abbrev t (n:Nat):au:= .tmp n
abbrev z (n:Int):au:= .const (.int .i64 n)
abbrev kb (b:Bool):au:= .const (.bool b)
abbrev u8 (n:Int):au:= .const (.int .u8 n)
abbrev u16 (n:Int):au:= .const (.int .u16 n)
abbrev u64 (n:Int):au:= .const (.int .u64 n)
abbrev p (d:Nat) (q:a8):RO:=⟨some d,none, .p q⟩
abbrev m (d s:Nat):RO:=⟨some d,none, .p (.aj (.tmp s))⟩
abbrev b (d:Nat) (op:BinOp) (x y:au):RO:=⟨some d,none, .p (.bin false op x y)⟩
abbrev fa (d off s:Nat):RO:=⟨some d,none, .p (.Ax off (.tmp s))⟩
abbrev ld (d s:Nat):RO:=⟨some d,none, .p (.load false 1 (.tmp s))⟩
abbrev la (d n s:Nat):RO:=⟨some d,none, .p (.load true n (.tmp s))⟩
abbrev ia (d n s i:Nat):RO:=⟨some d,none, .p (.i5 n (.tmp s) (.tmp i))⟩
abbrev ln (d s:Nat):RO:=⟨some d,none, .p (.j9 (.tmp s))⟩
abbrev ex (d i s:Nat):RO:=⟨some d,none, .p (.ext i (.tmp s))⟩
abbrev gp (d g:Nat) (w:Bool) (q:a8):RO:=⟨some d,some (g,w), .p q⟩
abbrev gm (d g:Nat) (w:Bool) (s:Nat):RO:=⟨some d,some (g,w), .p (.aj (.tmp s))⟩
abbrev gb (d g:Nat) (w:Bool) (op:BinOp) (x y:au):RO:=⟨some d,some (g,w), .p (.bin false op x y)⟩
abbrev dP (d g:Nat) (w:Bool) (off s:Nat):RO:=⟨some d,some (g,w), .p (.Ax off (.tmp s))⟩
abbrev df (d g:Nat) (w:Bool) (s:Nat):RO:=⟨some d,some (g,w), .p (.load false 1 (.tmp s))⟩
abbrev oR (d g:Nat) (w:Bool) (n s i:Nat):RO:=⟨some d,some (g,w), .p (.i5 n (.tmp s) (.tmp i))⟩
abbrev gc (d g:Nat) (w:Bool) (f:Nat) (as:List au):RO:=⟨some d,some (g,w), .call f as⟩
abbrev s1 (a v:au):RO:=⟨none,none, .e (.store 1 a v)⟩
abbrev sn (n:Nat) (a v:au):RO:=⟨none,none, .e (.store n a v)⟩
abbrev c (d f:Nat) (as:List au):RO:=⟨some d,none, .call f as⟩
abbrev c0 (f:Nat) (as:List au):RO:=⟨none,none, .call f as⟩
abbrev e (d:Nat) (o:gf):RO:=⟨some d,none, .e o⟩
abbrev a (d:Nat) (o:kD):RO:=⟨some d,none, .a o⟩
end
section
open Go
variable {P:Program} {T:fk} {h:aa}
def nz (z:List AV) (jl sz:Nat):aA:=⟨(.seq (.af [p 2 (.aj (.const (.vs [] .full)))]) (.seq (.seq (.af [m 3 0,p 4 (.gG 1 false (t 3))]) (.cond (t 4) (.seq (.af [p 2 (.aj (.const (.vs [] .full)))]) .ret) .skip)) (.seq (.af [p 5 (.cr 0 z []),m 6 0,e 7 (.append jl sz (t 5) (t 6)),m 2 7]) .ret))),8,[.tmp 2]⟩
theorem alw (ok:ax P T) {f jl sz:Nat} {z:List AV} (hf:T.fn f=some (nz z jl sz)):an P f [.bx] h (.vs [] .full) h:=by
 refine ok.calls hf (by simp[nz]) ?_
 simp+decide only[st,nz]
theorem an2 (ok:ax P T) {f jl sz:Nat} {z:List AV} (hf:T.fn f=some (nz z jl sz)):an P f [.vz] h (.vs [] .full) h:=by
 refine ok.calls hf (by simp[nz]) ?_
 have h0:iQ (put (put (put (put (jZ [AV.vz]) (some 2) (.vs [] .full)) (some 3) .vz) (some 4) (.bool false)) none .undef) z.length (List.replicate 0 z) []=some []:=rfl
 simp+decide only[st,nz,iQ,List.replicate_zero,mr]
theorem an.vs0 {f:Nat} {as:List AV} {r:AV} {h':aa} (t:aH) (h1:an P f (.bx::as) h r h') (h2:an P f (.vz::as) h r h'):an P f (.vs [] t::as) h r h':=by
 intro ι I w bP H hl
 have h0:0<bP.toList.length:=by rw[<-hl.1];simp
 obtain⟨c,cs,eF⟩: ∃c cs,bP.toList=c::cs:=by
  cases hq:bP.toList with
  |nil=>rw[hq] at h0;simp at h0
  |cons c cs=>exact⟨c,cs,rfl⟩
 have hv:VR ι I w (.vs [] t) c:=hl.2 0 _ _ rfl (by rw[eF];rfl)
 have go: ∀a,VR ι I w a c->LR ι I w (a::as) bP.toList:=fun a ha=>⟨by rw[<-hl.1];rfl,fun i v u hi hu=>by
  cases i with
  |zero=>simp at hi;subst hi;rw[eF] at hu;simp at hu;subst hu;exact ha
  |succ i=>exact hl.2 (i+1) v u (by simpa using hi) hu⟩
 generalize hx:AV.vs [] t=x at hv
 cases hv<;>first|(cases hx;done)|skip
 case gu t' ht=>exact h1 ι I w bP H (go _ .bx)
 case fU t' a cap ht=>exact h2 ι I w bP H (go _ (.vz a cap))
 case vs xs t' cb o s cap g hs hI hc da cV bt ht=>
  cases hx
  exact h2 ι I w bP H (go _ (.vz _ cap))
theorem MG (ok:ax P T) {f jl sz:Nat} {z:List AV} (hf:T.fn f=some (nz z jl sz)) {t:aH}:an P f [.vs [] t] h (.vs [] .full) h:=
 .vs0 t (alw ok hf) (an2 ok hf)
theorem MY (ok:ax P T) {f jl sz:Nat} {z:List AV} (hf:T.fn f=some (nz z jl sz)) {x:AV} {rows:List (List AV)} (hx:iM 1 x=some false) (hr:cQ sz h x=some rows) (aM:rows≠[])
 (h1:rows.length*jl<2^40) (h2:rows.length<2^40):an P f [x] h (.vs rows (.own h.next)) (h.at h.next .tail):=by
 refine ok.calls hf (by simp[nz]) ?_
 have ha:mr jl sz h.next h (.vs [] .full) (some rows)=some (.vs rows (.own h.next),h.at h.next .tail):=by
  simp only[mr,List.nil_append,List.length_nil,Nat.zero_add]
  rw[if_neg aM,if_pos ⟨rfl,h1,h2⟩]
 simp+decide only[st,nz,iQ,List.replicate_zero,hx,hr,ha]
theorem an.aiG {f b off n sz:Nat} {as:List AV} {r:AV} {h':aa} (hc: ∀cap,n<=cap->an P f (.rk b off n sz cap::as) h r h'):an P f (.rs b off n sz::as) h r h':=by
 intro ι I w bP H hl
 have h0:0<bP.toList.length:=by rw[<-hl.1];simp
 obtain⟨c,cs,eF⟩: ∃c cs,bP.toList=c::cs:=by
  cases hq:bP.toList with
  |nil=>rw[hq] at h0;simp at h0
  |cons c cs=>exact⟨c,cs,rfl⟩
 have hv:VR ι I w (.rs b off n sz) c:=hl.2 0 _ _ rfl (by rw[eF];rfl)
 have go: ∀a,VR ι I w a c->LR ι I w (a::as) bP.toList:=fun a ha=>⟨by rw[<-hl.1];rfl,fun i v u hi hu=>by
  cases i with
  |zero=>simp at hi;subst hi;rw[eF] at hu;simp at hu;subst hu;exact ha
  |succ i=>exact hl.2 (i+1) v u (by simpa using hi) hu⟩
 cases hv
 rename_i cb o room cap h1 h2 h3
 exact hc cap h2 ι I w bP H (go _ (.rk b off n sz cap cb o room h1 h2 h3))
def jN (h:aa) (b:Nat) (cs:List AV):aa:=((h.set b none).clean 19).at (h.next+19) (.cells cs)
theorem an.fin {f b o0 n m c sz sz0:Nat} {a0 r0:AV} {as:List AV} {cs:List AV} {h1:aa} (j:Nat) (hc:an P f (a0::as) h r0 h1) (ha:a0= .rs b o0 n sz0\/ ∃cap,a0= .rk b o0 n sz0 cap) (hr:r0= .rs c 0 m sz\/ ∃cap,r0= .rk c 0 m sz cap)
 (hg:h1.get c=some (.cells cs)) (dm:c=b\/h.next<=c) (hn:h1.next<=h.next+19) (hk: ∀x,x<h.next->x≠b->h1.get x=h.get x):
 an P f (a0::as) h (.rs (h.next+19) 0 m sz) (jN h b (cs.take j)):=by
 intro ι I w bP H hl
 have h0:0<bP.toList.length:=by rw[<-hl.1];simp
 have LD:VR ι I w a0 bP.toList[0]:=hl.2 0 _ _ rfl (List.getElem?_eq_getElem h0)
 have uB: ∃l,ι b=some l:=by
  generalize bP.toList[0]=c at LD
  rcases ha with rfl|⟨cap,rfl⟩<;>(cases LD;exact⟨_,by assumption⟩)
 obtain⟨l0,wy⟩:=uB
 refine(hc ι I w bP H hl).mono ?_
 rintro e w' ⟨v,ι',I',rfl,hv,H',E⟩
 have yf: ∃cb o room cap,ι' c=some (.cells cb o room)/\m<=cap/\0+cap*sz<=room/\v= .slice (some ⟨cb,o+0,none⟩) m cap:=by
  rcases hr with rfl|⟨cap,rfl⟩<;>(cases hv;exact⟨_,_,_,_,by assumption,by assumption,by assumption,rfl⟩)
 obtain⟨cb,o,room,cap,e1,e2,e3,rfl⟩:=yf
 obtain⟨_,_,_,yf,eN,cV,bq⟩:=H'.cells c cs _ hg e1
 cases yf
 have L8:ι' (h.next+19)=none:=by
  cases hq:ι' (h.next+19) with
  |none=>rfl
  |some l=>have:=H'.cG _ l hq;omega
 have a7: ∀x y,((h.set b none).clean 19).get x=some y->x<h.next/\x≠b/\h1.get x=some y:=fun x y hx=>by
  by_cases aC:x<h.next
  ·by_cases aM:x=b
   ·simp[aa.clean,aa.set,aM] at hx
   ·have oI:h.get x=some y:=by simpa [aa.clean,aa.set,aC,aM] using hx
    exact⟨aC,aM,by rw[hk x aC aM];exact oI⟩
  ·have kc: ¬x<(h.set b none).next:=aC
   simp[aa.clean,kc] at hx
 have fg:((h.set b none).clean 19).next=h.next+19:=rfl
 have HB:HR ι' I' ((h.set b none).clean 19) w':=H'.DF (fun i l hi=>by have:=H'.cG i l hi;omega) (fun i l x hi hx=>(a7 i x hx).2.2)
 have aE:cb<w'.heap.size:=H'.inside c _ e1
 have H3:=HB.xQ (id:=h.next+19) (l:= .cells cb o room) (x:= .cells (cs.take j)) (fun l' bj=>by rw[L8] at bj;cases bj) aE
  ⟨by simp;omega,fun v hv=>cV v (List.mem_of_mem_take hv),fun j' hj=>(by
    obtain⟨u,g1,g2,g3⟩:=bq j' hj
    refine⟨u,g1,g2,fun v hv=>g3 v ?_⟩
    rw[List.getElem?_take] at hv
    split at hv
    ·exact hv
    ·cases hv),H'.pl c cs cb o room hg e1⟩
  (fun k' j' bj=>⟨fun⟨i,l',y,hi,dV,jh⟩=>by
    obtain⟨q1,q2,q3⟩:=a7 i y dV
    exact H'.dC i c l' _ y _ k' j' (by omega) hi e1 q3 hg jh bj,H'.bz c _ _ k' j' e1 hg bj⟩)
 refine⟨_,_,I',rfl,?_,H3,?_⟩
 ·exact .rs (h.next+19) 0 m sz cb o room cap (aI.gj _ _ _) e2 e3
 ·refine{eZ:=fun i hi=>?_,bM:=fun i l hi=>?_,next:=by simp[jN,aa.at,aa.set,aa.clean];omega,bz:=E.bz,os:=E.os,tape:=E.tape,output:=E.output,size:=E.size,block:=E.block,cell:=E.cell,frozen:=E.frozen,own:=?_,gz:=E.gz,lost:=?_}
  ·rw[aI.eP _ _ (by omega)];exact E.eZ i hi
  ·have:=E.bM i l hi
   rw[aI.eP _ _ (fun he=>by rw[he,L8] at this;cases this)];exact this
  ·rintro k' j' ⟨i,l,x,hi,dV,bj⟩
   by_cases iK:i=h.next+19
   ·subst iK;rw[aI.gj] at hi;cases hi
    exact E.own k' j' ⟨c,_,_,e1,hg,bj⟩
   ·rw[aI.eP _ _ iK] at hi
    have Fo:((h.set b none).clean 19).get i=some x:=by simpa [jN,aa.at,iK] using dV
    exact E.own k' j' ⟨i,l,x,hi,(a7 i x Fo).2.2,bj⟩
  ·intro i hi vQ
   have rh:i≠b:=fun he=>by rw[he,wy] at vQ;cases vQ
   have hih: ¬i=h.next+19:=by omega
   have aC:i<h.next:=by omega
   simp[jN,aa.at,aa.clean,aa.set,hih,rh,aC]
theorem bJ {al:List RO} {un:List (List Nat)} {K:aQ->Env->aa->Prop} {ρ:Env} (n:Nat) (hn:al.length=n) (hu:un.all (·.isEmpty)=true) (he:bL P n h.next al 0 ρ (h.clean n) (K .normal)):WP P (.aU al un) K ρ h:=by
 subst hn
 exact Hs hu he
end
end Go.Proofs.YtmffhohcjifllaaGreat.Am
