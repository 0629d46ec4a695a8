/- An abstract machine, and that what it does the program's model does. Conditions: none. -/
import Derived.Orders
import Derived.Laws.Sem
import Derived.Laws.World
import Derived.Laws.Cells
import Derived.Laws.Rows
import Derived.Below
import Derived.Deep.MidRow
import Derived.Deep.AppendSrc
import Derived.Laws.MakeOwn
import Derived.Great.BuildSlice
import Derived.Laws.Small
import Derived.Laws.StructEq
import Derived.Deep.Upon
import Derived.Lib.AppendZerosOnto
import Derived.Lib.Overlaps
import Derived.Scope
import Derived.LoopN
import Derived.ProofKit
import Derived.WideKeyArgs
import Derived.Handed
set_option maxRecDepth 100000
set_option maxHeartbeats 8000000
set_option linter.unusedSimpArgs false
set_option linter.unusedVariables false
set_option linter.unnecessarySimpa false
namespace Go.Proofs.YtmffhohcjifllaaGreat.Am
section
open Go
inductive aH where
 |ao
 |full
 |own (t:Nat)
 deriving DecidableEq,Repr,Inhabited
inductive AV where
 |undef
 |int (k:IntKind) (n:Int)
 |bool (b:Bool)
 |fI (k:FloatKind) (b:Nat)
 |fJ (k:FloatKind) (re im:Nat)
 |str (s:ByteArray)
 |nil
 |ptr (b off:Nat)
 |vp (xs:List AV) (off:Nat)
 |vs (xs:List (List AV)) (t:aH)
 |bx
 |rs (b off len sz:Nat)
 |rk (b off len sz cap:Nat)
 |vz
 |map (b:Option Nat)
 |fn (f:Nat) (first dX:List AV)
 |jH
 |agg (cs:List AV)
 |az (vs:List AV)
 |fb
 deriving Inhabited
def AV.cells:AV->List AV
 | .agg cs=>cs
 |v=>[v]
def AV.one:AV->Bool
 | .agg _=>false
 | .az _=>false
 | .undef=>false
 |_=>true
inductive cI where
 |cells (cs:List AV)
 |map (es:List (AV×AV))
 |tail
 deriving Inhabited
structure aa where
 get:Nat->Option cI
 next:Nat
def aa.set (h:aa) (b:Nat) (x:Option cI):aa:={h with get:=fun i=>if i=b then x else h.get i}
def aa.new (h:aa) (x:cI):aa:={get:=fun i=>if i=h.next then some x else h.get i,next:=h.next+1}
def aa.empty:aa:={get:=fun _=>none,next:=0}
inductive Loc where
 |cells (cb o room:Nat)
 |map (cb:Nat)
 |tail (cb lo hi:Nat)
def Loc.has:Loc->Nat->Nat->Prop
 | .cells c _ _,k,_=>k=c
 | .map c,k,_=>k=c
 | .tail c lo hi,k,j=>k=c/\lo<=j/\j<hi
def Loc.block:Loc->Nat
 | .cells c _ _=>c
 | .map c=>c
 | .tail c _ _=>c
abbrev aI:=Nat->Option Loc
abbrev aR:=Nat->Nat->Prop
def QY (ι:aI) (cb o s len cap:Nat):aH->Prop
 | .ao=>True
 | .full=>cap=len
 | .own t=>0<len/\ι t=some (.tail cb (o+len*s) (o+cap*s))
inductive VR (ι:aI) (I:aR) (w:World):AV->Value->Prop
 |undef (v:Value):VR ι I w .undef v
 |int (k:IntKind) (n:Int):VR ι I w (.int k n) (.int k n)
 |bool (b:Bool):VR ι I w (.bool b) (.bool b)
 |fI (k:FloatKind) (b:Nat):VR ι I w (.fI k b) (.float k b)
 |fJ (k:FloatKind) (re im:Nat):VR ι I w (.fJ k re im) (.complex k re im)
 |str (s:ByteArray):VR ι I w (.str s) (.string s)
 |nil:VR ι I w .nil (.pointer none)
 |ptr (b off cb o room:Nat) (h:ι b=some (.cells cb o room)):VR ι I w (.ptr b off) (.pointer (some ⟨cb,o+off,none⟩))
 |vp (xs:List AV) (off cb o:Nat) (g:Nat->Value)
   (hI: ∀j,j<xs.length->I cb (o+j)) (hc: ∀j,j<xs.length->w.cell? ⟨cb,o+j,none⟩=some (g j))
   (hv: ∀(j:Nat) (v:AV),xs[j]? =some v->VR ι I w v (g j)) (h1: ∀v∈xs,v.one=true):VR ι I w (.vp xs off) (.pointer (some ⟨cb,o+off,none⟩))
 |vs (xs:List (List AV)) (t:aH) (cb o s cap:Nat) (g:Nat->Nat->Value)
   (hs: ∀(i:Nat) (row:List AV),xs[i]? =some row->row.length=s)
   (hI: ∀i j,i<xs.length->j<s->I cb (o+i*s+j))
   (hc: ∀i j,i<xs.length->j<s->w.cell? ⟨cb,o+i*s+j,none⟩=some (g i j))
   (hv: ∀(i:Nat) (row:List AV) (j:Nat) (v:AV),xs[i]? =some row->row[j]? =some v->VR ι I w v (g i j))
   (h1: ∀row∈xs,∀v∈row,AV.one v=true)
   (bt:xs.length<=cap) (ht:QY ι cb o s xs.length cap t):
   VR ι I w (.vs xs t) (.slice (some ⟨cb,o,none⟩) xs.length cap)
 |gu (t:aH) (ht:t= .ao\/t= .full):VR ι I w (.vs [] t) (.slice none 0 0)
 |fU (t:aH) (a:Addr) (cap:Nat) (ht:t= .ao\/(t= .full/\cap=0)):VR ι I w (.vs [] t) (.slice (some a) 0 cap)
 |bx:VR ι I w .bx (.slice none 0 0)
 |rs (b off len sz cb o room cap:Nat) (h:ι b=some (.cells cb o room)) (hlen:len<=cap) (bt:off+cap*sz<=room):
   VR ι I w (.rs b off len sz) (.slice (some ⟨cb,o+off,none⟩) len cap)
 |rk (b off len sz cap cb o room:Nat) (h:ι b=some (.cells cb o room)) (hlen:len<=cap) (bt:off+cap*sz<=room):
   VR ι I w (.rk b off len sz cap) (.slice (some ⟨cb,o+off,none⟩) len cap)
 |vz (a:Addr) (cap:Nat):VR ι I w .vz (.slice (some a) 0 cap)
 |qm:VR ι I w (.map none) (.map none)
 |map (b cb:Nat) (h:ι b=some (.map cb)):VR ι I w (.map (some b)) (.map (some cb))
 |fn (f:Nat) (fs cs:List AV) (eo bD:List Value) (hf:fs.length=eo.length) (hc:cs.length=bD.length)
   (LV: ∀(i:Nat) (v:AV) (c:Value),fs[i]? =some v->eo[i]? =some c->VR ι I w v c)
   (fZ: ∀(i:Nat) (v:AV) (c:Value),cs[i]? =some v->bD[i]? =some c->VR ι I w v c):
   VR ι I w (.fn f fs cs) (.func (.func f) eo.toArray bD.toArray)
 |jH:VR ι I w .jH .nilFunc
 |agg (cs:List AV) (bD:List Value) (hl:cs.length=bD.length) (hv: ∀(i:Nat) (v:AV) (c:Value),cs[i]? =some v->bD[i]? =some c->VR ι I w v c):
   VR ι I w (.agg cs) (.agg bD.toArray)
 |az (cs:List AV) (bD:List Value) (hl:cs.length=bD.length) (hv: ∀(i:Nat) (v:AV) (c:Value),cs[i]? =some v->bD[i]? =some c->VR ι I w v c):
   VR ι I w (.az cs) (.tuple bD.toArray)
 |fb (v:Value) (h:v.oneCell'=true):VR ι I w .fb v
def eB (ι:aI) (h:aa) (k j:Nat):Prop:= ∃b l x,ι b=some l/\h.get b=some x/\l.has k j
def nM (es:Array MapEntry) (clock:Nat):Prop:=(∀e∈es.toList,e.born<clock)/\(es.toList.map (·.born)).Nodup
structure HR (ι:aI) (I:aR) (h:aa) (w:World):Prop where
 cG: ∀b l,ι b=some l->b<h.next
 inside: ∀b l,ι b=some l->l.block<w.heap.size
 cells: ∀b cs l,h.get b=some (.cells cs)->ι b=some l-> ∃cb o room,l= .cells cb o room/\cs.length<=room/\(∀v∈cs,v.one=true)/\
  (∀j,j<room-> ∃c,w.cell? ⟨cb,o+j,none⟩=some c/\w.frozen? ⟨cb,o+j,none⟩=false/\ ∀v,cs[j]? =some v->VR ι I w v c)
 maps: ∀b es l,h.get b=some (.map es)->ι b=some l-> ∃cb aV clock,l= .map cb/\w.heap[cb]? =some (.map aV clock)/\(es.length=aV.size/\nM aV clock)/\
  (∀(i:Nat) (k v:AV) (e:MapEntry),es[i]? =some (k,v)->aV[i]? =some e->VR ι I w k e.key/\VR ι I w v e.val)
 eR: ∀b l,h.get b=some .tail->ι b=some l-> ∃cb lo hi,l= .tail cb lo hi/\
  ∀j,lo<=j->j<hi-> ∃c,w.cell? ⟨cb,j,none⟩=some c/\w.frozen? ⟨cb,j,none⟩=false
 dC: ∀b b' l l' x x' k j,b≠b'->ι b=some l->ι b'=some l'->h.get b=some x->h.get b'=some x'->l.has k j->l'.has k j->False
 bz: ∀b l x k j,ι b=some l->h.get b=some x->l.has k j-> ¬I k j
 dw: ∀k j,I k j->k<w.heap.size
 pl: ∀b cs cb o room,h.get b=some (.cells cs)->ι b=some (.cells cb o room)-> ∀n,w.frozen? ⟨cb,n,none⟩=false
structure Ext (N:Nat->Prop) (ι:aI) (I:aR) (h:aa) (w:World) (ι':aI) (I':aR) (h':aa) (w':World):Prop where
 eZ: ∀b,¬N b->ι' b=ι b
 bM: ∀b l,ι b=some l->ι' b=some l
 next:h.next<=h'.next
 bz: ∀k j,I k j->I' k j
 os:w'.os=w.os
 tape:w'.tape=w.tape
 output:w'.output=w.output
 size:w.heap.size<=w'.heap.size
 block: ∀k,k<w.heap.size->(∀j,¬eB ι h k j)->w'.heap[k]? =w.heap[k]?
 cell: ∀k j,k<w.heap.size-> ¬eB ι h k j->w'.cell? ⟨k,j,none⟩=w.cell? ⟨k,j,none⟩
 frozen: ∀k j,k<w.heap.size-> ¬eB ι h k j->w'.frozen? ⟨k,j,none⟩=w.frozen? ⟨k,j,none⟩
 own: ∀k j,eB ι' h' k j->eB ι h k j\/w.heap.size<=k
 gz: ∀k j,I' k j->I k j\/eB ι h k j\/w.heap.size<=k
 lost: ∀b,¬N b->ι b=none->h'.get b=h.get b
theorem VR.mono {ι ι':aI} {I I':aR} {w w':World} (hι: ∀b l,ι b=some l->ι' b=some l) (hI: ∀k j,I k j->I' k j)
 (hw: ∀k j,I k j->w'.cell? ⟨k,j,none⟩=w.cell? ⟨k,j,none⟩) {a:AV} {v:Value} (h:VR ι I w a v):VR ι' I' w' a v:=by
 induction h with
 |undef v=>exact .undef v
 |int k n=>exact .int k n
 |bool b=>exact .bool b
 |fI k b=>exact .fI k b
 |fJ k a b=>exact .fJ k a b
 |str s=>exact .str s
 |nil=>exact .nil
 |ptr b off cb o room h=>exact .ptr b off cb o room (hι _ _ h)
 |vp xs off cb o g h1 h2 _ dc ih=>exact .vp xs off cb o g (fun j hj=>hI _ _ (h1 j hj)) (fun j hj=>by rw[hw _ _ (h1 j hj)];exact h2 j hj) ih dc
 |vs xs t cb o s cap g hs h1 h2 _ dc bt ht ih=>
  refine .vs xs t cb o s cap g hs (fun i j hi hj=>hI _ _ (h1 i j hi hj)) (fun i j hi hj=>by rw[hw _ _ (h1 i j hi hj)];exact h2 i j hi hj) ih dc bt ?_
  cases t with
  |ao=>trivial
  |full=>exact ht
  |own t=>exact⟨ht.1,hι _ _ ht.2⟩
 |gu t ht=>exact .gu t ht
 |fU t a cap ht=>exact .fU t a cap ht
 |bx=>exact .bx
 |rs b off len sz cb o room cap h h1 h2=>exact .rs b off len sz cb o room cap (hι _ _ h) h1 h2
 |rk b off len sz cap cb o room h h1 h2=>exact .rk b off len sz cap cb o room (hι _ _ h) h1 h2
 |vz a cap=>exact .vz a cap
 |qm=>exact .qm
 |map b cb h=>exact .map b cb (hι _ _ h)
 |fn f fs cs eo bD hf hc _ _ fx kp=>exact .fn f fs cs eo bD hf hc fx kp
 |jH=>exact .jH
 |agg cs bD hl _ ih=>exact .agg cs bD hl ih
 |az cs bD hl _ ih=>exact .az cs bD hl ih
 |fb v h=>exact .fb v h
theorem VR.one {ι:aI} {I:aR} {w:World} {a:AV} {v:Value} (h:VR ι I w a v) (h1:a.one=true):v.oneCell'=true:=by
 cases h<;>first|rfl|assumption|(simp[AV.one] at h1)
mutual
def AV.strip:AV->AV
 | .vs xs _=> .vs (AV.fy xs) .ao
 | .agg xs=> .agg (AV.bA xs)
 | .az xs=> .az (AV.bA xs)
 |v=>v
def AV.bA:List AV->List AV
 |[]=>[]
 |x::xs=>x.strip::AV.bA xs
def AV.fy:List (List AV)->List (List AV)
 |[]=>[]
 |x::xs=>AV.bA x::AV.fy xs
end
theorem Ce: ∀{l:List AV},(AV.bA l).length=l.length
 |[]=>rfl
 |x::xs=>by simp[AV.bA,Ce (l:=xs)]
theorem Ca: ∀{l:List (List AV)},(AV.fy l).length=l.length
 |[]=>rfl
 |x::xs=>by simp[AV.fy,Ca (l:=xs)]
theorem zk: ∀{l:List AV} {i:Nat} {v:AV},(AV.bA l)[i]? =some v-> ∃u,l[i]? =some u/\v=u.strip
 |[],i,v,h=>by simp[AV.bA] at h
 |x::xs,i,v,h=>by
  cases i with
  |zero=>simp[AV.bA] at h;exact⟨x,rfl,h.symm⟩
  |succ i=>obtain⟨u,h1,h2⟩:=zk (l:=xs) (i:=i) (by simpa [AV.bA] using h);exact⟨u,by simpa using h1,h2⟩
theorem GO: ∀{l:List (List AV)} {i:Nat} {v:List AV},(AV.fy l)[i]? =some v-> ∃u,l[i]? =some u/\v=AV.bA u
 |[],i,v,h=>by simp[AV.fy] at h
 |x::xs,i,v,h=>by
  cases i with
  |zero=>simp[AV.fy] at h;exact⟨x,rfl,h.symm⟩
  |succ i=>obtain⟨u,h1,h2⟩:=GO (l:=xs) (i:=i) (by simpa [AV.fy] using h);exact⟨u,by simpa using h1,h2⟩
theorem AV.al0 {v:AV}:v.strip.one=v.one:=by cases v<;>simp[AV.strip,AV.one]
theorem VR.strip {ι:aI} {I:aR} {w:World} {a:AV} {v:Value} (h:VR ι I w a v):VR ι I w a.strip v:=by
 induction h with
 |vs xs t cb o s cap g hs hI hc hv h1 bt ht ih=>
  have:=VR.vs (ι:=ι) (I:=I) (w:=w) (AV.fy xs) .ao cb o s cap g
   (fun i row hi=>by obtain⟨u,e1,rfl⟩:=GO hi;rw[Ce];exact hs i u e1)
   (fun i j hi hj=>hI i j (by rwa [Ca] at hi) hj)
   (fun i j hi hj=>hc i j (by rwa [Ca] at hi) hj)
   (fun i row j v hi hj=>by
     obtain⟨u,e1,rfl⟩:=GO hi
     obtain⟨x,e2,rfl⟩:=zk hj
     exact ih i u j x e1 e2)
   (fun row hr v da=>by
     obtain⟨i,hi⟩:=List.mem_iff_getElem?.1 hr
     obtain⟨u,e1,rfl⟩:=GO hi
     obtain⟨j,hj⟩:=List.mem_iff_getElem?.1 da
     obtain⟨x,e2,rfl⟩:=zk hj
     rw[AV.al0]
     exact h1 u (List.mem_of_getElem? e1) x (List.mem_of_getElem? e2))
   (by rw[Ca];exact bt) trivial
  rw[Ca] at this
  exact this
 |gu t ht=>exact .gu _ (.inl rfl)
 |fU t a cap ht=>exact .fU _ _ _ (.inl rfl)
 |agg cs bD hl hv ih=>exact .agg _ _ (by rw[Ce];exact hl) (fun i v c h1 h2=>by obtain⟨u,e1,rfl⟩:=zk h1;exact ih i u c e1 h2)
 |az cs bD hl hv ih=>exact .az _ _ (by rw[Ce];exact hl) (fun i v c h1 h2=>by obtain⟨u,e1,rfl⟩:=zk h1;exact ih i u c e1 h2)
 |undef v=>exact .undef v
 |int k n=>exact .int k n
 |bool b=>exact .bool b
 |fI k b=>exact .fI k b
 |fJ k a b=>exact .fJ k a b
 |str s=>exact .str s
 |nil=>exact .nil
 |ptr b off cb o room h=>exact .ptr b off cb o room h
 |vp xs off cb o g hI hc hv h1 ih=>exact .vp xs off cb o g hI hc hv h1
 |bx=>exact .bx
 |rs b off len sz cb o room cap h h1 h2=>exact .rs b off len sz cb o room cap h h1 h2
 |rk b off len sz cap cb o room h h1 h2=>exact .rk b off len sz cap cb o room h h1 h2
 |vz a cap=>exact .vz a cap
 |qm=>exact .qm
 |map b cb h=>exact .map b cb h
 |fn f fs cs eo bD hf hc h1 h2 fx kp=>exact .fn f fs cs eo bD hf hc h1 h2
 |jH=>exact .jH
 |fb v h=>exact .fb v h
theorem HR.ann {ι:aI} {I:aR} {h:aa} {w:World} (H:HR ι I h w) {k j:Nat} (hI:I k j): ¬eB ι h k j:=
 fun⟨_,l,_,hb,hg,hl⟩=>H.bz _ l _ k j hb hg hl hI
theorem Ext.vr {N:Nat->Prop} {ι ι':aI} {I I':aR} {h h':aa} {w w':World} (E:Ext N ι I h w ι' I' h' w') (H:HR ι I h w) {a:AV} {v:Value}
 (hv:VR ι I w a v):VR ι' I' w' a v:=
 hv.mono E.bM E.bz fun k j hI=>E.cell k j (H.dw k j hI) (H.ann hI)
theorem Ext.refl (N:Nat->Prop) (ι:aI) (I:aR) (h:aa) (w:World):Ext N ι I h w ι I h w where
 eZ _ _:=rfl
 bM _ _ h:=h
 next:=Nat.le_refl _
 bz _ _ h:=h
 os:=rfl
 tape:=rfl
 output:=rfl
 size:=Nat.le_refl _
 block _ _ _:=rfl
 cell _ _ _ _:=rfl
 frozen _ _ _ _:=rfl
 own _ _ h:= .inl h
 gz _ _ h:= .inl h
 lost _ _ _:=rfl
theorem Ext.trans {N N':Nat->Prop} {ι₁ ι₂ ι₃:aI} {I₁ I₂ I₃:aR} {h₁ h₂ h₃:aa} {w₁ w₂ w₃:World}
 (E:Ext N ι₁ I₁ h₁ w₁ ι₂ I₂ h₂ w₂) (F:Ext N' ι₂ I₂ h₂ w₂ ι₃ I₃ h₃ w₃) (hN: ∀b,N' b->N b):Ext N ι₁ I₁ h₁ w₁ ι₃ I₃ h₃ w₃ where
 eZ b hb:=(F.eZ b (fun h=>hb (hN b h))).trans (E.eZ b hb)
 bM b l h:=F.bM b l (E.bM b l h)
 next:=Nat.le_trans E.next F.next
 bz k j h:=F.bz k j (E.bz k j h)
 os:=F.os.trans E.os
 tape:=F.tape.trans E.tape
 output:=F.output.trans E.output
 size:=Nat.le_trans E.size F.size
 block k hk ho:=by
  rw[F.block k (Nat.lt_of_lt_of_le hk E.size) (fun j hj=>(E.own k j hj).elim (ho j) (fun h=>by omega)),E.block k hk ho]
 cell k j hk ho:=by
  rw[F.cell k j (Nat.lt_of_lt_of_le hk E.size) (fun hj=>(E.own k j hj).elim ho (fun h=>by omega)),E.cell k j hk ho]
 frozen k j hk ho:=by
  rw[F.frozen k j (Nat.lt_of_lt_of_le hk E.size) (fun hj=>(E.own k j hj).elim ho (fun h=>by omega)),E.frozen k j hk ho]
 own k j h:=by
  rcases F.own k j h with h|h
  ·exact E.own k j h
  ·exact .inr (Nat.le_trans E.size h)
 gz k j h:=by
  rcases F.gz k j h with h|h|h
  ·exact E.gz k j h
  ·rcases E.own k j h with h|h
   ·exact .inr (.inl h)
   ·exact .inr (.inr h)
  ·exact .inr (.inr (Nat.le_trans E.size h))
 lost b hb hi:=by rw[F.lost b (fun h=>hb (hN b h)) (by rw[E.eZ b hb,hi]),E.lost b hb hi]
theorem Ext.mono {N N':Nat->Prop} {ι ι':aI} {I I':aR} {h h':aa} {w w':World} (E:Ext N ι I h w ι' I' h' w') (hN: ∀b,N b->N' b):Ext N' ι I h w ι' I' h' w':=
 {E with eZ:=fun b hb=>E.eZ b (fun h=>hb (hN b h)),lost:=fun b hb=>E.lost b (fun h=>hb (hN b h))}
theorem akw {p:Nat->AV->Value->Prop}: ∀(l:List AV),(∀j v,l[j]? =some v-> ∃c,p j v c)->
 ∃l':List Value,l.length=l'.length/\ ∀j v c,l[j]? =some v->l'[j]? =some c->p j v c:=by
 intro l
 induction l generalizing p with
 |nil=>intro _;exact⟨[],rfl,fun j v c h=>by simp at h⟩
 |cons a l ih=>
  intro h
  obtain⟨c,hc⟩:=h 0 a rfl
  obtain⟨l',hl,hp⟩:=ih (p:=fun j=>p (j+1)) (fun j v hv=>h (j+1) v (by simpa using hv))
  refine⟨c::l',by simp[hl],fun j v c' hv cS=>?_⟩
  cases j with
  |zero=>simp at hv cS;subst hv;subst cS;exact hc
  |succ j=>exact hp j v c' (by simpa using hv) (by simpa using cS)
end
section
open Go
inductive au where
 |tmp (t:Nat)
 |const (v:AV)
 deriving Inhabited
abbrev Env:=Nat->AV
def au.ev (ρ:Env):au->AV
 | .tmp t=>ρ t
 | .const v=>v
inductive a8 where
 |aj (x:au)
 |pick (c a b:au)
 |build (z:List AV) (parts:List (Nat×Nat×au))
 |cr (n:Nat) (z:List AV) (parts:List (Nat×au))
 |load (ag:Bool) (sz:Nat) (x:au)
 |aF (x:au)
 |bin (tb:Bool) (op:BinOp) (x y:au)
 |gG (kd:Nat) (neg:Bool) (x:au)
 |JC (neg:Bool) (KD:List Nat) (x y:au)
 |un (op:UnOp) (x:au)
 |toInt (k:IntKind) (x:au)
 |rN (x:au)
 |Hh (x:au)
 |Ax (off:Nat) (x:au)
 |Mj (ag:Bool) (sz off:Nat) (x:au)
 |i5 (sz:Nat) (x i:au)
 |CR (sz len:Nat) (x i:au)
 |KO (ag:Bool) (sz len:Nat) (x i:au)
 |b9 (sz:Nat) (x:au) (lo hi mx:Option au)
 |ext (i:Nat) (x:au)
 |j9 (x:au)
 |HU (x:au)
 |KJ (n:Nat)
 |lookup (z:AV) (ok:Bool) (m k:au)
 |kO (f:Nat) (first dX:List au)
 |nH (mx:Bool) (x:au) (rest:List au)
 |part (im:Bool) (x:au)
 |HC (z:List AV) (bytes:Nat) (len cap:au)
 |tX (x:au)
 |zL (x i:au)
 |pM (sz:Nat) (x y:au)
 |Lq (x:au)
 |FU (x:au)
 |s8 (x:au)
 |stuck
 deriving Inhabited
inductive kD where
 |box (x:au)
 |alloc (z:List AV)
 |uY (z:List AV) (bytes:Nat) (len cap:au)
 |CJ (n:Nat) (z:List AV) (parts:List (Nat×au))
 |vi
 deriving Inhabited
inductive gf where
 |store (sz:Nat) (a v:au)
 |append (bytes sz:Nat) (x y:au)
 |kF (bytes sz:Nat) (x y:au)
 |copy (sz:Nat) (x y:au)
 |po (bytes:Nat) (z:List AV) (x n:au)
 |nO (sz:Nat) (x y:au)
 |px (z:List AV) (x:au)
 |mark (x:au)
 |rS (m k v:au)
 |tI (m k:au)
 deriving Inhabited
inductive bU where
 |p (o:a8)
 |a (o:kD)
 |e (o:gf)
 |call (f:Nat) (args:List au)
 |dyn (x:au) (args:List au)
 deriving Inhabited
def dq (cs:List AV) (off:Nat) (vs:List AV):List AV:=cs.take off++vs++cs.drop (off+vs.length)
def kJ (ρ:Env) (cs:List AV):List (Nat×Nat×au)->Option (List AV)
 |[]=>some cs
 |(off,sz,x)::rest=>
  let vs:=(x.ev ρ).cells
  if vs.length=sz/\off+sz<=cs.length/\vs.all AV.one then kJ ρ (dq cs off vs) rest else none
def iQ (ρ:Env) (sz:Nat) (rows:List (List AV)):List (Nat×au)->Option (List (List AV))
 |[]=>some rows
 |(i,x)::rest=>
  let vs:=(x.ev ρ).cells
  if vs.length=sz/\i<rows.length/\vs.all AV.one then iQ ρ sz (rows.set i vs) rest else none
def cut (ag:Bool) (sz off:Nat) (cs:List AV):Option AV:=
 if ag then(if off+sz<=cs.length then some (.agg ((cs.drop off).take sz)) else none) else cs[off]?
def cellsOf (h:aa) (b:Nat):Option (List AV):=
 match h.get b with
 |some (.cells cs)=>some cs
 |_=>none
def kL (ag:Bool) (sz:Nat) (h:aa):AV->Option AV
 | .ptr b off=>(cellsOf h b).bind (cut ag sz off)
 | .vp xs off=>cut ag sz off xs
 |_=>none
def notNil:AV->Option AV
 | .ptr b o=>some (.ptr b o)
 | .vp xs o=>some (.vp xs o)
 | .fn f a b=>some (.fn f a b)
 |_=>none
def pD (op:BinOp) (k:IntKind) (x y:Int):Option Int:=
 let a:=BitVec.ofInt k.bits x
 let b:=BitVec.ofInt k.bits y
 match op with
 | .and=>some (k.wrap (a&&&b).toNat)
 | .or=>some (k.wrap (a|||b).toNat)
 | .xor=>some (k.wrap (a^^^b).toNat)
 | .andNot=>some (k.wrap (a&&& ~~~b).toNat)
 |_=>none
def kR (op:BinOp) (k:IntKind) (a b:Int):Option AV:=
 match op with
 | .add=>some (.int k (k.wrap (a+b)))
 | .sub=>some (.int k (k.wrap (a-b)))
 | .mul=>some (.int k (k.wrap (a*b)))
 | .quo=>if b=0 then none else some (.int k (k.wrap (a.tdiv b)))
 | .rem=>if b=0 then none else some (.int k (a.tmod b))
 | .eql=>some (.bool (a==b))
 | .neq=>some (.bool (a !=b))
 | .lss=>some (.bool (a<b))
 | .leq=>some (.bool (a<=b))
 | .gtr=>some (.bool (a>b))
 | .geq=>some (.bool (a>=b))
 |op=>(pD op k a b).map (.int k)
def Kn (op:BinOp) (k:FloatKind) (x y:Nat):Option Bool:=
 let c:=k.format.order x y
 match op with
 | .eql=>some (c==some .eq)
 | .neq=>some (c !=some .eq)
 | .lss=>some (c==some .lt)
 | .leq=>some (c==some .lt||c==some .eq)
 | .gtr=>some (c==some .gt)
 | .geq=>some (c==some .gt||c==some .eq)
 |_=>none
def cR (tb:Bool) (op:BinOp):AV->AV->Option AV
 | .int k a, .int k' b=>
   match op with
   | .shl=>if b<0 then none else some (.int k (k.wrap (a*2^(min b.toNat k.bits))))
   | .shr=>if b<0 then none else some (.int k (a.fdiv (2^(min b.toNat k.bits))))
   |op=>if k=k' then kR op k a b else none
 | .bool a, .bool b=>
   match op with
   | .eql=>if tb then some (.bool (a==b)) else none
   | .neq=>if tb then some (.bool (!(a==b))) else none
   |_=>none
 | .fI k a, .fI k' b=>if k=k' then(Kn op k a b).map .bool else none
 | .fJ k a b, .fJ k' c d=>
   if k=k' then
    match op with
    | .eql=>some (.bool ((k.format.order a c==some .eq)&&(k.format.order b d==some .eq)))
    | .neq=>some (.bool (!((k.format.order a c==some .eq)&&(k.format.order b d==some .eq))))
    |_=>none
   else none
 | .str a, .str b=>
   match op with
   | .eql=>some (.bool (a.toList==b.toList))
   | .neq=>some (.bool (!(a.toList==b.toList)))
   |_=>none
 |_,_=>none
def iM (kd:Nat):AV->Option Bool
 | .nil=>if kd=0 then some true else none
 | .ptr _ _=>if kd=0 then some false else none
 | .vp _ _=>if kd=0 then some false else none
 | .bx=>if kd=1 then some true else none
 | .rs _ _ _ _=>if kd=1 then some false else none
 | .rk _ _ _ _ _=>if kd=1 then some false else none
 | .vz=>if kd=1 then some false else none
 | .vs (_::_) _=>if kd=1 then some false else none
 | .jH=>if kd=2 then some true else none
 | .fn _ _ _=>if kd=2 then some false else none
 | .map none=>if kd=3 then some true else none
 | .map (some _)=>if kd=3 then some false else none
 |_=>none
def zG (xs ys:List AV):List Nat->Option Bool
 |[]=>some true
 |o::rest=>
  match xs[o]?,ys[o]? with
  |some (.int k a),some (.int k' b)=>if k=k' then(if a==b then zG xs ys rest else some false) else none
  |_,_=>none
def B9 (op:UnOp):AV->Option AV
 | .bool b=>match op with| .not=>some (.bool !b)|_=>none
 | .int k n=>
   match op with
   | .neg=>some (.int k (k.wrap (0-n)))
   | .xor=>(pD .xor k (if k.signed then -1 else k.max) n).map (.int k)
   |_=>none
 |_=>none
def byteOf:List AV->Option UInt8
 |[.int .u8 n]=>some (UInt8.ofNat n.toNat)
 |_=>none
def rowsOf (cs:List AV) (off sz:Nat):Nat->List (List AV)
 |0=>[]
 |n+1=>(cs.drop off).take sz::rowsOf cs (off+sz) sz n
def dF (sz:Nat):List (List AV)->Bool
 |[]=>true
 |r::_=>r.length==sz
def cQ (sz:Nat) (h:aa):AV->Option (List (List AV))
 | .vs xs _=>if dF sz xs then some xs else none
 | .bx=>some []
 | .vz=>some []
 | .rs b off len aO=>
   if aO=sz then
    match cellsOf h b with
    |some cs=>if off+len*sz<=cs.length then some (rowsOf cs off sz len) else none
    |none=>none
   else none
 | .rk b off len aO _=>
   if aO=sz then
    match cellsOf h b with
    |some cs=>if off+len*sz<=cs.length then some (rowsOf cs off sz len) else none
    |none=>none
   else none
 |_=>none
def pA (sz n:Nat) (h:aa):AV->Option (List (List AV))
 | .vs xs _=>if dF sz xs then some (xs.take n) else none
 | .rk b off len aO _=>
   if aO=sz/\n<=len then
    match cellsOf h b with
    |some cs=>if off+n*sz<=cs.length then some (rowsOf cs off sz n) else none
    |none=>none
   else none
 |_=>none
def tD:List (List AV)->Option (List UInt8)
 |[]=>some []
 |r::rs=>match byteOf r,tD rs with
  |some b,some bs=>some (b::bs)
  |_,_=>none
def cC (ρ:Env) (d:Nat):Option au->Option Nat
 |none=>some d
 |some x=>match x.ev ρ with
  | .int _ i=>if 0<=i then some i.toNat else none
  |_=>none
def pe (t:aH) (len lo hi:Nat):aH:=
 match t with
 | .full=>if hi=len then .full else .ao
 | .own t=>if hi=len/\lo<hi then .own t else .ao
 | .ao=> .ao
def i7 (ρ:Env) (sz:Nat) (x:AV) (lo hi mx:Option au):Option AV:=
 match x with
 | .bx=>do
   let h <-cC ρ 0 hi
   let l <-cC ρ 0 lo
   let m <-cC ρ 0 mx
   if l=0/\h=0/\m=0/\(mx.isSome->hi.isSome) then some .bx else none
 | .vs xs t=>do
   let h <-cC ρ xs.length hi
   let l <-cC ρ 0 lo
   if l<=h/\h<=xs.length/\dF sz xs then
    match mx with
    |none=>some (.vs ((xs.drop l).take (h-l)) (pe t xs.length l h))
    |some _=>do
     let m <-cC ρ 0 mx
     if hi.isSome/\h<=m/\m<=xs.length then some (.vs ((xs.drop l).take (h-l)) (if m=h then .full else .ao)) else none
   else none
 | .rs b off len aO=>do
   let h <-cC ρ len hi
   let l <-cC ρ 0 lo
   if mx.isNone/\l<=h/\h<=len/\aO=sz then
    if l=h then(if lo.isNone then some (.rs b off 0 sz) else some (.vs [] .ao)) else some (.rs b (off+l*sz) (h-l) sz)
   else none
 | .rk b off len aO cap=>do
   let h <-cC ρ len hi
   let l <-cC ρ 0 lo
   let m <-cC ρ cap mx
   if l<=h/\h<=m/\m<=cap/\aO=sz/\(mx.isSome->hi.isSome) then
    if m=l then some (.vs [] .full) else some (.rk b (off+l*sz) (h-l) sz (m-l))
   else none
 |_=>none
def mM (k:AV):List (AV×AV)->Nat->Option (Option Nat)
 |[],_=>some none
 |(k',_)::es,i=>
  match k,k' with
  | .int a x, .int b y=>if a=b then(if x==y then some (some i) else mM k es (i+1)) else none
  |_,_=>none
def u2 (k:AV) (es:List (AV×AV)):Option (Option AV):=(mM k es 0).map fun o=>o.bind fun i=>(es[i]?).map (·.2)
def rT (k v:AV) (es:List (AV×AV)):Option (List (AV×AV)):=
 (mM k es 0).map fun o=>match o with
   |none=>es++[(k,v)]
   |some i=>es.set i (k,v)
def rU (k:AV) (es:List (AV×AV)):Option (List (AV×AV)):=
 (mM k es 0).map fun o=>match o with
   |none=>es
   |some i=>es.eraseIdx i
def qh (mx:Bool):AV->AV->Option AV
 | .int k a, .int k' b=>if k=k' then some (.int k (if mx then(if b>a then b else a) else(if b<a then b else a))) else none
 | .fI k a, .fI k' b=>
   if k=k' then
    match k.format.order a b with
    |some .lt=>some (.fI k (if mx then b else a))
    |some .gt=>some (.fI k (if mx then a else b))
    |some .eq=>some (.fI k (if mx then(if(k.decode a).neg then b else a) else(if(k.decode a).neg then a else b)))
    |none=>none
   else none
 |_,_=>none
def ph (mx:Bool) (ρ:Env):AV->List au->Option AV
 |x,[]=>some x
 |x,y::ys=>(qh mx x (y.ev ρ)).bind fun z=>ph mx ρ z ys
def gI:AV->Option Nat
 | .vs xs _=>some xs.length
 | .bx=>some 0
 | .rs _ _ len _=>some len
 | .rk _ _ len _ _=>some len
 | .vz=>some 0
 |_=>none
def vS:AV->Option Nat
 | .bx=>some 0
 | .vs xs .full=>some xs.length
 | .rk _ _ _ _ cap=>some cap
 |_=>none
def vN (sz:Nat) (h:aa) (x y:AV):Option AV:=
 match x,y with
 | .vs (r::_) _, .rk b _ (_+1) aO _=>cond (r.length==sz&&aO==sz&&(cellsOf h b).isSome) (some (.bool false)) none
 |_,_=>none
def CE (x i:AV):Option AV:=
 match x,i with
 | .str s, .int _ i=>if 0<=i then(s[i.toNat]?).map fun b=> .int .u8 b.toNat else none
 |_,_=>none
def lT (bytes:Nat) (l c:AV):Option Nat:=
 match l,c with
 | .int .i64 a, .int .i64 b=>if 0<=a/\a=b/\a<2^40/\bytes*a<=2^40 then some a.toNat else none
 |_,_=>none
def CS (neg:Bool) (KD:List Nat) (x y:AV):Option AV:=
 match x,y with
 | .agg xs, .agg ys=>(zG xs ys KD).map fun b=> .bool (if neg then !b else b)
 |_,_=>none
def CK (k:IntKind) (x:AV):Option AV:=match x with| .int _ n=>some (.int k (k.wrap n))|_=>none
def G4 (x:AV):Option AV:=
 match x with
 | .str s=>if s.size<2^40 then some (.vs (s.data.toList.map fun b=>[.int .u8 b.toNat]) .ao) else none
 |_=>none
def zO (off:Nat) (x:AV):Option AV:=match x with| .ptr b o=>some (.ptr b (o+off))| .vp xs o=>some (.vp xs (o+off))|_=>none
def Fq (ag:Bool) (sz off:Nat) (x:AV):Option AV:=match x with| .agg cs=>cut ag sz off cs|_=>none
def iL (sz:Nat) (x i:AV):Option AV:=
 match i with
 | .int _ i=>
   if 0<=i then
    match x with
    | .vs xs _=>match xs[i.toNat]? with|some row=>if row.length=sz then some (.vp row 0) else none|none=>none
    | .rs b off len aO=>if aO=sz/\i<len then some (.ptr b (off+i.toNat*sz)) else none
    |_=>none
   else none
 |_=>none
def zF (sz len:Nat) (x i:AV):Option AV:=
 match i with
 | .int _ i=>
   if 0<=i/\i<len then
    match x with
    | .ptr b o=>some (.ptr b (o+i.toNat*sz))
    | .vp xs o=>some (.vp xs (o+i.toNat*sz))
    |_=>none
   else none
 |_=>none
def DK (ag:Bool) (sz len:Nat) (x i:AV):Option AV:=
 match i,x with
 | .int _ i, .agg cs=>if 0<=i/\i<len then cut ag sz (i.toNat*sz) cs else none
 |_,_=>none
def Fs (i:Nat) (x:AV):Option AV:=match x with| .az vs=>vs[i]?|_=>none
def HF (x:AV):Option AV:=match x with| .str s=>some (.int .i64 s.size)|_=>none
def pj (z:AV) (ok:Bool) (h:aa) (m k:AV):Option AV:=
 let wrap (r:Option AV):AV:=match r with
  |some v=>if ok then .az [v, .bool true] else v
  |none=>if ok then .az [z, .bool false] else z
 match m,k with
 | .map none, .int _ _=>some (wrap none)
 | .map (some b), .int kd n=>
   match h.get b with
   |some (.map es)=>(u2 (.int kd n) es).map wrap
   |_=>none
 |_,_=>none
def Jk (im:Bool) (x:AV):Option AV:=match x with| .fJ k a b=>some (.fI k (if im then b else a))|_=>none
def Jj (c a b:AV):Option AV:=match c with| .bool t=>some (if t then a else b)|_=>none
def wZ (sz:Nat) (h:aa) (a v:AV):Option (AV×aa):=
 match a with
 | .ptr b off=>
   match cellsOf h b with
   |some cs=>if v.cells.length=sz/\off+sz<=cs.length/\v.cells.all AV.one then some (.undef,h.set b (some (.cells (dq cs off v.cells)))) else none
   |none=>none
 |_=>none
def aX (o:a8) (ρ:Env) (h:aa):Option AV:=
 match o with
 | .aj x=>some (x.ev ρ)
 | .pick c a b=>Jj (c.ev ρ) (a.ev ρ) (b.ev ρ)
 | .build z parts=>(kJ ρ z parts).map .agg
 | .cr n z parts=>(iQ ρ z.length (List.replicate n z) parts).map (.vs · .full)
 | .load ag sz x=>kL ag sz h (x.ev ρ)
 | .aF x=>notNil (x.ev ρ)
 | .bin tb op x y=>cR tb op (x.ev ρ) (y.ev ρ)
 | .gG kd neg x=>(iM kd (x.ev ρ)).map fun b=> .bool (if neg then !b else b)
 | .JC neg KD x y=>CS neg KD (x.ev ρ) (y.ev ρ)
 | .un op x=>B9 op (x.ev ρ)
 | .toInt k x=>CK k (x.ev ρ)
 | .rN x=>((cQ 1 h (x.ev ρ)).bind tD).map fun bs=> .str ⟨bs.toArray⟩
 | .Hh x=>G4 (x.ev ρ)
 | .Ax off x=>zO off (x.ev ρ)
 | .Mj ag sz off x=>Fq ag sz off (x.ev ρ)
 | .i5 sz x i=>iL sz (x.ev ρ) (i.ev ρ)
 | .CR sz len x i=>zF sz len (x.ev ρ) (i.ev ρ)
 | .KO ag sz len x i=>DK ag sz len (x.ev ρ) (i.ev ρ)
 | .b9 sz x lo hi mx=>i7 ρ sz (x.ev ρ) lo hi mx
 | .ext i x=>Fs i (x.ev ρ)
 | .j9 x=>(gI (x.ev ρ)).map fun(n:Nat)=>AV.int .i64 n
 | .HU x=>HF (x.ev ρ)
 | .KJ n=>some (.int .i64 n)
 | .lookup z ok m k=>pj z ok h (m.ev ρ) (k.ev ρ)
 | .kO f first dX=>some (.fn f (first.map (au.ev ρ)) (dX.map (au.ev ρ)))
 | .nH mx x rest=>ph mx ρ (x.ev ρ) rest
 | .part im x=>Jk im (x.ev ρ)
 | .HC z bytes l c=>(lT bytes (l.ev ρ) (c.ev ρ)).map fun n=> .vs (List.replicate n z) .full
 | .tX x=>(vS (x.ev ρ)).map fun(n:Nat)=>AV.int .i64 n
 | .zL x i=>CE (x.ev ρ) (i.ev ρ)
 | .pM sz x y=>vN sz h (x.ev ρ) (y.ev ρ)
 | .Lq _=>none
 | .FU _=>none
 | .s8 _=>none
 | .stuck=>none
def a8.key (o:a8) (ρ:Env):Option Nat:=
 match o with
 | .load _ _ x=>match x.ev ρ with| .ptr b _=>some b|_=>none
 | .rN x=>match x.ev ρ with| .rs b _ _ _=>some b| .rk b _ _ _ _=>some b|_=>none
 | .lookup _ _ m _=>match m.ev ρ with| .map (some b)=>some b|_=>none
 | .pM _ _ y=>match y.ev ρ with| .rk b _ _ _ _=>some b|_=>none
 |_=>none
theorem rK (o:a8) (ρ:Env) (h h':aa) (hk: ∀b,o.key ρ=some b->h.get b=h'.get b):aX o ρ h=aX o ρ h':=by
 cases o<;>try rfl
 case load ag sz x=>
  simp only[aX,a8.key] at*
  cases hx:x.ev ρ<;>simp only[kL]
  rw[hx] at hk
  simp only[cellsOf,hk _ rfl]
 case rN x=>
  simp only[aX,a8.key] at*
  cases hx:x.ev ρ<;>simp only[cQ]<;>(rw[hx] at hk;simp only[cellsOf,hk _ rfl])
 case pM sz x y=>
  simp only[aX,a8.key] at*
  cases hy:y.ev ρ
  case rk b off len s' cap=>
   rw[hy] at hk
   have hb:=hk b rfl
   cases x.ev ρ<;>try rfl
   rename_i l _
   cases l<;>cases len<;>first|rfl|simp only[vN,cellsOf,hb]
  all_goals (cases x.ev ρ<;>first|rfl|(rename_i l _;cases l<;>rfl))
 case lookup z ok m k=>
  simp only[aX,a8.key] at*
  cases hx:m.ev ρ<;>try rfl
  rename_i b
  rw[hx] at hk
  cases b with
  |none=>cases k.ev ρ<;>rfl
  |some b=>have:=hk b rfl;cases k.ev ρ<;>simp only[pj,this]
def ic (o:kD) (ρ:Env) (id:Nat):Option (cI×AV):=
 match o with
 | .box x=>if(x.ev ρ).cells.all AV.one then some (.cells (x.ev ρ).cells, .ptr id 0) else none
 | .alloc z=>some (.cells z, .ptr id 0)
 | .uY z bytes l c=>(lT bytes (l.ev ρ) (c.ev ρ)).map fun n=>(.cells (List.replicate n z).flatten, .rs id 0 n z.length)
 | .CJ n z parts=>(iQ ρ z.length (List.replicate n z) parts).map fun rows=>(.cells rows.flatten, .rs id 0 n z.length)
 | .vi=>some (.map [], .map (some id))
def aa.at (h:aa) (id:Nat) (x:cI):aa:={get:=fun i=>if i=id then some x else h.get i,next:=max h.next (id+1)}
def bN (o:gf) (ρ:Env) (id:Nat) (h:aa):Option (AV×aa):=
 match o with
 | .store sz a v=>wZ sz h (a.ev ρ) (v.ev ρ)
 | .append bytes sz x y=>
   match cQ sz h (y.ev ρ) with
   |none=>none
   |some ys=>
    match x.ev ρ with
    | .vs xs t=>
      if ys=[] then some (.vs xs t,h) else
      if dF sz xs/\(xs.length+ys.length)*bytes<2^40/\xs.length+ys.length<2^40 then
       match t with
       | .full=>some (.vs (xs++ys) (.own id),h.at id .tail)
       | .own t=>match h.get t with
         |some .tail=>some (.vs (xs++ys) (.own id),(h.set t none).at id .tail)
         |_=>none
       | .ao=>none
      else none
    | .bx=>
      if ys=[] then some (.bx,h) else
      if ys.length*bytes<2^40/\ys.length<2^40 then some (.vs ys (.own id),h.at id .tail) else none
    |_=>none
 | .kF bytes sz x y=>
   match cQ sz h (y.ev ρ) with
   |none=>none
   |some ys=>
    match x.ev ρ with
    | .vs [] .full=>if ys=[] then some (.vs [] .full,h) else if ys.length*bytes<2^40/\ys.length<2^40 then some (.rs id 0 ys.length sz,h.at id (.cells ys.flatten)) else none
    | .bx=>if ys=[] then some (.bx,h) else if ys.length*bytes<2^40/\ys.length<2^40 then some (.rs id 0 ys.length sz,h.at id (.cells ys.flatten)) else none
    | .rs b off len aO=>
      if ys=[] then some (.rs b off len aO,h) else
      match cellsOf h b with
      |some cs=>
       if aO=sz/\off=0/\len*sz<=cs.length/\(len+ys.length)*bytes<2^40/\len+ys.length<2^40 then
        some (.rs id 0 (len+ys.length) sz,(h.set b none).at id (.cells (cs.take (len*sz)++ys.flatten)))
       else none
      |none=>none
    | .rk b off len aO cap=>
      match cellsOf h b with
      |some cs=>
       if aO=sz/\len+ys.length<=cap/\off+len*sz<=cs.length then
        some (.rk b off (len+ys.length) sz cap,h.set b (some (.cells (dq cs (off+len*sz) ys.flatten))))
       else none
      |none=>none
    |_=>none
 | .po bytes z x n=>
   match n.ev ρ with
   | .int _ m=>
     if 0<m/\m<2^40 then
      match x.ev ρ with
      | .bx=>if m.toNat*bytes<2^40 then some (.rs id 0 m.toNat z.length,h.at id (.cells (List.replicate m.toNat z).flatten)) else none
      | .rk b off len aO cap=>
        match cellsOf h b with
        |some cs=>
         if aO=z.length/\cap<len+m.toNat/\off+len*z.length<=cs.length/\(len+m.toNat)*bytes<2^40/\len+m.toNat<2^40 then
          some (.rs id 0 (len+m.toNat) z.length,h.at id (.cells (rowsOf cs off z.length len++List.replicate m.toNat z).flatten))
         else none
        |none=>none
      |_=>none
     else none
   |_=>none
 | .nO sz x y=>
   match x.ev ρ,gI (y.ev ρ) with
   | .rk b off len aO _,some m=>
     match pA sz (min m len) h (y.ev ρ),cellsOf h b with
     |some ys,some cs=>
      if aO=sz/\off<=cs.length then
       some (.int .i64 (min m len:Nat),h.set b (some (.cells (dq cs off ys.flatten))))
      else none
     |_,_=>none
   |_,_=>none
 | .mark x=>
   match x.ev ρ with
   | .rs b off len sz=>
     match cellsOf h b with
     |some cs=>if off+len*sz<=cs.length then some (.vs (rowsOf cs off sz len) .ao,h.set b none) else none
     |none=>none
   |_=>none
 | .px z x=>
   match x.ev ρ with
   | .rk b off len aO _=>
     match cellsOf h b with
     |some cs=>if aO=z.length/\off+len*z.length<=cs.length then some (.az [],h.set b (some (.cells (dq cs off (List.replicate len z).flatten)))) else none
     |none=>none
   | .vs [] _=>some (.az [],h)
   | .bx=>some (.az [],h)
   |_=>none
 | .copy sz x y=>
   match x.ev ρ with
   | .rs b off len aO=>
     match cQ sz h (y.ev ρ),cellsOf h b with
     |some ys,some cs=>
      let n:=min ys.length len
      if aO=sz/\off+len*sz<=cs.length then
       some (.int .i64 n,h.set b (some (.cells (dq cs off (ys.take n).flatten))))
      else none
     |_,_=>none
   | .vs [] _=>match cQ sz h (y.ev ρ) with|some _=>some (.int .i64 0,h)|none=>none
   | .bx=>match cQ sz h (y.ev ρ) with|some _=>some (.int .i64 0,h)|none=>none
   |_=>none
 | .rS m k v=>
   match m.ev ρ,k.ev ρ with
   | .map (some b), .int kd n=>
     match h.get b with
     |some (.map es)=>(rT (.int kd n) (v.ev ρ).strip es).map fun aV=>(.undef,h.set b (some (.map aV)))
     |_=>none
   |_,_=>none
 | .tI m k=>
   match m.ev ρ,k.ev ρ with
   | .map (some b), .int kd n=>
     match h.get b with
     |some (.map es)=>(rU (.int kd n) es).map fun aV=>(.az [],h.set b (some (.map aV)))
     |_=>none
   |_,_=>none
end
section
open Go
section
variable {P:Program} {ι:aI} {I:aR} {h:aa} {w:World}
def eD (P:Program) (ι:aI) (I:aR) (h:aa) (w:World) (v:AV) (s:Sem Value):Prop:=
 ∃c w' I',s.run P w= .ok c w'/\VR ι I' w' v c/\HR ι I' h w'/\Ext (fun _=>False) ι I h w ι I' h w'
theorem eD.same (H:HR ι I h w) {v:AV} {s:Sem Value} {c:Value} (hr:s.run P w= .ok c w) (hv:VR ι I w v c):eD P ι I h w v s:=
 ⟨c,w,I,hr,hv,H, .refl _ _ _ _ _⟩
theorem cJ {t:TypeId} {d:TypeDesc} (hu:P.underlying t=some d) (w:World):(underlying t).run P w= .ok d w:=run_underlying hu w
theorem mG {t:TypeId} {sz:Nat} (hs:(P.info? t).map (·.size)=some sz) (w:World):(Go.sizeOf t).run P w= .ok sz w:=by
 cases hq:P.info? t with
 |none=>simp[hq] at hs
 |some i=>simp[hq] at hs;simp[Go.sizeOf,typeInfo,hq,hs]
theorem zD {t:TypeId} {d:TypeDesc} (hu:P.underlying t=some d) (w:World):(isAgg t).run P w= .ok d.isRow w:=by
 unfold isAgg
 rw[Sem.run_bind,run_underlying hu w]
 cases d<;>simp
def tT (ι:aI) (I:aR) (w:World) (cb o:Nat) (cs:List AV):Prop:=
 ∀j v,cs[j]? =some v-> ∃c,w.cell? ⟨cb,o+j,none⟩=some c/\VR ι I w v c
theorem HR.row (H:HR ι I h w) {b:Nat} {cs:List AV} {cb o room:Nat} (hg:h.get b=some (.cells cs)) (hb:ι b=some (.cells cb o room)):
 tT ι I w cb o cs/\cs.length<=room/\(∀v∈cs,v.one=true):=by
 obtain⟨iy,o',pB,hl,hle,h1,hc⟩:=H.cells b cs _ hg hb
 cases hl
 refine⟨fun j v hv=>?_,hle,h1⟩
 obtain⟨c,h1,_,h3⟩:=hc j (by have:=(List.getElem?_eq_some_iff.1 hv).1;omega)
 exact⟨c,h1,h3 v hv⟩
theorem tT.list {cb o:Nat} {cs:List AV} (hr:tT ι I w cb o cs): ∃l':List Value,cs.length=l'.length/\
 (∀(j:Nat) (c:Value),l'[j]? =some c->w.cell? ⟨cb,o+j,none⟩=some c)/\ ∀(j:Nat) (v:AV) (c:Value),cs[j]? =some v->l'[j]? =some c->VR ι I w v c:=by
 obtain⟨l',hl,hp⟩:=akw cs hr
 refine⟨l',hl,fun j c hc=>?_,fun j v c hv hc=>(hp j v c hv hc).2⟩
 have hj:j<cs.length:=by have:=(List.getElem?_eq_some_iff.1 hc).1;omega
 exact(hp j _ c (List.getElem?_eq_getElem hj) hc).1
theorem tT.sub {cb o:Nat} {cs:List AV} (hr:tT ι I w cb o cs) (off sz:Nat):tT ι I w cb (o+off) ((cs.drop off).take sz):=by
 intro j v hv
 rw[List.getElem?_take] at hv
 split at hv
 ·rw[List.getElem?_drop] at hv
  obtain⟨c,h1,h2⟩:=hr (off+j) v hv
  exact⟨c,by rw[Nat.add_assoc];exact h1,h2⟩
 ·cases hv
theorem ZQ (H:HR ι I h w) {t:TypeId} {d:TypeDesc} {sz:Nat} (hu:P.underlying t=some d) (hs:(P.info? t).map (·.size)=some sz)
 {cb o off:Nat} {cs:List AV} {v:AV} (hr:tT ι I w cb o cs) (hc:cut d.isRow sz off cs=some v):
 eD P ι I h w v (Instr.loadAt t (.pointer (some ⟨cb,o+off,none⟩))):=by
 cases hd:d.isRow with
 |true=>
  rw[hd] at hc
  simp only[cut,if_true] at hc
  split at hc
  ·rename_i hle
   cases hc
   obtain⟨l',hl,h1,h2⟩:=(hr.sub off sz).list
   have hlen:l'.length=sz:=by rw[<-hl];simp;omega
   have:=run_loadVar_mid (P:=P) w cb (o+off) t l' d h1 hu hd (by rw[hlen];exact hs)
   exact .same H (by simp[Instr.loadAt,Instr.sureAddr,this]) (.agg _ _ hl h2)
  ·cases hc
 |false=>
  rw[hd] at hc
  simp only[cut,Bool.false_eq_true,if_false] at hc
  obtain⟨c,h1,h2⟩:=hr off v hc
  exact .same H (by simp[Instr.loadAt,Instr.sureAddr,loadVar,zD hu,hd,run_load,h1]) h2
theorem anu (H:HR ι I h w) {t:TypeId} {d:TypeDesc} {sz:Nat} (hu:P.underlying t=some d) (hs:(P.info? t).map (·.size)=some sz)
 {a v:AV} {c:Value} (ha:VR ι I w a c) (hl:kL d.isRow sz h a=some v):eD P ι I h w v (Instr.loadAt t c):=by
 cases ha<;>simp only[kL] at hl<;>try(cases hl;done)
 case ptr b off cb o room hb=>
  simp only[cellsOf] at hl
  split at hl
  ·rename_i cs hg
   exact ZQ H hu hs (H.row (by simpa using hg) hb).1 hl
  ·cases hl
 case vp xs off cb o g hI hc hv h1=>
  refine ZQ H hu hs (cs:=xs) (fun j v hj=>?_) hl
  have aC:=(List.getElem?_eq_some_iff.1 hj).1
  exact⟨g j,hc j aC,hv j v hj⟩
theorem ams (H:HR ι I h w) {s:TypeId} {fs:Array Field} {f:Nat} {fd:Field} {fsz:Nat} (hu:P.underlying s=some (.struct fs)) (hf:fs[f]? =some fd)
 (aP:(P.info? fd.type).map (·.size)=some fsz) (h0:fsz≠0) {x v:AV} {c:Value} (hx:VR ι I w x c)
 (hr:zO fd.offset x=some v):
 eD P ι I h w v (Instr.fieldAt s c f):=by
 unfold zO at hr
 cases hx<;>simp only[] at hr<;>try(cases hr;done)
 case ptr b off cb o room hb=>
  cases hr
  refine .same H (c:= .pointer (some ⟨cb,o+(off+fd.offset),none⟩)) ?_ (.ptr _ _ _ _ _ hb)
  simp[Instr.fieldAt,cJ hu,hf,Instr.sureAddr,fieldPlace,mG aP,h0,Addr.add_mid,Nat.add_assoc]
 case vp xs off cb o g hI hc hv h1=>
  cases hr
  refine .same H (c:= .pointer (some ⟨cb,o+(off+fd.offset),none⟩)) ?_ (.vp _ _ _ _ g hI hc hv h1)
  simp[Instr.fieldAt,cJ hu,hf,Instr.sureAddr,fieldPlace,mG aP,h0,Addr.add_mid,Nat.add_assoc]
theorem alo (H:HR ι I h w) {t e:TypeId} {len sz:Nat} (hu:P.underlying t=some (.array len e)) (hs:(P.info? e).map (·.size)=some sz)
 {x i v:AV} {c ci:Value} (hx:VR ι I w x c) (hi:VR ι I w i ci)
 (hr:zF sz len x i=some v):eD P ι I h w v (Instr.indexAt t c ci):=by
 unfold zF at hr
 cases hi<;>simp only[] at hr<;>try(cases hr;done)
 case int k n=>
  split at hr
  ·rename_i hb
   cases hx<;>simp only[] at hr<;>try(cases hr;done)
   case ptr b off cb o room bC=>
    cases hr
    refine .same H (c:= .pointer (some ⟨cb,o+(off+n.toNat*sz),none⟩)) ?_ (.ptr _ _ _ _ _ bC)
    simp[Instr.indexAt,asIntOf,cJ hu,Instr.sureAddr,hb,mG hs,Addr.add_mid,Nat.add_assoc]
   case vp xs off cb o g hI hc hv h1=>
    cases hr
    refine .same H (c:= .pointer (some ⟨cb,o+(off+n.toNat*sz),none⟩)) ?_ (.vp _ _ _ _ g hI hc hv h1)
    simp[Instr.indexAt,asIntOf,cJ hu,Instr.sureAddr,hb,mG hs,Addr.add_mid,Nat.add_assoc]
  ·cases hr
theorem aln (H:HR ι I h w) {t e:TypeId} {sz:Nat} (hu:P.underlying t=some (.slice e)) (hs:(P.info? e).map (·.size)=some sz)
 {x i v:AV} {c ci:Value} (hx:VR ι I w x c) (hi:VR ι I w i ci)
 (hr:iL sz x i=some v):eD P ι I h w v (Instr.indexAt t c ci):=by
 unfold iL at hr
 cases hi<;>simp only[] at hr<;>try(cases hr;done)
 case int k n=>
  split at hr
  ·rename_i h0
   cases hx<;>simp only[] at hr<;>try(cases hr;done)
   case vs xs t cb o s cap g cw hI hc hv h1 bt ht=>
    split at hr
    ·rename_i row Bu
     split at hr
     ·rename_i hlen
      cases hr
      have aC:=(List.getElem?_eq_some_iff.1 Bu).1
      have jy:s=sz:=by rw[<-cw _ _ Bu];exact hlen
      subst jy
      refine .same H (c:= .pointer (some ⟨cb,o+n.toNat*s+0,none⟩)) ?_ (.vp row 0 cb (o+n.toNat*s) (g n.toNat) (fun j hj=>hI _ _ aC (by omega)) (fun j hj=>hc _ _ aC (by omega)) (fun j v hj=>hv _ _ _ _ Bu hj) (h1 row (List.mem_of_getElem? Bu)))
      have hb:0<=n/\n<(xs.length:Int):=⟨h0,by omega⟩
      simp[Instr.indexAt,asIntOf,cJ hu,hb,mG hs,Addr.add_mid]
     ·cases hr
    ·cases hr
   case rs b off len aO cb o room cap hb hlen bt=>
    split at hr
    ·rename_i bC
     obtain⟨rfl,aC⟩:=bC
     cases hr
     refine .same H (c:= .pointer (some ⟨cb,o+(off+n.toNat*aO),none⟩)) ?_ (.ptr _ _ _ _ _ hb)
     simp[Instr.indexAt,asIntOf,cJ hu,h0,aC,mG hs,Addr.add_mid,Nat.add_assoc]
    ·cases hr
  ·cases hr
end
end
section
open Go
section
variable {P:Program} {ι:aI} {I:aR} {h:aa} {w:World}
def LR (ι:aI) (I:aR) (w:World) (l:List AV) (l':List Value):Prop:=
 l.length=l'.length/\ ∀(i:Nat) (v:AV) (c:Value),l[i]? =some v->l'[i]? =some c->VR ι I w v c
theorem LR.get {l:List AV} {l':List Value} (hl:LR ι I w l l') {i:Nat} {v:AV} (hv:l[i]? =some v): ∃c,l'[i]? =some c/\VR ι I w v c:=by
 have hi:=(List.getElem?_eq_some_iff.1 hv).1
 have aB:i<l'.length:=by rw[<-hl.1];exact hi
 exact⟨l'[i],List.getElem?_eq_getElem aB,hl.2 i v _ hv (List.getElem?_eq_getElem aB)⟩
theorem LR.nil:LR ι I w [] []:=⟨rfl,fun i v c h=>by simp at h⟩
theorem LR.cons {a:AV} {c:Value} {l:List AV} {l':List Value} (h:VR ι I w a c) (hl:LR ι I w l l'):LR ι I w (a::l) (c::l'):=by
 refine⟨by simp[hl.1],fun i v c' hv hc=>?_⟩
 cases i with
 |zero=>simp at hv hc;subst hv;subst hc;exact h
 |succ i=>exact hl.2 i v c' (by simpa using hv) (by simpa using hc)
theorem LR.take {l:List AV} {l':List Value} (hl:LR ι I w l l') (n:Nat):LR ι I w (l.take n) (l'.take n):=by
 refine⟨by simp[hl.1],fun i v c hv hc=>?_⟩
 rw[List.getElem?_take] at hv hc
 split at hv
 ·rename_i aC;rw[if_pos aC] at hc;exact hl.2 i v c hv hc
 ·cases hv
theorem LR.drop {l:List AV} {l':List Value} (hl:LR ι I w l l') (n:Nat):LR ι I w (l.drop n) (l'.drop n):=by
 refine⟨by simp[hl.1],fun i v c hv hc=>?_⟩
 rw[List.getElem?_drop] at hv hc
 exact hl.2 _ v c hv hc
theorem LR.append {l m:List AV} {l' m':List Value} (hl:LR ι I w l l') (hm:LR ι I w m m'):LR ι I w (l++m) (l'++m'):=by
 refine⟨by simp[hl.1,hm.1],fun i v c hv hc=>?_⟩
 rw[List.getElem?_append] at hv hc
 rw[<-hl.1] at hc
 split at hv
 ·rename_i aC;rw[if_pos aC] at hc;exact hl.2 i v c hv hc
 ·rename_i aC;rw[if_neg aC] at hc;exact hm.2 _ v c hv hc
theorem LR.mono {ι':aI} {I':aR} {w':World} {l:List AV} {l':List Value} (hl:LR ι I w l l')
 (h: ∀a v,VR ι I w a v->VR ι' I' w' a v):LR ι' I' w' l l':=⟨hl.1,fun i v c hv hc=>h _ _ (hl.2 i v c hv hc)⟩
theorem VR.cells {a:AV} {c:Value} (hv:VR ι I w a c) (hu:a≠ .undef):LR ι I w a.cells c.cells.toList:=by
 cases hv<;>first
  |exact(hu rfl).elim
  |(refine LR.cons ?_ LR.nil;constructor<;>assumption)
  |(rename_i cs bD hl hv;exact⟨by simpa [AV.cells,Value.cells] using hl,by simpa [AV.cells,Value.cells] using hv⟩)
  |(rename_i h1;cases c<;>first|exact LR.cons (.fb _ h1) LR.nil|(simp[Value.oneCell'] at h1))
def HN (pr:Bool):Value->Option AV
 | .int k n=>some (.int k n)
 | .bool b=>some (.bool b)
 | .float k b=>some (.fI k b)
 | .complex k a b=>some (.fJ k a b)
 | .string s=>some (.str s)
 | .pointer none=>some .nil
 | .slice none 0 0=>some (if pr then .bx else .vs [] .full)
 | .map none=>some (.map none)
 | .nilFunc=>some .jH
 |_=>none
def uV (pr:Bool):List Value->Option (List AV)
 |[]=>some []
 |v::vs=>match HN pr v,uV pr vs with
  |some a,some l=>some (a::l)
  |_,_=>none
def CT (pr:Bool):Value->Option AV
 | .agg cs=>(uV pr cs.toList).map .agg
 |v=>HN pr v
theorem Yf {pr:Bool} {v:Value} {a:AV} (hc:HN pr v=some a):VR ι I w a v/\a.one=true:=by
 unfold HN at hc
 split at hc<;>first
  |(cases hc;done)
  |(cases hc;exact⟨by constructor,rfl⟩)
  |skip
 cases pr
 ·cases hc;exact⟨.gu _ (.inr rfl),rfl⟩
 ·cases hc;exact⟨.bx,rfl⟩
theorem rH {pr:Bool}: ∀{vs:List Value} {l:List AV},uV pr vs=some l->LR ι I w l vs/\ ∀v∈l,v.one=true
 |[],l,hc=>by simp[uV] at hc;subst hc;exact⟨LR.nil,by simp⟩
 |v::vs,l,hc=>by
  simp only[uV] at hc
  split at hc
  ·rename_i a l' ha hl
   cases hc
   have h1:=Yf (ι:=ι) (I:=I) (w:=w) ha
   have h2:=rH hl
   exact⟨LR.cons h1.1 h2.1,
    by intro x hx;rcases List.mem_cons.1 hx with rfl|hx;exact h1.2;exact h2.2 x hx⟩
  ·cases hc
end
end
section
open Go
section
variable {P:Program} {ι:aI} {I:aR} {h:aa} {w:World}
theorem No {a:AV} (h:a.cells.all AV.one=true):a≠ .undef:=by
 rintro rfl;simp[AV.cells,AV.one] at h
theorem Z5 (off:Nat): ∀(vs:List Value) (k:Nat) (cells:Array Value),
 ((vs.zipIdx k).foldl (fun cs (p:Value×Nat)=>cs.setIfInBounds (off+p.2) p.1) cells).size=cells.size/\
 ∀i:Nat,((vs.zipIdx k).foldl (fun cs (p:Value×Nat)=>cs.setIfInBounds (off+p.2) p.1) cells)[i]? =
  if off+k<=i/\i<off+k+vs.length/\i<cells.size then vs[i-(off+k)]? else cells[i]?
 |[],k,cells=>by simp;omega
 |v::vs,k,cells=>by
  have ih:=Z5 off vs (k+1) (cells.setIfInBounds (off+k) v)
  simp only[List.zipIdx_cons,List.foldl_cons]
  refine⟨by rw[ih.1];simp,fun i=>?_⟩
  rw[ih.2 i]
  simp only[Array.size_setIfInBounds,List.length_cons,Array.getElem?_setIfInBounds]
  by_cases h1:off+(k+1)<=i/\i<off+(k+1)+vs.length/\i<cells.size
  ·rw[if_pos h1,if_pos (by omega)]
   rw[show i-(off+k)=(i-(off+(k+1)))+1 by omega,List.getElem?_cons_succ]
  ·rw[if_neg h1]
   by_cases h2:off+k=i
   ·subst h2
    by_cases h3:off+k<cells.size
    ·simp[h3]
    ·simp[h3]
   ·rw[if_neg h2]
    by_cases h4:off+k<=i/\i<off+k+(vs.length+1)/\i<cells.size
    ·omega
    ·rw[if_neg h4]
theorem al2 (cs:List AV) (off:Nat) (vs:List AV) (h:off+vs.length<=cs.length) (i:Nat):
 (dq cs off vs)[i]? =if off<=i/\i<off+vs.length then vs[i-off]? else cs[i]?:=by
 unfold dq
 rw[List.getElem?_append,List.getElem?_append]
 simp only[List.length_append,List.length_take,Nat.min_eq_left (show off<=cs.length by omega)]
 by_cases h1:i<off
 ·rw[if_pos (by omega),if_pos h1,List.getElem?_take,if_pos h1,if_neg (by omega)]
 ·by_cases h2:i<off+vs.length
  ·rw[if_pos h2,if_neg h1,if_pos (by omega)]
  ·rw[if_neg h2,if_neg (by omega),List.getElem?_drop]
   congr 1;omega
theorem Mu (cs:List AV) (off:Nat) (vs:List AV) (h:off+vs.length<=cs.length):(dq cs off vs).length=cs.length:=by
 unfold dq;simp;omega
theorem MM (cs:List AV) (off:Nat) (vs:List AV) (h:off<=cs.length) (i:Nat):
 (dq cs off vs)[i]? =if off<=i/\i<off+vs.length then vs[i-off]? else cs[i]?:=by
 unfold dq
 rw[List.getElem?_append,List.getElem?_append]
 simp only[List.length_append,List.length_take,Nat.min_eq_left h]
 by_cases h1:i<off
 ·rw[if_pos (by omega),if_pos h1,List.getElem?_take,if_pos h1,if_neg (by omega)]
 ·by_cases h2:i<off+vs.length
  ·rw[if_pos h2,if_neg h1,if_pos (by omega)]
  ·rw[if_neg h2,if_neg (by omega),List.getElem?_drop]
   congr 1;omega
theorem aju (cs:List AV) (off:Nat) (vs:List AV) (h:off<=cs.length):(dq cs off vs).length=max cs.length (off+vs.length):=by
 unfold dq;simp;omega
def OR (ι:aI) (I:aR) (w:World) (ρ:Env) (x:au) (c:Value):Prop:=VR ι I w (x.ev ρ) c
theorem Z7 (place:Nat->Option (Nat×Nat)) {ρ:Env}: ∀(ps:List (Nat×Nat×au)) (dG:List (Nat×Value)) (cs:List AV) (cells:Array Value) (r:List AV),
 ps.length=dG.length->(∀(i off sz j:Nat) (x:au) (c:Value),ps[i]? =some (off,sz,x)->dG[i]? =some (j,c)->place j=some (off,sz)/\OR ι I w ρ x c)->
 LR ι I w cs cells.toList->kJ ρ cs ps=some r-> ∃HX,Instr.fill place cells dG=some HX/\LR ι I w r HX.toList:=by
 intro ps
 induction ps with
 |nil=>
  intro dG cs cells r hl _ hc hf
  cases dG with
  |nil=>simp[kJ] at hf;subst hf;exact⟨cells,rfl,hc⟩
  |cons _ _=>simp at hl
 |cons p ps ih=>
  intro dG cs cells r hl hp hc hf
  cases dG with
  |nil=>simp at hl
  |cons q dG=>
   obtain⟨off,sz,x⟩:=p
   obtain⟨j,c⟩:=q
   obtain⟨kV,hx⟩:=hp 0 off sz j x c rfl rfl
   simp only[kJ] at hf
   split at hf
   ·rename_i fE
    obtain⟨h1,h2,h3⟩:=fE
    have bq:=VR.cells hx (No h3)
    have aP:c.cells.size=sz:=by rw[<-h1,bq.1];simp
    have dj:cells.size=cs.length:=by rw[hc.1];simp
    have aei:=Z5 off c.cells.toList 0 cells
    have awg:c.cells.zipIdx.foldl (fun cs (x:Value×Nat)=>cs.setIfInBounds (off+x.2) x.1) cells=(c.cells.toList.zipIdx 0).foldl (fun cs (x:Value×Nat)=>cs.setIfInBounds (off+x.2) x.1) cells:=by
     rw[<-Array.foldl_toList,Array.toList_zipIdx]
    have gJ:LR ι I w (dq cs off (x.ev ρ).cells) (c.cells.zipIdx.foldl (fun cs (x:Value×Nat)=>cs.setIfInBounds (off+x.2) x.1) cells).toList:=by
     rw[awg]
     refine⟨by rw[Mu _ _ _ (by omega)];simp only[Array.length_toList];rw[aei.1,dj],fun i v c' hv cS=>?_⟩
     rw[al2 _ _ _ (by omega)] at hv
     rw[Array.getElem?_toList,aei.2 i] at cS
     have hlen:c.cells.toList.length=(x.ev ρ).cells.length:=bq.1.symm
     split at hv
     ·rename_i aE
      rw[if_pos (by simp only[Nat.add_zero];omega)] at cS
      exact bq.2 _ v c' hv (by simpa using cS)
     ·rename_i aE
      rw[if_neg (by simp only[Nat.add_zero];omega)] at cS
      exact hc.2 i v c' hv (by simpa using cS)
    obtain⟨HX,he,hr⟩:=ih dG _ _ r (by simpa using hl) (fun i off sz j x c hi hj=>hp (i+1) off sz j x c (by simpa using hi) (by simpa using hj)) gJ hf
    refine⟨HX,?_,hr⟩
    unfold Instr.fill
    rw[kV]
    simp only[]
    rw[if_neg (by simp[aP];omega)]
    exact he
   ·cases hf
theorem amD (H:HR ι I h w) {t:TypeId} {z:Value} {za:List AV} {ρ:Env} {ps:List (Nat×Nat×au)} {dG:Array (Nat×Value)} {r:List AV}
 {place:Nat->Option (Nat×Nat)}
 (aqW: ∀cells,Instr.fill place z.cells dG.toList=some cells->P.built t dG.toList=some cells)
 (hz:LR ι I w za z.cells.toList) (hl:ps.length=dG.size)
 (hp: ∀(i off sz j:Nat) (x:au) (c:Value),ps[i]? =some (off,sz,x)->dG[i]? =some (j,c)->place j=some (off,sz)/\OR ι I w ρ x c)
 (hf:kJ ρ za ps=some r):eD P ι I h w (.agg r) (Instr.build t dG):=by
 obtain⟨cells,hc,hr⟩:=Z7 place ps dG.toList za z.cells r (by simpa using hl) (fun i off sz j x c hi hj=>hp i off sz j x c hi (by simpa using hj)) hz hf
 refine .same H (run_build w t dG cells (aqW _ hc)) ?_
 have:=VR.agg (ι:=ι) (I:=I) (w:=w) r cells.toList hr.1 hr.2
 simpa using this
end
end
section
open Go
section
variable {P:Program} {ι:aI} {I:aR} {h:aa} {w:World}
theorem HR.push (H:HR ι I h w) {w':World} {I':aR} (ow: ∀k,k<w.heap.size->w'.heap[k]? =w.heap[k]?) (vl:w.heap.size<=w'.heap.size)
 (kx:w'.os=w.os) (DM:w'.tape=w.tape) (pE:w'.output=w.output)
 (hI: ∀k j,I' k j->I k j\/(w.heap.size<=k/\k<w'.heap.size)) (hI2: ∀k j,I k j->I' k j):
 HR ι I' h w'/\Ext (fun _=>False) ι I h w ι I' h w':=by
 have bq: ∀k j,k<w.heap.size->w'.cell? ⟨k,j,none⟩=w.cell? ⟨k,j,none⟩:=fun k j hk=>by simp[World.cell?,ow k hk]
 have mS: ∀k j,k<w.heap.size->w'.frozen? ⟨k,j,none⟩=w.frozen? ⟨k,j,none⟩:=fun k j hk=>by simp[World.frozen?,ow k hk]
 have E:Ext (fun _=>False) ι I h w ι I' h w':=
  {eZ:=fun _ _=>rfl,bM:=fun _ _ h=>h,next:=Nat.le_refl _,bz:=hI2,os:=kx,tape:=DM,output:=pE,size:=vl
   block:=fun k hk _=>ow k hk,cell:=fun k j hk _=>bq k j hk,frozen:=fun k j hk _=>mS k j hk
   own:=fun _ _ h=> .inl h,gz:=fun k j h=>(hI k j h).imp id (fun h=> .inr h.1),lost:=fun _ _ _=>rfl}
 refine⟨?_,E⟩
 refine{cG:=H.cG,inside:=fun b l hb=>Nat.lt_of_lt_of_le (H.inside b l hb) vl,cells:=?_,maps:=?_,eR:=?_,dC:=H.dC,bz:=?_,dw:=?_
        pl:=fun b cs cb o room hg hb n=>by rw[mS cb n (H.inside b _ hb)];exact H.pl b cs cb o room hg hb n}
 ·intro b cs l hg hb
  obtain⟨cb,o,room,rfl,hle,h1,hc⟩:=H.cells b cs l hg hb
  have aE:cb<w.heap.size:=H.inside b _ hb
  refine⟨cb,o,room,rfl,hle,h1,fun j hj=>?_⟩
  obtain⟨c,bn,bk,jk⟩:=hc j hj
  exact⟨c,by rw[bq _ _ aE];exact bn,by rw[mS _ _ aE];exact bk,fun v hv=>E.vr H (jk v hv)⟩
 ·intro b es l hg hb
  obtain⟨cb,aV,clock,rfl,hm,hl,hv⟩:=H.maps b es l hg hb
  refine⟨cb,aV,clock,rfl,by rw[ow cb (H.inside b _ hb)];exact hm,hl,fun i k v e h1 h2=>?_⟩
  obtain⟨a,c⟩:=hv i k v e h1 h2
  exact⟨E.vr H a,E.vr H c⟩
 ·intro b l hg hb
  obtain⟨cb,lo,hi,rfl,hc⟩:=H.eR b l hg hb
  have aE:cb<w.heap.size:=H.inside b _ hb
  refine⟨cb,lo,hi,rfl,fun j h1 h2=>?_⟩
  obtain⟨c,bn,bk⟩:=hc j h1 h2
  exact⟨c,by rw[bq _ _ aE];exact bn,by rw[mS _ _ aE];exact bk⟩
 ·intro b l x k j hb hg hl hk
  rcases hI k j hk with hk|hk
  ·exact H.bz b l x k j hb hg hl hk
  ·have:=H.inside b l hb
   have:k=l.block:=by cases l<;>simp[Loc.has] at hl<;>simp[Loc.block,hl]
   omega
 ·intro k j hk
  rcases hI k j hk with hk|hk
  ·exact Nat.lt_of_lt_of_le (H.dw k j hk) vl
  ·exact hk.2
theorem flat_get {sz:Nat}: ∀(rows:List (List AV)),(∀r∈rows,r.length=sz)-> ∀(i j:Nat) (row:List AV),rows[i]? =some row->j<sz->
 rows.flatten[i*sz+j]? =row[j]?
 |[],_,i,j,row,h,_=>by simp at h
 |r::rows,hu,0,j,row,h,hj=>by
  simp at h;subst h
  have hr:=hu r (by simp)
  simp only[List.flatten_cons,Nat.zero_mul,Nat.zero_add]
  rw[List.getElem?_append_left (by omega)]
 |r::rows,hu,i+1,j,row,h,hj=>by
  have hr:=hu r (by simp)
  simp only[List.flatten_cons]
  rw[List.getElem?_append_right (by rw[hr,Nat.succ_mul];omega),hr,show(i+1)*sz+j-sz=i*sz+j by rw[Nat.succ_mul];omega]
  exact flat_get rows (fun r h=>hu r (List.mem_cons_of_mem _ h)) i j row (by simpa using h) hj
theorem nx {sz:Nat}: ∀(rows:List (List AV)),(∀r∈rows,r.length=sz)->rows.flatten.length=rows.length*sz
 |[],_=>by simp
 |r::rows,hu=>by
  rw[List.flatten_cons,List.length_append,nx rows (fun r h=>hu r (List.mem_cons_of_mem _ h)),hu r (by simp),List.length_cons,Nat.succ_mul];omega
theorem Ho {sz:Nat}: ∀(rows:List (List AV)),(∀r∈rows,r.length=sz)-> ∀(i:Nat) (vs:List AV),i<rows.length->vs.length=sz->
 (rows.set i vs).flatten=dq rows.flatten (i*sz) vs
 |[],_,i,vs,hi,_=>by simp at hi
 |r::rows,hu,0,vs,_,hv=>by
  have hr:=hu r (by simp)
  simp only[List.set_cons_zero,List.flatten_cons,dq,Nat.zero_mul,List.take_zero,List.nil_append,Nat.zero_add]
  congr 1
  rw[List.drop_append_of_le_length (by omega),List.drop_of_length_le (by omega),List.nil_append]
 |r::rows,hu,i+1,vs,hi,hv=>by
  have hr:=hu r (by simp)
  simp only[List.set_cons_succ,List.flatten_cons]
  rw[Ho rows (fun r h=>hu r (List.mem_cons_of_mem _ h)) i vs (by simpa using hi) hv]
  have e1:(i+1)*sz=r.length+i*sz:=by rw[hr,Nat.succ_mul];omega
  have e2:r.length+i*sz+vs.length=r.length+(i*sz+vs.length):=by omega
  simp only[dq]
  rw[e1,e2]
  have t1:(r++rows.flatten).take (r.length+i*sz)=r++rows.flatten.take (i*sz):=by
   rw[List.take_append,List.take_of_length_le (by omega)];simp
  have t2:(r++rows.flatten).drop (r.length+(i*sz+vs.length))=rows.flatten.drop (i*sz+vs.length):=by
   rw[List.drop_append];simp
  rw[t1,t2]
  simp[List.append_assoc]
theorem Xt {ρ:Env} {sz:Nat}: ∀(ps:List (Nat×au)) (rows r:List (List AV)),(∀x∈rows,x.length=sz/\ ∀v∈x,v.one=true)->iQ ρ sz rows ps=some r->
 (∀x∈r,x.length=sz/\ ∀v∈x,v.one=true)/\r.length=rows.length/\kJ ρ rows.flatten (ps.map fun p=>(p.1*sz,sz,p.2))=some r.flatten
 |[],rows,r,hu,h=>by simp[iQ] at h;subst h;exact⟨hu,rfl,by simp[kJ]⟩
 |(i,x)::ps,rows,r,hu,h=>by
  simp only[iQ] at h
  split at h
  ·rename_i hc
   obtain⟨h1,h2,h3⟩:=hc
   have iI: ∀y∈rows.set i (x.ev ρ).cells,y.length=sz/\ ∀v∈y,v.one=true:=by
    intro y hy
    rcases List.mem_or_eq_of_mem_set hy with hy|rfl
    ·exact hu y hy
    ·exact⟨h1,fun v hv=>(List.all_eq_true.1 h3) v hv⟩
   obtain⟨a,b,c⟩:=Xt ps _ r iI h
   refine⟨a,by rw[b];simp,?_⟩
   simp only[List.map_cons,kJ]
   have bH:=nx rows (fun r h=>(hu r h).1)
   have hle:i*sz+sz<=rows.flatten.length:=by
    rw[bH,<-Nat.succ_mul];exact Nat.mul_le_mul_right _ h2
   rw[if_pos ⟨h1,hle,h3⟩,<-Ho rows (fun r h=>(hu r h).1) i _ h2 h1]
   exact c
  ·cases h
theorem Xd (za:List AV): ∀(n i:Nat),i<n*za.length->(List.replicate n za).flatten[i]? =za[i%za.length]?
 |0,i,h=>by simp at h
 |n+1,i,h=>by
  simp only[List.replicate_succ,List.flatten_cons]
  by_cases aC:i<za.length
  ·rw[List.getElem?_append_left aC,Nat.mod_eq_of_lt aC]
  ·have kc:i-za.length<n*za.length:=by rw[Nat.succ_mul] at h;omega
   rw[List.getElem?_append_right (by omega),Xd za n _ kc]
   congr 1
   exact(Nat.mod_eq_sub_mod (by omega)).symm
theorem Co {za:List AV} {z:Array Value} (hz:LR ι I w za z.toList) (n:Nat) (h0:za.length≠0\/n=0):
 LR ι I w (List.replicate n za).flatten (madeCells z (n*z.size)).toList:=by
 have hl:za.length=z.size:=by rw[hz.1];simp
 refine⟨by rw[nx (sz:=za.length) _ (fun r hr=>by rw[List.eq_of_mem_replicate hr])];simp[size_madeCells,hl],fun i v c hv hc=>?_⟩
 have hi:i<n*za.length:=by
  have:=(List.getElem?_eq_some_iff.1 hv).1
  rwa [nx (sz:=za.length) _ (fun r hr=>by rw[List.eq_of_mem_replicate hr]),List.length_replicate] at this
 rw[Xd za n i hi] at hv
 have iS:0<za.length:=by
  rcases h0 with h|rfl
  ·omega
  ·simp at hi
 have hm:i%za.length<za.length:=Nat.mod_lt _ iS
 have aE:i<n*z.size:=by rw[<-hl];exact hi
 have:c=z[i%z.size]! :=by
  have h':(madeCells z (n*z.size))[i]? =some c:=by simpa using hc
  simp[madeCells,aE] at h'
  simpa using h'.symm
 subst this
 refine hz.2 (i%za.length) v _ hv ?_
 rw[hl] at hm ⊢
 simp[hm]
theorem NF (H:HR ι I h w) {w':World} {e:TypeId} {fr:Nat×Nat} {arr:Array Value} (sk:w'.heap=w.heap.push (.cells arr e fr))
 (kx:w'.os=w.os) (DM:w'.tape=w.tape) (pE:w'.output=w.output)
 {rows:List (List AV)} {sz cap:Nat} (hu: ∀x∈rows,x.length=sz/\ ∀v∈x,v.one=true) {l:List Value}
 (hl:LR ι I w rows.flatten l) (sA: ∀(i:Nat) (c:Value),l[i]? =some c->arr[i]? =some c) (bt:rows.length<=cap) (t:aH) (ht:t= .ao\/(t= .full/\cap=rows.length)):
 ∃I',VR ι I' w' (.vs rows t) (.slice (some ⟨w.heap.size,0,none⟩) rows.length cap)/\HR ι I' h w'/\Ext (fun _=>False) ι I h w ι I' h w':=by
 have aP:w'.heap.size=w.heap.size+1:=by rw[sk];simp
 obtain⟨H',E⟩:=H.push (w':=w') (I':=fun k j=>I k j\/k=w.heap.size) (fun k hk=>by rw[sk,Array.getElem?_push,if_neg (by omega)]) (by omega) kx DM pE
  (fun k j hk=>hk.imp id (fun h=>by omega)) (fun k j hk=> .inl hk)
 refine⟨_,?_,H',E⟩
 have bq: ∀j,w'.cell? ⟨w.heap.size,j,none⟩=arr[j]?:=fun j=>by simp[World.cell?,sk]
 have axw:=nx rows (fun r hr=>(hu r hr).1)
 have a7: ∀(i j:Nat) (row:List AV) (v:AV),rows[i]? =some row->row[j]? =some v-> ∃c,l[i*sz+j]? =some c/\VR ι I w v c:=by
  intro i j row v hi hj
  have hr:=(hu row (List.mem_of_getElem? hi)).1
  have dO:=(List.getElem?_eq_some_iff.1 hj).1
  have:=flat_get rows (fun r hr=>(hu r hr).1) i j row hi (by omega)
  exact hl.get (by rw[this];exact hj)
 refine .vs rows t w.heap.size 0 sz cap (fun i j=>l.getD (i*sz+j) undef) (fun i row hi=>(hu row (List.mem_of_getElem? hi)).1) (fun i j _ _=> .inr rfl) ?_ ?_ (fun row hr v hv=>(hu row hr).2 v hv) bt ?_
 ·intro i j hi hj
  have cw:=List.getElem?_eq_getElem hi
  have hr:=(hu rows[i] (List.getElem_mem hi)).1
  obtain⟨c,hc,_⟩:=a7 i j _ _ cw (List.getElem?_eq_getElem (by omega))
  rw[Nat.zero_add,bq,sA _ _ hc]
  simp[List.getD,hc]
 ·intro i row j v hi hj
  obtain⟨c,hc,hv⟩:=a7 i j row v hi hj
  have:l.getD (i*sz+j) undef=c:=by simp[List.getD,hc]
  rw[this]
  exact E.vr H hv
 ·rcases ht with rfl|⟨rfl,hh⟩
  ·trivial
  ·exact hh
end
end
section
open Go
section
variable {P:Program} {ι:aI} {I:aR} {h:aa} {w:World}
theorem aka {ρ:Env} {sz:Nat} (ps:List (Nat×au)) (dG:List (Nat×Value)) (hl:ps.length=dG.length)
 (hp: ∀(i j k:Nat) (x:au) (c:Value),ps[i]? =some (j,x)->dG[i]? =some (k,c)->j=k/\OR ι I w ρ x c):
 (ps.map fun p=>(p.1*sz,sz,p.2)).length=dG.length/\
 ∀(i off aO j:Nat) (x:au) (c:Value),(ps.map fun p=>(p.1*sz,sz,p.2))[i]? =some (off,aO,x)->dG[i]? =some (j,c)->
  (some (j*sz,sz):Option (Nat×Nat))=some (off,aO)/\OR ι I w ρ x c:=by
 refine⟨by simpa using hl,fun i off aO j x c hi hj=>?_⟩
 rw[List.getElem?_map] at hi
 cases hq:ps[i]? with
 |none=>simp[hq] at hi
 |some q=>
  obtain⟨k,y⟩:=q
  simp[hq] at hi
  obtain⟨rfl,rfl,rfl⟩:=hi
  obtain⟨rfl,ho⟩:=hp i k j y c hq hj
  exact⟨rfl,ho⟩
theorem LR.one {za:List AV} {z:List Value} (h:LR ι I w za z) (n:Nat) (h1: ∀v∈za,v.one=true): ∀x∈List.replicate n za,x.length=za.length/\ ∀v∈x,v.one=true:=by
 intro x hx
 rw[List.eq_of_mem_replicate hx]
 exact⟨rfl,h1⟩
theorem XK {za:List AV} {z:Value} {ρ:Env} {n:Nat} {ps:List (Nat×au)} {dG:Array (Nat×Value)} {rows:List (List AV)}
 (hz:LR ι I w za z.cells.toList) (h1: ∀v∈za,v.one=true) (h0:za.length≠0) (hl:ps.length=dG.size)
 (hp: ∀(i j k:Nat) (x:au) (c:Value),ps[i]? =some (j,x)->dG[i]? =some (k,c)->j=k/\OR ι I w ρ x c)
 (hf:iQ ρ za.length (List.replicate n za) ps=some rows):
 (∀x∈rows,x.length=za.length/\ ∀v∈x,v.one=true)/\rows.length=n/\
 ∃cells,Instr.fill (fun i=>some (i*za.length,za.length)) (madeCells z.cells (n*z.cells.size)) dG.toList=some cells/\LR ι I w rows.flatten cells.toList:=by
 obtain⟨hu,hn,hA⟩:=Xt ps _ rows (LR.one hz n h1) hf
 refine⟨hu,by simpa using hn,?_⟩
 obtain⟨a,b⟩:=aka (sz:=za.length) ps dG.toList (by simpa using hl) (fun i j k x c hi hj=>hp i j k x c hi (by simpa using hj))
 exact Z7 _ _ dG.toList _ _ _ a b (Co hz n (.inl h0)) hA
theorem Yp (w:World) {t e:TypeId} {ie:TypeInfo} {z:Value} {len:Nat} {parts:Array (Nat×Value)} {cells:Array Value}
 (hu:P.underlying t=some (.slice e)) (cP:P.info? e=some ie) (hz:ie.zero=some z) (aP:ie.size=z.cells.size) (HV:len*ie.size<=2^24)
 (hc:Instr.fill (fun i=>some (i*ie.size,ie.size)) (madeCells z.cells (len*z.cells.size)) parts.toList=some cells):
 (Instr.buildSlice t len parts).run P w= .ok (.slice (some ⟨w.heap.size,0,none⟩) len len) (w.alloc (.cells cells e)):=by
 by_cases h0:len*ie.size=0
 ·have WY:len*z.cells.size=0:=by rw[<-aP];exact h0
  rw[WY] at hc
  have he:madeCells z.cells 0= #[]:=by simp[madeCells,Array.range_zero']
  rw[he] at hc
  simp[Instr.buildSlice,cJ hu,Go.sizeOf,typeInfo,cP,h0,hc,newRow,Array.range_zero']
 ·exact run_buildSlice w t e len parts cells ie z hu cP hz (by omega) h0 (by rw[<-aP] at hc;exact hc)
theorem alF (H:HR ι I h w) {t e:TypeId} {ie:TypeInfo} {z:Value} {za:List AV} {ρ:Env} {n:Nat} {ps:List (Nat×au)} {dG:Array (Nat×Value)} {rows:List (List AV)}
 (hu:P.underlying t=some (.slice e)) (cP:P.info? e=some ie) (uf:ie.zero=some z) (aP:ie.size=z.cells.size) (HV:n*ie.size<=2^24)
 (hz:LR ι I w za z.cells.toList) (h1: ∀v∈za,v.one=true) (h0:za.length≠0) (hl:ps.length=dG.size)
 (hp: ∀(i j k:Nat) (x:au) (c:Value),ps[i]? =some (j,x)->dG[i]? =some (k,c)->j=k/\OR ι I w ρ x c)
 (hf:iQ ρ za.length (List.replicate n za) ps=some rows):eD P ι I h w (.vs rows .full) (Instr.buildSlice t n dG):=by
 obtain⟨iI,hn,cells,hc,dt⟩:=XK hz h1 h0 hl hp hf
 have iv:za.length=z.cells.size:=by rw[hz.1];simp
 have hr:=Yp (P:=P) w (parts:=dG) (cells:=cells) hu cP uf aP HV (by rw[aP,<-iv];rw[<-iv] at hc;exact hc)
 obtain⟨I',hv,H',E⟩:=NF H (w':=w.alloc (.cells cells e)) (e:=e) (fr:=(0,0)) (arr:=cells) rfl rfl rfl rfl (cap:=n) iI dt (fun i c hc=>by simpa using hc) (by omega) .full (.inr ⟨rfl,hn.symm⟩)
 exact⟨_,_,I',hr,by rw[hn] at hv;exact hv,H',E⟩
theorem Xx {bytes n:Nat} {l c:AV} (hm:lT bytes l c=some n):l= .int .i64 n/\c= .int .i64 n/\n<2^40/\bytes*n<=2^40:=by
 unfold lT at hm
 split at hm
 ·rename_i a b
  split at hm
  ·rename_i hc
   obtain⟨h1,rfl,h2,h3⟩:=hc
   cases hm
   have:((a.toNat:Nat):Int)=a:=Int.toNat_of_nonneg h1
   refine⟨by rw[this],by rw[this],by omega,?_⟩
   have:((bytes*a.toNat:Nat):Int)<=2^40:=by rw[Int.natCast_mul,this];exact h3
   exact_mod_cast this
  ·cases hm
 ·cases hm
theorem XO (w:World) {t e:TypeId} {ie:TypeInfo} {z:Value} {n bytes:Nat}
 (hu:P.underlying t=some (.slice e)) (cP:P.info? e=some ie) (hz:ie.zero=some z) (aP:ie.size=z.cells.size) (hb:ie.bytes=bytes)
 (hn:n<2^40) (BK:bytes*n<=2^40):
 (Instr.makeSlice t (.int .i64 n) (.int .i64 n)).run P w= .ok (.slice (some ⟨w.heap.size,0,none⟩) n n) (w.alloc (.cells (madeCells z.cells (n*z.cells.size)) e)):=by
 have:=run_make (P:=P) w t e ie z hu cP hz .i64 .i64 n n (by omega) (by omega) (by
  rw[hb]
  have:((bytes*n:Nat):Int)<=281474976710656:=by omega
  rwa [Int.natCast_mul] at this) (by omega)
 simpa [aP] using this
theorem akd (H:HR ι I h w) {t e:TypeId} {ie:TypeInfo} {z:Value} {za:List AV} {n bytes:Nat} {l c:AV} {cl cc:Value}
 (hu:P.underlying t=some (.slice e)) (cP:P.info? e=some ie) (uf:ie.zero=some z) (aP:ie.size=z.cells.size) (hb:ie.bytes=bytes)
 (hz:LR ι I w za z.cells.toList) (h1: ∀v∈za,v.one=true) (h0:za.length≠0)
 (hl:VR ι I w l cl) (hc:VR ι I w c cc) (hm:lT bytes l c=some n):eD P ι I h w (.vs (List.replicate n za) .full) (Instr.makeSlice t cl cc):=by
 obtain⟨rfl,rfl,hn,BK⟩:=Xx hm
 cases hl;cases hc
 have hr:=XO (P:=P) w hu cP uf aP hb hn BK
 obtain⟨I',hv,H',E⟩:=NF H (w':=w.alloc (.cells (madeCells z.cells (n*z.cells.size)) e)) (e:=e) (fr:=(0,0)) (arr:=madeCells z.cells (n*z.cells.size)) rfl rfl rfl rfl (cap:=n)
  (rows:=List.replicate n za) (sz:=za.length) (LR.one hz n h1) (Co hz n (.inl h0)) (fun i c hc=>by simpa using hc) (by simp) .full (.inr ⟨rfl,by simp⟩)
 exact⟨_,_,I',hr,by simpa using hv,H',E⟩
theorem ak3 (H:HR ι I h w) {x v:AV} {c:Value} (hx:VR ι I w x c) (hn:notNil x=some v):
 c≠ .pointer none/\c≠ .nilIface/\c≠ .nilFunc/\(∀nm a b,c≠ .func (.method nm) a b)/\VR ι I w v c:=by
 cases hx<;>simp only[notNil] at hn<;>try(cases hn;done)
 case ptr b off cb o room hb=>cases hn;exact⟨by simp,by simp,by simp,by simp, .ptr _ _ _ _ _ hb⟩
 case vp xs off cb o g hI hc hv h1=>cases hn;exact⟨by simp,by simp,by simp,by simp, .vp _ _ _ _ g hI hc hv h1⟩
 case fn f fs cs eo bD hf hc LV fZ=>cases hn;exact⟨by simp,by simp,by simp,by simp, .fn f fs cs eo bD hf hc LV fZ⟩
theorem am9 (op:BinOp) (k:IntKind) (a b:Int) (v:AV) (hs:op≠ .shl/\op≠ .shr) (hv:kR op k a b=some v) (t:TypeId):
 ∃c,(binOp op t (.int k a) (.int k b)).run P w= .ok c w/\VR ι I w v c:=by
 cases op<;>simp only[kR,pD,Option.map_some,Option.map_none] at hv<;>try(cases hv;done)
 case quo=>split at hv;·cases hv
           ·rename_i hb;cases hv;exact⟨_,by simp[binOp,Op.intDiv,hb], .int _ _⟩
 case rem=>split at hv;·cases hv
           ·rename_i hb;cases hv;exact⟨_,by simp[binOp,Op.intDiv,hb], .int _ _⟩
 all_goals
  cases hv
  refine⟨_,by(simp only[binOp,ne_eq,not_true_eq_false,if_false];rfl),?_⟩
  constructor
theorem al4 (op:BinOp) (k:FloatKind) (a b:Nat) (v:Bool) (hv:Kn op k a b=some v) (t:TypeId):
 (binOp op t (.float k a) (.float k b)).run P w= .ok (.bool v) w:=by
 cases op<;>simp only[Kn] at hv<;>first|(cases hv;done)|(cases hv;simp[binOp,Op.floatCmp])
theorem ao8 (H:HR ι I h w) {tb:Bool} {op:BinOp} {x y v:AV} {cx cy:Value} (hx:VR ι I w x cx) (hy:VR ι I w y cy) (hv:cR tb op x y=some v) (t:TypeId)
 (ht:tb=true->P.underlying t=some .bool):eD P ι I h w v (binOp op t cx cy):=by
 cases hx<;>try(simp only[cR] at hv;cases hv;done)
 case int k a=>
  cases hy<;>try(simp only[cR] at hv;cases hv;done)
  rename_i k' b
  by_cases h1:op= .shl
  ·subst h1
   simp only[cR] at hv
   split at hv
   ·cases hv
   ·rename_i hb;cases hv;exact .same H (by simp[binOp,Op.shift,hb]) (.int _ _)
  ·by_cases h2:op= .shr
   ·subst h2
    simp only[cR] at hv
    split at hv
    ·cases hv
    ·rename_i hb;cases hv;exact .same H (by simp[binOp,Op.shift,hb]) (.int _ _)
   ·have:cR tb op (.int k a) (.int k' b)=if k=k' then kR op k a b else none:=by cases op<;>first|rfl|exact(h1 rfl).elim|exact(h2 rfl).elim
    rw[this] at hv
    split at hv
    ·rename_i hk;subst hk
     obtain⟨c,hr,hc⟩:=am9 (P:=P) (ι:=ι) (I:=I) (w:=w) op k a b v ⟨h1,h2⟩ hv t
     exact .same H hr hc
    ·cases hv
 case bool a=>
  cases hy<;>try(simp only[cR] at hv;cases hv;done)
  rename_i b
  cases op<;>simp only[cR] at hv<;>try(cases hv;done)
  ·split at hv
   ·rename_i hb;cases hv;exact .same H (run_eql_bool w t a b (ht hb)) (.bool _)
   ·cases hv
  ·split at hv
   ·rename_i hb;cases hv;exact .same H (run_neq_bool w t a b (ht hb)) (.bool _)
   ·cases hv
 case fI k a=>
  cases hy<;>try(simp only[cR] at hv;cases hv;done)
  rename_i k' b
  simp only[cR] at hv
  split at hv
  ·rename_i hk;subst hk
   cases hq:Kn op k a b with
   |none=>simp[hq] at hv
   |some r=>simp[hq] at hv;subst hv;exact .same H (al4 op k a b r hq t) (.bool _)
  ·cases hv
 case fJ k a b=>
  cases hy<;>try(simp only[cR] at hv;cases hv;done)
  rename_i k' c d
  simp only[cR] at hv
  split at hv
  ·rename_i hk;subst hk
   cases op<;>simp only[] at hv<;>try(cases hv;done)
   ·cases hv;exact .same H (by simp[binOp,Op.complexOp,Op.Complex.cmp,Op.floatCmp,asBool]) (.bool _)
   ·cases hv;exact .same H (by simp[binOp,Op.complexOp,Op.Complex.cmp,Op.floatCmp,asBool]) (.bool _)
  ·cases hv
 case str a=>
  cases hy<;>try(simp only[cR] at hv;cases hv;done)
  rename_i b
  simp only[cR] at hv
  cases op<;>simp only[] at hv<;>try(cases hv;done)
  ·cases hv;exact .same H (by simp[binOp,Op.stringOp]) (.bool _)
  ·cases hv;exact .same H (by simp[binOp,Op.stringOp]) (.bool _)
end
end
section
open Go
section
variable {P:Program} {ι:aI} {I:aR} {h:aa} {w:World}
def CD:TypeDesc->Value->Option Nat
 | .pointer _, .pointer none=>some 0
 | .slice _, .slice none 0 0=>some 1
 | .func _ _ _, .nilFunc=>some 2
 | .map _ _, .map none=>some 3
 |_,_=>none
theorem anq {kd:Nat} {x:AV} {c:Value} {b:Bool} (hx:VR ι I w x c) (hb:iM kd x=some b):
 (kd=0/\ ∃a,c= .pointer a/\b=a.isNone)\/(kd=1/\ ∃a l n,c= .slice a l n/\b=a.isNone)\/
 (kd=2/\((c= .nilFunc/\b=true)\/ ∃f u v,c= .func f u v/\b=false))\/(kd=3/\ ∃r,c= .map r/\b=r.isNone):=by
 cases hx
 case vs xs t cb o s cap g hs h1 h2 hv cV bt ht=>
  cases xs with
  |nil=>simp[iM] at hb
  |cons x xs=>
   simp only[iM] at hb
   split at hb
   ·cases hb;exact .inr (.inl ⟨by assumption,_,_,_,rfl,rfl⟩)
   ·cases hb
 all_goals simp only[iM] at hb
 all_goals first
  |(cases hb;done)
  |(split at hb
    ·cases hb;first|exact .inl ⟨by assumption,_,rfl,rfl⟩|exact .inr (.inl ⟨by assumption,_,_,_,rfl,rfl⟩)|exact .inr (.inr (.inl ⟨by assumption, .inl ⟨rfl,rfl⟩⟩))|exact .inr (.inr (.inl ⟨by assumption, .inr ⟨_,_,_,rfl,rfl⟩⟩))|exact .inr (.inr (.inr ⟨by assumption,_,rfl,rfl⟩))
    ·cases hb)
theorem amv {t:TypeId} {d:TypeDesc} {nv:Value} {kd:Nat} (hu:P.underlying t=some d) (hk:CD d nv=some kd) {x:AV} {c:Value} {b:Bool}
 (hx:VR ι I w x c) (hb:iM kd x=some b):(Op.equal t c nv).run P w= .ok b w/\
   ∀neg:Bool,(binOp (if neg then .neq else .eql) t c nv)=(do let r <-Op.equal t c nv;pure (.bool (if neg then !r else r))):=by
 suffices key:(∀n,(Op.equalIn (n+1) t c nv).run P w= .ok b w)/\ ∀neg:Bool,(binOp (if neg then .neq else .eql) t c nv)=(do let r <-Op.equal t c nv;pure (.bool (if neg then !r else r))) from⟨key.1 9999,key.2⟩
 unfold CD at hk
 rcases anq hx hb with⟨rfl,a,rfl,rfl⟩|⟨rfl,a,l,n,rfl,rfl⟩|⟨rfl,⟨rfl,rfl⟩|⟨f,u,v,rfl,rfl⟩⟩|⟨rfl,r,rfl,rfl⟩<;>
  (split at hk<;>first|(simp at hk;done)|skip)
 ·refine⟨fun n=>?_,fun neg=>by cases neg<;>cases a<;>rfl⟩
  cases a<;>simp[Op.equalIn,cJ hu]
 ·refine⟨fun n=>?_,fun neg=>by cases neg<;>rfl⟩
  cases a<;>simp[Op.equalIn,cJ hu]
 ·exact⟨fun n=>by simp[Op.equalIn,cJ hu],fun neg=>by cases neg<;>rfl⟩
 ·exact⟨fun n=>by simp[Op.equalIn,cJ hu],fun neg=>by cases neg<;>rfl⟩
 ·refine⟨fun n=>?_,fun neg=>by cases neg<;>rfl⟩
  cases r<;>simp[Op.equalIn,cJ hu]
theorem amw (H:HR ι I h w) {t:TypeId} {d:TypeDesc} {nv:Value} {kd:Nat} (hu:P.underlying t=some d) (hk:CD d nv=some kd) (neg:Bool) {x v:AV} {c:Value}
 (hx:VR ι I w x c) (hv:((iM kd x).map fun b=>AV.bool (if neg then !b else b))=some v):eD P ι I h w v (binOp (if neg then .neq else .eql) t c nv):=by
 cases hb:iM kd x with
 |none=>simp[hb] at hv
 |some b=>
  simp[hb] at hv
  subst hv
  obtain⟨hr,hs⟩:=amv (P:=P) hu hk hx hb
  exact .same H (c:= .bool (if neg then !b else b)) (by rw[hs];simp[hr]) (.bool _)
theorem ao9 (H:HR ι I h w) {op:UnOp} {x v:AV} {c:Value} (hx:VR ι I w x c) (hv:B9 op x=some v):eD P ι I h w v (Op.unary op c):=by
 cases hx<;>simp only[B9] at hv<;>try(cases hv;done)
 case int k n=>
  cases op<;>simp only[pD,Option.map_some] at hv<;>try(cases hv;done)
  all_goals (cases hv;exact .same H rfl (.int _ _))
 case bool b=>
  cases op<;>simp only[] at hv<;>try(cases hv;done)
  cases hv;exact .same H rfl (.bool _)
theorem alW (H:HR ι I h w) {src dst:TypeId} {ds:TypeDesc} {k:IntKind} (hs:P.underlying src=some ds) (hd:P.underlying dst=some (.int k)) {x v:AV} {c:Value} (hx:VR ι I w x c)
 (hv:CK k x=some v):eD P ι I h w v (convert src dst c):=by
 unfold CK at hv
 cases hx<;>simp only[] at hv<;>try(cases hv;done)
 cases hv
 refine .same H (c:= .int k (k.wrap _)) ?_ (.int _ _)
 cases ds<;>simp[convert,cJ hs,cJ hd,Conv.intToInt]
theorem LR.cut {cs:List AV} {bD:List Value} (hl:LR ι I w cs bD) {ag:Bool} {sz off:Nat} {v:AV} (hc:cut ag sz off cs=some v):
 if ag then∃l',VR ι I w v (.agg l'.toArray)/\l'=(bD.drop off).take sz/\off+sz<=bD.length else∃c,bD[off]? =some c/\VR ι I w v c:=by
 unfold Am.cut at hc
 cases ag
 ·simp only[Bool.false_eq_true,if_false] at hc ⊢
  exact hl.get hc
 ·simp only[if_true] at hc ⊢
  split at hc
  ·rename_i hle
   cases hc
   have:=(hl.drop off).take sz
   exact⟨_, .agg _ _ this.1 this.2,rfl,by rw[<-hl.1];exact hle⟩
  ·cases hc
theorem ZD {t:TypeId} {d:TypeDesc} {sz:Nat} (hu:P.underlying t=some d) (hs:(P.info? t).map (·.size)=some sz) (w:World) {cs:List AV} {bD:List Value} (hl:LR ι I w cs bD)
 {off:Nat} {v:AV} (hc:cut d.isRow sz off cs=some v): ∃c,(part t bD.toArray off).run P w= .ok c w/\VR ι I w v c:=by
 have:=hl.cut hc
 cases hd:d.isRow with
 |true=>
  rw[hd] at this
  simp only[if_true] at this
  obtain⟨l',hv,rfl,hle⟩:=this
  refine⟨_,?_,hv⟩
  simp[part,zD hu,hd,mG hs,List.drop_take]
 |false=>
  rw[hd] at this
  simp only[Bool.false_eq_true,if_false] at this
  obtain⟨c,jj,hv⟩:=this
  exact⟨c,by simp[part,zD hu,hd,jj],hv⟩
theorem aoI (H:HR ι I h w) {s:TypeId} {fs:Array Field} {f:Nat} {fd:Field} {d:TypeDesc} {sz:Nat} (hu:P.underlying s=some (.struct fs)) (hf:fs[f]? =some fd)
 (hd:P.underlying fd.type=some d) (hs:(P.info? fd.type).map (·.size)=some sz) {x v:AV} {c:Value} (hx:VR ι I w x c)
 (hv:Fq d.isRow sz fd.offset x=some v):eD P ι I h w v (Instr.field s c f):=by
 unfold Fq at hv
 cases hx<;>simp only[] at hv<;>try(cases hv;done)
 rename_i cs bD hl fZ
 obtain⟨r,hr,gO⟩:=ZD (P:=P) hd hs w (cs:=cs) (bD:=bD) ⟨hl,fZ⟩ hv
 exact .same H (by simp[Instr.field,cJ hu,hf,asAgg,hr]) gO
theorem anI (H:HR ι I h w) {t e:TypeId} {len sz:Nat} {d:TypeDesc} (hu:P.underlying t=some (.array len e)) (hd:P.underlying e=some d) (hs:(P.info? e).map (·.size)=some sz)
 {x i v:AV} {c ci:Value} (hx:VR ι I w x c) (hi:VR ι I w i ci)
 (hv:DK d.isRow sz len x i=some v):eD P ι I h w v (Instr.index t c ci):=by
 unfold DK at hv
 cases hi<;>try(simp only[] at hv;cases hv;done)
 cases hx<;>simp only[] at hv<;>try(cases hv;done)
 rename_i k n cs bD hl fZ
 split at hv
 ·rename_i hb
  obtain⟨r,hr,gO⟩:=ZD (P:=P) hd hs w (cs:=cs) (bD:=bD) ⟨hl,fZ⟩ hv
  exact .same H (by simp[Instr.index,asIntOf,cJ hu,hb,mG hs,hr]) gO
 ·cases hv
theorem aoK (H:HR ι I h w) {x v:AV} {c:Value} {i:Nat} (hx:VR ι I w x c) (hv:Fs i x=some v):eD P ι I h w v (Instr.extract c i):=by
 unfold Fs at hv
 cases hx<;>simp only[] at hv<;>try(cases hv;done)
 rename_i cs bD hl fZ
 obtain⟨r,hr,gO⟩:=LR.get (l':=bD) ⟨hl,fZ⟩ hv
 exact .same H (by simp[Instr.extract,hr]) gO
theorem anw (H:HR ι I h w) {t e:TypeId} (ts:Array TypeId) (ty:TypeId) (h0:ts[0]? =some t) (hu:P.underlying t=some (.slice e)) {x v:AV} {c:Value} (hx:VR ι I w x c)
 (hv:((gI x).map fun(n:Nat)=>AV.int .i64 n)=some v):eD P ι I h w v (Builtin.len_ ts ty #[c]):=by
 cases hx<;>simp only[gI,Option.map_some,Option.map_none] at hv<;>try(cases hv;done)
 all_goals (cases hv;exact .same H (by simp[Builtin.len_,h0,cJ hu,goInt]) (.int _ _))
theorem alc (H:HR ι I h w) {t:TypeId} (ts:Array TypeId) (ty:TypeId) (h0:ts[0]? =some t) (hu:P.underlying t=some .string) {x v:AV} {c:Value} (hx:VR ι I w x c)
 (hv:HF x=some v):eD P ι I h w v (Builtin.len_ ts ty #[c]):=by
 unfold HF at hv
 cases hx<;>simp only[] at hv<;>try(cases hv;done)
 cases hv;exact .same H (by simp[Builtin.len_,h0,cJ hu,goInt]) (.int _ _)
theorem ak4 {mx:Bool} {x y v:AV} {cx cy:Value} (hx:VR ι I w x cx) (hy:VR ι I w y cy) (hv:qh mx x y=some v):
 ∃c,((if mx then Builtin.max2 else Builtin.min2) cx cy).run P w= .ok c w/\VR ι I w v c:=by
 cases hx<;>try(simp only[qh] at hv;cases hv;done)
 case int k a=>
  cases hy<;>simp only[qh] at hv<;>try(cases hv;done)
  split at hv
  ·rename_i hk;subst hk;cases hv
   cases mx<;>exact⟨_,rfl, .int _ _⟩
  ·cases hv
 case fI k a=>
  cases hy<;>simp only[qh] at hv<;>try(cases hv;done)
  rename_i k' b
  split at hv
  ·rename_i hk;subst hk
   cases mx<;>(cases ho:k.format.order a b with
    |none=>simp[ho] at hv
    |some o=>cases o<;>(simp[ho] at hv;subst hv;exact⟨_,by simp[Builtin.max2,Builtin.min2,ho], .fI _ _⟩))
  ·cases hv
end
end
section
open Go
section
variable {P:Program} {ι:aI} {I:aR} {h:aa} {w:World}
theorem zi (cs:List AV) (sz:Nat): ∀(n off:Nat),off+n*sz<=cs.length->(rowsOf cs off sz n).length=n/\(∀r∈rowsOf cs off sz n,r.length=sz/\ ∀v∈r,v∈cs)/\
 (rowsOf cs off sz n).flatten=(cs.drop off).take (n*sz)
 |0,off,h=>by simp[rowsOf]
 |n+1,off,h=>by
  have hh:off+sz+n*sz<=cs.length:=by rw[Nat.succ_mul] at h;omega
  obtain⟨h1,h2,h3⟩:=zi cs sz n (off+sz) hh
  refine⟨by simp[rowsOf,h1],fun r hr=>?_,?_⟩
  ·rcases List.mem_cons.1 hr with rfl|hr
   ·refine⟨?_,fun v hv=>List.mem_of_mem_drop (List.mem_of_mem_take hv)⟩
    simp;omega
   ·exact h2 r hr
  ·simp only[rowsOf,List.flatten_cons,h3]
   rw[Nat.succ_mul,Nat.add_comm (n*sz) sz,List.take_add,List.drop_drop]
theorem MT {sz s:Nat} {xs:List (List AV)} (hs: ∀(i:Nat) (row:List AV),xs[i]? =some row->row.length=s) (h:dF sz xs=true): ∀r∈xs,r.length=sz:=by
 intro r hr
 obtain⟨i,hi,rfl⟩:=List.getElem_of_mem hr
 have h1:=hs i _ (List.getElem?_eq_getElem hi)
 cases xs with
 |nil=>simp at hi
 |cons x xs=>
  have h2:=hs 0 x rfl
  simp[dF] at h
  omega
structure Rd (ι:aI) (I:aR) (w:World) (sz:Nat) (rows:List (List AV)) (a:Option Addr) (l:List Value):Prop where
 mw: ∀r∈rows,r.length=sz/\ ∀v∈r,v.one=true
 lr:LR ι I w rows.flatten l
 cell: ∀ad,a=some ad-> ∀(j:Nat) (u:Value),l[j]? =some u->w.cell? (ad.add j)=some u
 none:a=none->rows=[]
theorem Rd.len {sz:Nat} {rows:List (List AV)} {a:Option Addr} {l:List Value} (hr:Rd ι I w sz rows a l):l.length=rows.length*sz:=by
 rw[<-hr.lr.1,nx rows (fun r h=>(hr.mw r h).1)]
theorem Rd.one {sz:Nat} {rows:List (List AV)} {a:Option Addr} {l:List Value} (hr:Rd ι I w sz rows a l): ∀u∈l,u.oneCell'=true:=by
 intro u hu
 obtain⟨i,hi,rfl⟩:=List.getElem_of_mem hu
 have aB:i<rows.flatten.length:=by rw[hr.lr.1];exact hi
 have hv:=hr.lr.2 i _ _ (List.getElem?_eq_getElem aB) (List.getElem?_eq_getElem hi)
 refine hv.one ?_
 obtain⟨r,Bw,uo⟩:=List.mem_flatten.1 (List.getElem_mem aB)
 exact(hr.mw r Bw).2 _ uo
theorem wO (H:HR ι I h w) {x:AV} {c:Value} {sz:Nat} {rows:List (List AV)} (hx:VR ι I w x c) (hr:cQ sz h x=some rows):
 ∃a cap l,c= .slice a rows.length cap/\rows.length<=cap/\Rd ι I w sz rows a l:=by
 cases hx<;>simp only[cQ] at hr<;>try(cases hr;done)
 case gu t ht=>
  simp at hr;obtain⟨_,rfl⟩:=hr
  exact⟨none,0,[],rfl,Nat.le_refl _,by simp,LR.nil,by simp,fun _=>rfl⟩
 case fU t a cap ht=>
  simp at hr;obtain⟨_,rfl⟩:=hr
  exact⟨some a,cap,[],rfl,Nat.zero_le _,by simp,LR.nil,fun ad wz=>by simp,fun h=>by cases h⟩
 case bx=>
  cases hr
  exact⟨none,0,[],rfl,Nat.le_refl _,by simp,LR.nil,by simp,fun _=>rfl⟩
 case vs xs t cb o s cap g hs hI hc hv h1 bt ht=>
  split at hr
  ·rename_i gM
   cases hr
   have JA: ∀r∈rows,r.length=sz:=MT hs gM
   have bH:=nx rows JA
   refine⟨some ⟨cb,o,none⟩,cap,(List.range (rows.length*sz)).map fun j=>g (j/sz) (j%sz),rfl,bt,fun r hr=>⟨JA r hr,h1 r hr⟩,?_,?_,by simp⟩
   ·refine⟨by simp[bH],fun j v c da cS=>?_⟩
    have hj:j<rows.length*sz:=by rw[<-bH];exact(List.getElem?_eq_some_iff.1 da).1
    have iS:0<sz:=by
     rcases Nat.eq_zero_or_pos sz with h0|h0
     ·rw[h0] at hj;simp at hj
     ·exact h0
    have hd:j/sz<rows.length:=(Nat.div_lt_iff_lt_mul iS).2 hj
    have hm:j%sz<sz:=Nat.mod_lt _ iS
    have cw:=List.getElem?_eq_getElem hd
    have:=flat_get rows JA (j/sz) (j%sz) _ cw hm
    rw[Nat.div_add_mod' j sz,da] at this
    simp[hj] at cS
    subst cS
    exact hv _ _ _ _ cw this.symm
   ·intro ad wz
    cases wz
    intro j u hu
    rw[Addr.add_mid]
    have hj:j<rows.length*sz:=by have:=(List.getElem?_eq_some_iff.1 hu).1;simpa using this
    simp[hj] at hu
    subst hu
    have iS:0<sz:=by
     rcases Nat.eq_zero_or_pos sz with h0|h0
     ·rw[h0] at hj;simp at hj
     ·exact h0
    have hd:j/sz<rows.length:=(Nat.div_lt_iff_lt_mul iS).2 hj
    have hm:j%sz<sz:=Nat.mod_lt _ iS
    have jy:s=sz:=by rw[<-hs _ _ (List.getElem?_eq_getElem hd)];exact JA _ (List.getElem_mem hd)
    subst jy
    have:=hc _ _ hd hm
    rwa [Nat.add_assoc,Nat.div_add_mod' j s] at this
  ·cases hr
 case vz a cap=>
  cases hr
  exact⟨some a,cap,[],rfl,Nat.zero_le _,⟨by simp,LR.nil,fun ad _ j u hu=>by simp at hu,fun h=>by cases h⟩⟩
 case rs b off len aO cb o room cap hb hlen bt=>
  split at hr
  ·rename_i hz
   subst hz
   cases hg:cellsOf h b with
   |none=>simp[hg] at hr
   |some cs=>
    simp only[hg] at hr
    split at hr
    ·rename_i hle
     cases hr
     obtain⟨h1,h2,h3⟩:=zi cs aO len off hle
     have cF:h.get b=some (.cells cs):=by
      unfold cellsOf at hg;split at hg
      ·rename_i bD hh;cases hg;exact hh
      ·cases hg
     obtain⟨cw,_,cV⟩:=H.row cF hb
     obtain⟨l,ee,fY,Gf⟩:=(cw.sub off (len*aO)).list
     refine⟨some ⟨cb,o+off,none⟩,cap,l,by rw[h1],by rw[h1];exact hlen,fun r hr=>⟨(h2 r hr).1,fun v hv=>cV v ((h2 r hr).2 v hv)⟩,?_,?_,by simp⟩
     ·rw[h3];exact⟨ee,Gf⟩
     ·intro ad wz
      cases wz
      intro j u hu
      rw[Addr.add_mid]
      exact fY j u hu
    ·cases hr
  ·cases hr
 case rk b off len aO cap cb o room hb hlen bt=>
  split at hr
  ·rename_i hz
   subst hz
   cases hg:cellsOf h b with
   |none=>simp[hg] at hr
   |some cs=>
    simp only[hg] at hr
    split at hr
    ·rename_i hle
     cases hr
     obtain⟨h1,h2,h3⟩:=zi cs aO len off hle
     have cF:h.get b=some (.cells cs):=by
      unfold cellsOf at hg;split at hg
      ·rename_i bD hh;cases hg;exact hh
      ·cases hg
     obtain⟨cw,_,cV⟩:=H.row cF hb
     obtain⟨l,ee,fY,Gf⟩:=(cw.sub off (len*aO)).list
     refine⟨some ⟨cb,o+off,none⟩,cap,l,by rw[h1],by rw[h1];exact hlen,fun r hr=>⟨(h2 r hr).1,fun v hv=>cV v ((h2 r hr).2 v hv)⟩,?_,?_,by simp⟩
     ·rw[h3];exact⟨ee,Gf⟩
     ·intro ad wz
      cases wz
      intro j u hu
      rw[Addr.add_mid]
      exact fY j u hu
    ·cases hr
  ·cases hr
theorem Rd.src {sz:Nat} {rows:List (List AV)} {a:Option Addr} {l:List Value} (hr:Rd ι I w sz rows a l) {tx e':TypeId} (hk:P.underlying tx=some (.slice e')) (cap:Nat):
 Src P sz tx (.slice a rows.length cap) rows.length l w:=by
 cases a with
 |none=>
  have:=hr.none rfl
  subst this
  have hl:l=[]:=by have:=hr.len;simp at this;exact this
  subst hl
  exact Src.ofNil w hk cap
 |some ad=>
  exact Src.ofSlice w hk _ _ _ _ hr.len (hr.cell ad rfl) hr.one
theorem zt {ρ:Env} {d n:Nat} {x:au} {c:Value} (hx:OR ι I w ρ x c) (hb:cC ρ d (some x)=some n): ∃k,c= .int k n:=by
 unfold OR at hx
 simp only[cC] at hb
 cases oI:x.ev ρ<;>simp only[oI] at hb<;>try(cases hb;done)
 rename_i k i
 rw[oI] at hx
 split at hb
 ·rename_i h0
  cases hb
  cases hx
  exact⟨k,by rw[Int.toNat_of_nonneg h0]⟩
 ·cases hb
theorem tC (w:World) (k:IntKind) (n y:Nat) (code:BoundsCode) (h:n<=y):(Instr.sliceBound (.int k n) y code).run P w= .ok n w:=by
 simp[Instr.sliceBound,asIntOf,h]
def y8 (ι:aI) (I:aR) (w:World) (ρ:Env):Option au->Option Value->Prop
 |none,none=>True
 |some x,some c=>OR ι I w ρ x c
 |_,_=>False
theorem rJ {ρ:Env} {lo hi mx:Option au} {ng rr tc:Option Value} (gC:y8 ι I w ρ lo ng) (lB:y8 ι I w ρ hi rr) (m6:y8 ι I w ρ mx tc)
 {len cap l hh m:Nat} (h1:cC ρ len hi=some hh) (h2:cC ρ 0 lo=some l) (h3:cC ρ cap mx=some m) (Bz:l<=hh) (hlen:len<=cap)
 (LU:hh<=m) (hm:m<=cap) (awC:mx.isSome->hi.isSome) (b:Bool):
 (Instr.sliceBounds b len cap ng rr tc).run P w= .ok (l,hh,m) w:=by
 unfold Instr.sliceBounds
 cases mx with
 |none=>
  cases tc with
  |some _=>exact m6.elim
  |none=>
   simp only[cC,Option.some.injEq] at h3
   subst h3
   cases hi with
   |none=>
    cases rr with
    |some _=>exact lB.elim
    |none=>
     simp only[cC,Option.some.injEq] at h1
     subst h1
     cases lo with
     |none=>
      cases ng with
      |some _=>exact gC.elim
      |none=>simp only[cC,Option.some.injEq] at h2;subst h2;simp
     |some x=>
      cases ng with
      |none=>exact gC.elim
      |some c=>
       obtain⟨k,rfl⟩:=zt gC h2
       simp[tC (P:=P) w k l _ _ Bz]
   |some y=>
    cases rr with
    |none=>exact lB.elim
    |some cy=>
     obtain⟨ky,rfl⟩:=zt lB h1
     cases lo with
     |none=>
      cases ng with
      |some _=>exact gC.elim
      |none=>simp only[cC,Option.some.injEq] at h2;subst h2;simp[tC (P:=P) w ky hh _ _ LU]
     |some x=>
      cases ng with
      |none=>exact gC.elim
      |some c=>
       obtain⟨k,rfl⟩:=zt gC h2
       simp[tC (P:=P) w k l _ _ Bz,tC (P:=P) w ky hh _ _ LU]
 |some z=>
  cases tc with
  |none=>exact m6.elim
  |some cz=>
   obtain⟨kz,rfl⟩:=zt m6 h3
   cases hi with
   |none=>simp at awC
   |some y=>
    cases rr with
    |none=>exact lB.elim
    |some cy=>
     obtain⟨ky,rfl⟩:=zt lB h1
     cases lo with
     |none=>
      cases ng with
      |some _=>exact gC.elim
      |none=>simp only[cC,Option.some.injEq] at h2;subst h2;simp[tC (P:=P) w ky hh _ _ LU,tC (P:=P) w kz m _ _ hm]
     |some x=>
      cases ng with
      |none=>exact gC.elim
      |some c=>
       obtain⟨k,rfl⟩:=zt gC h2
       simp[tC (P:=P) w k l _ _ Bz,tC (P:=P) w ky hh _ _ LU,tC (P:=P) w kz m _ _ hm]
theorem ZC {t':aH} {xs:List (List AV)} {cb o s sz l n yk:Nat} {g:Nat->Nat->Value}
 (hs: ∀(i:Nat) (row:List AV),xs[i]? =some row->row.length=s)
 (hI: ∀i j,i<xs.length->j<s->I cb (o+i*s+j))
 (hc: ∀i j,i<xs.length->j<s->w.cell? ⟨cb,o+i*s+j,none⟩=some (g i j))
 (hv: ∀(i:Nat) (row:List AV) (j:Nat) (v:AV),xs[i]? =some row->row[j]? =some v->VR ι I w v (g i j))
 (h1: ∀row∈xs,∀v∈row,AV.one v=true) (hk:dF sz xs=true) (hn:l+n<=xs.length) (bt:n<=yk) (o':Nat) (ho:n≠0->o'=o+l*sz)
 (ht:(n≠0->s=sz/\o'=o+l*s)->QY ι cb o' s n yk t'):
 VR ι I w (.vs ((xs.drop l).take n) t') (.slice (some ⟨cb,o',none⟩) n yk):=by
 have hlen:((xs.drop l).take n).length=n:=by simp;omega
 have gM:=MT hs hk
 have jy:n≠0->s=sz:=by
  intro h0
  have hl:l<xs.length:=by omega
  rw[<-hs l _ (List.getElem?_eq_getElem hl)]
  exact gM _ (List.getElem_mem hl)
 have a7: ∀(i:Nat) (row:List AV),((xs.drop l).take n)[i]? =some row->xs[l+i]? =some row/\i<n:=by
  intro i row hi
  rw[List.getElem?_take] at hi
  split at hi
  ·rename_i aC;rw[List.getElem?_drop] at hi;exact⟨hi,aC⟩
  ·cases hi
 have vP: ∀i j,i<n->o'+i*s+j=o+(l+i)*s+j:=by
  intro i j hi
  have h0:n≠0:=by omega
  rw[ho h0,<-jy h0,Nat.add_mul];omega
 have key:=VR.vs (ι:=ι) (I:=I) (w:=w) ((xs.drop l).take n) t' cb o' s yk (fun i j=>g (l+i) j) (fun i row hi=>hs _ row (a7 i row hi).1)
  (fun i j hi hj=>by rw[hlen] at hi;rw[vP i j hi];exact hI _ _ (by omega) hj)
  (fun i j hi hj=>by rw[hlen] at hi;rw[vP i j hi];exact hc _ _ (by omega) hj)
  (fun i row j v hi hj=>hv _ row j v (a7 i row hi).1 hj)
  (fun row hr v da=>h1 row (List.mem_of_mem_drop (List.mem_of_mem_take hr)) v da) (by rw[hlen];exact bt)
  (by rw[hlen];exact ht (fun h0=>⟨jy h0,by rw[ho h0,jy h0]⟩))
 rw[hlen] at key
 exact key
theorem rP {t e:TypeId} {sz:Nat} (hu:P.underlying t=some (.slice e)) (aP:(P.info? e).map (·.size)=some sz) (w:World) {a:Option Addr} {len cap l hh m:Nat} {ng rr tc:Option Value}
 (hb:(Instr.sliceBounds true len cap ng rr tc).run P w= .ok (l,hh,m) w):
 (Instr.sliceAt t (.slice a len cap) ng rr tc).run P w= .ok (.slice (if m=l then a else a.map (·.add (l*sz))) (hh-l) (m-l)) w:=by
 simp[Instr.sliceAt,cJ hu,Instr.slice,hb,mG aP]
theorem aol (H:HR ι I h w) {t e:TypeId} {sz:Nat} (hu:P.underlying t=some (.slice e)) (aP:(P.info? e).map (·.size)=some sz) {ρ:Env} {lo hi mx:Option au} {ng rr tc:Option Value}
 (gC:y8 ι I w ρ lo ng) (lB:y8 ι I w ρ hi rr) (m6:y8 ι I w ρ mx tc) {x v:AV} {c:Value} (hx:VR ι I w x c) (hv:i7 ρ sz x lo hi mx=some v):
 eD P ι I h w v (Instr.sliceAt t c ng rr tc):=by
 cases hx<;>try(simp only[i7] at hv;cases hv;done)
 case bx=>
  simp only[i7,Option.bind_eq_bind,Option.bind_eq_some_iff] at hv
  obtain⟨hh,h1,l,h2,m,h3,hv⟩:=hv
  split at hv
  ·rename_i hc
   obtain⟨rfl,rfl,rfl,LO⟩:=hc
   cases hv
   cases mx with
   |none=>
    have hb:=rJ (P:=P) gC lB m6 h1 h2 (cap:=0) rfl (Nat.le_refl _) (Nat.le_refl _) (Nat.le_refl _) (Nat.le_refl _) (by simp) true
    exact .same H (rP hu aP w hb) .bx
   |some z=>
    have hb:=rJ (P:=P) gC lB m6 h1 h2 (cap:=0) h3 (Nat.le_refl _) (Nat.le_refl _) (Nat.le_refl _) (Nat.le_refl _) LO true
    exact .same H (rP hu aP w hb) .bx
  ·cases hv
 case gu t' ht=>
  simp only[i7,Option.bind_eq_bind,Option.bind_eq_some_iff,List.length_nil] at hv
  obtain⟨hh,h1,l,h2,hv⟩:=hv
  split at hv
  ·rename_i hc
   obtain⟨bn,bk,-⟩:=hc
   have:hh=0:=by omega
   subst this
   have:l=0:=by omega
   subst this
   cases mx with
   |none=>
    cases hv
    have hb:=rJ (P:=P) gC lB m6 h1 h2 (cap:=0) rfl (Nat.le_refl _) (Nat.le_refl _) (Nat.le_refl _) (Nat.le_refl _) (by simp) true
    refine .same H (rP hu aP w hb) ?_
    simp
    refine .gu _ ?_
    rcases ht with rfl|rfl<;>simp[pe]
   |some z=>
    simp only[Option.bind_eq_some_iff] at hv
    obtain⟨m,h3,hv⟩:=hv
    split at hv
    ·rename_i hc
     obtain⟨aB,ur,mA⟩:=hc
     have:m=0:=by omega
     subst this
     cases hv
     have hb:=rJ (P:=P) gC lB m6 h1 h2 (cap:=0) h3 (Nat.le_refl _) (Nat.le_refl _) (Nat.le_refl _) (Nat.le_refl _) (fun _=>aB) true
     refine .same H (rP hu aP w hb) ?_
     simp
     exact .gu _ (.inr rfl)
    ·cases hv
  ·cases hv
 case fU t' a cap ht=>
  simp only[i7,Option.bind_eq_bind,Option.bind_eq_some_iff,List.length_nil] at hv
  obtain⟨hh,h1,l,h2,hv⟩:=hv
  split at hv
  ·rename_i hc
   obtain⟨bn,bk,-⟩:=hc
   have:hh=0:=by omega
   subst this
   have:l=0:=by omega
   subst this
   have Aw: ∀m,(if m=0 then some a else(some a).map (·.add (0*sz)))=some a:=by intro m;split<;>simp[Addr.add]
   cases mx with
   |none=>
    cases hv
    have hb:=rJ (P:=P) gC lB m6 h1 h2 (cap:=cap) rfl (Nat.le_refl _) (Nat.zero_le _) (Nat.zero_le _) (Nat.le_refl _) (by simp) true
    refine .same H (rP hu aP w hb) ?_
    rw[Aw]
    simp
    refine .fU _ _ _ ?_
    rcases ht with rfl|⟨rfl,rfl⟩<;>simp[pe]
   |some z=>
    simp only[Option.bind_eq_some_iff] at hv
    obtain⟨m,h3,hv⟩:=hv
    split at hv
    ·rename_i hc
     obtain⟨aB,ur,mA⟩:=hc
     have:m=0:=by omega
     subst this
     cases hv
     have nf:cC ρ cap (some z)=some 0:=h3
     have hb:=rJ (P:=P) gC lB m6 h1 h2 (cap:=cap) nf (Nat.le_refl _) (Nat.zero_le _) (Nat.le_refl _) (Nat.zero_le _) (fun _=>aB) true
     refine .same H (rP hu aP w hb) ?_
     rw[Aw]
     simp
     exact .fU _ _ _ (.inr ⟨rfl,rfl⟩)
    ·cases hv
  ·cases hv
 case vs xs t' cb o s cap g hs hI hc da cV bt ht=>
  simp only[i7,Option.bind_eq_bind,Option.bind_eq_some_iff] at hv
  obtain⟨hh,h1,l,h2,hv⟩:=hv
  split at hv
  ·rename_i fE
   obtain⟨bn,bk,hk⟩:=fE
   cases mx with
   |none=>
    cases hv
    have hb:=rJ (P:=P) gC lB m6 h1 h2 (cap:=cap) rfl bn bt (by omega) (Nat.le_refl _) (by simp) true
    refine .same H (rP hu aP w hb) ?_
    have Aw:(if cap=l then some (⟨cb,o,none⟩:Addr) else(some (⟨cb,o,none⟩:Addr)).map (·.add (l*sz)))=some ⟨cb,if cap=l then o else o+l*sz,none⟩:=by
     split<;>simp[Addr.add_mid]
    rw[Aw]
    refine ZC (l:=l) (n:=hh-l) (yk:=cap-l) hs hI hc da cV hk (by omega) (by omega) _ (fun h0=>by rw[if_neg (by omega)]) (fun auC=>?_)
    cases t' with
    |ao=>trivial
    |full=>
     have dj:cap=xs.length:=ht
     simp only[pe]
     by_cases jj:hh=xs.length
     ·rw[if_pos jj];show cap-l=hh-l;omega
     ·rw[if_neg jj];trivial
    |own k=>
     simp only[pe]
     by_cases jj:hh=xs.length/\l<hh
     ·rw[if_pos jj]
      obtain⟨h5,h6⟩:=auC (by omega)
      refine⟨by omega,?_⟩
      rw[h6,ht.2]
      congr 2
      ·rw[jj.1,Nat.sub_mul]
       have:=Nat.mul_le_mul_right s (show l<=xs.length by omega)
       omega
      ·rw[Nat.sub_mul]
       have:=Nat.mul_le_mul_right s (show l<=cap by omega)
       omega
     ·rw[if_neg jj];trivial
   |some z=>
    simp only[Option.bind_eq_some_iff] at hv
    obtain⟨m,h3,hv⟩:=hv
    split at hv
    ·rename_i fE
     obtain⟨aB,ur,mA⟩:=fE
     cases hv
     have nf:cC ρ cap (some z)=some m:=h3
     have hb:=rJ (P:=P) gC lB m6 h1 h2 (cap:=cap) nf bn bt ur (by omega) (fun _=>aB) true
     refine .same H (rP hu aP w hb) ?_
     have Aw:(if m=l then some (⟨cb,o,none⟩:Addr) else(some (⟨cb,o,none⟩:Addr)).map (·.add (l*sz)))=some ⟨cb,if m=l then o else o+l*sz,none⟩:=by
      split<;>simp[Addr.add_mid]
     rw[Aw]
     refine ZC (l:=l) (n:=hh-l) (yk:=m-l) hs hI hc da cV hk (by omega) (by omega) _ (fun h0=>by rw[if_neg (by omega)]) (fun _=>?_)
     by_cases LO:m=hh
     ·rw[if_pos LO];show m-l=hh-l;omega
     ·rw[if_neg LO];trivial
    ·cases hv
  ·cases hv
 case rs b off len aO cb o room cap bC hlen bt=>
  simp only[i7,Option.bind_eq_bind,Option.bind_eq_some_iff] at hv
  obtain⟨hh,h1,l,h2,hv⟩:=hv
  split at hv
  ·rename_i fE
   obtain⟨sT,bn,bk,rfl⟩:=fE
   cases mx with
   |some _=>simp at sT
   |none=>
    have hb:=rJ (P:=P) gC lB m6 h1 h2 (cap:=cap) rfl bn hlen (by omega) (Nat.le_refl _) (by simp) true
    refine .same H (rP hu aP w hb) ?_
    split at hv
    ·rename_i Bz
     subst Bz
     have:(if cap=l then some (⟨cb,o+off,none⟩:Addr) else(some (⟨cb,o+off,none⟩:Addr)).map (·.add (l*aO)))=some ⟨cb,if cap=l then o+off else o+off+l*aO,none⟩:=by
      split<;>simp[Addr.add_mid]
     rw[this,Nat.sub_self]
     cases lo with
     |some lo=>
      simp at hv
      subst hv
      exact .vs [] .ao cb _ 0 _ (fun _ _=>undef) (by simp) (by simp) (by simp) (by simp) (by simp) (by simp) trivial
     |none=>
      simp only[cC,Option.some.injEq] at h2
      subst h2
      simp at hv
      subst hv
      have e:(if cap=0 then o+off else o+off+0*aO)=o+off:=by split<;>simp
      rw[e]
      exact .rs b off 0 aO cb o room (cap-0) bC (Nat.zero_le _) (by simpa using bt)
    ·rename_i Bz
     cases hv
     rw[if_neg (by omega)]
     simp only[Option.map_some,Addr.add_mid]
     rw[Nat.add_assoc]
     refine .rs b (off+l*aO) (hh-l) aO cb o room (cap-l) bC (by omega) ?_
     rw[Nat.sub_mul]
     have:=Nat.mul_le_mul_right aO (show l<=cap by omega)
     omega
  ·cases hv
 case rk b off len aO cap cb o room bC hlen bt=>
  simp only[i7,Option.bind_eq_bind,Option.bind_eq_some_iff] at hv
  obtain⟨hh,h1,l,h2,m,h3,hv⟩:=hv
  split at hv
  ·rename_i fE
   obtain⟨bn,bk,jk,rfl,BH⟩:=fE
   have hb:=rJ (P:=P) gC lB m6 h1 h2 (cap:=cap) h3 bn hlen bk jk BH true
   refine .same H (rP hu aP w hb) ?_
   by_cases wu:m=l
   ·rw[if_pos wu] at hv
    cases hv
    rw[if_pos wu,show hh-l=0 by omega,show m-l=0 by omega]
    exact .fU _ _ _ (.inr ⟨rfl,rfl⟩)
   ·rw[if_neg wu] at hv
    cases hv
    rw[if_neg wu]
    simp only[Option.map_some,Addr.add_mid]
    rw[Nat.add_assoc]
    refine .rk b (off+l*aO) (hh-l) aO (m-l) cb o room bC (by omega) ?_
    rw[Nat.sub_mul]
    have:=Nat.mul_le_mul_right aO (show l<=m by omega)
    have:=Nat.mul_le_mul_right aO (show m<=cap by omega)
    omega
  ·cases hv
end
end
section
open Go
section
variable {P:Program} {ι:aI} {I:aR} {h:aa} {w:World}
def ER (ι:aI) (I:aR) (w:World) (es:List (AV×AV)) (aV:List MapEntry):Prop:=
 es.length=aV.length/\ ∀(i:Nat) (k v:AV) (e:MapEntry),es[i]? =some (k,v)->aV[i]? =some e->VR ι I w k e.key/\VR ι I w v e.val
theorem ER.tail {p:AV×AV} {e:MapEntry} {es:List (AV×AV)} {aV:List MapEntry} (hr:ER ι I w (p::es) (e::aV)):ER ι I w es aV:=
 ⟨by simpa using hr.1,fun i k v e h1 h2=>hr.2 (i+1) k v e (by simpa using h1) (by simpa using h2)⟩
theorem Hp (kk:IntKind) {kd:IntKind} {n:Int}: ∀(es:List (AV×AV)) (aV:List MapEntry) (i:Nat) (r:Option Nat),ER ι I w es aV->mM (.int kd n) es i=some r->
 (r=none/\Instr.findNow (.int kk) (.int kd n) aV i=some none)\/
 ∃j e,r=some (i+j)/\aV[j]? =some e/\e.key= .int kd n/\Instr.findNow (.int kk) (.int kd n) aV i=some (some (i+j,e.val))
 |[],[],i,r,_,h=>by simp[mM] at h;subst h;exact .inl ⟨rfl,rfl⟩
 |[],_::_,i,r,hr,_=>by simp[ER] at hr
 |_::_,[],i,r,hr,_=>by simp[ER] at hr
 |(k',v)::es,e::aV,i,r,hr,h=>by
  have hk:=(hr.2 0 k' v e rfl rfl).1
  simp only[mM] at h
  cases fh:k'<;>simp only[fh] at h<;>try(cases h;done)
  rename_i kd' n'
  subst fh
  split at h
  ·rename_i BB
   subst BB
   have yT:e.key= .int kd n':=by
    generalize he:e.key=ek at hk
    cases hk
    rfl
   split at h
   ·rename_i heq
    cases h
    have:n=n':=by simpa using heq
    subst this
    refine .inr ⟨0,e,rfl,rfl,yT,?_⟩
    simp[Instr.findNow,yT,Instr.sameNow]
   ·rename_i aM
    have Fl:(n==n')=false:=by simpa using aM
    rcases Hp kk es aV (i+1) r hr.tail h with⟨rfl,hf⟩|⟨j,e',rfl,dJ,fh,hf⟩
    ·refine .inl ⟨rfl,?_⟩
     simp[Instr.findNow,yT,Instr.sameNow,Fl,hf]
    ·refine .inr ⟨j+1,e',by congr 1;omega,by simpa using dJ,fh,?_⟩
     simp[Instr.findNow,yT,Instr.sameNow,Fl,hf];omega
  ·cases h
theorem run_checkKey (w:World) {key:TypeId} {kk:IntKind} (hk:P.underlying key=some (.int kk)) (b:Bool) (k:IntKind) (n:Int):
 (Instr.checkKey b 10000 key (.int k n)).run P w= .ok () w:=by
 suffices av8: ∀m,(Instr.checkKey b (m+1) key (.int k n)).run P w= .ok () w from av8 9999
 intro m
 simp[Instr.checkKey,cJ hk]
theorem run_findKey (w:World) {key:TypeId} {kk:IntKind} (hk:P.underlying key=some (.int kk)) {k:Value} {es:List MapEntry} {r:Option (Nat×Value)}
 (hf:Instr.findNow (.int kk) k es 0=some r):(Instr.findKey key k es).run P w= .ok r w:=by
 simp[Instr.findKey,cJ hk,hf]
theorem zm (w:World) {cb:Nat} {es:Array MapEntry} {clock:Nat} (hm:w.heap[cb]? =some (.map es clock)):(getObj cb).run P w= .ok (.map es clock) w:=by
 simp[getObj,Sem.run,hm]
theorem HR.map (H:HR ι I h w) {b cb:Nat} {es:List (AV×AV)} (hg:h.get b=some (.map es)) (hb:ι b=some (.map cb)):
 ∃aV clock,w.heap[cb]? =some (.map aV clock)/\ER ι I w es aV.toList/\nM aV clock:=by
 obtain⟨iy,aV,clock,hl,hm,hlen,hv⟩:=H.maps b es _ hg hb
 cases hl
 exact⟨aV,clock,hm,⟨by simpa using hlen.1,fun i k v e h1 h2=>hv i k v e h1 (by simpa using h2)⟩,hlen.2⟩
theorem Hi {e:TypeId} {ie:TypeInfo} {z:Value} (cP:P.info? e=some ie) (hz:ie.zero=some z) (w:World):(zeroValue e).run P w= .ok z w:=by
 simp[zeroValue,typeInfo,cP,hz]
theorem LR.two {a b:AV} {c d:Value} (h1:VR ι I w a c) (h2:VR ι I w b d):VR ι I w (.az [a,b]) (.tuple #[c,d]):=
 .az [a,b] [c,d] rfl (LR.cons h1 (LR.cons h2 LR.nil)).2
theorem ak8 (H:HR ι I h w) {t key e:TypeId} {kk:IntKind} {ie:TypeInfo} {z:Value} {za:AV} (hu:P.underlying t=some (.map key e)) (hk:P.underlying key=some (.int kk))
 (cP:P.info? e=some ie) (hz:ie.zero=some z) (dZ:VR ι I w za z) (ok:Bool) {m k v:AV} {cm ck:Value} (hm:VR ι I w m cm) (BA:VR ι I w k ck)
 (hv:pj za ok h m k=some v):eD P ι I h w v (Instr.lookup t cm ck ok):=by
 unfold pj at hv
 have Jx: ∀w',w'=w->(∃c,(Instr.lookup t (.map none) ck ok).run P w'= .ok c w'/\True)\/True:=fun _ _=> .inr trivial
 cases hm<;>try(simp only[] at hv;cases hv;done)
 case qm=>
  cases BA<;>simp only[] at hv<;>try(cases hv;done)
  rename_i kd n
  cases hv
  refine .same H (c:=if ok then .tuple #[z, .bool false] else z) ?_ ?_
  ·simp[Instr.lookup,cJ hu,run_checkKey w hk,run_findKey w hk (show Instr.findNow (.int kk) (.int kd n) [] 0=some none from rfl),Hi cP hz]
  ·cases ok
   ·exact dZ
   ·exact LR.two dZ (.bool false)
 case map b cb hb=>
  cases BA<;>simp only[] at hv<;>try(cases hv;done)
  rename_i kd n
  split at hv
  ·rename_i es hg
   obtain⟨aV,clock,iw,gR,-⟩:=H.map hg hb
   cases hl:u2 (.int kd n) es with
   |none=>simp[hl] at hv
   |some r=>
    simp[hl] at hv
    unfold u2 at hl
    cases hf:mM (.int kd n) es 0 with
    |none=>simp[hf] at hl
    |some o=>
     simp[hf] at hl
     rcases Hp kk es aV.toList 0 o gR hf with⟨rfl,ji⟩|⟨j,s8,rfl,yh,iq,ji⟩
     ·simp at hl
      subst hl
      simp at hv
      subst hv
      refine .same H (c:=if ok then .tuple #[z, .bool false] else z) ?_ ?_
      ·simp[Instr.lookup,cJ hu,zm w iw,run_checkKey w hk,run_findKey w hk ji,Hi cP hz]
      ·cases ok
       ·exact dZ
       ·exact LR.two dZ (.bool false)
     ·have hj:j<es.length:=by rw[gR.1];exact(List.getElem?_eq_some_iff.1 yh).1
      have LW:=List.getElem?_eq_getElem hj
      simp[LW] at hl
      subst hl
      simp at hv
      subst hv
      have gO:=(gR.2 j es[j].1 es[j].2 s8 (by rw[LW]) yh).2
      refine .same H (c:=if ok then .tuple #[s8.val, .bool true] else s8.val) ?_ ?_
      ·simp[Instr.lookup,cJ hu,zm w iw,run_checkKey w hk,run_findKey w hk ji]
      ·cases ok
       ·exact gO
       ·exact LR.two gO (.bool true)
  ·cases hv
end
end
section
open Go
section
variable {P:Program} {ι:aI} {I:aR} {h:aa} {w:World}
def zy (P:Program):List Field->Option (List Nat)
 |[]=>some []
 |f::fs=>match P.underlying f.type,zy P fs with
  |some (.int _),some os=>if f.name≠ "_" then some (f.offset::os) else none
  |_,_=>none
theorem XA (d:Nat) {xs ys:List AV} {sI Bi:List Value} (hx:LR ι I w xs sI) (hy:LR ι I w ys Bi): ∀(fs:List Field) (os:List Nat) (b:Bool),zy P fs=some os->
 zG xs ys os=some b->(Op.eqFields (d+1) sI.toArray Bi.toArray fs).run P w= .ok b w
 |[],os,b,hf,he=>by
  simp[zy] at hf;subst hf;simp[zG] at he;subst he;simp[Op.eqFields]
 |f::fs,os,b,hf,he=>by
  simp only[zy] at hf
  split at hf
  ·rename_i k os' hu kx
   split at hf
   ·rename_i auv
    cases hf
    simp only[zG] at he
    split at he
    ·rename_i k1 a1 k2 b1 h1 h2
     obtain⟨c1,bn,wi⟩:=hx.get h1
     obtain⟨c2,bk,jP⟩:=hy.get h2
     cases wi;cases jP
     split at he
     ·rename_i hk
      subst hk
      have uq:(part f.type sI.toArray f.offset).run P w= .ok (.int k1 a1) w:=by simp[part,zD hu,bn]
      have Gb:(part f.type Bi.toArray f.offset).run P w= .ok (.int k1 b1) w:=by simp[part,zD hu,bk]
      have heq:=run_equalIn_int (P:=P) w d f.type k1 k a1 b1 hu
      simp only[Op.eqFields,Sem.run_bind,Sem.run_ite,auv,ne_eq,not_false_eq_true,if_true,uq,Gb,heq,Result.andThen_ok]
      split at he
      ·rename_i WO
       rw[WO]
       simpa using XA d hx hy fs os' b kx he
      ·rename_i WO
       cases he
       have:(a1==b1)=false:=by simpa using WO
       rw[this]
       simp
     ·cases he
    ·cases he
   ·cases hf
  ·cases hf
theorem amx (H:HR ι I h w) {t:TypeId} {fs:Array Field} {os:List Nat} (hu:P.underlying t=some (.struct fs)) (hs:P.stoodInHeld t=false) (hf:zy P fs.toList=some os) (neg:Bool)
 {x y v:AV} {cx cy:Value} (hx:VR ι I w x cx) (hy:VR ι I w y cy)
 (hv:CS neg os x y=some v):
 eD P ι I h w v (binOp (if neg then .neq else .eql) t cx cy):=by
 unfold CS at hv
 cases hx<;>try(simp only[] at hv;cases hv;done)
 cases hy<;>simp only[] at hv<;>try(cases hv;done)
 rename_i xs sI hlx hvx ys Bi LP hvy
 cases he:zG xs ys os with
 |none=>simp[he] at hv
 |some b=>
  simp[he] at hv
  subst hv
  have BG:P.fieldsOf t=fs:=by simp[Program.fieldsOf,hu]
  have hr:(Op.equal t (.agg sI.toArray) (.agg Bi.toArray)).run P w= .ok b w:=by
   have h1:=run_equalIn_struct (P:=P) w 9999 t sI.toArray Bi.toArray (by rw[BG];exact hu) hs
   have h2:=XA (P:=P) 9998 (xs:=xs) (ys:=ys) ⟨hlx,hvx⟩ ⟨LP,hvy⟩ fs.toList os b hf he
   rw[BG] at h1
   exact h1.trans h2
  exact .same H (c:= .bool (if neg then !b else b)) (by cases neg<;>simp[binOp,hr]) (.bool _)
theorem YD (w:World) (f:Value->ByteArray->Sem (ForInStep ByteArray)) (hf: ∀n s,f (.int .u8 n) s=pure (ForInStep.yield (s.push (UInt8.ofNat n.toNat)))): ∀(rows:List (List AV)) (l:List Value) (bs:List UInt8) (s:ByteArray),(∀r∈rows,r.length=1)->LR ι I w rows.flatten l->tD rows=some bs->
 (forIn (m:=Sem) l s f).run P w= .ok ⟨s.data++bs.toArray⟩ w
 |[],l,bs,s,_,hl,hb=>by
  simp[tD] at hb;subst hb
  have:l=[]:=by have:=hl.1;simp at this;exact List.eq_nil_of_length_eq_zero this.symm
  subst this
  simp
 |r::rows,l,bs,s,hu,hl,hb=>by
  have hr:=hu r (by simp)
  simp only[tD] at hb
  split at hb
  ·rename_i b bs' h1 h2
   cases hb
   obtain⟨a,rfl⟩: ∃a,r=[a]:=by
    match r,hr with
    |[a],_=>exact⟨a,rfl⟩
   cases l with
   |nil=>have:=hl.1;simp at this
   |cons c l=>
    have hv:VR ι I w a c:=hl.2 0 a c rfl rfl
    have bj:LR ι I w rows.flatten l:=⟨by have:=hl.1;simpa using this,fun i v c h1 h2=>hl.2 (i+1) v c (by simpa using h1) (by simpa using h2)⟩
    simp only[byteOf] at h1
    split at h1
    ·rename_i n heq
     cases heq
     cases h1
     cases hv
     have ih:=YD w f hf rows l bs' (s.push (UInt8.ofNat n.toNat)) (fun r h=>hu r (List.mem_cons_of_mem _ h)) bj h2
     simp only[List.forIn_cons,hf,Sem.run_bind,Sem.run_pure,Result.andThen_ok]
     rw[ih]
     congr 1
     simp[ByteArray.push]
    ·cases h1
  ·cases hb
end
end
section
open Go
section
variable {P:Program} {ι:aI} {I:aR} {h:aa} {w:World}
theorem ajS (H:HR ι I h w) {src dst e:TypeId} (hs:P.underlying src=some (.slice e)) (he:P.underlying e=some (.int .u8)) (hd:P.underlying dst=some .string)
 {x v:AV} {c:Value} (hx:VR ι I w x c) (hv:(((cQ 1 h x).bind tD).map fun bs=>AV.str ⟨bs.toArray⟩)=some v):eD P ι I h w v (convert src dst c):=by
 cases hr:cQ 1 h x with
 |none=>simp[hr] at hv
 |some rows=>
  cases hb:tD rows with
  |none=>simp[hr,hb] at hv
  |some bs=>
   simp[hr,hb] at hv
   subst hv
   obtain⟨a,cap,l,rfl,hle,R⟩:=wO H hx hr
   refine .same H (c:= .string ⟨bs.toArray⟩) ?_ (.str _)
   cases a with
   |none=>
    have:=R.none rfl
    subst this
    simp[tD] at hb
    subst hb
    simp[convert,cJ hs,cJ hd,cJ he,Conv.bytesToString]
    rfl
   |some ad=>
    have hc:=R.cell ad rfl
    have hl:l.length=rows.length:=by rw[R.len];simp
    have auw:(loadCells ad rows.length).run P w= .ok l.toArray w:=by
     rw[<-hl]
     exact run_loadCells_list (P:=P) w ad l (fun j u hu=>hc j u hu)
    simp only[convert,Sem.run_bind,cJ hs,cJ hd,cJ he,Result.andThen_ok,Conv.bytesToString,auw]
    rw[<-Array.forIn_toList]
    rw[YD (P:=P) w _ (fun _ _=>rfl) rows l bs ByteArray.empty (fun r hr=>(R.mw r hr).1) R.lr hb]
    have e:(ByteArray.empty.data++bs.toArray)=bs.toArray:=by
     show(#[]:Array UInt8)++bs.toArray=bs.toArray
     simp
    rw[e]
    rfl
theorem ajB (H:HR ι I h w) {src dst e:TypeId} (hs:P.underlying src=some .string) (hd:P.underlying dst=some (.slice e)) (he:P.underlying e=some (.int .u8))
 {x v:AV} {c:Value} (hx:VR ι I w x c)
 (hv:G4 x=some v):eD P ι I h w v (convert src dst c):=by
 unfold G4 at hv
 cases hx<;>simp only[] at hv<;>try(cases hv;done)
 rename_i s
 split at hv
 ·rename_i aP
  cases hv
  have bH:(s.data.toList.map fun b=>[AV.int .u8 b.toNat]).flatten=s.data.toList.map fun b=>AV.int .u8 b.toNat:=by
   induction s.data.toList with
   |nil=>rfl
   |cons a l ih=>simp[ih]
  have dt:LR ι I w (s.data.toList.map fun b=>[AV.int .u8 b.toNat]).flatten (s.data.toList.map fun b=>Value.int .u8 b.toNat):=by
   rw[bH]
   refine⟨by simp,fun i v c h1 h2=>?_⟩
   simp only[List.getElem?_map,Option.map_eq_some_iff] at h1 h2
   obtain⟨a,ha,rfl⟩:=h1
   obtain⟨b,hb,rfl⟩:=h2
   rw[ha] at hb
   cases hb
   exact .int _ _
  have hlen:(s.data.toList.map fun b=>[AV.int .u8 b.toNat]).length=s.size:=by rw[List.length_map,Array.length_toList];rfl
  let q:=Question.appendCap s.size 0 e
  let cap:=q.cut (w.tape w.drawn q)
  have bt:s.size<=cap:=by show s.size<=s.size+_;omega
  let arr:Array Value:=(s.data.map fun b=>Value.int .u8 b.toNat)++Array.replicate (cap-s.size) (Value.int .u8 0)
  let w1:World:={w with drawn:=w.drawn+1,heap:=w.heap.push (.cells arr e)}
  let w2:World:=w1.freeze {block:=w.heap.size,off:=arr.size} 1
  have axE:w1.heap.size=w.heap.size+1:=by simp[w1]
  have bQ:(convert src dst (.string s)).run P w= .ok (.slice (some ⟨w.heap.size,0,none⟩) s.size cap) w2:=by
   have Bt:w1.shape? w.heap.size=some (e,arr.size):=by simp[World.shape?,w1]
   simp only[convert,Sem.run_bind,cJ hs,cJ hd,cJ he,Result.andThen_ok,Conv.stringToBytes,run_choose,Question.forced,Bool.false_eq_true,if_false,newRow,run_newObj,Sem.run_pure,markStringish,run_shape]
   have:({heap:=w.heap.push (.cells arr e),tape:=w.tape,drawn:=w.drawn+1,os:=w.os,output:=w.output}:World).shape? w.heap.size=some (e,arr.size):=Bt
   have F8:({heap:=w.heap.push (.cells arr e),tape:=w.tape,drawn:=w.drawn+1,os:=w.os,output:=w.output}:World).shape? w.heap.size=some (e,arr.size):=Bt
   show((Sem.run P (match({heap:=w.heap.push (.cells arr e),tape:=w.tape,drawn:=w.drawn+1,os:=w.os,output:=w.output}:World).shape? w.heap.size with|some (fst,n)=>freeze {block:=w.heap.size,off:=n} 1|x=>pure ()) w1).andThen fun a w'=>Result.ok (Value.slice (some {block:=w.heap.size,off:=0}) s.size cap) w')=_
   rw[F8]
   rfl
  have sk:w2.heap=w.heap.push (.cells arr e (arr.size,arr.size+1)):=by
   apply Array.ext
   ·simp[w2,World.freeze,w1]
   ·intro i h1 h2
    by_cases hi:i=w.heap.size
    ·subst hi
     simp[w2,World.freeze,w1,Array.getElem_modify]
    ·have aB:i<w.heap.size:=by simp at h2;omega
     simp[w2,World.freeze,w1,Array.getElem_modify,Ne.symm hi,Array.getElem_push,aB]
  have hf: ∀(f:World->World),True:=fun _=>trivial
  obtain⟨I',gO,H',E⟩:=NF H (w':=w2) (e:=e) (fr:=(arr.size,arr.size+1)) (arr:=arr) sk (by simp[w2,World.freeze,w1]) (by simp[w2,World.freeze,w1]) (by simp[w2,World.freeze,w1])
   (rows:=s.data.toList.map fun b=>[AV.int .u8 b.toNat]) (sz:=1) (cap:=cap) (by
     intro x hx
     obtain⟨b,_,rfl⟩:=List.mem_map.1 hx
     exact⟨rfl,by simp[AV.one]⟩) dt (by
     intro i c hc
     have hi:i<s.data.size:=by have:=(List.getElem?_eq_some_iff.1 hc).1;simpa using this
     simp only[arr]
     rw[Array.getElem?_append_left (by simpa using hi)]
     simpa using hc) (by rw[hlen];exact bt) .ao (.inl rfl)
  rw[hlen] at gO
  exact⟨_,_,I',bQ,gO,H',E⟩
 ·cases hv
theorem ZJ (H:HR ι I h w) {im:Bool} {x v:AV} {c:Value} (hx:VR ι I w x c) (ts:Array TypeId) (ty:TypeId)
 (hv:Jk im x=some v):eD P ι I h w v (if im then Builtin.imag_ ts ty #[c] else Builtin.real_ ts ty #[c]):=by
 unfold Jk at hv
 cases hx<;>simp only[] at hv<;>try(cases hv;done)
 cases hv
 cases im
 ·exact .same H rfl (.fI _ _)
 ·exact .same H rfl (.fI _ _)
theorem MA {mx:Bool} {ρ:Env}: ∀(ys:List au) (Gy:List Value) (x v:AV) (cx:Value),ys.length=Gy.length->(∀(i:Nat) (y:au) (c:Value),ys[i]? =some y->Gy[i]? =some c->OR ι I w ρ y c)->
 VR ι I w x cx->ph mx ρ x ys=some v-> ∃c,(Gy.foldlM (if mx then Builtin.max2 else Builtin.min2) cx).run P w= .ok c w/\VR ι I w v c
 |[],[],x,v,cx,_,_,hx,hv=>by simp[ph] at hv;subst hv;exact⟨cx,by simp,hx⟩
 |[],_::_,_,_,_,hl,_,_,_=>by simp at hl
 |_::_,[],_,_,_,hl,_,_,_=>by simp at hl
 |y::ys,cy::Gy,x,v,cx,hl,ho,hx,hv=>by
  simp only[ph] at hv
  cases hm:qh mx x (y.ev ρ) with
  |none=>simp[hm] at hv
  |some z=>
   simp[hm] at hv
   obtain⟨c,hc,hvc⟩:=ak4 (P:=P) hx (ho 0 y cy rfl rfl) hm
   obtain⟨c',cS,awh⟩:=MA ys Gy z v c (by simpa using hl) (fun i y c h1 h2=>ho (i+1) y c (by simpa using h1) (by simpa using h2)) hvc hv
   refine⟨c',?_,awh⟩
   rw[List.foldlM_cons,Sem.run_bind,hc]
   exact cS
end
end
section
open Go
section
variable {P:Program} {ι:aI} {I:aR} {h:aa} {w:World}
def aI.set (ι:aI) (id:Nat) (l:Loc):aI:=fun b=>if b=id then some l else ι b
theorem aI.gj (ι:aI) (id:Nat) (l:Loc):ι.set id l id=some l:=by simp[aI.set]
theorem aI.eP (ι:aI) {id b:Nat} (l:Loc) (hb:b≠id):ι.set id l b=ι b:=by simp[aI.set,hb]
theorem Loc.wM {l:Loc} {k j:Nat} (h:l.has k j):k=l.block:=by
 cases l<;>simp[Loc.has] at h<;>simp[Loc.block,h]
theorem CO (H:HR ι I h w) {w':World} {e:TypeId} {arr:Array Value} (sk:w'.heap=w.heap.push (.cells arr e))
 (kx:w'.os=w.os) (DM:w'.tape=w.tape) (pE:w'.output=w.output) {id:Nat} (aL:ι id=none) {cs:List AV} (cV: ∀v∈cs,v.one=true) (hle:cs.length<=arr.size)
 (hl: ∀(j:Nat) (v:AV) (c:Value),cs[j]? =some v->arr[j]? =some c->VR ι I w v c):
 HR (ι.set id (.cells w.heap.size 0 arr.size)) I (h.at id (.cells cs)) w'/\Ext (· =id) ι I h w (ι.set id (.cells w.heap.size 0 arr.size)) I (h.at id (.cells cs)) w':=by
 have aP:w'.heap.size=w.heap.size+1:=by rw[sk];simp
 have ow: ∀k,k<w.heap.size->w'.heap[k]? =w.heap[k]?:=fun k hk=>by rw[sk,Array.getElem?_push,if_neg (by omega)]
 have bq: ∀k j,k<w.heap.size->w'.cell? ⟨k,j,none⟩=w.cell? ⟨k,j,none⟩:=fun k j hk=>by simp[World.cell?,ow k hk]
 have mS: ∀k j,k<w.heap.size->w'.frozen? ⟨k,j,none⟩=w.frozen? ⟨k,j,none⟩:=fun k j hk=>by simp[World.frozen?,ow k hk]
 have gJ: ∀j,w'.cell? ⟨w.heap.size,j,none⟩=arr[j]?:=fun j=>by simp[World.cell?,sk]
 have aeg: ∀j,w'.frozen? ⟨w.heap.size,j,none⟩=false:=fun j=>by simp[World.frozen?,sk]
 have a7: ∀b,b≠id->(h.at id (.cells cs)).get b=h.get b:=fun b hb=>by simp[aa.at,hb]
 have vc:(h.at id (.cells cs)).get id=some (.cells cs):=by simp[aa.at]
 have DP: ∀b l,ι b=some l->b≠id:=fun b l hb he=>by rw[he,aL] at hb;cases hb
 have E:Ext (· =id) ι I h w (ι.set id (.cells w.heap.size 0 arr.size)) I (h.at id (.cells cs)) w':=
  {eZ:=fun b hb=>aI.eP _ _ hb,bM:=fun b l hb=>by rw[aI.eP _ _ (DP b l hb)];exact hb,next:=by simp[aa.at];omega,bz:=fun _ _ h=>h
   os:=kx,tape:=DM,output:=pE,size:=by omega,block:=fun k hk _=>ow k hk,cell:=fun k j hk _=>bq k j hk,frozen:=fun k j hk _=>mS k j hk
   own:=by
    rintro k j ⟨b,l,x,hb,hg,bj⟩
    by_cases cj:b=id
    ·subst cj
     rw[aI.gj] at hb
     cases hb
     exact .inr (by have:k=w.heap.size:=bj;omega)
    ·rw[aI.eP _ _ cj] at hb
     rw[a7 b cj] at hg
     exact .inl ⟨b,l,x,hb,hg,bj⟩
   gz:=fun _ _ h=> .inl h,lost:=fun b hb _=>a7 b hb}
 refine⟨?_,E⟩
 have jF: ∀b l,(ι.set id (.cells w.heap.size 0 arr.size)) b=some l->(b=id/\l= .cells w.heap.size 0 arr.size)\/(b≠id/\ι b=some l):=by
  intro b l hb
  by_cases cj:b=id
  ·subst cj;rw[aI.gj] at hb;cases hb;exact .inl ⟨rfl,rfl⟩
  ·rw[aI.eP _ _ cj] at hb;exact .inr ⟨cj,hb⟩
 refine{cG:=?_,inside:=?_,cells:=?_,maps:=?_,eR:=?_,dC:=?_,bz:=?_,dw:=fun k j hk=>by have:=H.dw k j hk;omega,pl:=?_}
 ·intro b l hb
  rcases jF b l hb with⟨rfl,_⟩|⟨_,hb⟩
  ·simp[aa.at];omega
  ·have:=H.cG b l hb;simp[aa.at];omega
 ·intro b l hb
  rcases jF b l hb with⟨rfl,rfl⟩|⟨_,hb⟩
  ·simp[Loc.block];omega
  ·have:=H.inside b l hb;omega
 ·intro b bD l hg hb
  rcases jF b l hb with⟨rfl,rfl⟩|⟨cj,hb⟩
  ·rw[vc] at hg
   cases hg
   refine⟨_,_,_,rfl,hle,cV,fun j hj=>⟨arr[j],by rw[Nat.zero_add,gJ];exact Array.getElem?_eq_getElem hj,aeg _,fun v hv=>?_⟩⟩
   exact E.vr H (hl j v _ hv (Array.getElem?_eq_getElem hj))
  ·rw[a7 b cj] at hg
   obtain⟨cb,o,room,rfl,sy,h1,hc⟩:=H.cells b bD l hg hb
   have aE:cb<w.heap.size:=H.inside b _ hb
   refine⟨cb,o,room,rfl,sy,h1,fun j hj=>?_⟩
   obtain⟨c,bn,bk,jk⟩:=hc j hj
   exact⟨c,by rw[bq _ _ aE];exact bn,by rw[mS _ _ aE];exact bk,fun v hv=>E.vr H (jk v hv)⟩
 ·intro b es l hg hb
  rcases jF b l hb with⟨rfl,rfl⟩|⟨cj,hb⟩
  ·rw[vc] at hg;cases hg
  ·rw[a7 b cj] at hg
   obtain⟨cb,aV,clock,rfl,hm,bj,hv⟩:=H.maps b es l hg hb
   refine⟨cb,aV,clock,rfl,by rw[ow cb (H.inside b _ hb)];exact hm,bj,fun i k v e h1 h2=>?_⟩
   obtain⟨a,c⟩:=hv i k v e h1 h2
   exact⟨E.vr H a,E.vr H c⟩
 ·intro b l hg hb
  rcases jF b l hb with⟨rfl,rfl⟩|⟨cj,hb⟩
  ·rw[vc] at hg;cases hg
  ·rw[a7 b cj] at hg
   obtain⟨cb,lo,hi,rfl,hc⟩:=H.eR b l hg hb
   have aE:cb<w.heap.size:=H.inside b _ hb
   refine⟨cb,lo,hi,rfl,fun j h1 h2=>?_⟩
   obtain⟨c,bn,bk⟩:=hc j h1 h2
   exact⟨c,by rw[bq _ _ aE];exact bn,by rw[mS _ _ aE];exact bk⟩
 ·intro b b' l l' x x' k j aM hb bC hg cF ee fY
  rcases jF b l hb with⟨rfl,rfl⟩|⟨cj,bY⟩<;>rcases jF b' l' bC with⟨rfl,rfl⟩|⟨Lg,Fp⟩
  ·exact aM rfl
  ·have:=H.inside b' l' Fp
   have:=Loc.wM fY
   have:k=w.heap.size:=ee
   omega
  ·have:=H.inside b l bY
   have:=Loc.wM ee
   have:k=w.heap.size:=fY
   omega
  ·rw[a7 b cj] at hg
   rw[a7 b' Lg] at cF
   exact H.dC b b' l l' x x' k j aM bY Fp hg cF ee fY
 ·intro b l x k j hb hg bj hI
  rcases jF b l hb with⟨rfl,rfl⟩|⟨cj,hb⟩
  ·have:=H.dw k j hI
   have:k=w.heap.size:=bj
   omega
  ·rw[a7 b cj] at hg
   exact H.bz b l x k j hb hg bj hI
 ·intro b bD cb o room hg hb n
  rcases jF b _ hb with⟨rfl,hl⟩|⟨cj,hb⟩
  ·cases hl
   exact aeg n
  ·rw[a7 b cj] at hg
   rw[mS cb n (H.inside b _ hb)]
   exact H.pl b bD cb o room hg hb n
def eT (P:Program) (ι:aI) (I:aR) (h:aa) (w:World) (id:Nat) (v:AV) (h':aa) (s:Sem Value):Prop:=
 ∃c w' ι' I',s.run P w= .ok c w'/\VR ι' I' w' v c/\HR ι' I' h' w'/\Ext (· =id) ι I h w ι' I' h' w'
theorem ao6 (H:HR ι I h w) {id:Nat} (aL:ι id=none) {x:AV} {c:Value} (hx:VR ι I w x c) (h1:x.cells.all AV.one=true) (e:TypeId):
 eT P ι I h w id (.ptr id 0) (h.at id (.cells x.cells)) (Instr.box e c):=by
 have hc:=VR.cells hx (No h1)
 obtain⟨H',E⟩:=CO H (w':=w.alloc (.cells c.cells e)) (arr:=c.cells) rfl rfl rfl rfl aL (fun v hv=>(List.all_eq_true.1 h1) v hv) (by rw[hc.1];simp)
  (fun j v c' hv cS=>hc.2 j v c' hv (by simpa using cS))
 exact⟨.pointer (some ⟨w.heap.size,0,none⟩),_,_,_,rfl, .ptr _ _ _ _ _ (aI.gj _ _ _),H',E⟩
theorem amJ (H:HR ι I h w) {id:Nat} (aL:ι id=none) {e:TypeId} {ie:TypeInfo} {z:Value} {za:List AV} (cP:P.info? e=some ie) (hz:ie.zero=some z)
 (dZ:LR ι I w za z.cells.toList) (h1: ∀v∈za,v.one=true):eT P ι I h w id (.ptr id 0) (h.at id (.cells za)) (Instr.alloc e true (.tuple #[])):=by
 obtain⟨H',E⟩:=CO H (w':=w.alloc (.cells z.cells e)) (arr:=z.cells) rfl rfl rfl rfl aL h1 (by rw[dZ.1];simp) (fun j v c' hv cS=>dZ.2 j v c' hv (by simpa using cS))
 exact⟨.pointer (some ⟨w.heap.size,0,none⟩),_,_,_,by simp[Instr.alloc,Hi cP hz,newVar,newRow], .ptr _ _ _ _ _ (aI.gj _ _ _),H',E⟩
theorem ajI (H:HR ι I h w) {id:Nat} (aL:ι id=none) {t e:TypeId} {ie:TypeInfo} {z:Value} {za:List AV} {n bytes:Nat} {l c:AV} {cl cc:Value}
 (hu:P.underlying t=some (.slice e)) (cP:P.info? e=some ie) (uf:ie.zero=some z) (aP:ie.size=z.cells.size) (hb:ie.bytes=bytes)
 (hz:LR ι I w za z.cells.toList) (h1: ∀v∈za,v.one=true) (h0:za.length≠0)
 (hl:VR ι I w l cl) (hc:VR ι I w c cc) (hm:lT bytes l c=some n):
 eT P ι I h w id (.rs id 0 n za.length) (h.at id (.cells (List.replicate n za).flatten)) (Instr.makeSlice t cl cc):=by
 obtain⟨rfl,rfl,hn,BK⟩:=Xx hm
 cases hl;cases hc
 have hr:=XO (P:=P) w hu cP uf aP hb hn BK
 have iv:=Co hz n (.inl h0)
 have sO:za.length=z.cells.size:=by rw[hz.1];simp
 obtain⟨H',E⟩:=CO H (w':=w.alloc (.cells (madeCells z.cells (n*z.cells.size)) e)) (arr:=madeCells z.cells (n*z.cells.size)) rfl rfl rfl rfl aL (cs:=(List.replicate n za).flatten)
  (fun v hv=>by
    obtain⟨r,hr,hv⟩:=List.mem_flatten.1 hv
    rw[List.eq_of_mem_replicate hr] at hv
    exact h1 v hv) (by rw[iv.1];simp) (fun j v c' hv cS=>iv.2 j v c' hv (by simpa using cS))
 refine⟨_,_,_,_,hr,?_,H',E⟩
 refine .rs id 0 n za.length w.heap.size 0 _ n (aI.gj _ _ _) (Nat.le_refl _) ?_
 rw[size_madeCells,sO];omega
theorem akB (H:HR ι I h w) {id:Nat} (aL:ι id=none) {t e:TypeId} {ie:TypeInfo} {z:Value} {za:List AV} {ρ:Env} {n:Nat} {ps:List (Nat×au)} {dG:Array (Nat×Value)} {rows:List (List AV)}
 (hu:P.underlying t=some (.slice e)) (cP:P.info? e=some ie) (uf:ie.zero=some z) (aP:ie.size=z.cells.size) (HV:n*ie.size<=2^24)
 (hz:LR ι I w za z.cells.toList) (h1: ∀v∈za,v.one=true) (h0:za.length≠0) (hl:ps.length=dG.size)
 (hp: ∀(i j k:Nat) (x:au) (c:Value),ps[i]? =some (j,x)->dG[i]? =some (k,c)->j=k/\OR ι I w ρ x c)
 (hf:iQ ρ za.length (List.replicate n za) ps=some rows):eT P ι I h w id (.rs id 0 n za.length) (h.at id (.cells rows.flatten)) (Instr.buildSlice t n dG):=by
 obtain⟨iI,hn,cells,hc,dt⟩:=XK hz h1 h0 hl hp hf
 have iv:za.length=z.cells.size:=by rw[hz.1];simp
 have hr:=Yp (P:=P) w (parts:=dG) (cells:=cells) hu cP uf aP HV (by rw[aP,<-iv];rw[<-iv] at hc;exact hc)
 obtain⟨H',E⟩:=CO H (w':=w.alloc (.cells cells e)) (arr:=cells) rfl rfl rfl rfl aL (cs:=rows.flatten)
  (fun v hv=>by
    obtain⟨r,hr,hv⟩:=List.mem_flatten.1 hv
    exact(iI r hr).2 v hv) (by rw[dt.1];simp) (fun j v c' hv cS=>dt.2 j v c' hv (by simpa using cS))
 refine⟨_,_,_,_,hr,?_,H',E⟩
 refine .rs id 0 n za.length w.heap.size 0 _ n (aI.gj _ _ _) (Nat.le_refl _) ?_
 have:=dt.1
 rw[nx rows (fun r h=>(iI r h).1),hn] at this
 simp at this
 omega
end
end
section
open Go
section
variable {P:Program} {ι:aI} {I:aR} {h:aa} {w:World}
structure yy (R:Nat->Nat->Prop) (w w':World):Prop where
 os:w'.os=w.os
 tape:w'.tape=w.tape
 output:w'.output=w.output
 size:w.heap.size<=w'.heap.size
 block: ∀k,k<w.heap.size->(∀j,¬R k j)->w'.heap[k]? =w.heap[k]?
 cell: ∀k j,k<w.heap.size-> ¬R k j->w'.cell? ⟨k,j,none⟩=w.cell? ⟨k,j,none⟩
 frozen: ∀k j,k<w.heap.size-> ¬R k j->w'.frozen? ⟨k,j,none⟩=w.frozen? ⟨k,j,none⟩
structure eO (R:Nat->Nat->Prop) (w w':World):Prop where
 os:w'.os=w.os
 tape:w'.tape=w.tape
 output:w'.output=w.output
 size:w.heap.size<=w'.heap.size
 block: ∀k,k<w.heap.size->(∀j,¬R k j)->w'.heap[k]? =w.heap[k]?
 cell: ∀k j,k<w.heap.size-> ¬R k j->w'.cell? ⟨k,j,none⟩=w.cell? ⟨k,j,none⟩
 frozen: ∀k j,k<w.heap.size->w'.frozen? ⟨k,j,none⟩=w.frozen? ⟨k,j,none⟩
theorem eO.E4 {R:Nat->Nat->Prop} {w w':World} (W:eO R w w'):yy R w w':=
 ⟨W.os,W.tape,W.output,W.size,W.block,W.cell,fun k j hk _=>W.frozen k j hk⟩
theorem eO.trans {R R':Nat->Nat->Prop} {w₁ w₂ w₃:World} (A:eO R w₁ w₂) (B:eO R' w₂ w₃) (hR: ∀k j,k<w₁.heap.size->R' k j->R k j):eO R w₁ w₃ where
 os:=B.os.trans A.os
 tape:=B.tape.trans A.tape
 output:=B.output.trans A.output
 size:=Nat.le_trans A.size B.size
 block k hk hr:=(B.block k (Nat.lt_of_lt_of_le hk A.size) (fun j hj=>hr j (hR k j hk hj))).trans (A.block k hk hr)
 cell k j hk hr:=(B.cell k j (Nat.lt_of_lt_of_le hk A.size) (fun hj=>hr (hR k j hk hj))).trans (A.cell k j hk hr)
 frozen k j hk:=(B.frozen k j (Nat.lt_of_lt_of_le hk A.size)).trans (A.frozen k j hk)
theorem Xp (cb:Nat): ∀(vs:List Value) (o:Nat) (w:World) (k:Nat),k≠cb->(w.setCells cb o vs).heap[k]? =w.heap[k]?
 |[],_,_,_,_=>rfl
 |v::vs,o,w,k,hk=>by
  rw[World.setCells,Xp cb vs (o+1) _ k hk,heap_setCell_other _ _ _ _ hk]
theorem Xm (cb:Nat): ∀(vs:List Value) (o:Nat) (w:World),(w.setCells cb o vs).heap.size=w.heap.size/\(w.setCells cb o vs).os=w.os/\(w.setCells cb o vs).tape=w.tape/\(w.setCells cb o vs).output=w.output
 |[],_,_=>⟨rfl,rfl,rfl,rfl⟩
 |v::vs,o,w=>by
  obtain⟨a,b,c,d⟩:=Xm cb vs (o+1) (w.setCell ⟨cb,o,none⟩ v)
  exact⟨by rw[World.setCells,a];simp[World.setCell],by rw[World.setCells,b];rfl,by rw[World.setCells,c];rfl,by rw[World.setCells,d];rfl⟩
theorem eO.setCells (w:World) (cb o:Nat) (vs:List Value):eO (fun k j=>k=cb/\o<=j/\j<o+vs.length) w (w.setCells cb o vs):=by
 obtain⟨a,b,c,d⟩:=Xm cb vs o w
 refine{os:=b,tape:=c,output:=d,size:=by omega,block:=fun k hk hr=>?_,cell:=fun k j hk hr=>?_,frozen:=fun k j hk=>World.frozen?_setCells cb vs o w _}
 ·by_cases sV:k=cb
  ·subst sV
   cases vs with
   |nil=>rfl
   |cons v vs=>exact(hr o ⟨rfl,Nat.le_refl _,by simp⟩).elim
  ·exact Xp cb vs o w k sV
 ·exact World.cell?_setCells_out cb vs o w _ (fun h1 _=>by
   by_cases hj:j<o
   ·exact .inl hj
   ·refine .inr (Nat.le_of_not_lt fun h2=>hr ⟨h1,by omega,h2⟩))
theorem eO.push (w:World) (o:Obj):eO (fun _ _=>False) w (w.alloc o):=by
 have ow: ∀k,k<w.heap.size->(w.alloc o).heap[k]? =w.heap[k]?:=fun k hk=>by
  show(w.heap.push o)[k]? =_
  rw[Array.getElem?_push,if_neg (by omega)]
 exact{os:=rfl,tape:=rfl,output:=rfl,size:=by simp,block:=fun k hk _=>ow k hk
       cell:=fun k j hk _=>by simp[World.cell?,ow k hk],frozen:=fun k j hk=>by simp[World.frozen?,ow k hk]}
theorem eO.drew (w:World):eO (fun _ _=>False) w w.drew:=
 {os:=rfl,tape:=rfl,output:=rfl,size:=Nat.le_refl _,block:=fun _ _ _=>rfl,cell:=fun _ _ _ _=>rfl,frozen:=fun _ _ _=>rfl}
theorem HR.aiy (H:HR ι I h w) {w':World} {R:Nat->Nat->Prop} (W:yy R w w') {h':aa} (eX:h.next<=h'.next) (dg: ∀b x,h'.get b=some x->h.get b=some x)
 (hR: ∀b l x k j,ι b=some l->h'.get b=some x->l.has k j-> ¬R k j) (hI: ∀k j,R k j-> ¬I k j):HR ι I h' w':=by
 have cM: ∀a v,VR ι I w a v->VR ι I w' a v:=fun a v hv=>hv.mono (fun _ _ h=>h) (fun _ _ h=>h) (fun k j hk=>W.cell k j (H.dw k j hk) (fun hr=>hI k j hr hk))
 refine{cG:=fun b l hb=>Nat.lt_of_lt_of_le (H.cG b l hb) eX,inside:=fun b l hb=>Nat.lt_of_lt_of_le (H.inside b l hb) W.size,cells:=?_,maps:=?_,eR:=?_
        dC:=fun b b' l l' x x' k j aM hb bC hg cF=>H.dC b b' l l' x x' k j aM hb bC (dg _ _ hg) (dg _ _ cF)
        bz:=fun b l x k j hb hg=>H.bz b l x k j hb (dg _ _ hg),dw:=fun k j hk=>Nat.lt_of_lt_of_le (H.dw k j hk) W.size
        pl:=fun b cs cb o room hg hb n=>by rw[W.frozen cb n (H.inside b _ hb) (hR b _ _ cb n hb hg rfl)];exact H.pl b cs cb o room (dg _ _ hg) hb n}
 ·intro b cs l hg hb
  obtain⟨cb,o,room,rfl,hle,h1,hc⟩:=H.cells b cs l (dg _ _ hg) hb
  have aE:cb<w.heap.size:=H.inside b _ hb
  refine⟨cb,o,room,rfl,hle,h1,fun j hj=>?_⟩
  obtain⟨c,bn,bk,jk⟩:=hc j hj
  have hnr:=hR b _ _ cb (o+j) hb hg rfl
  exact⟨c,by rw[W.cell _ _ aE hnr];exact bn,by rw[W.frozen _ _ aE hnr];exact bk,fun v hv=>cM _ _ (jk v hv)⟩
 ·intro b es l hg hb
  obtain⟨cb,aV,clock,rfl,hm,bj,hv⟩:=H.maps b es l (dg _ _ hg) hb
  have aE:cb<w.heap.size:=H.inside b _ hb
  refine⟨cb,aV,clock,rfl,by rw[W.block cb aE (fun j=>hR b _ _ cb j hb hg rfl)];exact hm,bj,fun i k v e h1 h2=>?_⟩
  obtain⟨a,c⟩:=hv i k v e h1 h2
  exact⟨cM _ _ a,cM _ _ c⟩
 ·intro b l hg hb
  obtain⟨cb,lo,hi,rfl,hc⟩:=H.eR b l (dg _ _ hg) hb
  have aE:cb<w.heap.size:=H.inside b _ hb
  refine⟨cb,lo,hi,rfl,fun j h1 h2=>?_⟩
  obtain⟨c,bn,bk⟩:=hc j h1 h2
  exact⟨c,by rw[W.cell _ _ aE (hR b _ _ cb j hb hg ⟨rfl,h1,h2⟩)];exact bn,by rw[W.frozen _ _ aE (hR b _ _ cb j hb hg ⟨rfl,h1,h2⟩)];exact bk⟩
theorem HR.v7 (H:HR ι I h w) {w':World} {R:Nat->Nat->Prop} (W:eO R w w') {h':aa} (eX:h.next<=h'.next) (dg: ∀b x,h'.get b=some x->h.get b=some x)
 (hR: ∀b l x k j,ι b=some l->h'.get b=some x->l.has k j-> ¬R k j) (hI: ∀k j,R k j-> ¬I k j):HR ι I h' w':=
 H.aiy W.E4 eX dg hR hI
theorem HR.NJ (H:HR ι I h w) {J:aR} (hJ: ∀k j,J k j->k<w.heap.size/\ ¬eB ι h k j):HR ι (fun k j=>I k j\/J k j) h w:=by
 have cM: ∀a v,VR ι I w a v->VR ι (fun k j=>I k j\/J k j) w a v:=fun a v hv=>hv.mono (fun _ _ h=>h) (fun _ _ h=> .inl h) (fun k j hk=>rfl)
 refine{cG:=H.cG,inside:=H.inside,cells:=?_,maps:=?_,eR:=H.eR,dC:=H.dC,bz:=?_,dw:=?_,pl:=H.pl}
 ·intro b cs l hg hb
  obtain⟨cb,o,room,rfl,hle,h1,hc⟩:=H.cells b cs l hg hb
  refine⟨cb,o,room,rfl,hle,h1,fun j hj=>?_⟩
  obtain⟨c,bn,bk,jk⟩:=hc j hj
  exact⟨c,bn,bk,fun v hv=>cM _ _ (jk v hv)⟩
 ·intro b es l hg hb
  obtain⟨cb,aV,clock,rfl,hm,bj,hv⟩:=H.maps b es l hg hb
  exact⟨cb,aV,clock,rfl,hm,bj,fun i k v e h1 h2=>⟨cM _ _ (hv i k v e h1 h2).1,cM _ _ (hv i k v e h1 h2).2⟩⟩
 ·intro b l x k j hb hg hl hk
  rcases hk with hk|hk
  ·exact H.bz b l x k j hb hg hl hk
  ·exact(hJ k j hk).2 ⟨b,l,x,hb,hg,hl⟩
 ·intro k j hk
  rcases hk with hk|hk
  ·exact H.dw k j hk
  ·exact(hJ k j hk).1
def Fits (ι:aI) (I:aR) (w:World):Loc->cI->Prop
 | .cells cb o room, .cells cs=>cs.length<=room/\(∀v∈cs,v.one=true)/\
    (∀j,j<room-> ∃c,w.cell? ⟨cb,o+j,none⟩=some c/\w.frozen? ⟨cb,o+j,none⟩=false/\ ∀v,cs[j]? =some v->VR ι I w v c)/\ ∀n,w.frozen? ⟨cb,n,none⟩=false
 | .map cb, .map es=> ∃aV clock,w.heap[cb]? =some (.map aV clock)/\ER ι I w es aV.toList/\nM aV clock
 | .tail cb lo hi, .tail=> ∀j,lo<=j->j<hi-> ∃c,w.cell? ⟨cb,j,none⟩=some c/\w.frozen? ⟨cb,j,none⟩=false
 |_,_=>False
theorem HR.xQ (H:HR ι I h w) {id:Nat} {l:Loc} {x:cI} (aL: ∀l',ι id=some l'->l'=l) (aE:l.block<w.heap.size) (kP:Fits ι I w l x)
 (vn: ∀k j,l.has k j-> ¬eB ι h k j/\ ¬I k j):HR (ι.set id l) I (h.at id x) w:=by
 have a7: ∀b,b≠id->(h.at id x).get b=h.get b:=fun b hb=>by simp[aa.at,hb]
 have vc:(h.at id x).get id=some x:=by simp[aa.at]
 have jF: ∀b l',(ι.set id l) b=some l'->(b=id/\l'=l)\/(b≠id/\ι b=some l'):=by
  intro b l' hb
  by_cases cj:b=id
  ·subst cj;rw[aI.gj] at hb;cases hb;exact .inl ⟨rfl,rfl⟩
  ·rw[aI.eP _ _ cj] at hb;exact .inr ⟨cj,hb⟩
 have cM: ∀a v,VR ι I w a v->VR (ι.set id l) I w a v:=fun a v hv=>hv.mono (fun b l' hb=>by
  by_cases he:b=id
  ·subst he;rw[aI.gj,aL _ hb]
  ·rw[aI.eP _ _ he];exact hb) (fun _ _ h=>h) (fun k j hk=>rfl)
 refine{cG:=?_,inside:=?_,cells:=?_,maps:=?_,eR:=?_,dC:=?_,bz:=?_,dw:=H.dw,pl:=?_}
 ·intro b l' hb
  rcases jF b l' hb with⟨rfl,_⟩|⟨_,hb⟩
  ·simp[aa.at];omega
  ·have:=H.cG b l' hb;simp[aa.at];omega
 ·intro b l' hb
  rcases jF b l' hb with⟨rfl,rfl⟩|⟨_,hb⟩
  ·exact aE
  ·exact H.inside b l' hb
 ·intro b cs l' hg hb
  rcases jF b l' hb with⟨rfl,rfl⟩|⟨cj,hb⟩
  ·rw[vc] at hg
   cases hg
   cases l' with
   |cells cb o room=>
    obtain⟨h1,h2,h3,-⟩:=kP
    refine⟨cb,o,room,rfl,h1,h2,fun j hj=>?_⟩
    obtain⟨c,bn,bk,jk⟩:=h3 j hj
    exact⟨c,bn,bk,fun v hv=>cM _ _ (jk v hv)⟩
   |map _=>exact kP.elim
   |tail _ _ _=>exact kP.elim
  ·rw[a7 b cj] at hg
   obtain⟨cb,o,room,rfl,sy,h1,hc⟩:=H.cells b cs l' hg hb
   refine⟨cb,o,room,rfl,sy,h1,fun j hj=>?_⟩
   obtain⟨c,bn,bk,jk⟩:=hc j hj
   exact⟨c,bn,bk,fun v hv=>cM _ _ (jk v hv)⟩
 ·intro b es l' hg hb
  rcases jF b l' hb with⟨rfl,rfl⟩|⟨cj,hb⟩
  ·rw[vc] at hg
   cases hg
   cases l' with
   |map cb=>
    obtain⟨aV,clock,hm,gR,dE⟩:=kP
    exact⟨cb,aV,clock,rfl,hm,⟨by simpa using gR.1,dE⟩,fun i k v e h1 h2=>by
     have:=gR.2 i k v e h1 (by simpa using h2)
     exact⟨cM _ _ this.1,cM _ _ this.2⟩⟩
   |cells _ _ _=>exact kP.elim
   |tail _ _ _=>exact kP.elim
  ·rw[a7 b cj] at hg
   obtain⟨cb,aV,clock,rfl,hm,bj,hv⟩:=H.maps b es l' hg hb
   exact⟨cb,aV,clock,rfl,hm,bj,fun i k v e h1 h2=>⟨cM _ _ (hv i k v e h1 h2).1,cM _ _ (hv i k v e h1 h2).2⟩⟩
 ·intro b l' hg hb
  rcases jF b l' hb with⟨rfl,rfl⟩|⟨cj,hb⟩
  ·rw[vc] at hg
   cases hg
   cases l' with
   |tail cb lo hi=>exact⟨cb,lo,hi,rfl,kP⟩
   |cells _ _ _=>exact kP.elim
   |map _=>exact kP.elim
  ·rw[a7 b cj] at hg
   exact H.eR b l' hg hb
 ·intro b b' l1 l2 x1 x2 k j aM hb bC hg cF ee fY
  rcases jF b l1 hb with⟨rfl,rfl⟩|⟨cj,bY⟩<;>rcases jF b' l2 bC with⟨rfl,rfl⟩|⟨Lg,Fp⟩
  ·exact aM rfl
  ·rw[a7 b' Lg] at cF
   exact(vn k j ee).1 ⟨b',l2,x2,Fp,cF,fY⟩
  ·rw[a7 b cj] at hg
   exact(vn k j fY).1 ⟨b,l1,x1,bY,hg,ee⟩
  ·rw[a7 b cj] at hg
   rw[a7 b' Lg] at cF
   exact H.dC b b' l1 l2 x1 x2 k j aM bY Fp hg cF ee fY
 ·intro b l1 x1 k j hb hg hl hI
  rcases jF b l1 hb with⟨rfl,rfl⟩|⟨cj,bY⟩
  ·exact(vn k j hl).2 hI
  ·rw[a7 b cj] at hg
   exact H.bz b l1 x1 k j bY hg hl hI
 ·intro b cs cb o room hg hb n
  rcases jF b _ hb with⟨rfl,hl⟩|⟨cj,bY⟩
  ·rw[vc] at hg
   cases hg
   subst hl
   exact kP.2.2.2 n
  ·rw[a7 b cj] at hg
   exact H.pl b cs cb o room hg bY n
theorem Ext.of0 {N:Nat->Prop} {ι':aI} {I':aR} {h':aa} {w':World} {R:Nat->Nat->Prop} (W:yy R w w') (hR: ∀k j,k<w.heap.size->R k j->eB ι h k j)
 (iz: ∀b,¬N b->ι' b=ι b) (DP: ∀b l,ι b=some l->ι' b=some l) (eX:h.next<=h'.next) (U7: ∀k j,I k j->I' k j)
 (js: ∀k j,eB ι' h' k j->eB ι h k j\/w.heap.size<=k) (Re: ∀k j,I' k j->I k j\/eB ι h k j\/w.heap.size<=k)
 (DQ: ∀b,¬N b->ι b=none->h'.get b=h.get b):Ext N ι I h w ι' I' h' w':=
 {eZ:=iz,bM:=DP,next:=eX,bz:=U7,os:=W.os,tape:=W.tape,output:=W.output,size:=W.size
  block:=fun k hk ho=>W.block k hk (fun j hj=>ho j (hR k j hk hj)),cell:=fun k j hk ho=>W.cell k j hk (fun hj=>ho (hR k j hk hj)),frozen:=fun k j hk ho=>W.frozen k j hk (fun hj=>ho (hR k j hk hj))
  own:=js,gz:=Re,lost:=DQ}
theorem Ext.of {N:Nat->Prop} {ι':aI} {I':aR} {h':aa} {w':World} {R:Nat->Nat->Prop} (W:eO R w w') (hR: ∀k j,k<w.heap.size->R k j->eB ι h k j)
 (iz: ∀b,¬N b->ι' b=ι b) (DP: ∀b l,ι b=some l->ι' b=some l) (eX:h.next<=h'.next) (U7: ∀k j,I k j->I' k j)
 (js: ∀k j,eB ι' h' k j->eB ι h k j\/w.heap.size<=k) (Re: ∀k j,I' k j->I k j\/eB ι h k j\/w.heap.size<=k)
 (DQ: ∀b,¬N b->ι b=none->h'.get b=h.get b):Ext N ι I h w ι' I' h' w':=
 Ext.of0 W.E4 hR iz DP eX U7 js Re DQ
end
end
section
open Go
section
variable {P:Program} {ι:aI} {I:aR} {h:aa} {w:World}
theorem aa.aoN (h:aa) {b:Nat} (hb:b<h.next) (x:cI):(h.set b none).at b x=h.set b (some x):=by
 unfold aa.at aa.set
 congr 1
 ·funext i;by_cases hi:i=b<;>simp[hi]
 ·simp;omega
theorem aI.apl {ι:aI} {b:Nat} {l:Loc} (hb:ι b=some l):ι.set b l=ι:=by
 funext i
 by_cases hi:i=b
 ·subst hi;rw[aI.gj,hb]
 ·rw[aI.eP _ _ hi]
theorem i4 {h:aa} {b i:Nat} {x:cI} (hg:(h.set b none).get i=some x):i≠b/\h.get i=some x:=by
 simp only[aa.set] at hg
 split at hg
 ·cases hg
 ·exact⟨by assumption,hg⟩
theorem HR.cu (H:HR ι I h w) {w':World} {R:Nat->Nat->Prop} (W:eO R w w') {b:Nat} {l:Loc} {x x':cI} (hb:ι b=some l) (hg:h.get b=some x)
 (hR: ∀k j,R k j->l.has k j) (kP:HR ι I (h.set b none) w'->Fits ι I w' l x'):
 HR ι I (h.set b (some x')) w'/\Ext (fun _=>False) ι I h w ι I (h.set b (some x')) w':=by
 have H1:HR ι I (h.set b none) w':=H.v7 W (Nat.le_refl _) (fun i y hi=>(i4 hi).2)
  (fun i l' y k j hi dV hl hr=>(H.dC i b l' l y x k j (i4 dV).1 hi hb (i4 dV).2 hg hl (hR k j hr)).elim)
  (fun k j hr=>H.bz b l x k j hb hg (hR k j hr))
 have H2:=H1.xQ (id:=b) (l:=l) (x:=x') (fun l' bj=>by rw[hb] at bj;cases bj;rfl) (Nat.lt_of_lt_of_le (H.inside b l hb) W.size) (kP H1)
  (fun k j hl=>⟨fun⟨i,l',y,hi,dV,jh⟩=>H.dC i b l' l y x k j (i4 dV).1 hi hb (i4 dV).2 hg jh hl,H.bz b l x k j hb hg hl⟩)
 rw[aI.apl hb,aa.aoN h (H.cG b l hb)] at H2
 refine⟨H2,Ext.of W (fun k j _ hr=>⟨b,l,x,hb,hg,hR k j hr⟩) (fun _ _=>rfl) (fun _ _ h=>h) (Nat.le_refl _) (fun _ _ h=>h) ?_ (fun _ _ h=> .inl h) ?_⟩
 ·rintro k j ⟨i,l',y,hi,dV,hl⟩
  by_cases rh:i=b
  ·subst rh
   rw[hb] at hi;cases hi
   exact .inl ⟨i,_,x,hb,hg,hl⟩
  ·exact .inl ⟨i,l',y,hi,by simpa [aa.set,rh] using dV,hl⟩
 ·intro i _ hi
  have:i≠b:=fun he=>by rw[he,hb] at hi;cases hi
  simp[aa.set,this]
theorem HR.HQ (H:HR ι I h w) {b cb o room off:Nat} {cs vs:List AV} {mP:List Value} (hb:ι b=some (.cells cb o room)) (hg:h.get b=some (.cells cs))
 (hle:off<=cs.length) (jt:off+vs.length<=room) (hv:LR ι I w vs mP) (cV: ∀v∈vs,v.one=true):
 HR ι I (h.set b (some (.cells (dq cs off vs)))) (w.setCells cb (o+off) mP)/\
 Ext (fun _=>False) ι I h w ι I (h.set b (some (.cells (dq cs off vs)))) (w.setCells cb (o+off) mP):=by
 obtain⟨_,_,_,hl,eN,h1,hc⟩:=H.cells b cs _ hg hb
 cases hl
 have hvl:=hv.1
 refine H.cu (eO.setCells w cb (o+off) mP) hb hg (fun k j ⟨h1,h2,h3⟩=>h1) (fun H1=>?_)
 have cM: ∀a c,VR ι I w a c->VR ι I (w.setCells cb (o+off) mP) a c:=fun a c lE=>lE.mono (fun _ _ h=>h) (fun _ _ h=>h) (fun k j hk=>
  (eO.setCells w cb (o+off) mP).cell k j (H.dw k j hk) (fun⟨e1,e2,e3⟩=>H.bz b _ _ k j hb hg e1 hk))
 refine⟨by rw[aju _ _ _ hle];omega,?_,fun j hj=>?_,fun n=>by rw[World.frozen?_setCells];exact H.pl b cs cb o room hg hb n⟩
 ·intro v da
  obtain⟨i,hi,rfl⟩:=List.getElem_of_mem da
  have a7:=MM cs off vs hle i
  rw[List.getElem?_eq_getElem hi] at a7
  split at a7
  ·exact cV _ (List.mem_of_getElem? a7.symm)
  ·exact h1 _ (List.mem_of_getElem? a7.symm)
 ·obtain⟨c,bn,bk,jk⟩:=hc j hj
  by_cases aE:off<=j/\j<off+mP.length
  ·have hex: ∀i,i<mP.length->(w.cell? ⟨cb,o+off+i,none⟩).isSome=true:=fun i hi=>by
    obtain⟨c',cS,_⟩:=hc (off+i) (by omega)
    rw[Nat.add_assoc,cS];rfl
   have:=World.cell?_setCells_in cb mP (o+off) w hex (j-off) (by omega)
   rw[show o+off+(j-off)=o+j by omega] at this
   refine⟨_,this,by rw[World.frozen?_setCells];exact bk,fun v da=>?_⟩
   rw[MM _ _ _ hle,if_pos (by omega)] at da
   exact cM _ _ (hv.2 _ v _ da (List.getElem?_eq_getElem (by omega)))
  ·refine⟨c,?_,by rw[World.frozen?_setCells];exact bk,fun v da=>?_⟩
   ·rw[World.cell?_setCells_out cb mP (o+off) w _ (fun _ _=>by simp;omega)]
    exact bn
   ·rw[MM _ _ _ hle,if_neg (by omega)] at da
    exact cM _ _ (jk v da)
theorem HR.write (H:HR ι I h w) {b cb o room off:Nat} {cs vs:List AV} {mP:List Value} (hb:ι b=some (.cells cb o room)) (hg:h.get b=some (.cells cs))
 (hle:off+vs.length<=cs.length) (hv:LR ι I w vs mP) (cV: ∀v∈vs,v.one=true):
 HR ι I (h.set b (some (.cells (dq cs off vs)))) (w.setCells cb (o+off) mP)/\
 Ext (fun _=>False) ι I h w ι I (h.set b (some (.cells (dq cs off vs)))) (w.setCells cb (o+off) mP):=by
 obtain⟨_,_,_,hl,eN,-,-⟩:=H.cells b cs _ hg hb
 cases hl
 exact H.HQ hb hg (by omega) (by omega) hv cV
theorem rI {b:Nat} {cs:List AV} (hg:cellsOf h b=some cs):h.get b=some (.cells cs):=by
 unfold cellsOf at hg
 split at hg
 ·rename_i bD hh;cases hg;exact hh
 ·cases hg
theorem al1 (H:HR ι I h w) {t:TypeId} {sz:Nat} (hs:(P.info? t).map (·.size)=some sz) {a v:AV} {ca cv:Value} (ha:VR ι I w a ca) (hv:VR ι I w v cv) {h':aa} {r:AV}
 (he:wZ sz h a v=some (r,h')):
 r= .undef/\ ∃w',(Instr.storeAt t ca cv).run P w= .ok () w'/\HR ι I h' w'/\Ext (fun _=>False) ι I h w ι I h' w':=by
 unfold wZ at he
 cases ha<;>simp only[] at he<;>try(cases he;done)
 rename_i b off cb o room hb
 split at he
 ·rename_i cs hg
  split at he
  ·rename_i fE
   obtain⟨h1,h2,h3⟩:=fE
   cases he
   have cF:=rI hg
   have hc:=VR.cells hv (No h3)
   obtain⟨_,_,_,hl,eN,_,bq⟩:=H.cells b cs _ cF hb
   cases hl
   have cV: ∀u∈cv.cells.toList,u.oneCell'=true:=by
    intro u hu
    obtain⟨i,hi,rfl⟩:=List.getElem_of_mem hu
    have aB:i<v.cells.length:=by rw[hc.1];exact hi
    exact(hc.2 i _ _ (List.getElem?_eq_getElem aB) (List.getElem?_eq_getElem hi)).one ((List.all_eq_true.1 h3) _ (List.getElem_mem aB))
   have hlen:cv.cells.toList.length=sz:=by rw[<-h1,hc.1]
   have bQ:=run_storeCells_cells (P:=P) cb (o+off) cv.cells.toList 0 w
    (fun j hj=>by obtain⟨c,cS,_⟩:=bq (off+j) (by omega);simp only[Nat.add_zero];rw[Nat.add_assoc,cS];rfl)
    (fun j hj=>by obtain⟨c,_,cS,_⟩:=bq (off+j) (by omega);simp only[Nat.add_zero];rw[Nat.add_assoc];exact cS) cV
   obtain⟨H',E⟩:=H.write (off:=off) hb cF (by omega) hc (fun u hu=>(List.all_eq_true.1 h3) u hu)
   refine⟨rfl,w.setCells cb (o+off) cv.cells.toList,?_,H',E⟩
   have aP:cv.cells.size=sz:=by simpa using hlen
   simp only[Nat.add_zero] at bQ
   simp[Instr.storeAt,Instr.sureAddr,storeVar,mG hs,aP,bQ]
  ·cases he
 ·cases he
end
end
section
open Go
section
variable {P:Program} {ι:aI} {I:aR} {h:aa} {w:World}
theorem eO.refl (w:World):eO (fun _ _=>False) w w:=
 {os:=rfl,tape:=rfl,output:=rfl,size:=Nat.le_refl _,block:=fun _ _ _=>rfl,cell:=fun _ _ _ _=>rfl,frozen:=fun _ _ _=>rfl}
theorem HR.drop (H:HR ι I h w) {b:Nat} {l:Loc} (hb:ι b=some l):HR ι I (h.set b none) w/\Ext (fun _=>False) ι I h w ι I (h.set b none) w:=by
 refine⟨H.v7 (eO.refl w) (Nat.le_refl _) (fun i y hi=>(i4 hi).2) (fun _ _ _ _ _ _ _ _ h=>h) (fun _ _ h=>h.elim),?_⟩
 refine Ext.of (eO.refl w) (fun _ _ _ h=>h.elim) (fun _ _=>rfl) (fun _ _ h=>h) (Nat.le_refl _) (fun _ _ h=>h) ?_ (fun _ _ h=> .inl h) ?_
 ·rintro k j ⟨i,l',y,hi,hg,hl⟩
  exact .inl ⟨i,l',y,hi,(i4 hg).2,hl⟩
 ·intro i _ hi
  have:i≠b:=fun he=>by rw[he,hb] at hi;cases hi
  simp[aa.set,this]
theorem Z0 {UT cap bytes:Nat} (hg:cap<UT) (hb:UT*bytes<2^40):Builtin.nextslicecap UT cap*bytes<=281474976710656:=by
 have h1:=nextslicecap_le hg
 have h2:=Nat.mul_le_mul_right bytes h1
 rw[Nat.mul_assoc] at h2
 omega
structure t9 (P:Program) (t tx e:TypeId) (sz bytes:Nat):Prop where
 ht:P.underlying t=some (.slice e)
 ui:P.underlying tx=some (.slice e)
 info: ∃ie z,P.info? e=some ie/\ie.zero=some z/\ie.size=sz/\ie.bytes=bytes/\z.cells.size=sz
 pos:sz≠0
theorem ZG {sz:Nat} {rows:List (List AV)} {a:Option Addr} {l:List Value} (R:Rd ι I w sz rows a l) (cap:Nat) (w':World)
 (hw: ∀a,w'.cell? a=w.cell? a):(Builtin.firstCells sz rows.length (.slice a rows.length cap)).run P w'= .ok l.toArray w':=by
 cases a with
 |none=>
  have:=R.none rfl
  subst this
  have:l=[]:=by have:=R.len;simpa using this
  subst this
  exact run_firstCells_none w' sz 0 _ cap
 |some ad=>
  exact run_firstCells_some w' sz _ _ _ _ l R.len (fun j v hv=>by rw[hw];exact R.cell ad rfl j v hv)
theorem ZZ (H:HR ι I h w) {id:Nat} (aL:ι id=none) {t tx ty e:TypeId} {sz bytes:Nat} (T:t9 P t tx e sz bytes) {xs ys:List (List AV)} {a b:Option Addr} {lx ly:List Value} {cap cN:Nat}
 (Rx:Rd ι I w sz xs a lx) (Ry:Rd ι I w sz ys b ly) (hg:cap<xs.length+ys.length) (hb:(xs.length+ys.length)*bytes<2^40) (hn:xs.length+ys.length<2^40):
 ∃(c:Nat) (w':World),(Builtin.append_ #[t,tx] ty #[.slice a xs.length cap, .slice b ys.length cN]).run P w= .ok (.slice (some ⟨w.heap.size,0,none⟩) (xs.length+ys.length) c) w'/\
  xs.length+ys.length<=c/\w'.heap.size=w.heap.size+1/\eO (fun _ _=>False) w w'/\(∀j,w'.frozen? ⟨w.heap.size,j,none⟩=false)/\
  (∀j,j<c*sz-> ∃u,w'.cell? ⟨w.heap.size,j,none⟩=some u)/\(∀(j:Nat) (u:Value),(lx++ly)[j]? =some u->w'.cell? ⟨w.heap.size,j,none⟩=some u):=by
 obtain⟨ie,z,cP,hz,aP,zM,sO⟩:=T.info
 have hold:=ZG (P:=P) Rx cap w.drew (fun _=>rfl)
 have qD:=Ry.src (P:=P) T.ui cN
 rw[<-aP] at hold qD
 have kP:=Z0 hg hb
 rw[<-zM] at kP
 have bQ:=run_append_grow_src (P:=P) w t tx ty e ie z T.ht cP hz a xs.length cap lx hold (.slice b ys.length cN) ys.length ly qD hg (by omega) kP
 have BE:=grownCap_ge w (xs.length+ys.length) cap e
 refine⟨_,_,bQ,BE,by simp,(eO.drew w).trans (eO.push _ _) (fun _ _ _ h=>h),?_,?_,?_⟩
 ·intro j;exact World.frozen?_alloc_new (w:=w.drew) _ _ j
 ·intro j hj
  have vl:((lx++ly).toArray++Builtin.zeroCells z.cells (grownCap w (xs.length+ys.length) cap e-(xs.length+ys.length))).size=grownCap w (xs.length+ys.length) cap e*sz:=by
   rw[Array.size_append,size_zeroCells,sO]
   simp only[List.size_toArray,List.length_append,Rx.len,Ry.len]
   rw[<-Nat.add_mul,<-Nat.add_mul]
   congr 1;omega
  exact⟨_,(World.cell?_alloc_new (w:=w.drew) _ _ j).trans (Array.getElem?_eq_getElem (by rw[vl];exact hj))⟩
 ·intro j u hu
  refine(World.cell?_alloc_new (w:=w.drew) _ _ j).trans ?_
  rw[Array.getElem?_append_left (by have:=(List.getElem?_eq_some_iff.1 hu).1;simpa using this)]
  simpa using hu
theorem Rd.append {sz:Nat} {xs ys:List (List AV)} {a b:Option Addr} {lx ly:List Value} (Rx:Rd ι I w sz xs a lx) (Ry:Rd ι I w sz ys b ly):
 (∀r∈xs++ys,r.length=sz/\ ∀v∈r,v.one=true)/\LR ι I w (xs++ys).flatten (lx++ly):=by
 refine⟨fun r hr=>?_,?_⟩
 ·rcases List.mem_append.1 hr with h|h
  ·exact Rx.mw r h
  ·exact Ry.mw r h
 ·rw[List.flatten_append]
  exact Rx.lr.append Ry.lr
theorem aaX {ι':aI} {I':aR} {w':World} {rows:List (List AV)} {l:List Value} {sz cb o cap:Nat} {t:aH} (hu: ∀r∈rows,r.length=sz/\ ∀v∈r,v.one=true) (hl:LR ι' I' w' rows.flatten l)
 (hc: ∀(j:Nat) (u:Value),l[j]? =some u->w'.cell? ⟨cb,o+j,none⟩=some u) (hI: ∀j,j<rows.length*sz->I' cb (o+j)) (bt:rows.length<=cap)
 (ht:QY ι' cb o sz rows.length cap t):VR ι' I' w' (.vs rows t) (.slice (some ⟨cb,o,none⟩) rows.length cap):=by
 have bH:=nx rows (fun r hr=>(hu r hr).1)
 have jQ:l.length=rows.length*sz:=by rw[<-hl.1,bH]
 have aiU: ∀i j,i<rows.length->j<sz->i*sz+j<rows.length*sz:=fun i j hi hj=>by
  have:=Nat.mul_le_mul_right sz (show i+1<=rows.length by omega)
  rw[Nat.succ_mul] at this;omega
 refine .vs rows t cb o sz cap (fun i j=>l.getD (i*sz+j) undef) (fun i row hi=>(hu row (List.mem_of_getElem? hi)).1) (fun i j hi hj=>?_) (fun i j hi hj=>?_) (fun i row j v hi hj=>?_) (fun row hr=>(hu row hr).2) bt ht
 ·rw[Nat.add_assoc];exact hI _ (aiU i j hi hj)
 ·have aC:=aiU i j hi hj
  rw[Nat.add_assoc]
  refine hc _ _ ?_
  rw[<-jQ] at aC
  simp[List.getD,List.getElem?_eq_getElem aC]
 ·have aB:=(List.getElem?_eq_some_iff.1 hi).1
  have kW:=(List.getElem?_eq_some_iff.1 hj).1
  have hr:=(hu row (List.mem_of_getElem? hi)).1
  have:=flat_get rows (fun r hr=>(hu r hr).1) i j row hi (by omega)
  rw[hj] at this
  obtain⟨c,bn,bk⟩:=hl.get this
  have e:l.getD (i*sz+j) undef=c:=by simp[List.getD,bn]
  rw[e];exact bk
theorem Cd (H:HR ι I h w) {id:Nat} (aL:ι id=none) {t tx ty e:TypeId} {sz bytes:Nat} (T:t9 P t tx e sz bytes) {xs ys:List (List AV)} {a b:Option Addr} {lx ly:List Value} {cap cN:Nat}
 (Rx:Rd ι I w sz xs a lx) (Ry:Rd ι I w sz ys b ly) (hg:cap<xs.length+ys.length) (hb:(xs.length+ys.length)*bytes<2^40) (hn:xs.length+ys.length<2^40) (hy:ys≠[]):
 eT P ι I h w id (.vs (xs++ys) (.own id)) (h.at id .tail) (Builtin.append_ #[t,tx] ty #[.slice a xs.length cap, .slice b ys.length cN]):=by
 obtain⟨c,w',bQ,hc,aP,W,mS,hex,bq⟩:=ZZ H aL T Rx Ry hg hb hn (cN:=cN) (ty:=ty)
 obtain⟨hu,hl⟩:=Rx.append Ry
 have iS:0<xs.length+ys.length:=by
  have:=List.length_pos_iff.2 hy;omega
 have hlen:(xs++ys).length=xs.length+ys.length:=by simp
 let J:aR:=fun k j=>k=w.heap.size/\j<(xs.length+ys.length)*sz
 let l0:Loc:= .tail w.heap.size ((xs.length+ys.length)*sz) (c*sz)
 have js: ∀k j,eB ι h k j->k<w.heap.size:=fun k j ⟨i,l,x,hi,_,hl⟩=>by rw[Loc.wM hl];exact H.inside i l hi
 have H1:HR ι I h w':=H.v7 W (Nat.le_refl _) (fun _ _ h=>h) (fun _ _ _ _ _ _ _ _ h=>h) (fun _ _ h=>h.elim)
 have H2:HR ι (fun k j=>I k j\/J k j) h w':=H1.NJ (fun k j hj=>⟨by rw[hj.1];omega,fun ho=>by have:=js k j ho;have:=hj.1;omega⟩)
 have H3:=H2.xQ (id:=id) (l:=l0) (x:= .tail) (fun l' bj=>by rw[aL] at bj;cases bj) (by simp[l0,Loc.block];omega)
  (fun j h1 h2=>by obtain⟨u,hu⟩:=hex j h2;exact⟨u,hu,mS j⟩)
  (fun k j hl=>⟨fun ho=>by have:=js k j ho;have:=hl.1;omega,fun hI=>by
    rcases hI with hI|hI
    ·have:=H.dw k j hI;have:=hl.1;omega
    ·have:=hI.2;have:=hl.2.1;omega⟩)
 have cM: ∀a v,VR ι I w a v->VR (ι.set id l0) (fun k j=>I k j\/J k j) w' a v:=fun a v hv=>hv.mono
  (fun b l hb=>by rw[aI.eP _ _ (fun he=>by rw[he,aL] at hb;cases hb)];exact hb) (fun _ _ h=> .inl h) (fun k j hk=>W.cell k j (H.dw k j hk) (fun h=>h))
 refine⟨_,w',_,_,bQ,?_,H3,?_⟩
 ·rw[<-hlen]
  refine aaX (sz:=sz) (l:=lx++ly) hu (hl.mono cM) (fun j u iI=>by rw[Nat.zero_add];exact bq j u iI) (fun j hj=> .inr ⟨rfl,by rw[Nat.zero_add];rw[hlen] at hj;exact hj⟩) (by rw[hlen];exact hc) ?_
  rw[hlen]
  refine⟨iS,?_⟩
  rw[aI.gj]
  simp[l0]
 ·refine Ext.of W (fun _ _ _ h=>h.elim) (fun b hb=>aI.eP _ _ hb) (fun b l hb=>by rw[aI.eP _ _ (fun he=>by rw[he,aL] at hb;cases hb)];exact hb) (by simp[aa.at];omega) (fun _ _ h=> .inl h) ?_ ?_ (fun b hb _=>by simp[aa.at,hb])
  ·rintro k j ⟨i,l,x,hi,dV,hl⟩
   by_cases iK:i=id
   ·subst iK;rw[aI.gj] at hi;cases hi;exact .inr (by have:=hl.1;omega)
   ·rw[aI.eP _ _ iK] at hi
    exact .inl ⟨i,l,x,hi,by simpa [aa.at,iK] using dV,hl⟩
  ·intro k j hk
   rcases hk with hk|hk
   ·exact .inl hk
   ·exact .inr (.inr (by have:=hk.1;omega))
end
end
section
open Go
section
variable {P:Program} {ι:aI} {I:aR} {h:aa} {w:World}
theorem eT.aas {id:Nat} {v:AV} {h':aa} {s:Sem Value} {b:Nat} {l:Loc} (H:HR ι I h w) (hb:ι b=some l) (hs:eT P ι I (h.set b none) w id v h' s) (axI:ι id=none):
 eT P ι I h w id v h' s:=by
 obtain⟨c,w',ι',I',hr,hv,H',E⟩:=hs
 obtain⟨H1,E1⟩:=H.drop hb
 exact⟨c,w',ι',I',hr,hv,H',(E1.mono (fun _ h=>h.elim)).trans E (fun _ h=>h)⟩
theorem akD (H:HR ι I h w) {id:Nat} (aL:ι id=none) {t tx ty e:TypeId} {sz bytes:Nat} (T:t9 P t tx e sz bytes) {xs ys:List (List AV)} {b:Option Addr} {lx ly:List Value} {cb o cap cN t0:Nat}
 (Rx:Rd ι I w sz xs (some ⟨cb,o,none⟩) lx) (Ry:Rd ι I w sz ys b ly) (hI: ∀j,j<xs.length*sz->I cb (o+j)) (ht:ι t0=some (.tail cb (o+xs.length*sz) (o+cap*sz))) (hg:h.get t0=some .tail)
 (eN:xs.length+ys.length<=cap) (hx:0<xs.length):
 eT P ι I h w id (.vs (xs++ys) (.own id)) ((h.set t0 none).at id .tail) (Builtin.append_ #[t,tx] ty #[.slice (some ⟨cb,o,none⟩) xs.length cap, .slice b ys.length cN]):=by
 obtain⟨ie,z,cP,hz,aP,zM,sO⟩:=T.info
 have qD:=Ry.src (P:=P) T.ui cN
 rw[<-aP] at qD
 have hmul:xs.length*sz+ys.length*sz<=cap*sz:=by rw[<-Nat.add_mul];exact Nat.mul_le_mul_right _ eN
 have LP:=Ry.len
 have hlx:=Rx.len
 obtain⟨iy,lo',aB,bj,Ju⟩:=H.eR t0 _ hg ht
 cases bj
 have bQ:=run_append_room_src (P:=P) w t tx ty e ie T.ht cP cb o xs.length cap (.slice b ys.length cN) ys.length ly qD eN
  (fun j hj=>by rw[aP];obtain⟨u,hu,_⟩:=Ju (o+xs.length*sz+j) (by omega) (by omega);rw[hu];rfl)
  (fun j hj=>by rw[aP];obtain⟨u,_,hu⟩:=Ju (o+xs.length*sz+j) (by omega) (by omega);exact hu)
 rw[aP] at bQ
 have W:=eO.setCells w cb (o+xs.length*sz) ly
 have hR: ∀k j,(k=cb/\o+xs.length*sz<=j/\j<o+xs.length*sz+ly.length)->(Loc.tail cb (o+xs.length*sz) (o+cap*sz)).has k j:=fun k j ⟨h1,h2,h3⟩=>⟨h1,h2,by omega⟩
 have pE: ∀k j,(Loc.tail cb (o+xs.length*sz) (o+cap*sz)).has k j-> ¬eB ι (h.set t0 none) k j:=fun k j hl ⟨i,l,x,hi,dV,jh⟩=>
  H.dC i t0 l _ x .tail k j (i4 dV).1 hi ht (i4 dV).2 hg jh hl
 have yP: ∀k j,(Loc.tail cb (o+xs.length*sz) (o+cap*sz)).has k j-> ¬I k j:=fun k j hl=>H.bz t0 _ .tail k j ht hg hl
 have aE:cb<w.heap.size:=H.inside t0 _ ht
 have H1:HR ι I (h.set t0 none) (w.setCells cb (o+xs.length*sz) ly):=H.v7 W (Nat.le_refl _) (fun i y hi=>(i4 hi).2)
  (fun i l y k j hi dV hl hr=>pE k j (hR k j hr) ⟨i,l,y,hi,dV,hl⟩) (fun k j hr=>yP k j (hR k j hr))
 let J:aR:=fun k j=>k=cb/\o+xs.length*sz<=j/\j<o+(xs.length+ys.length)*sz
 have hJ: ∀k j,J k j->(Loc.tail cb (o+xs.length*sz) (o+cap*sz)).has k j:=fun k j ⟨h1,h2,h3⟩=>⟨h1,h2,by rw[Nat.add_mul] at h3;omega⟩
 have H2:=H1.NJ (J:=J) (fun k j hj=>⟨by rw[hj.1];exact Nat.lt_of_lt_of_le aE W.size,pE k j (hJ k j hj)⟩)
 let l0:Loc:= .tail cb (o+(xs.length+ys.length)*sz) (o+cap*sz)
 have yQ: ∀k j,l0.has k j->(Loc.tail cb (o+xs.length*sz) (o+cap*sz)).has k j:=fun k j ⟨h1,h2,h3⟩=>⟨h1,by rw[Nat.add_mul] at h2;omega,h3⟩
 have H3:=H2.xQ (id:=id) (l:=l0) (x:= .tail) (fun l' bj=>by rw[aL] at bj;cases bj) (Nat.lt_of_lt_of_le aE W.size)
  (fun j h1 h2=>by
    have dc:o+xs.length*sz+ly.length<=j:=by rw[Nat.add_mul] at h1;omega
    obtain⟨u,hu,hf⟩:=Ju j (by omega) h2
    exact⟨u,by rw[W.cell _ _ aE (fun hr=>by have:=hr.2.2;omega)];exact hu,by rw[W.frozen _ _ aE];exact hf⟩)
  (fun k j hl=>⟨pE k j (yQ k j hl),fun oP=>by
    rcases oP with oP|oP
    ·exact yP k j (yQ k j hl) oP
    ·have:=oP.2.2;have:=hl.2.1;omega⟩)
 have cM: ∀a v,VR ι I w a v->VR (ι.set id l0) (fun k j=>I k j\/J k j) (w.setCells cb (o+xs.length*sz) ly) a v:=fun a v hv=>hv.mono
  (fun b l hb=>by rw[aI.eP _ _ (fun he=>by rw[he,aL] at hb;cases hb)];exact hb) (fun _ _ h=> .inl h) (fun k j hk=>W.cell k j (H.dw k j hk) (fun hr=>yP k j (hR k j hr) hk))
 obtain⟨hu,hl⟩:=Rx.append Ry
 have hlen:(xs++ys).length=xs.length+ys.length:=by simp
 refine⟨_,_,_,_,bQ,?_,H3,?_⟩
 ·rw[<-hlen]
  refine aaX (sz:=sz) (l:=lx++ly) hu (hl.mono cM) (fun j u iI=>?_) (fun j hj=>?_) (by rw[hlen];exact eN) ?_
  ·by_cases hj:j<lx.length
   ·rw[List.getElem?_append_left hj] at iI
    have hc:=Rx.cell _ rfl j u iI
    rw[Addr.add_mid] at hc
    rw[W.cell _ _ aE (fun hr=>by have:=hr.2.1;omega)]
    exact hc
   ·rw[List.getElem?_append_right (by omega)] at iI
    have dO:=(List.getElem?_eq_some_iff.1 iI).1
    have:=World.cell?_setCells_in cb ly (o+xs.length*sz) w (fun i hi=>by
     obtain⟨u',iI,_⟩:=Ju (o+xs.length*sz+i) (by omega) (by omega);rw[iI];rfl) (j-lx.length) dO
    rw[show o+xs.length*sz+(j-lx.length)=o+j by omega] at this
    rw[this,<-iI,List.getElem?_eq_getElem dO]
  ·rw[hlen,Nat.add_mul] at hj
   by_cases Gg:j<xs.length*sz
   ·exact .inl (hI j Gg)
   ·exact .inr ⟨rfl,by omega,by rw[Nat.add_mul];omega⟩
  ·rw[hlen]
   exact⟨by omega,by rw[aI.gj]⟩
 ·refine Ext.of W (fun k j _ hr=>⟨t0,_, .tail,ht,hg,hR k j hr⟩) (fun b hb=>aI.eP _ _ hb) (fun b l hb=>by rw[aI.eP _ _ (fun he=>by rw[he,aL] at hb;cases hb)];exact hb)
   (by simp[aa.at,aa.set];omega) (fun _ _ h=> .inl h) ?_ ?_ ?_
  ·rintro k j ⟨i,l,x,hi,dV,jh⟩
   by_cases iK:i=id
   ·subst iK;rw[aI.gj] at hi;cases hi;exact .inl ⟨t0,_, .tail,ht,hg,yQ k j jh⟩
   ·rw[aI.eP _ _ iK] at hi
    have Fo:(h.set t0 none).get i=some x:=by simpa [aa.at,iK] using dV
    exact .inl ⟨i,l,x,hi,(i4 Fo).2,jh⟩
  ·intro k j hk
   rcases hk with hk|hk
   ·exact .inl hk
   ·exact .inr (.inl ⟨t0,_, .tail,ht,hg,hJ k j hk⟩)
  ·intro i hi vQ
   have:i≠t0:=fun he=>by rw[he,ht] at vQ;cases vQ
   simp[aa.at,aa.set,hi,this]
theorem alH (H:HR ι I h w) {id:Nat} (aL:ι id=none) {t tx ty e:TypeId} {sz bytes:Nat} (T:t9 P t tx e sz bytes) {x y v:AV} {cx cy:Value} (hx:VR ι I w x cx) (hy:VR ι I w y cy) {ρ:Env} {ox oy:au} (bh:ox.ev ρ=x) (iX:oy.ev ρ=y)
 {h':aa} (he:bN (.append bytes sz ox oy) ρ id h=some (v,h')):eT P ι I h w id v h' (Builtin.append_ #[t,tx] ty #[cx,cy]):=by
 simp only[bN,bh,iX] at he
 cases kU:cQ sz h y with
 |none=>simp[kU] at he
 |some ys=>
  simp only[kU] at he
  obtain⟨b,cN,ly,rfl,aiP,Ry⟩:=wO H hy kU
  obtain⟨ie,z,cP,hz,aP,zM,sO⟩:=T.info
  have rL: ∀(a:Option Addr) (n cap:Nat),n<=cap->ys=[]->(Builtin.append_ #[t,tx] ty #[.slice a n cap, .slice b ys.length cN]).run P w= .ok (.slice a n cap) w:=by
   intro a n cap hle h0
   subst h0
   have hs:=Ry.src (P:=P) T.ui cN
   have:ly=[]:=by have:=Ry.len;simpa using this
   subst this
   rw[<-aP] at hs
   exact run_append_nothing w t tx ty e ie T.ht cP a n cap hle _ hs
  have iP: ∀(c:Value) (v:AV),VR ι I w v c->(Builtin.append_ #[t,tx] ty #[c, .slice b ys.length cN]).run P w= .ok c w->eT P ι I h w id v h (Builtin.append_ #[t,tx] ty #[c, .slice b ys.length cN]):=
   fun c v hv hr=>⟨c,w,ι,I,hr,hv,H,Ext.refl _ _ _ _ _⟩
  cases hx<;>(try simp only[] at he)<;>try(cases he;done)
  case bx=>
   by_cases h0:ys=[]
   ·rw[if_pos h0] at he
    cases he
    exact iP _ _ .bx (rL none 0 0 (Nat.le_refl _) h0)
   ·rw[if_neg h0] at he
    split at he
    ·rename_i hc
     cases he
     have Rx:Rd ι I w sz [] none []:=⟨by simp,LR.nil,by simp,fun _=>rfl⟩
     have:=Cd H aL T Rx Ry (cap:=0) (cN:=cN) (ty:=ty) (by have:=List.length_pos_iff.2 h0;simp;omega) (by simpa using hc.1) (by simpa using hc.2) h0
     simpa using this
    ·cases he
  case gu t' ht=>
   by_cases h0:ys=[]
   ·rw[if_pos h0] at he
    cases he
    exact iP _ _ (.gu _ ht) (rL none 0 0 (Nat.le_refl _) h0)
   ·rw[if_neg h0] at he
    split at he
    ·rename_i hc
     rcases ht with rfl|rfl
     ·simp at he
     ·cases he
      have Rx:Rd ι I w sz [] none []:=⟨by simp,LR.nil,by simp,fun _=>rfl⟩
      have:=Cd H aL T Rx Ry (cap:=0) (cN:=cN) (ty:=ty) (by have:=List.length_pos_iff.2 h0;simp;omega) (by simpa using hc.2.1) (by simpa using hc.2.2) h0
      simpa using this
    ·cases he
  case fU t' a cap ht=>
   by_cases h0:ys=[]
   ·rw[if_pos h0] at he
    cases he
    exact iP _ _ (.fU _ _ _ ht) (rL _ 0 cap (Nat.zero_le _) h0)
   ·rw[if_neg h0] at he
    split at he
    ·rename_i hc
     rcases ht with rfl|⟨rfl,rfl⟩
     ·simp at he
     ·cases he
      have Rx:Rd ι I w sz [] (some a) []:=⟨by simp,LR.nil,fun ad _ j u hu=>by simp at hu,fun h=>by cases h⟩
      have:=Cd H aL T Rx Ry (cap:=0) (cN:=cN) (ty:=ty) (by have:=List.length_pos_iff.2 h0;simp;omega) (by simpa using hc.2.1) (by simpa using hc.2.2) h0
      simpa using this
    ·cases he
  case vs xs t' cb o s cap g hs hI hc da cV bt ht=>
   by_cases h0:ys=[]
   ·rw[if_pos h0] at he
    cases he
    exact iP _ _ (.vs xs t' cb o s cap g hs hI hc da cV bt ht) (rL _ _ _ bt h0)
   ·rw[if_neg h0] at he
    split at he
    ·rename_i fE
     obtain⟨hk,ef,bY⟩:=fE
     obtain⟨a',yk,lx,heq,_,Rx⟩:=wO H (.vs xs t' cb o s cap g hs hI hc da cV bt ht) (show cQ sz h (.vs xs t')=some xs by simp[cQ,hk])
     cases heq
     have axr:=List.length_pos_iff.2 h0
     cases t' with
     |ao=>simp at he
     |full=>
      cases he
      have dj:cap=xs.length:=ht
      exact Cd H aL T Rx Ry (cap:=cap) (by omega) ef bY h0
     |own t0=>
      simp only[] at he
      cases hg:h.get t0 with
      |none=>simp[hg] at he
      |some x=>
       cases x with
       |cells cs=>simp[hg] at he
       |map es=>simp[hg] at he
       |tail=>
        simp only[hg] at he
        cases he
        obtain⟨Q9,yf⟩:=ht
        have jy:s=sz:=by
         rw[<-hs 0 _ (List.getElem?_eq_getElem Q9)]
         exact MT hs hk _ (List.getElem_mem Q9)
        subst jy
        by_cases eN:xs.length+ys.length<=cap
        ·refine akD H aL T Rx Ry (fun j hj=>?_) yf hg eN Q9
         have iS:0<s:=Nat.pos_of_ne_zero T.pos
         have:=hI (j/s) (j%s) ((Nat.div_lt_iff_lt_mul iS).2 hj) (Nat.mod_lt _ iS)
         rwa [Nat.add_assoc,Nat.div_add_mod' j s] at this
        ·obtain⟨H1,E1⟩:=H.drop yf
         exact eT.aas H yf (Cd H1 aL T Rx Ry (cap:=cap) (by omega) ef bY h0) aL
    ·cases he
end
end
section
open Go
section
variable {P:Program} {ι:aI} {I:aR} {h:aa} {w:World}
theorem XL (H:HR ι I h w) {id:Nat} (aL:ι id=none) {t tx ty e:TypeId} {sz bytes:Nat} (T:t9 P t tx e sz bytes) {xs ys:List (List AV)} {a b:Option Addr} {lx ly:List Value} {cap cN:Nat}
 (Rx:Rd ι I w sz xs a lx) (Ry:Rd ι I w sz ys b ly) (hg:cap<xs.length+ys.length) (hb:(xs.length+ys.length)*bytes<2^40) (hn:xs.length+ys.length<2^40):
 eT P ι I h w id (.rs id 0 (xs.length+ys.length) sz) (h.at id (.cells (xs++ys).flatten)) (Builtin.append_ #[t,tx] ty #[.slice a xs.length cap, .slice b ys.length cN]):=by
 obtain⟨c,w',bQ,hc,aP,W,mS,hex,bq⟩:=ZZ H aL T Rx Ry hg hb hn (cN:=cN) (ty:=ty)
 obtain⟨hu,hl⟩:=Rx.append Ry
 have js: ∀k j,eB ι h k j->k<w.heap.size:=fun k j ⟨i,l,x,hi,_,hl⟩=>by rw[Loc.wM hl];exact H.inside i l hi
 have H1:HR ι I h w':=H.v7 W (Nat.le_refl _) (fun _ _ h=>h) (fun _ _ _ _ _ _ _ _ h=>h) (fun _ _ h=>h.elim)
 have cM: ∀a v,VR ι I w a v->VR ι I w' a v:=fun a v hv=>hv.mono (fun _ _ h=>h) (fun _ _ h=>h) (fun k j hk=>W.cell k j (H.dw k j hk) (fun h=>h))
 have bH:=nx (xs++ys) (fun r hr=>(hu r hr).1)
 let l0:Loc:= .cells w.heap.size 0 (c*sz)
 have H3:=H1.xQ (id:=id) (l:=l0) (x:= .cells (xs++ys).flatten) (fun l' bj=>by rw[aL] at bj;cases bj) (by simp[l0,Loc.block];omega)
  ⟨by rw[bH];simp only[List.length_append];exact Nat.mul_le_mul_right _ hc,fun v hv=>by
    obtain⟨r,hr,hv⟩:=List.mem_flatten.1 hv
    exact(hu r hr).2 v hv,fun j hj=>by
    obtain⟨u,iI⟩:=hex j hj
    refine⟨u,by rw[Nat.zero_add];exact iI,by rw[Nat.zero_add];exact mS j,fun v hv=>?_⟩
    obtain⟨c',bn,bk⟩:=hl.get hv
    have:=bq j c' bn
    rw[iI] at this
    cases this
    exact cM _ _ bk,mS⟩
  (fun k j hl=>⟨fun ho=>by have:=js k j ho;have:k=w.heap.size:=hl;omega,fun hI=>by have:=H.dw k j hI;have:k=w.heap.size:=hl;omega⟩)
 refine⟨_,w',_,_,bQ,?_,H3,?_⟩
 ·exact .rs id 0 _ sz w.heap.size 0 (c*sz) c (by rw[aI.gj]) hc (by omega)
 ·refine Ext.of W (fun _ _ _ h=>h.elim) (fun b hb=>aI.eP _ _ hb) (fun b l hb=>by rw[aI.eP _ _ (fun he=>by rw[he,aL] at hb;cases hb)];exact hb) (by simp[aa.at];omega) (fun _ _ h=>h) ?_ (fun _ _ h=> .inl h) (fun b hb _=>by simp[aa.at,hb])
  rintro k j ⟨i,l,x,hi,dV,hl⟩
  by_cases iK:i=id
  ·subst iK;rw[aI.gj] at hi;cases hi;exact .inr (by have:k=w.heap.size:=hl;omega)
  ·rw[aI.eP _ _ iK] at hi
   exact .inl ⟨i,l,x,hi,by simpa [aa.at,iK] using dV,hl⟩
theorem ajT (H:HR ι I h w) {id:Nat} (aL:ι id=none) {t tx ty e:TypeId} {sz bytes:Nat} (T:t9 P t tx e sz bytes) {cs:List AV} {ys:List (List AV)} {b:Option Addr} {ly:List Value} {cb o room len cap cN t0:Nat}
 (Ry:Rd ι I w sz ys b ly) (ht:ι t0=some (.cells cb o room)) (hg:h.get t0=some (.cells cs)) (eF:cs.length=len*sz)
 (eN:len+ys.length<=cap) (bt:cap*sz<=room):
 eT P ι I h w id (.rs id 0 (len+ys.length) sz) ((h.set t0 none).at id (.cells (cs++ys.flatten))) (Builtin.append_ #[t,tx] ty #[.slice (some ⟨cb,o,none⟩) len cap, .slice b ys.length cN]):=by
 obtain⟨ie,z,cP,hz,aP,zM,sO⟩:=T.info
 have qD:=Ry.src (P:=P) T.ui cN
 rw[<-aP] at qD
 have hmul:len*sz+ys.length*sz<=cap*sz:=by rw[<-Nat.add_mul];exact Nat.mul_le_mul_right _ eN
 have LP:=Ry.len
 obtain⟨iy,o',pB,bj,sy,aef,bq⟩:=H.cells t0 cs _ hg ht
 cases bj
 have bQ:=run_append_room_src (P:=P) w t tx ty e ie T.ht cP cb o len cap (.slice b ys.length cN) ys.length ly qD eN
  (fun j hj=>by rw[aP];obtain⟨u,hu,_⟩:=bq (len*sz+j) (by omega);rw[Nat.add_assoc,hu];rfl)
  (fun j hj=>by rw[aP];obtain⟨u,_,hu,_⟩:=bq (len*sz+j) (by omega);rw[Nat.add_assoc];exact hu)
 rw[aP] at bQ
 have W:=eO.setCells w cb (o+len*sz) ly
 have hR: ∀k j,(k=cb/\o+len*sz<=j/\j<o+len*sz+ly.length)->(Loc.cells cb o room).has k j:=fun k j ⟨h1,h2,h3⟩=>h1
 have pE: ∀k j,(Loc.cells cb o room).has k j-> ¬eB ι (h.set t0 none) k j:=fun k j hl ⟨i,l,x,hi,dV,jh⟩=>
  H.dC i t0 l _ x _ k j (i4 dV).1 hi ht (i4 dV).2 hg jh hl
 have yP: ∀k j,(Loc.cells cb o room).has k j-> ¬I k j:=fun k j hl=>H.bz t0 _ _ k j ht hg hl
 have aE:cb<w.heap.size:=H.inside t0 _ ht
 have H1:HR ι I (h.set t0 none) (w.setCells cb (o+len*sz) ly):=H.v7 W (Nat.le_refl _) (fun i y hi=>(i4 hi).2)
  (fun i l y k j hi dV hl hr=>pE k j (hR k j hr) ⟨i,l,y,hi,dV,hl⟩) (fun k j hr=>yP k j (hR k j hr))
 have cM: ∀a v,VR ι I w a v->VR ι I (w.setCells cb (o+len*sz) ly) a v:=fun a v hv=>hv.mono (fun _ _ h=>h) (fun _ _ h=>h)
  (fun k j hk=>W.cell k j (H.dw k j hk) (fun hr=>yP k j (hR k j hr) hk))
 have sP:ys.flatten.length=ys.length*sz:=nx ys (fun r hr=>(Ry.mw r hr).1)
 have H3:=H1.xQ (id:=id) (l:= .cells cb o room) (x:= .cells (cs++ys.flatten)) (fun l' bj=>by rw[aL] at bj;cases bj) (Nat.lt_of_lt_of_le aE W.size)
  ⟨by rw[List.length_append,sP];omega,fun v hv=>by
    rcases List.mem_append.1 hv with hv|hv
    ·exact aef v hv
    ·obtain⟨r,hr,hv⟩:=List.mem_flatten.1 hv
     exact(Ry.mw r hr).2 v hv,fun j hj=>by
    obtain⟨c,bn,bk,jk⟩:=bq j hj
    by_cases hjr:len*sz<=j/\j<len*sz+ly.length
    ·have:=World.cell?_setCells_in cb ly (o+len*sz) w (fun i hi=>by
      obtain⟨u',iI,_⟩:=bq (len*sz+i) (by omega);rw[Nat.add_assoc,iI];rfl) (j-len*sz) (by omega)
     rw[show o+len*sz+(j-len*sz)=o+j by omega] at this
     refine⟨_,this,by rw[W.frozen _ _ aE];exact bk,fun v hv=>?_⟩
     rw[List.getElem?_append_right (by omega),eF] at hv
     obtain⟨c',e1,e2⟩:=Ry.lr.get hv
     rw[List.getElem?_eq_getElem (by omega)] at e1
     cases e1
     exact cM _ _ e2
    ·refine⟨c,by rw[W.cell _ _ aE (fun hr=>hjr ⟨by have:=hr.2.1;omega,by have:=hr.2.2;omega⟩)];exact bn,by rw[W.frozen _ _ aE];exact bk,fun v hv=>?_⟩
     have dO:=(List.getElem?_eq_some_iff.1 hv).1
     rw[List.length_append,sP] at dO
     rw[List.getElem?_append_left (by omega)] at hv
     exact cM _ _ (jk v hv),fun n=>by rw[W.frozen _ _ aE];exact H.pl t0 cs cb o room hg ht n⟩
  (fun k j hl=>⟨pE k j hl,yP k j hl⟩)
 refine⟨_,_,_,_,bQ,?_,H3,?_⟩
 ·have:=VR.rs (ι:=ι.set id (.cells cb o room)) (I:=I) (w:=w.setCells cb (o+len*sz) ly) id 0 (len+ys.length) sz cb o room cap (by rw[aI.gj]) eN (by omega)
  simpa using this
 ·refine Ext.of W (fun k j _ hr=>⟨t0,_,_,ht,hg,hR k j hr⟩) (fun b hb=>aI.eP _ _ hb) (fun b l hb=>by rw[aI.eP _ _ (fun he=>by rw[he,aL] at hb;cases hb)];exact hb)
   (by simp[aa.at,aa.set];omega) (fun _ _ h=>h) ?_ (fun _ _ h=> .inl h) ?_
  ·rintro k j ⟨i,l,x,hi,dV,jh⟩
   by_cases iK:i=id
   ·subst iK;rw[aI.gj] at hi;cases hi;exact .inl ⟨t0,_,_,ht,hg,jh⟩
   ·rw[aI.eP _ _ iK] at hi
    have Fo:(h.set t0 none).get i=some x:=by simpa [aa.at,iK] using dV
    exact .inl ⟨i,l,x,hi,(i4 Fo).2,jh⟩
  ·intro i hi vQ
   have:i≠t0:=fun he=>by rw[he,ht] at vQ;cases vQ
   simp[aa.at,aa.set,hi,this]
theorem Ni {len sz cb o off:Nat} {cs:List AV} (hr:tT ι I w cb o cs) (h1: ∀v∈cs,v.one=true) (hl:off+len*sz<=cs.length):
 ∃l,Rd ι I w sz (rowsOf cs off sz len) (some ⟨cb,o+off,none⟩) l/\(rowsOf cs off sz len).length=len/\(rowsOf cs off sz len).flatten=(cs.drop off).take (len*sz):=by
 obtain⟨e1,e2,e3⟩:=zi cs sz len off hl
 obtain⟨l,ee,fY,Gf⟩:=(hr.sub off (len*sz)).list
 refine⟨l,⟨fun r hr=>⟨(e2 r hr).1,fun v hv=>h1 v ((e2 r hr).2 v hv)⟩,by rw[e3];exact⟨ee,Gf⟩,fun ad wz=>by cases wz;intro j u hu;rw[Addr.add_mid];exact fY j u hu,fun h=>by cases h⟩,e1,e3⟩
theorem HR.asH (H:HR ι I h w) {b cb o room:Nat} {cs:List AV} (hb:ι b=some (.cells cb o room)) (hg:h.get b=some (.cells cs)) (k:Nat):
 HR ι I (h.set b (some (.cells (cs.take k)))) w/\Ext (fun _=>False) ι I h w ι I (h.set b (some (.cells (cs.take k)))) w:=by
 have W:eO (fun _ _=>False) w w:={os:=rfl,tape:=rfl,output:=rfl,size:=Nat.le_refl _,block:=fun _ _ _=>rfl,cell:=fun _ _ _ _=>rfl,frozen:=fun _ _ _=>rfl}
 obtain⟨_,_,_,hl,eN,h1,hc⟩:=H.cells b cs _ hg hb
 cases hl
 refine H.cu W hb hg (fun _ _ h=>h.elim) (fun _=>⟨by simp;omega,fun v hv=>h1 v (List.mem_of_mem_take hv),fun j hj=>?_,H.pl b cs cb o room hg hb⟩)
 obtain⟨c,e1,e2,e3⟩:=hc j hj
 refine⟨c,e1,e2,fun v hv=>e3 v ?_⟩
 rw[List.getElem?_take] at hv
 split at hv
 ·exact hv
 ·cases hv
theorem set_set (h:aa) (b:Nat) (x y:Option cI):(h.set b x).set b y=h.set b y:=by
 unfold aa.set
 congr 1
 funext i
 by_cases hi:i=b<;>simp[hi]
theorem alI (H:HR ι I h w) (id:Nat) {t tx ty e:TypeId} {sz bytes:Nat} (T:t9 P t tx e sz bytes) {cs:List AV} {ys:List (List AV)} {b:Option Addr} {ly:List Value} {cb o room len cap cN b0 off:Nat}
 (Ry:Rd ι I w sz ys b ly) (hb:ι b0=some (.cells cb o room)) (hg:h.get b0=some (.cells cs)) (hle:off+len*sz<=cs.length)
 (eN:len+ys.length<=cap) (bt:off+cap*sz<=room):
 eT P ι I h w id (.rk b0 off (len+ys.length) sz cap) (h.set b0 (some (.cells (dq cs (off+len*sz) ys.flatten)))) (Builtin.append_ #[t,tx] ty #[.slice (some ⟨cb,o+off,none⟩) len cap, .slice b ys.length cN]):=by
 obtain⟨ie,z,cP,hz,aP,zM,sO⟩:=T.info
 have qD:=Ry.src (P:=P) T.ui cN
 rw[<-aP] at qD
 have hmul:len*sz+ys.length*sz<=cap*sz:=by rw[<-Nat.add_mul];exact Nat.mul_le_mul_right _ eN
 have LP:=Ry.len
 obtain⟨iy,o',pB,bj,sy,aef,bq⟩:=H.cells b0 cs _ hg hb
 cases bj
 have bQ:=run_append_room_src (P:=P) w t tx ty e ie T.ht cP cb (o+off) len cap (.slice b ys.length cN) ys.length ly qD eN
  (fun j hj=>by rw[aP];obtain⟨u,hu,_⟩:=bq (off+len*sz+j) (by omega);rw[show o+off+len*sz+j=o+(off+len*sz+j) by omega,hu];rfl)
  (fun j hj=>by rw[aP];obtain⟨u,_,hu,_⟩:=bq (off+len*sz+j) (by omega);rw[show o+off+len*sz+j=o+(off+len*sz+j) by omega];exact hu)
 rw[aP] at bQ
 have sP:ys.flatten.length=ys.length*sz:=nx ys (fun r hr=>(Ry.mw r hr).1)
 obtain⟨H',E⟩:=H.HQ (off:=off+len*sz) hb hg hle (by rw[sP];omega) Ry.lr (fun u hu=>by
  obtain⟨r,hr,hv⟩:=List.mem_flatten.1 hu
  exact(Ry.mw r hr).2 u hv)
 rw[show o+(off+len*sz)=o+off+len*sz by omega] at H' E
 exact⟨_,_,ι,I,bQ, .rk b0 off _ sz cap cb o room hb eN bt,H',E.mono (fun _ h=>h.elim)⟩
theorem akF (H:HR ι I h w) {id:Nat} (aL:ι id=none) {t tx ty e:TypeId} {sz bytes:Nat} (T:t9 P t tx e sz bytes) {x y v:AV} {cx cy:Value} (hx:VR ι I w x cx) (hy:VR ι I w y cy) {ρ:Env} {ox oy:au} (bh:ox.ev ρ=x) (iX:oy.ev ρ=y)
 {h':aa} (he:bN (.kF bytes sz ox oy) ρ id h=some (v,h')):eT P ι I h w id v h' (Builtin.append_ #[t,tx] ty #[cx,cy]):=by
 simp only[bN,bh,iX] at he
 cases kU:cQ sz h y with
 |none=>simp[kU] at he
 |some ys=>
  simp only[kU] at he
  obtain⟨b,cN,ly,rfl,aiP,Ry⟩:=wO H hy kU
  obtain⟨ie,z,cP,hz,aP,zM,sO⟩:=T.info
  have Rn:Rd ι I w sz [] none []:=⟨by simp,LR.nil,by simp,fun _=>rfl⟩
  have rL: ∀(a:Option Addr) (n cap:Nat),n<=cap->ys=[]->(Builtin.append_ #[t,tx] ty #[.slice a n cap, .slice b ys.length cN]).run P w= .ok (.slice a n cap) w:=by
   intro a n cap hle h0
   subst h0
   have hs:=Ry.src (P:=P) T.ui cN
   have:ly=[]:=by have:=Ry.len;simpa using this
   subst this
   rw[<-aP] at hs
   exact run_append_nothing w t tx ty e ie T.ht cP a n cap hle _ hs
  have iP: ∀(c:Value) (v:AV),VR ι I w v c->(Builtin.append_ #[t,tx] ty #[c, .slice b ys.length cN]).run P w= .ok c w->eT P ι I h w id v h (Builtin.append_ #[t,tx] ty #[c, .slice b ys.length cN]):=
   fun c v hv hr=>⟨c,w,ι,I,hr,hv,H,Ext.refl _ _ _ _ _⟩
  have gJ: ∀(a:Option Addr),Rd ι I w sz [] a []-> ¬ys=[]->ys.length*bytes<2^40/\ys.length<2^40->eT P ι I h w id (.rs id 0 ys.length sz) (h.at id (.cells ys.flatten)) (Builtin.append_ #[t,tx] ty #[.slice a 0 0, .slice b ys.length cN]):=by
   intro a Rx h0 hc
   have:=XL H aL T Rx Ry (cap:=0) (cN:=cN) (ty:=ty) (by have:=List.length_pos_iff.2 h0;simp;omega) (by simpa using hc.1) (by simpa using hc.2)
   simpa using this
  cases hx<;>(try simp only[] at he)<;>try(cases he;done)
  case bx=>
   split at he
   ·rename_i h0
    cases he
    exact iP _ _ .bx (rL none 0 0 (Nat.le_refl _) h0)
   ·rename_i h0
    split at he
    ·rename_i hc
     cases he
     exact gJ none Rn h0 hc
    ·cases he
  case gu t' ht=>
   rcases ht with rfl|rfl
   ·simp at he
   ·simp only[] at he
    split at he
    ·rename_i h0
     cases he
     exact iP _ _ (.gu _ (.inr rfl)) (rL none 0 0 (Nat.le_refl _) h0)
    ·rename_i h0
     split at he
     ·rename_i hc
      cases he
      exact gJ none Rn h0 hc
     ·cases he
  case fU t' a cap ht=>
   rcases ht with rfl|⟨rfl,rfl⟩
   ·simp at he
   ·simp only[] at he
    split at he
    ·rename_i h0
     cases he
     exact iP _ _ (.fU _ _ _ (.inr ⟨rfl,rfl⟩)) (rL _ 0 0 (Nat.le_refl _) h0)
    ·rename_i h0
     split at he
     ·rename_i hc
      cases he
      exact gJ (some a) ⟨by simp,LR.nil,fun ad _ j u hu=>by simp at hu,fun _=>rfl⟩ h0 hc
     ·cases he
  case vs xs t' cb o s cap g hs hI hc da cV bt ht=>
   cases xs with
   |cons a b=>simp at he
   |nil=>
    cases t' with
    |ao=>simp at he
    |own t0=>simp at he
    |full=>
     (try simp only[] at he)
     have auE:cap=0:=ht
     subst auE
     split at he
     ·rename_i h0
      cases he
      exact iP _ _ (.vs [] .full cb o s 0 g hs hI hc da cV bt ht) (rL _ 0 0 (Nat.le_refl _) h0)
     ·rename_i h0
      split at he
      ·rename_i cS
       cases he
       exact gJ (some ⟨cb,o,none⟩) ⟨by simp,LR.nil,fun ad _ j u hu=>by simp at hu,fun _=>rfl⟩ h0 cS
      ·cases he
  case rs b' off len aO cb o room cap bC hlen bt=>
   split at he
   ·rename_i h0
    cases he
    exact iP _ _ (.rs b' off len aO cb o room cap bC hlen bt) (rL _ len cap hlen h0)
   ·rename_i aM
    split at he
    ·rename_i cs hg
     split at he
     ·rename_i hc
      obtain⟨rfl,rfl,eF,ef,bY⟩:=hc
      cases he
      have cF:=rI hg
      obtain⟨cw,axk,cV⟩:=H.row cF bC
      by_cases eN:len+ys.length<=cap
      ·obtain⟨H1,E1⟩:=H.asH bC cF (len*aO)
       have cE:(h.set b' (some (.cells (cs.take (len*aO))))).get b'=some (.cells (cs.take (len*aO))):=by simp[aa.set]
       obtain⟨c,w',ι',I',h1,h2,h3,h4⟩:=ajT H1 aL T Ry (ty:=ty) (cN:=cN) bC cE (by rw[List.length_take];exact Nat.min_eq_left eF) eN (by simpa using bt)
       rw[set_set] at h3 h4
       exact⟨c,w',ι',I',h1,h2,h3,(E1.mono (fun _ h=>h.elim)).trans h4 (fun _ h=>h)⟩
      ·obtain⟨H1,E1⟩:=H.drop bC
       obtain⟨l,Rx,e1,e2⟩:=Ni (off:=0) (sz:=aO) (len:=len) cw cV (by simpa using eF)
       have:=XL H1 aL T Rx Ry (cap:=cap) (cN:=cN) (ty:=ty) (by rw[e1];omega) (by rw[e1];exact ef) (by rw[e1];exact bY)
       rw[e1,List.flatten_append,e2,List.drop_zero] at this
       exact eT.aas H bC this aL
     ·cases he
    ·cases he
  case rk b' off len aO cap cb o room bC hlen bt=>
   split at he
   ·rename_i cs hg
    split at he
    ·rename_i hc
     obtain⟨rfl,eN,eF⟩:=hc
     cases he
     exact alI H id T Ry bC (rI hg) eF eN bt
    ·cases he
   ·cases he
theorem Nb {sz:Nat}: ∀(zs:List (List AV)) (n:Nat),(∀r∈zs,r.length=sz)->(zs.take n).flatten=zs.flatten.take (n*sz)
 |[],n,_=>by simp
 |z::zs,0,_=>by simp
 |z::zs,n+1,hz=>by
  have h0:=hz z (by simp)
  have e:(n+1)*sz=z.length+n*sz:=by rw[h0,Nat.succ_mul];omega
  have e2:z.take (z.length+n*sz)=z:=List.take_of_length_le (by omega)
  rw[List.take_succ_cons,List.flatten_cons,List.flatten_cons,Nb zs n (fun r hr=>hz r (List.mem_cons_of_mem _ hr)),e,List.take_append,e2]
  simp
theorem an1 (H:HR ι I h w) {t tx ty e:TypeId} {sz:Nat} (ht:P.underlying t=some (.slice e)) (hs:(P.info? e).map (·.size)=some sz) (id:Nat) {x y v:AV} {cx cy:Value} (hx:VR ι I w x cx) (hy:VR ι I w y cy) {ρ:Env} {ox oy:au} (bh:ox.ev ρ=x) (iX:oy.ev ρ=y)
 {h':aa} (he:bN (.copy sz ox oy) ρ id h=some (v,h')) (ui: ∃e',P.underlying tx=some (.slice e')) (sP: ∃a n c,cy= .slice a n c):eT P ι I h w id v h' (Builtin.copy_ #[t,tx] ty #[cx,cy]):=by
 simp only[bN,bh,iX] at he
 have hzero: ∀a n c,(Builtin.copy_ #[t,tx] ty #[.slice a 0 n,c]).run P w= .ok (.int .i64 0) w\/ ¬(∃x y z,c= .slice x y z):=by
  intro a n c
  by_cases hc: ∃x y z,c= .slice x y z
  ·obtain⟨x,y,z,rfl⟩:=hc
   refine .inl ?_
   cases x<;>cases a<;>simp[Builtin.copy_,cJ ht,mG hs,Builtin.lenOf,Builtin.firstCells,loadCells,loadCellsFrom,storeCells,goInt]
  ·exact .inr hc
 cases hx<;>(try simp only[] at he)<;>try(cases he;done)
 case bx=>
  split at he<;>cases he
  rcases hzero none 0 cy with h|h
  ·exact⟨_,w,ι,I,h, .int _ _,H,Ext.refl _ _ _ _ _⟩
  ·exact(h sP).elim
 case gu t' uk=>
  split at he<;>cases he
  rcases hzero none 0 cy with h|h
  ·exact⟨_,w,ι,I,h, .int _ _,H,Ext.refl _ _ _ _ _⟩
  ·exact(h sP).elim
 case fU t' a cap uk=>
  split at he<;>cases he
  rcases hzero (some a) cap cy with h|h
  ·exact⟨_,w,ι,I,h, .int _ _,H,Ext.refl _ _ _ _ _⟩
  ·exact(h sP).elim
 case vs xs t' cb o s cap g iW hI hc da cV bt uk=>
  cases xs with
  |cons a b=>simp at he
  |nil=>
   simp only[] at he
   split at he<;>cases he
   rcases hzero (some ⟨cb,o,none⟩) cap cy with h|h
   ·exact⟨_,w,ι,I,h, .int _ _,H,Ext.refl _ _ _ _ _⟩
   ·exact(h sP).elim
 case rs b off len aO cb o room cap hb hlen bt=>
  cases kU:cQ sz h y with
  |none=>simp[kU] at he
  |some ys=>
   cases mC:cellsOf h b with
   |none=>simp[kU,mC] at he
   |some cs=>
    simp only[kU,mC] at he
    split at he
    ·rename_i hc
     obtain⟨rfl,hle⟩:=hc
     cases he
     have hg:=rI mC
     obtain⟨a,cN,ly,rfl,aiP,Ry⟩:=wO H hy kU
     obtain⟨_,_,_,hl,eN,_,bq⟩:=H.cells b cs _ hg hb
     cases hl
     have dg:(ys.take (min ys.length len)).flatten=ys.flatten.take (min ys.length len*aO):=by
      exact Nb ys _ (fun r hr=>(Ry.mw r hr).1)
     have dt:LR ι I w (ys.take (min ys.length len)).flatten (ly.take (min ys.length len*aO)):=by rw[dg];exact Ry.lr.take _
     have DR:(ly.take (min ys.length len*aO)).length=min ys.length len*aO:=by
      rw[List.length_take,Ry.len];exact Nat.min_eq_left (Nat.mul_le_mul_right _ (Nat.min_le_left _ _))
     have sT:min ys.length len*aO<=len*aO:=Nat.mul_le_mul_right _ (Nat.min_le_right _ _)
     have cV: ∀u∈(ly.take (min ys.length len*aO)),u.oneCell'=true:=fun u hu=>Ry.one u (List.mem_of_mem_take hu)
     have Oa:(Builtin.firstCells aO (min ys.length len) (.slice a ys.length cN)).run P w= .ok (ly.take (min ys.length len*aO)).toArray w:=by
      cases a with
      |none=>
       have:=Ry.none rfl
       subst this
       have:ly=[]:=by have:=Ry.len;simpa using this
       subst this
       simpa using run_firstCells_none (P:=P) w aO 0 0 cN
      |some ad=>
       have jj:=Ry.cell ad rfl
       refine run_firstCells_some w aO _ _ _ _ _ DR (fun j u hu=>?_)
       rw[List.getElem?_take] at hu
       split at hu
       ·exact jj j u hu
       ·cases hu
     have dE:=run_storeCells_cells (P:=P) cb (o+off) (ly.take (min ys.length len*aO)) 0 w
      (fun j hj=>by simp only[Nat.add_zero];obtain⟨c,cS,_⟩:=bq (off+j) (by omega);rw[Nat.add_assoc,cS];rfl)
      (fun j hj=>by simp only[Nat.add_zero];obtain⟨c,_,cS,_⟩:=bq (off+j) (by omega);rw[Nat.add_assoc];exact cS) cV
     simp only[Nat.add_zero] at dE
     obtain⟨H',E⟩:=H.write (off:=off) hb hg (by rw[dt.1,DR];omega) dt (fun u hu=>by
      obtain⟨r,hr,hv⟩:=List.mem_flatten.1 hu
      exact(Ry.mw r (List.mem_of_mem_take hr)).2 u hv)
     refine⟨_,_,ι,I,?_, .int _ _,H',E.mono (fun _ h=>h.elim)⟩
     have U2:Nat.min ys.length len=min ys.length len:=rfl
     simp[Builtin.copy_,cJ ht,mG hs,Builtin.lenOf,U2,Oa,dE,goInt]
    ·cases he
end
end
section
open Go
section
variable {P:Program} {ι:aI} {I:aR} {h:aa} {w:World}
theorem ame (H:HR ι I h w) {id:Nat} (aL:ι id=none) (t:TypeId):eT P ι I h w id (.map (some id)) (h.at id (.map [])) (Instr.makeMap t none):=by
 have W:=eO.push w (.map #[] 0)
 have js: ∀k j,eB ι h k j->k<w.heap.size:=fun k j ⟨i,l,x,hi,_,hl⟩=>by rw[Loc.wM hl];exact H.inside i l hi
 have H1:HR ι I h (w.alloc (.map #[] 0)):=H.v7 W (Nat.le_refl _) (fun _ _ h=>h) (fun _ _ _ _ _ _ _ _ h=>h) (fun _ _ h=>h.elim)
 have H3:=H1.xQ (id:=id) (l:= .map w.heap.size) (x:= .map []) (fun l' bj=>by rw[aL] at bj;cases bj) (by simp[Loc.block])
  ⟨#[],0,heap_alloc_new w _,⟨rfl,fun i k v e h=>by simp at h⟩,⟨fun e he=>by simp at he,by simp⟩⟩
  (fun k j hl=>⟨fun ho=>by have:=js k j ho;have:=(show k=w.heap.size from hl);omega,fun hI=>by have:=H.dw k j hI;have:=(show k=w.heap.size from hl);omega⟩)
 refine⟨.map (some w.heap.size),_,_,_,rfl, .map id w.heap.size (by rw[aI.gj]),H3,?_⟩
 refine Ext.of W (fun _ _ _ h=>h.elim) (fun b hb=>aI.eP _ _ hb) (fun b l hb=>by rw[aI.eP _ _ (fun he=>by rw[he,aL] at hb;cases hb)];exact hb) (by simp[aa.at];omega) (fun _ _ h=>h) ?_ (fun _ _ h=> .inl h) (fun b hb _=>by simp[aa.at,hb])
 rintro k j ⟨i,l,x,hi,dV,hl⟩
 by_cases iK:i=id
 ·subst iK;rw[aI.gj] at hi;cases hi;exact .inr (by have:=(show k=w.heap.size from hl);omega)
 ·rw[aI.eP _ _ iK] at hi
  exact .inl ⟨i,l,x,hi,by simpa [aa.at,iK] using dV,hl⟩
theorem eO.apm (w:World) {cb:Nat} {es:Array MapEntry} {clock:Nat} (hm:w.heap[cb]? =some (.map es clock)) (aV:Array MapEntry) (qo:Nat):
 eO (fun k _=>k=cb) w {w with heap:=w.heap.setIfInBounds cb (.map aV qo)}:=by
 have N9: ∀k,k≠cb->(w.heap.setIfInBounds cb (.map aV qo))[k]? =w.heap[k]?:=fun k hk=>Array.getElem?_setIfInBounds_ne (Ne.symm hk)
 have aC:cb<w.heap.size:=(Array.getElem?_eq_some_iff.1 hm).1
 have Jw:(w.heap.setIfInBounds cb (.map aV qo))[cb]? =some (.map aV qo):=by simp[aC]
 refine{os:=rfl,tape:=rfl,output:=rfl,size:=by simp,block:=fun k hk hr=>N9 k (fun he=>hr 0 he),cell:=fun k j hk hr=>?_,frozen:=fun k j hk=>?_}
 ·simp[World.cell?,N9 k hr]
 ·by_cases sV:k=cb
  ·subst sV;simp only[World.frozen?,Jw,hm]
  ·simp[World.frozen?,N9 k sV]
theorem GS (w:World) {cb:Nat} {es:Array MapEntry} {clock:Nat} (hm:w.heap[cb]? =some (.map es clock)) (o:Obj):
 (setObj cb o).run P w= .ok () {w with heap:=w.heap.setIfInBounds cb o}:=by
 simp[setObj,Sem.run,hm]
theorem Hv (H:HR ι I h w) {b cb:Nat} {es:List (AV×AV)} {aV:Array MapEntry} {clock:Nat} (hb:ι b=some (.map cb)) (hg:h.get b=some (.map es)) (hm:w.heap[cb]? =some (.map aV clock))
 {fs:List (AV×AV)} {eo:Array MapEntry} (qo:Nat) (gR:ER ι I w fs eo.toList) (dE:nM eo qo):
 HR ι I (h.set b (some (.map fs))) {w with heap:=w.heap.setIfInBounds cb (.map eo qo)}/\
 Ext (fun _=>False) ι I h w ι I (h.set b (some (.map fs))) {w with heap:=w.heap.setIfInBounds cb (.map eo qo)}:=by
 have W:=eO.apm w hm eo qo
 refine H.cu W hb hg (fun k j hk=>hk) (fun H1=>?_)
 have aC:cb<w.heap.size:=(Array.getElem?_eq_some_iff.1 hm).1
 have cM: ∀a c,VR ι I w a c->VR ι I {w with heap:=w.heap.setIfInBounds cb (.map eo qo)} a c:=fun a c lE=>lE.mono (fun _ _ h=>h) (fun _ _ h=>h) (fun k j hk=>
  W.cell k j (H.dw k j hk) (fun sV=>H.bz b _ _ k j hb hg sV hk))
 exact⟨eo,qo,by simp[aC],⟨gR.1,fun i k v e h1 h2=>⟨cM _ _ (gR.2 i k v e h1 h2).1,cM _ _ (gR.2 i k v e h1 h2).2⟩⟩,dE⟩
theorem nM.push {es:Array MapEntry} {clock:Nat} (hs:nM es clock) {k v:Value}:nM (es.push {key:=k,val:=v,born:=clock}) (clock+1):=by
 refine⟨fun e he=>?_,?_⟩
 ·simp only[Array.toList_push,List.mem_append,List.mem_singleton] at he
  rcases he with he|rfl
  ·exact Nat.lt_succ_of_lt (hs.1 e he)
  ·exact Nat.lt_succ_self _
 ·simp only[Array.toList_push,List.map_append,List.map_cons,List.map_nil]
  refine List.nodup_append.2 ⟨hs.2,by simp,fun a ha b hb=>?_⟩
  simp only[List.mem_singleton] at hb
  obtain⟨e,he,rfl⟩:=List.mem_map.1 ha
  have:=hs.1 e he
  omega
theorem Xg {f:MapEntry->MapEntry} (hf: ∀e,(f e).born=e.born): ∀(l:List MapEntry) (j:Nat),(l.modify j f).map (·.born)=l.map (·.born)
 |[],j=>by simp
 |e::l,0=>by simp[hf]
 |e::l,j+1=>by simp[Xg hf l j]
theorem nM.modify {es:Array MapEntry} {clock j:Nat} (hs:nM es clock) {f:MapEntry->MapEntry} (hf: ∀e,(f e).born=e.born):nM (es.modify j f) clock:=by
 have hb:(es.modify j f).toList.map (·.born)=es.toList.map (·.born):=by rw[Array.toList_modify];exact Xg hf _ _
 refine⟨fun e he=>?_,by rw[hb];exact hs.2⟩
 have:e.born∈(es.modify j f).toList.map (·.born):=List.mem_map.2 ⟨e,he,rfl⟩
 rw[hb] at this
 obtain⟨e',dJ,h⟩:=List.mem_map.1 this
 rw[<-h];exact hs.1 e' dJ
theorem nM.erase {es:Array MapEntry} {clock j:Nat} (hs:nM es clock):nM (es.eraseIdxIfInBounds j) clock:=by
 have dg:(es.eraseIdxIfInBounds j).toList.Sublist es.toList:=by rw[Array.toList_eraseIdxIfInBounds];exact List.eraseIdx_sublist _ _
 exact⟨fun e he=>hs.1 e (dg.subset he),(dg.map _).nodup hs.2⟩
theorem ajD (w:World) (k:IntKind) (n:Int):(Instr.keyThatStays (.int k n) (.int k n)).run P w= .ok (.int k n) w:=by
 simp[Instr.keyThatStays,Instr.sameBits]
theorem ak5 (H:HR ι I h w) (id:Nat) {t key e:TypeId} {kk:IntKind} (hu:P.underlying t=some (.map key e)) (hk:P.underlying key=some (.int kk)) {m k v r:AV} {cm ck cv:Value}
 (hm:VR ι I w m cm) (BA:VR ι I w k ck) (hv:VR ι I w v cv) {ρ:Env} {om ok ov:au} (db:om.ev ρ=m) (aY:ok.ev ρ=k) (pQ:ov.ev ρ=v) {h':aa} (he:bN (.rS om ok ov) ρ id h=some (r,h')):
 r= .undef/\ ∃w',(Instr.mapUpdate t cm ck cv).run P w= .ok () w'/\HR ι I h' w'/\Ext (fun _=>False) ι I h w ι I h' w':=by
 simp only[bN,db,aY,pQ] at he
 replace hv:=hv.strip
 generalize v.strip=v at*
 cases hm<;>(try simp only[] at he)<;>try(cases he;done)
 rename_i b cb hb
 cases BA<;>(try simp only[] at he)<;>try(cases he;done)
 rename_i kd n
 split at he
 ·rename_i es hg
  obtain⟨aV,clock,iw,gR,dE⟩:=H.map hg hb
  cases jg:rT (.int kd n) v es with
  |none=>simp[jg] at he
  |some fs=>
   simp[jg] at he
   obtain⟨rfl,rfl⟩:=he
   unfold rT at jg
   cases hf:mM (.int kd n) es 0 with
   |none=>simp[hf] at jg
   |some o=>
    simp only[hf,Option.map_some,Option.some.injEq] at jg
    rcases Hp kk es aV.toList 0 o gR hf with⟨rfl,ji⟩|⟨j,s8,rfl,yh,iq,ji⟩
    ·simp only[] at jg
     subst jg
     obtain⟨H',E⟩:=Hv H hb hg iw (fs:=es++[(.int kd n,v)]) (eo:=aV.push {key:= .int kd n,val:=cv,born:=clock}) (clock+1) (by
      refine⟨by simp[gR.1],fun i k1 v1 e1 h1 h2=>?_⟩
      simp only[Array.toList_push] at h2
      rw[List.getElem?_append] at h1 h2
      rw[<-gR.1] at h2
      split at h1
      ·rename_i aC;rw[if_pos aC] at h2;exact gR.2 i k1 v1 e1 h1 h2
      ·rename_i aC
       rw[if_neg aC] at h2
       have h0:i-es.length=0:=by have:=(List.getElem?_eq_some_iff.1 h1).1;simpa using this
       rw[h0] at h1 h2
       simp at h1 h2
       obtain⟨rfl,rfl⟩:=h1
       subst h2
       exact⟨.int _ _,hv⟩) dE.push
     refine⟨rfl,_,?_,H',E⟩
     simp[Instr.mapUpdate,cJ hu,zm w iw,run_checkKey w hk,run_findKey w hk ji,GS w iw]
    ·simp only[Nat.zero_add] at jg ji
     subst jg
     have hj:j<aV.size:=by have:=(List.getElem?_eq_some_iff.1 yh).1;simpa using this
     have aej:aV[j]? =some s8:=by simpa using yh
     obtain⟨H',E⟩:=Hv H hb hg iw (fs:=es.set j (.int kd n,v)) (eo:=aV.modify j fun e=>{e with key:= .int kd n,val:=cv}) clock (by
      refine⟨by simp[gR.1],fun i k1 v1 e1 h1 h2=>?_⟩
      simp only[Array.getElem?_toList,Array.getElem?_modify] at h2
      rw[List.getElem?_set] at h1
      by_cases oO:j=i
      ·subst oO
       rw[if_pos rfl] at h1
       have dO:j<es.length:=by rw[gR.1];simpa using hj
       rw[if_pos dO] at h1
       rw[if_pos rfl] at h2
       simp at h1
       obtain⟨rfl,rfl⟩:=h1
       rw[aej] at h2
       simp at h2
       subst h2
       exact⟨.int _ _,hv⟩
      ·rw[if_neg oO] at h1 h2
       exact gR.2 i k1 v1 e1 h1 (by simpa using h2)) (dE.modify (fun _=>rfl))
     refine⟨rfl,_,?_,H',E⟩
     simp[Instr.mapUpdate,cJ hu,zm w iw,run_checkKey w hk,run_findKey w hk ji,aej,iq,ajD,GS w iw]
 ·cases he
theorem ak6 (H:HR ι I h w) (id:Nat) {t tx ty key e:TypeId} {kk:IntKind} (hu:P.underlying t=some (.map key e)) (hk:P.underlying key=some (.int kk)) {m k r:AV} {cm ck:Value}
 (hm:VR ι I w m cm) (BA:VR ι I w k ck) {ρ:Env} {om ok:au} (db:om.ev ρ=m) (aY:ok.ev ρ=k) {h':aa} (he:bN (.tI om ok) ρ id h=some (r,h')):
 eT P ι I h w id r h' (Builtin.delete_ #[t,tx] ty #[cm,ck]):=by
 simp only[bN,db,aY] at he
 cases hm<;>(try simp only[] at he)<;>try(cases he;done)
 rename_i b cb hb
 cases BA<;>(try simp only[] at he)<;>try(cases he;done)
 rename_i kd n
 split at he
 ·rename_i es hg
  obtain⟨aV,clock,iw,gR,dE⟩:=H.map hg hb
  cases jg:rU (.int kd n) es with
  |none=>simp[jg] at he
  |some fs=>
   simp[jg] at he
   obtain⟨rfl,rfl⟩:=he
   unfold rU at jg
   cases hf:mM (.int kd n) es 0 with
   |none=>simp[hf] at jg
   |some o=>
    simp only[hf,Option.map_some,Option.some.injEq] at jg
    have Fk:VR ι I w (.az []) (.tuple #[]):= .az [] [] rfl (fun i v c h=>by simp at h)
    rcases Hp kk es aV.toList 0 o gR hf with⟨rfl,ji⟩|⟨j,s8,rfl,yh,iq,ji⟩
    ·simp only[] at jg
     subst jg
     obtain⟨H',E⟩:=Hv H hb hg iw (fs:=es) (eo:=aV) clock gR dE
     refine⟨_,_,ι,I,?_,E.vr H Fk,H',E.mono (fun _ h=>h.elim)⟩
     simp[Builtin.delete_,cJ hu,zm w iw,run_checkKey w hk,run_findKey w hk ji,GS w iw]
    ·simp only[Nat.zero_add] at jg ji
     subst jg
     obtain⟨H',E⟩:=Hv H hb hg iw (fs:=es.eraseIdx j) (eo:=aV.eraseIdxIfInBounds j) clock (by
      have hj:j<aV.size:=by have:=(List.getElem?_eq_some_iff.1 yh).1;simpa using this
      have dO:j<es.length:=by rw[gR.1];simpa using hj
      have hl:=gR.1
      refine⟨by simp[List.length_eraseIdx,hj,dO,hl],fun i k1 v1 e1 h1 h2=>?_⟩
      rw[List.getElem?_eraseIdx] at h1
      simp only[Array.toList_eraseIdxIfInBounds,List.getElem?_eraseIdx] at h2
      split at h1
      ·rename_i aC;rw[if_pos aC] at h2;exact gR.2 i k1 v1 e1 h1 h2
      ·rename_i aC;rw[if_neg aC] at h2;exact gR.2 _ k1 v1 e1 h1 h2) dE.erase
     refine⟨_,_,ι,I,?_,E.vr H Fk,H',E.mono (fun _ h=>h.elim)⟩
     simp[Builtin.delete_,cJ hu,zm w iw,run_checkKey w hk,run_findKey w hk ji,GS w iw]
 ·cases he
end
end
section
open Go
section
variable {P:Program} {ι:aI} {I:aR} {h:aa} {w:World}
theorem aoR (H:HR ι I h w) {t e ty:TypeId} (hu:P.underlying t=some (.slice e)) {x:AV} {c:Value} (hx:VR ι I w x c) {n:Nat} (hn:vS x=some n):
 eD P ι I h w (.int .i64 n) (Builtin.cap_ #[t] ty #[c]):=by
 have run: ∀a l k,(Builtin.cap_ #[t] ty #[.slice a l k]).run P w= .ok (.int .i64 k) w:=fun a l k=>by
  simp[Builtin.cap_,cJ hu,goInt]
 unfold vS at hn
 cases hx<;>(try simp only[] at hn)<;>try(cases hn;done)
 case bx=>cases hn;exact .same H (run _ _ _) (.int _ _)
 case gu t' ht=>
  rcases ht with rfl|rfl
  ·cases hn
  ·cases hn;exact .same H (run _ _ _) (.int _ _)
 case fU t' a cap ht=>
  rcases ht with rfl|⟨rfl,rfl⟩
  ·cases hn
  ·cases hn;exact .same H (run _ _ _) (.int _ _)
 case vs xs t' cb o s cap g hs hI hc hv h1 bt ht=>
  cases t' with
  |ao=>cases hn
  |own t=>cases hn
  |full=>
   cases hn
   have:cap=xs.length:=ht
   subst this
   exact .same H (run _ _ _) (.int _ _)
 case rk b off len sz cap cb o room hb hlen bt=>
  cases hn
  exact .same H (run _ _ _) (.int _ _)
theorem alm (H:HR ι I h w) {t:TypeId} (hu:P.underlying t=some .string) {x i v:AV} {c ci:Value} (hx:VR ι I w x c) (hi:VR ι I w i ci) (hv:CE x i=some v):
 eD P ι I h w v (Instr.index t c ci):=by
 unfold CE at hv
 cases hx<;>(try simp only[] at hv)<;>try(cases hv;done)
 rename_i s
 cases hi<;>(try simp only[] at hv)<;>try(cases hv;done)
 rename_i k n
 split at hv
 ·rename_i h0
  cases hb:s[n.toNat]? with
  |none=>simp[hb] at hv
  |some b=>
   simp[hb] at hv
   subst hv
   refine .same H (c:= .int .u8 b.toNat) ?_ (.int _ _)
   simp[Instr.index,asIntOf,cJ hu,h0,hb]
 ·cases hv
theorem aqY (H:HR ι I h w) {y:AV} {cy:Value} (hy:VR ι I w y cy) {sz n m:Nat} {ys:List (List AV)} (hr:pA sz n h y=some ys) (hm:gI y=some m) (m5:n<=m):
 ∃a cap l,cy= .slice a m cap/\ys.length=n/\(∀r∈ys,r.length=sz/\ ∀v∈r,v.one=true)/\LR ι I w ys.flatten l/\l.length=n*sz/\(Builtin.firstCells sz n (.slice a m cap)).run P w= .ok l.toArray w:=by
 unfold pA at hr
 have VX: ∀xs t,y= .vs xs t-> ∃a cap l,cy= .slice a m cap/\ys.length=n/\(∀r∈ys,r.length=sz/\ ∀v∈r,v.one=true)/\LR ι I w ys.flatten l/\l.length=n*sz/\(Builtin.firstCells sz n (.slice a m cap)).run P w= .ok l.toArray w:=by
  rintro xs t rfl
  simp only[] at hr
  split at hr
  ·rename_i hk
   cases hr
   simp only[gI,Option.some.injEq] at hm
   subst hm
   obtain⟨a,cap,l,rfl,hle,R⟩:=wO H hy (show cQ sz h (.vs xs t)=some xs by simp[cQ,hk])
   have dg:(xs.take n).flatten=xs.flatten.take (n*sz):=Nb xs _ (fun r hr=>(R.mw r hr).1)
   have DR:(l.take (n*sz)).length=n*sz:=by rw[List.length_take,R.len];exact Nat.min_eq_left (Nat.mul_le_mul_right _ m5)
   refine⟨a,cap,l.take (n*sz),rfl,by simp;omega,fun r hr=>R.mw r (List.mem_of_mem_take hr),by rw[dg];exact R.lr.take _,DR,?_⟩
   cases a with
   |none=>
    have:=R.none rfl
    subst this
    have yQ:l=[]:=by have:=R.len;simpa using this
    subst yQ
    have Gd:n=0:=by simpa using m5
    subst Gd
    simpa using run_firstCells_none (P:=P) w sz 0 0 cap
   |some ad=>
    refine run_firstCells_some w sz _ _ _ _ _ DR (fun j u hu=>?_)
    rw[List.getElem?_take] at hu
    split at hu
    ·exact R.cell ad rfl j u hu
    ·cases hu
  ·cases hr
 cases hy<;>(try simp only[] at hr)<;>try(cases hr;done)
 case vs xs t _ _ _ _ _ _ _ _ _ _ _ _=>exact VX xs t rfl
 case gu t _=>exact VX [] t rfl
 case fU t _ _ _=>exact VX [] t rfl
 case rk b off len aO cap cb o room hb hlen bt=>
  split at hr
  ·rename_i hc
   obtain⟨rfl,hn⟩:=hc
   cases hg:cellsOf h b with
   |none=>simp[hg] at hr
   |some cs=>
    simp only[hg] at hr
    split at hr
    ·rename_i hle
     cases hr
     simp only[gI,Option.some.injEq] at hm
     subst hm
     obtain⟨cw,_,cV⟩:=H.row (rI hg) hb
     obtain⟨l,R,e1,e2⟩:=Ni (len:=n) cw cV hle
     refine⟨_,cap,l,rfl,e1,R.mw,R.lr,by rw[R.len,e1],?_⟩
     exact run_firstCells_some w aO _ _ _ _ _ (by rw[R.len,e1]) (fun j u hu=>R.cell _ rfl j u hu)
    ·cases hr
  ·cases hr
theorem amB (H:HR ι I h w) {t tx ty e:TypeId} {sz:Nat} (ht:P.underlying t=some (.slice e)) (hs:(P.info? e).map (·.size)=some sz) (id:Nat) {x y v:AV} {cx cy:Value} (hx:VR ι I w x cx) (hy:VR ι I w y cy) {ρ:Env} {ox oy:au} (bh:ox.ev ρ=x) (iX:oy.ev ρ=y)
 {h':aa} (he:bN (.nO sz ox oy) ρ id h=some (v,h')):eT P ι I h w id v h' (Builtin.copy_ #[t,tx] ty #[cx,cy]):=by
 simp only[bN,bh,iX] at he
 cases hx<;>(try simp only[] at he)<;>try(cases he;done)
 case rk b off len aO cap cb o room hb hlen bt=>
  cases hm:gI y with
  |none=>simp[hm] at he
  |some m=>
   simp only[hm] at he
   cases kU:pA sz (min m len) h y with
   |none=>simp[kU] at he
   |some ys=>
    cases mC:cellsOf h b with
    |none=>simp[kU,mC] at he
    |some cs=>
     simp only[kU,mC] at he
     split at he
     ·rename_i hc
      obtain⟨rfl,hle⟩:=hc
      cases he
      have hg:=rI mC
      obtain⟨a,cN,l,rfl,sP,aiL,dt,jQ,Oa⟩:=aqY (P:=P) H hy kU hm (Nat.min_le_left _ _)
      obtain⟨_,_,_,hl,eN,_,bq⟩:=H.cells b cs _ hg hb
      cases hl
      have sT:min m len*aO<=cap*aO:=Nat.mul_le_mul_right _ (Nat.le_trans (Nat.min_le_right _ _) hlen)
      have cV: ∀u∈l,u.oneCell'=true:=by
       intro u hu
       obtain⟨i,hi,rfl⟩:=List.getElem_of_mem hu
       have aB:i<ys.flatten.length:=by rw[dt.1];exact hi
       refine(dt.2 i _ _ (List.getElem?_eq_getElem aB) (List.getElem?_eq_getElem hi)).one ?_
       obtain⟨r,hr,hv⟩:=List.mem_flatten.1 (List.getElem_mem aB)
       exact(aiL r hr).2 _ hv
      have dE:=run_storeCells_cells (P:=P) cb (o+off) l 0 w
       (fun j hj=>by simp only[Nat.add_zero];obtain⟨c,cS,_⟩:=bq (off+j) (by omega);rw[Nat.add_assoc,cS];rfl)
       (fun j hj=>by simp only[Nat.add_zero];obtain⟨c,_,cS,_⟩:=bq (off+j) (by omega);rw[Nat.add_assoc];exact cS) cV
      simp only[Nat.add_zero] at dE
      obtain⟨H',E⟩:=H.HQ (off:=off) hb hg hle (by rw[dt.1,jQ];omega) dt (fun u hu=>by
       obtain⟨r,hr,hv⟩:=List.mem_flatten.1 hu
       exact(aiL r hr).2 u hv)
      refine⟨_,_,ι,I,?_, .int _ _,H',E.mono (fun _ h=>h.elim)⟩
      have U2:Nat.min m len=min m len:=rfl
      simp[Builtin.copy_,cJ ht,mG hs,Builtin.lenOf,U2,Oa,dE,goInt]
     ·cases he
theorem alx (H:HR ι I h w) {t ty e:TypeId} {ie:TypeInfo} {z:Value} {za:List AV} (ht:P.underlying t=some (.slice e)) (cP:P.info? e=some ie) (hz:ie.zero=some z) (dZ:LR ι I w za z.cells.toList) (h1: ∀v∈za,v.one=true) (h0:za.length≠0)
 (id:Nat) {x v:AV} {cx:Value} (hx:VR ι I w x cx) {ρ:Env} {ox:au} (bh:ox.ev ρ=x)
 {h':aa} (he:bN (.px za ox) ρ id h=some (v,h')):eT P ι I h w id v h' (Builtin.clear_ #[t] ty #[cx]):=by
 have Fk: ∀w:World,VR ι I w (.az []) (.tuple #[]):=fun w=> .az [] [] rfl (fun i v c h=>by simp at h)
 have zero: ∀a cap,(Builtin.clear_ #[t] ty #[.slice a 0 cap]).run P w= .ok (.tuple #[]) w:=fun a cap=>by
  cases a<;>simp[Builtin.clear_,cJ ht]
 have Jg: ∀a cap,eT P ι I h w id (.az []) h (Builtin.clear_ #[t] ty #[.slice a 0 cap]):=fun a cap=>⟨_,w,ι,I,zero a cap,Fk w,H,Ext.refl _ _ _ _ _⟩
 simp only[bN,bh] at he
 cases hx<;>(try simp only[] at he)<;>try(cases he;done)
 case bx=>cases he;exact Jg _ _
 case gu=>cases he;exact Jg _ _
 case fU=>cases he;exact Jg _ _
 case vs xs t' cb o s cap g hs hI hc da cV bt uk=>
  cases xs with
  |cons a b=>cases he
  |nil=>cases he;exact Jg _ _
 case rk b off len aO cap cb o room hb hlen bt=>
  cases mC:cellsOf h b with
  |none=>simp[mC] at he
  |some cs=>
   simp only[mC] at he
   split at he
   ·rename_i hc
    obtain⟨rfl,hle⟩:=hc
    cases he
    have hg:=rI mC
    obtain⟨_,_,_,hl,eN,_,bq⟩:=H.cells b cs _ hg hb
    cases hl
    have iv:=Co dZ len (.inl h0)
    have aP:za.length=z.cells.size:=by rw[dZ.1];simp
    have bH:(List.replicate len za).flatten.length=len*za.length:=by
     rw[nx (sz:=za.length) _ (fun r hr=>by rw[List.eq_of_mem_replicate hr])];simp
    have hu1: ∀u∈(List.replicate len za).flatten,u.one=true:=fun u hu=>by
     obtain⟨r,hr,hv⟩:=List.mem_flatten.1 hu
     rw[List.eq_of_mem_replicate hr] at hv
     exact h1 u hv
    obtain⟨l,aiQ⟩: ∃l,l=(madeCells z.cells (len*z.cells.size)).toList:=⟨_,rfl⟩
    rw[<-aiQ] at iv
    have jQ:l.length=len*za.length:=by rw[<-iv.1,bH]
    have cV: ∀u∈l,u.oneCell'=true:=by
     intro u hu
     obtain⟨i,hi,rfl⟩:=List.getElem_of_mem hu
     have aB:i<(List.replicate len za).flatten.length:=by rw[iv.1];exact hi
     exact(iv.2 i _ _ (List.getElem?_eq_getElem aB) (List.getElem?_eq_getElem hi)).one (hu1 _ (List.getElem_mem aB))
    have dE:=run_storeCells_cells (P:=P) cb (o+off) l 0 w
     (fun j hj=>by simp only[Nat.add_zero];obtain⟨c,cS,_⟩:=bq (off+j) (by omega);rw[Nat.add_assoc,cS];rfl)
     (fun j hj=>by simp only[Nat.add_zero];obtain⟨c,_,cS,_⟩:=bq (off+j) (by omega);rw[Nat.add_assoc];exact cS) cV
    simp only[Nat.add_zero] at dE
    obtain⟨H',E⟩:=H.HQ (off:=off) hb hg (by omega) (by rw[bH];omega) iv hu1
    refine⟨_,_,ι,I,?_,Fk _,H',E.mono (fun _ h=>h.elim)⟩
    cases len with
    |zero=>
     have:l=[]:=by simpa using jQ
     subst this
     exact zero _ _
    |succ n=>
     have hzc:(Builtin.zeroCells z.cells (n+1)).toList=l:=aiQ.symm
     simp[Builtin.clear_,cJ ht,Hi cP hz,hzc,dE]
   ·cases he
theorem aop (H:HR ι I h w) {t rt e:TypeId} {sz:Nat} (ht:P.underlying t=some (.slice e)) (hs:(P.info? e).map (·.size)=some sz) {x y v:AV} {cx cy:Value} (hx:VR ι I w x cx) (hy:VR ι I w y cy) (hv:vN sz h x y=some v) {t2:TypeId}:
 eD P ι I h w v (Extern.SlicesOverlaps.overlaps #[t,t2] #[rt] #[cx,cy]):=by
 unfold vN at hv
 cases hx<;>(try simp only[] at hv)<;>try(cases hv;done)
 case vs xs t' ca oa s Vu g cw hI hc hvv h1 bt uj=>
  cases xs with
  |nil=>cases hv
  |cons r xs=>
   cases hy<;>(try simp only[] at hv)<;>try(cases hv;done)
   case rk b off len aO Li cb ob room hb hlen axx=>
    cases len with
    |zero=>cases hv
    |succ len=>
     simp only[] at hv
     cases hq:(r.length==sz&&aO==sz&&(cellsOf h b).isSome) with
     |false=>rw[hq] at hv;cases hv
     |true=>
      rw[hq] at hv
      cases hv
      simp only[Bool.and_eq_true,beq_iff_eq] at hq
      obtain⟨⟨iJ,rfl⟩,eF⟩:=hq
      obtain⟨cs,eF⟩:=Option.isSome_iff_exists.1 eF
      have hg:=rI eF
      have um:s=aO:=by rw[<-cw 0 r rfl];exact iJ
      subst um
      refine .same H (c:= .bool false) ?_ (.bool _)
      obtain⟨_,_,_,hl,eN,_,bq⟩:=H.cells b cs _ hg hb
      cases hl
      have kV:=H.pl b cs cb ob room hg hb
      have e1:=fun w'=>cJ ht w'
      have e2:=fun w'=>mG (P:=P) hs w'
      by_cases um:s=0
      ·subst um
       delta Extern.SlicesOverlaps.overlaps
       delta Extern.SlicesOverlaps.overlaps.match_4
       dsimp only[]
       rw[dif_pos (show(#[Value.slice (some ⟨ca,oa,none⟩) (r::xs).length Vu,Value.slice (some ⟨cb,ob+off,none⟩) (len+1) Li]:Array Value).size=2 from rfl)]
       delta Extern.SlicesOverlaps.overlaps._sparseCasesOn_4
       delta Array.getLit
       simp only[List.getElem_toArray,List.getElem_cons_zero,List.getElem_cons_succ]
       simp[e1,e2]
      have hmul:(len+1)*s<=Li*s:=Nat.mul_le_mul_right _ hlen
      have iS:0<(len+1)*s:=Nat.mul_pos (by omega) (by omega)
      have axt:0<(xs.length+1)*s:=Nat.mul_pos (by omega) (by omega)
      by_cases jz:ca=cb
      ·subst jz
       have yi: ∀j,oa<=j->j<oa+(xs.length+1)*s->ob+off<=j->j<ob+off+(len+1)*s->False:=fun j q1 q2 q3 q4=>by
        have hd:=(Nat.div_lt_iff_lt_mul (k:=s) (x:=j-oa) (y:=xs.length+1) (by omega)).2 (by omega)
        have oP:=hI ((j-oa)/s) ((j-oa)%s) (by simpa using hd) (Nat.mod_lt _ (by omega))
        rw[Nat.add_assoc,Nat.div_add_mod' (j-oa) s,show oa+(j-oa)=j by omega] at oP
        exact H.bz b _ _ ca j hb hg rfl oP
       have key: ¬(oa<ob+off+(len+1)*s/\ob+off<oa+(xs.length+1)*s):=fun⟨q1,q2⟩=>
        yi (max oa (ob+off)) (by omega) (by omega) (by omega) (by omega)
       delta Extern.SlicesOverlaps.overlaps
       delta Extern.SlicesOverlaps.overlaps.match_4
       dsimp only[]
       rw[dif_pos (show(#[Value.slice (some ⟨ca,oa,none⟩) (r::xs).length Vu,Value.slice (some ⟨ca,ob+off,none⟩) (len+1) Li]:Array Value).size=2 from rfl)]
       delta Extern.SlicesOverlaps.overlaps._sparseCasesOn_4
       delta Array.getLit
       simp only[List.getElem_toArray,List.getElem_cons_zero,List.getElem_cons_succ]
       simp[e1,e2,um]
       omega
      ·have ca0:w.cell? ⟨ca,oa,none⟩=some (g 0 0):=by simpa using hc 0 0 (by simp) (by omega)
       obtain⟨cb0,awI,-⟩:=bq off (by omega)
       have shp: ∀(k o:Nat) (c:Value),w.cell? ⟨k,o,none⟩=some c-> ∃el n,w.shape? k=some (el,n+1):=fun k o c hk=>by
        unfold World.cell? at hk
        unfold World.shape?
        split at hk
        ·rename_i cells el fr hh
         simp at hk
         have:=(Array.getElem?_eq_some_iff.1 hk).1
         simp only[] at hh
         rw[hh]
         exact⟨el,cells.size-1,by simp;omega⟩
        ·cases hk
       obtain⟨ea,na,sa⟩:=shp _ _ _ ca0
       obtain⟨eb,nb,sb⟩:=shp _ _ _ awI
       have hfb:w.frozen? ⟨cb,ob+off,none⟩=false:=kV _
       have ji:w.frozen? ⟨cb,nb+1,none⟩=false:=kV _
       delta Extern.SlicesOverlaps.overlaps
       delta Extern.SlicesOverlaps.overlaps.match_4
       dsimp only[]
       rw[dif_pos (show(#[Value.slice (some ⟨ca,oa,none⟩) (r::xs).length Vu,Value.slice (some ⟨cb,ob+off,none⟩) (len+1) Li]:Array Value).size=2 from rfl)]
       delta Extern.SlicesOverlaps.overlaps._sparseCasesOn_4
       delta Array.getLit
       simp only[List.getElem_toArray,List.getElem_cons_zero,List.getElem_cons_succ]
       simp[e1,e2,um,jz,frozen,noView,viewAt,mayBeOne,stringish,shape,Sem.run,sa,sb,hfb,ji]
theorem Yj (H:HR ι I h w) {id:Nat} (aL:ι id=none) {t tn ty e:TypeId} {ie:TypeInfo} {z:Value} {za:List AV} {kn kq:IntKind} (ht:P.underlying t=some (.slice e)) (F6:P.underlying tn=some (.int kn)) (cP:P.info? e=some ie) (hz:ie.zero=some z)
 (aP:ie.size=z.cells.size) (dZ:LR ι I w za z.cells.toList) (h1: ∀v∈za,v.one=true) (h0:za.length≠0) {xs:List (List AV)} {a:Option Addr} {lx:List Value} {cap m:Nat}
 (Rx:Rd ι I w za.length xs a lx) (hm:0<m) (hg:cap<xs.length+m) (hb:(xs.length+m)*ie.bytes<2^40) (hn:xs.length+m<2^40):
 eT P ι I h w id (.rs id 0 (xs.length+m) za.length) (h.at id (.cells (xs++List.replicate m za).flatten)) (Builtin.append_ #[t,tn] ty #[.slice a xs.length cap, .int kq m]):=by
 have iv:za.length=z.cells.size:=by rw[dZ.1];simp
 have hold:=ZG (P:=P) Rx cap w.drew (fun _=>rfl)
 rw[iv,<-aP] at hold
 have kP:=Z0 hg hb
 have hmb:m*ie.bytes<=(xs.length+m)*ie.bytes:=Nat.mul_le_mul_right _ (by omega)
 have bQ:=Go.Lib.run_append_grow_zeros (P:=P) (ty:=ty) w t tn e ie z kq kn ht F6 cP hz a xs.length cap lx hold m hm (by omega) hg (by omega) (by omega) kP
 have BE:=grownCap_ge w (xs.length+m) cap e
 have hzm:=Co dZ m (.inl h0)
 have hmc:madeCells z.cells (m*z.cells.size)=Builtin.zeroCells z.cells m:=rfl
 rw[hmc] at hzm
 generalize grownCap w (xs.length+m) cap e=c at*
 have vl:(lx.toArray++Builtin.zeroCells z.cells m++Builtin.zeroCells z.cells (c-(xs.length+m))).size=c*za.length:=by
  rw[Array.size_append,Array.size_append,size_zeroCells,size_zeroCells,<-iv]
  simp only[List.size_toArray,Rx.len]
  rw[<-Nat.add_mul,<-Nat.add_mul]
  congr 1;omega
 have dt:LR ι I w (xs++List.replicate m za).flatten (lx++(Builtin.zeroCells z.cells m).toList):=by
  rw[List.flatten_append];exact Rx.lr.append hzm
 obtain⟨H',E⟩:=CO H (w':=w.drew.alloc (.cells (lx.toArray++Builtin.zeroCells z.cells m++Builtin.zeroCells z.cells (c-(xs.length+m))) e)) rfl rfl rfl rfl aL (cs:=(xs++List.replicate m za).flatten)
  (fun v hv=>by
    obtain⟨r,hr,hv⟩:=List.mem_flatten.1 hv
    rcases List.mem_append.1 hr with hr|hr
    ·exact(Rx.mw r hr).2 v hv
    ·rw[List.eq_of_mem_replicate hr] at hv;exact h1 v hv)
  (by
    have kS:(Builtin.zeroCells z.cells m).toList.length=m*za.length:=by rw[Array.length_toList,size_zeroCells,<-iv]
    rw[dt.1,vl,List.length_append,Rx.len,kS,<-Nat.add_mul]
    exact Nat.mul_le_mul_right _ BE)
  (fun j v u hv hu=>by
    have hj:=(List.getElem?_eq_some_iff.1 hv).1
    rw[dt.1] at hj
    refine dt.2 j v u hv ?_
    rw[Array.getElem?_append_left (by simp at hj ⊢;omega)] at hu
    rw[<-hu,<-Array.getElem?_toList]
    simp)
 refine⟨_,_,_,_,bQ,?_,H',E⟩
 exact .rs id 0 _ za.length w.heap.size 0 _ c (aI.gj _ _ _) BE (by rw[vl];omega)
theorem akE (H:HR ι I h w) {id:Nat} (aL:ι id=none) {t tn ty e:TypeId} {ie:TypeInfo} {z:Value} {za:List AV} {kn:IntKind} (ht:P.underlying t=some (.slice e)) (F6:P.underlying tn=some (.int kn)) (cP:P.info? e=some ie) (hz:ie.zero=some z)
 (aP:ie.size=z.cells.size) (dZ:LR ι I w za z.cells.toList) (h1: ∀v∈za,v.one=true) (h0:za.length≠0) {x n v:AV} {cx cn:Value} (hx:VR ι I w x cx) (hn:VR ι I w n cn) {ρ:Env} {ox on:au} (bh:ox.ev ρ=x) (wt:on.ev ρ=n)
 {h':aa} (he:bN (.po ie.bytes za ox on) ρ id h=some (v,h')):eT P ι I h w id v h' (Builtin.append_ #[t,tn] ty #[cx,cn]):=by
 simp only[bN,bh,wt] at he
 cases hn<;>(try simp only[] at he)<;>try(cases he;done)
 rename_i kq m
 split at he
 ·rename_i hm
  obtain⟨k,rfl⟩: ∃k:Nat,m=k:=⟨m.toNat,by omega⟩
  simp only[Int.toNat_natCast] at he
  cases hx<;>(try simp only[] at he)<;>try(cases he;done)
  case bx=>
   split at he
   ·rename_i hb
    cases he
    have Rn:Rd ι I w za.length [] none []:=⟨by simp,LR.nil,by simp,fun _=>rfl⟩
    have:=Yj (P:=P) (ty:=ty) (kq:=kq) (cap:=0) (m:=k) H aL ht F6 cP hz aP dZ h1 h0 Rn (by omega) (by simp;omega) (by simpa using hb) (by simp;omega)
    simpa using this
   ·cases he
  case rk b off len aO cap cb o room hb hlen bt=>
   split at he
   ·rename_i cs hg
    split at he
    ·rename_i hc
     obtain⟨rfl,cE,hle,ef,bY⟩:=hc
     cases he
     obtain⟨cw,_,cV⟩:=H.row (rI hg) hb
     obtain⟨l,R,e1,e2⟩:=Ni (len:=len) cw cV hle
     have:=Yj (P:=P) (ty:=ty) (kq:=kq) (cap:=cap) (m:=k) H aL ht F6 cP hz aP dZ h1 h0 R (by omega) (by rw[e1];omega) (by rw[e1];exact ef) (by rw[e1];exact bY)
     rw[e1] at this
     exact this
    ·cases he
   ·cases he
 ·cases he
end
end
section
open Go
section
variable {P:Program}
mutual
def AV.eK (b:Nat) (cs:List AV):AV->AV
 | .rs b' off len sz=>if b'=b then(if off+len*sz<=cs.length then .vs (rowsOf cs off sz len) .ao else .undef) else .rs b' off len sz
 | .rk b' off len sz cap=>if b'=b then .undef else .rk b' off len sz cap
 | .agg xs=> .agg (AV.qG b cs xs)
 | .az xs=> .az (AV.qG b cs xs)
 |v=>v
def AV.qG (b:Nat) (cs:List AV):List AV->List AV
 |[]=>[]
 |x::xs=>AV.eK b cs x::AV.qG b cs xs
end
theorem Cv {b:Nat} {cs:List AV}: ∀{l:List AV},(AV.qG b cs l).length=l.length
 |[]=>rfl
 |x::xs=>by simp[AV.qG,Cv (l:=xs)]
theorem Cw {b:Nat} {cs:List AV}: ∀{l:List AV} {i:Nat} {v:AV},(AV.qG b cs l)[i]? =some v-> ∃u,l[i]? =some u/\v=AV.eK b cs u
 |[],i,v,h=>by simp[AV.qG] at h
 |x::xs,i,v,h=>by
  cases i with
  |zero=>simp[AV.qG] at h;exact⟨x,rfl,h.symm⟩
  |succ i=>obtain⟨u,h1,h2⟩:=Cw (l:=xs) (i:=i) (by simpa [AV.qG] using h);exact⟨u,by simpa using h1,h2⟩
section
variable {ι:aI} {I:aR} {h:aa} {w:World} {b cb o room:Nat} {cs:List AV}
def yj (I:aR) (cb o n:Nat):aR:=fun k j=>I k j\/(k=cb/\o<=j/\j<o+n)
theorem VR.eK (H:HR ι I h w) (hg:h.get b=some (.cells cs)) (hb:ι b=some (.cells cb o room)) {a:AV} {v:Value} (hv:VR ι I w a v):VR ι (yj I cb o room) w (AV.eK b cs a) v:=by
 obtain⟨cw,eN,cV⟩:=H.row hg hb
 have cM: ∀a v,VR ι I w a v->VR ι (yj I cb o room) w a v:=fun a v h=>h.mono (fun _ _ h=>h) (fun _ _ h=> .inl h) (fun _ _ _=>rfl)
 induction hv with
 |rk b' off len sz cap iy o' pB h1 h2 h3=>
  unfold AV.eK
  by_cases lD:b'=b
  ·rw[if_pos lD];exact .undef _
  ·rw[if_neg lD];exact .rk b' off len sz cap iy o' pB h1 h2 h3
 |rs b' off len sz iy o' pB cap h1 h2 h3=>
  unfold AV.eK
  by_cases lD:b'=b
  ·subst lD
   rw[hb] at h1;cases h1
   rw[if_pos rfl]
   split
   ·rename_i hle
    obtain⟨e1,e2,e3⟩:=zi cs sz len off hle
    rcases Nat.eq_zero_or_pos len with h0|h0
    ·subst h0
     exact .fU _ _ _ (.inl rfl)
    rcases Nat.eq_zero_or_pos sz with hz|hz
    ·subst hz
     have:=VR.vs (ι:=ι) (I:=yj I cb o room) (w:=w) (rowsOf cs off 0 len) .ao cb (o+off) 0 cap (fun _ _=>Go.undef) (fun i row hi=>(e2 row (List.mem_of_getElem? hi)).1) (fun i j _ hj=>by omega) (fun i j _ hj=>by omega)
      (fun i row j v hi hj=>by
        have:=(e2 row (List.mem_of_getElem? hi)).1
        have:=(List.getElem?_eq_some_iff.1 hj).1;omega)
      (fun row hr v hv=>by have:=(e2 row hr).1;have:=List.length_eq_zero_iff.1 this;subst this;simp at hv) (by rw[e1];exact h2) trivial
     rw[e1] at this
     exact this
    have bH: ∀i j,i<len->j<sz->off+i*sz+j<cs.length:=fun i j hi hj=>by
     have:i*sz+j<len*sz:=by
      have:=Nat.mul_le_mul_right sz (show i+1<=len by omega)
      rw[Nat.succ_mul] at this
      omega
     omega
    have bq: ∀i j,i<len->j<sz-> ∃u,w.cell? ⟨cb,o+off+i*sz+j,none⟩=some u/\ ∀v,cs[off+i*sz+j]? =some v->VR ι I w v u:=fun i j hi hj=>by
     have aC:=bH i j hi hj
     obtain⟨u,h5,h6⟩:=cw (off+i*sz+j) _ (List.getElem?_eq_getElem aC)
     refine⟨u,by rw[show o+off+i*sz+j=o+(off+i*sz+j) by omega];exact h5,fun v hv=>?_⟩
     rw[List.getElem?_eq_getElem aC] at hv
     cases hv
     exact h6
    have a7: ∀(i j:Nat) (row:List AV) (v:AV),(rowsOf cs off sz len)[i]? =some row->row[j]? =some v->cs[off+i*sz+j]? =some v:=fun i j row v hi hj=>by
     have hr:=(e2 row (List.mem_of_getElem? hi)).1
     have kW:j<sz:=by have:=(List.getElem?_eq_some_iff.1 hj).1;omega
     have:=flat_get (rowsOf cs off sz len) (fun r hr=>(e2 r hr).1) i j row hi kW
     rw[hj,e3,List.getElem?_take_of_lt (by
      have:=bH i j (by have:=(List.getElem?_eq_some_iff.1 hi).1;omega) kW
      have h7:=(List.getElem?_eq_some_iff.1 hi).1
      have:=Nat.mul_le_mul_right sz (show i+1<=len by omega)
      rw[Nat.succ_mul] at this
      omega),List.getElem?_drop] at this
     rw[<-this];congr 1;omega
    have:=VR.vs (ι:=ι) (I:=yj I cb o room) (w:=w) (rowsOf cs off sz len) .ao cb (o+off) sz cap (fun i j=>(w.cell? ⟨cb,o+off+i*sz+j,none⟩).getD Go.undef)
     (fun i row hi=>(e2 row (List.mem_of_getElem? hi)).1)
     (fun i j hi hj=> .inr ⟨rfl,by omega,by rw[e1] at hi;have:=bH i j hi hj;omega⟩)
     (fun i j hi hj=>by rw[e1] at hi;obtain⟨u,h5,_⟩:=bq i j hi hj;simp[h5])
     (fun i row j v hi hj=>by
       have aB:i<len:=by have:=(List.getElem?_eq_some_iff.1 hi).1;omega
       have kW:j<sz:=by have:=(e2 row (List.mem_of_getElem? hi)).1;have:=(List.getElem?_eq_some_iff.1 hj).1;omega
       obtain⟨u,h5,h6⟩:=bq i j aB kW
       simp only[h5,Option.getD_some]
       exact cM _ _ (h6 v (a7 i j row v hi hj)))
     (fun row hr v hv=>cV v ((e2 row hr).2 v hv)) (by rw[e1];exact h2) trivial
    rw[e1] at this
    exact this
   ·exact .undef _
  ·rw[if_neg lD]
   exact .rs b' off len sz iy o' pB cap h1 h2 h3
 |agg xs sI hl hv ih=>exact .agg _ _ (by rw[Cv];exact hl) (fun i v c h1 h2=>by obtain⟨u,e1,rfl⟩:=Cw h1;exact ih i u c e1 h2)
 |az xs sI hl hv ih=>exact .az _ _ (by rw[Cv];exact hl) (fun i v c h1 h2=>by obtain⟨u,e1,rfl⟩:=Cw h1;exact ih i u c e1 h2)
 |vs xs t iy o' s cap g hs hI hc hv h1 bt ht ih=>exact cM _ _ (.vs xs t iy o' s cap g hs hI hc hv h1 bt ht)
 |gu t ht=>exact .gu t ht
 |fU t a cap ht=>exact .fU t a cap ht
 |undef v=>exact .undef v
 |int k n=>exact .int k n
 |bool b=>exact .bool b
 |fI k b=>exact .fI k b
 |fJ k a b=>exact .fJ k a b
 |str s=>exact .str s
 |nil=>exact .nil
 |ptr b off cb o room h=>exact .ptr b off cb o room h
 |vp xs off iy o' g hI hc hv h1 ih=>exact cM _ _ (.vp xs off iy o' g hI hc hv h1)
 |bx=>exact .bx
 |vz a cap=>exact .vz a cap
 |qm=>exact .qm
 |map b cb h=>exact .map b cb h
 |fn f fs cs eo bD hf hc h1 h2 fx kp=>exact cM _ _ (.fn f fs cs eo bD hf hc h1 h2)
 |jH=>exact .jH
 |fb v h=>exact .fb v h
end
theorem Yh (w:World) (a:Addr) (n:Nat) (c:Addr):(w.freeze a n).cell? c=w.cell? c:=by
 unfold World.freeze
 split
 ·rfl
 ·simp only[World.cell?,Array.getElem?_modify]
  by_cases hc:a.block=c.block
  ·rw[if_pos hc]
   cases hk:w.heap[c.block]? with
   |none=>simp
   |some o=>cases o<;>simp
  ·rw[if_neg hc]
theorem yy.freeze (w:World) (cb n:Nat):yy (fun k _=>k=cb) w (w.freeze ⟨cb,n,none⟩ 1):=by
 have hb: ∀k,k≠cb->(w.freeze ⟨cb,n,none⟩ 1).heap[k]? =w.heap[k]?:=fun k hk=>by
  unfold World.freeze
  simp only[Nat.one_ne_zero,if_false,Array.getElem?_modify]
  rw[if_neg (fun h=>hk h.symm)]
 refine{os:=rfl,tape:=rfl,output:=rfl,size:=by simp[World.freeze],block:=fun k _ hr=>hb k (hr 0),cell:=fun k j _ _=>Yh _ _ _ _,frozen:=fun k j _ hr=>?_}
 simp only[World.frozen?,hb k hr]
theorem anr {ι:aI} {I:aR} {h:aa} {w:World} (H:HR ι I h w) {src e:TypeId} (hu:P.underlying src=some (.slice e)) (he8:P.underlying e=some (.int .u8))
 (id:Nat) {x v:AV} {cx:Value} (hx:VR ι I w x cx) {ρ:Env} {ox:au} (bh:ox.ev ρ=x)
 {h':aa} (he:bN (.mark ox) ρ id h=some (v,h')):eT P ι I h w id v h' (convert src src cx):=by
 simp only[bN,bh] at he
 have Wn:=hx
 cases hx<;>(try simp only[] at he)<;>try(cases he;done)
 rename_i b off len sz cb o room cap hb hlen bt
 cases mC:cellsOf h b with
 |none=>simp[mC] at he
 |some cs=>
  simp only[mC] at he
  split at he
  ·rename_i hle
   cases he
   have hg:=rI mC
   have hv:=VR.eK H hg hb Wn
   have awF:AV.eK b cs (.rs b off len sz)= .vs (rowsOf cs off sz len) .ao:=by
    unfold AV.eK;rw[if_pos rfl,if_pos hle]
   rw[awF] at hv
   have main: ∀w',yy (fun k _=>k=cb) w w'->(∀c,w'.cell? c=w.cell? c)->(convert src src (.slice (some ⟨cb,o+off,none⟩) len cap)).run P w= .ok (.slice (some ⟨cb,o+off,none⟩) len cap) w'->
    eT P ι I h w id (.vs (rowsOf cs off sz len) .ao) (h.set b none) (convert src src (.slice (some ⟨cb,o+off,none⟩) len cap)):=by
    intro w' W bq bQ
    have H1:HR ι I (h.set b none) w':=H.aiy W (Nat.le_refl _) (fun i y hi=>(i4 hi).2)
     (fun i l' y k j hi dV hl hr=>(H.dC i b l' (.cells cb o room) y _ k j (i4 dV).1 hi hb (i4 dV).2 hg hl hr).elim)
     (fun k j hr=>H.bz b _ _ k j hb hg hr)
    have H2:=H1.NJ (J:=fun k j=>k=cb/\o<=j/\j<o+room) (fun k j ⟨h1,h2,h3⟩=>⟨by rw[h1];exact Nat.lt_of_lt_of_le (H.inside b _ hb) W.size,fun⟨i,l',y,hi,dV,hl⟩=>
     H.dC i b l' (.cells cb o room) y _ k j (i4 dV).1 hi hb (i4 dV).2 hg hl h1⟩)
    refine⟨_,w',ι,yj I cb o room,bQ,hv.mono (fun _ _ h=>h) (fun _ _ h=>h) (fun k j _=>bq _),H2,?_⟩
    refine Ext.of0 W (fun k j _ hr=>⟨b,_,_,hb,hg,hr⟩) (fun _ _=>rfl) (fun _ _ h=>h) (Nat.le_refl _) (fun _ _ h=> .inl h) ?_ ?_ ?_
    ·rintro k j ⟨i,l',y,hi,dV,hl⟩
     exact .inl ⟨i,l',y,hi,(i4 dV).2,hl⟩
    ·rintro k j (hk|⟨h1,_,_⟩)
     ·exact .inl hk
     ·exact .inr (.inl ⟨b,_,_,hb,hg,h1⟩)
    ·intro i _ hi
     have:i≠b:=fun he=>by rw[he,hb] at hi;cases hi
     simp[aa.set,this]
   cases hs:w.shape? cb with
   |none=>
    refine main w {os:=rfl,tape:=rfl,output:=rfl,size:=Nat.le_refl _,block:=fun _ _ _=>rfl,cell:=fun _ _ _ _=>rfl,frozen:=fun _ _ _ _=>rfl} (fun _=>rfl) ?_
    have Bt:Sem.run P (Sem.shape cb Sem.pure) w= .ok (w.shape? cb) w:=rfl
    simp[convert,cJ hu,cJ he8,markStringish,shape,Bt,hs,Result.andThen]
   |some q=>
    obtain⟨el,n⟩:=q
    refine main _ (yy.freeze w cb n) (fun _=>Yh _ _ _ _) ?_
    have Bt:Sem.run P (Sem.shape cb Sem.pure) w= .ok (w.shape? cb) w:=rfl
    have fF:Sem.run P (Sem.freeze ⟨cb,n,none⟩ 1 (Sem.pure ())) w= .ok () (w.freeze ⟨cb,n,none⟩ 1):=rfl
    simp[convert,cJ hu,cJ he8,markStringish,shape,freeze,Bt,hs,fF,Result.andThen]
  ·cases he
end
end
section
open Go
structure RO where
 dst:Option Nat
 guard:Option (Nat×Bool)
 op:bU
 deriving Inhabited
structure Mode where
 pr:Bool
 refs:List Nat
section
variable (P:Program) (md:Mode)
def bd (pr:Bool):Operand->Option au
 | .tmp t=>some (.tmp t)
 | .const v=>(CT pr v).map .const
 | .func f=>some (.const (.fn f [] []))
 | .global _=>none
def mN (pr:Bool):List Operand->Option (List au)
 |[]=>some []
 |x::xs=>match bd pr x,mN pr xs with
  |some a,some l=>some (a::l)
  |_,_=>none
def A5 (pr:Bool):Option Operand->Option (Option au)
 |none=>some none
 |some x=>(bd pr x).map some
def od (t:TypeId):Option Nat:=(P.info? t).map (·.size)
def zeroOf (t:TypeId):Option (List AV):=
 match P.info? t with
 |some i=>match i.zero with
  |some z=>if i.size=z.cells.size then uV md.pr z.cells.toList else none
  |none=>none
 |none=>none
def CV (tH:List (Nat×Nat)):List (Nat×Operand)->Option (List (Nat×Nat×au))
 |[]=>some []
 |(i,x)::ps=>match tH[i]?,bd md.pr x,CV tH ps with
  |some (off,sz),some o,some l=>some ((off,sz,o)::l)
  |_,_,_=>none
def DX:List (Nat×Operand)->Option (List (Nat×au))
 |[]=>some []
 |(i,x)::ps=>match bd md.pr x,DX ps with
  |some o,some l=>some ((i,o)::l)
  |_,_=>none
def isRef (d:Option Nat):Bool:=match d with|some d=>md.refs.contains d|none=>false
def Np:Operand->Option Value
 | .const v=>match v with
   | .pointer none=>some v
   | .slice none 0 0=>some v
   | .nilFunc=>some v
   | .map none=>some v
   |_=>none
 |_=>none
def Jm:BinOp->Option Bool
 | .eql=>some false
 | .neq=>some true
 |_=>none
def Vw (op:BinOp) (t:TypeId) (x y:Operand):Option a8:=do
 let d <-P.underlying t
 let a <-bd md.pr x
 match Np y with
 |some nv=>
  let kd <-CD d nv
  let neg <-Jm op
  some (.gG kd neg a)
 |none=>
  let b <-bd md.pr y
  match d with
  | .bool=>some (.bin true op a b)
  | .int _| .float _| .complex _| .string=>some (.bin false op a b)
  | .struct fs=>
    let neg <-Jm op
    let os <-zy P fs.toList
    if P.stoodInHeld t=false/\P.eqGuardType P.depth t=false then some (.JC neg os a b) else none
  |_=>none
def wR (dst:Option Nat) (b:Builtin) (args:List Operand) (ts:List TypeId):Option bU:=
 match b,args,ts with
 | .len,[x],[t]=>do
   let a <-bd md.pr x
   match<-P.underlying t with
   | .slice _=>some (.p (.j9 a))
   | .string=>some (.p (.HU a))
   | .array n _=>some (.p (.KJ n))
   |_=>none
 | .append,[x,y],[t,tx]=>do
   let a <-bd md.pr x
   let c <-bd md.pr y
   match<-P.underlying t,<-P.underlying tx with
   | .slice e, .slice e'=>
     let i <-P.info? e
     let z <-i.zero
     if e=e'/\z.cells.size=i.size/\i.size≠0 then
      some (.e (if isRef md dst then .kF i.bytes i.size a c else .append i.bytes i.size a c))
     else none
   |_,_=>none
 | .copy,[x,y],[t,tx]=>do
   let a <-bd md.pr x
   let c <-bd md.pr y
   match<-P.underlying t,<-P.underlying tx with
   | .slice e, .slice _=>some (.e (.copy (<-od P e) a c))
   |_,_=>none
 | .delete,[m,k],[t,_]=>do
   let a <-bd md.pr m
   let c <-bd md.pr k
   match<-P.underlying t with
   | .map key _=>
     match<-P.underlying key with
     | .int _=>some (.e (.tI a c))
     |_=>none
   |_=>none
 | .min,x::rest,_=>do some (.p (.nH false (<-bd md.pr x) (<-mN md.pr rest)))
 | .max,x::rest,_=>do some (.p (.nH true (<-bd md.pr x) (<-mN md.pr rest)))
 | .real,[x],_=>do some (.p (.part false (<-bd md.pr x)))
 | .imag,[x],_=>do some (.p (.part true (<-bd md.pr x)))
 |_,_,_=>none
def bZ (f:Nat):Bool:=
 match P.funcs[f]? with
 |some fn=>fn.name != "runtime.NumGoroutine" &&fn.body.isSome
 |none=>false
def sB (dst:Option Nat) (op:Op):Option bU:=
 match op with
 | .move x| .assign x=>do some (.p (.aj (<-bd md.pr x)))
 | .pick c a b=>do some (.p (.pick (<-bd md.pr c) (<-bd md.pr a) (<-bd md.pr b)))
 | .alloc e=>do some (.a (.alloc (<-zeroOf P md e)))
 | .box _ x=>do some (.a (.box (<-bd md.pr x)))
 | .build t parts=>do
   let z <-zeroOf P md t
   match<-P.underlying t with
   | .struct fs=>
     let tH <-fs.toList.mapM (fun f=>(P.info? f.type).map fun i=>(f.offset,i.size))
     some (.p (.build z (<-CV md tH parts.toList)))
   |_=>none
 | .buildSlice t n parts=>do
   match<-P.underlying t with
   | .slice e=>
     let z <-zeroOf P md e
     let ps <-DX md parts.toList
     if z.length≠0/\n*z.length<=2^24 then
      some (if isRef md dst then .a (.CJ n z ps) else .p (.cr n z ps))
     else none
   |_=>none
 | .load t a=>do
   let d <-P.underlying t
   some (.p (.load d.isRow (<-od P t) (<-bd md.pr a)))
 | .store t a v=>do some (.e (.store (<-od P t) (<-bd md.pr a) (<-bd md.pr v)))
 | .nilCheck x=>do some (.p (.aF (<-bd md.pr x)))
 | .binOp op t x y _=>do some (.p (<-Vw P md op t x y))
 | .unOp op _ x=>do some (.p (.un op (<-bd md.pr x)))
 | .convert src dst x=>do
   let a <-bd md.pr x
   match<-P.underlying src,<-P.underlying dst with
   |_, .int k=>some (.p (.toInt k a))
   | .slice e, .string=>
     match<-P.underlying e with
     | .int .u8=>some (.p (.rN a))
     |_=>none
   | .string, .slice e=>
     match<-P.underlying e with
     | .int .u8=>some (.p (.Hh a))
     |_=>none
   | .slice e, .slice _=>
     match<-P.underlying e with
     | .int .u8=>if src=dst then some (.e (.mark a)) else none
     |_=>none
   |_,_=>none
 | .makeFunc (.func f) first captured=>do some (.p (.kO f (<-mN md.pr first.toList) (<-mN md.pr captured.toList)))
 | .makeMap _ none=>some (.a .vi)
 | .makeSlice t l c=>do
   match<-P.underlying t with
   | .slice e=>
     let z <-zeroOf P md e
     let i <-P.info? e
     if z.length≠0 then
      let a <-bd md.pr l
      let b <-bd md.pr c
      some (if isRef md dst then .a (.uY z i.bytes a b) else .p (.HC z i.bytes a b))
     else none
   |_=>none
 | .slice t x lo hi mx=>do
   match<-P.underlying t with
   | .slice e=>some (.p (.b9 (<-od P e) (<-bd md.pr x) (<-A5 md.pr lo) (<-A5 md.pr hi) (<-A5 md.pr mx)))
   |_=>none
 | .fieldAddr s x f=>do
   match<-P.underlying s with
   | .struct fs=>
     let fd <-fs[f]?
     let sz <-od P fd.type
     if sz≠0 then some (.p (.Ax fd.offset (<-bd md.pr x))) else none
   |_=>none
 | .field s x f=>do
   match<-P.underlying s with
   | .struct fs=>
     let fd <-fs[f]?
     let d <-P.underlying fd.type
     some (.p (.Mj d.isRow (<-od P fd.type) fd.offset (<-bd md.pr x)))
   |_=>none
 | .indexAddr t x i=>do
   match<-P.underlying t with
   | .slice e=>some (.p (.i5 (<-od P e) (<-bd md.pr x) (<-bd md.pr i)))
   | .array n e=>some (.p (.CR (<-od P e) n (<-bd md.pr x) (<-bd md.pr i)))
   |_=>none
 | .index t x i=>do
   match<-P.underlying t with
   | .array n e=>
     let d <-P.underlying e
     some (.p (.KO d.isRow (<-od P e) n (<-bd md.pr x) (<-bd md.pr i)))
   |_=>none
 | .lookup t m k ok=>do
   match<-P.underlying t with
   | .map key e=>
     match<-P.underlying key with
     | .int _=>
       let i <-P.info? e
       let z <-i.zero
       some (.p (.lookup (<-CT md.pr z) ok (<-bd md.pr m) (<-bd md.pr k)))
     |_=>none
   |_=>none
 | .mapUpdate t m k v=>do
   match<-P.underlying t with
   | .map key _=>
     match<-P.underlying key with
     | .int _=>some (.e (.rS (<-bd md.pr m) (<-bd md.pr k) (<-bd md.pr v)))
     |_=>none
   |_=>none
 | .extract x i=>do some (.p (.ext i (<-bd md.pr x)))
 | .call c=>do
   match c.callee with
   | .value (.func f)=>if bZ P f then some (.call f (<-mN md.pr c.args.toList)) else none
   | .value x=>some (.dyn (<-bd md.pr x) (<-mN md.pr c.args.toList))
   | .builtin b=>wR P md dst b c.args.toList c.argTypes.toList
   |_=>none
 |_=>none
def cK (dst:Option Nat) (b:Builtin) (args:List Operand) (ts:List TypeId):Option bU:=
 match b,args,ts with
 | .append,[x,y],[t,tx]=>do
   let a <-bd md.pr x
   let c <-bd md.pr y
   match<-P.underlying t,<-P.underlying tx with
   | .slice e, .int _=>
     let za <-zeroOf P md e
     let i <-P.info? e
     if za.length≠0 then some (.e (.po i.bytes za a c)) else none
   |_,_=>none
 | .cap,[x],[t]=>do
   let a <-bd md.pr x
   match<-P.underlying t with
   | .slice _=>some (.p (.tX a))
   |_=>none
 | .clear,[x],[t]=>do
   let a <-bd md.pr x
   match<-P.underlying t with
   | .slice e=>
     let za <-zeroOf P md e
     if za.length≠0 then some (.e (.px za a)) else none
   |_=>none
 | .copy,[x,y],[t,_]=>
   if isRef md dst then do
    let a <-bd md.pr x
    let c <-bd md.pr y
    match<-P.underlying t with
    | .slice e=>some (.e (.nO (<-od P e) a c))
    |_=>none
   else none
 |_,_,_=>none
def Q8 (f:Nat):Option TypeId:=
 match P.funcs[f]? with
 |some fn=>
  match fn.params.toList,fn.resultTypes.toList with
  |[t,_],[_]=>if fn.name != "runtime.NumGoroutine" &&fn.body.isNone&&fn.origin== "slices.overlaps" &&(Extern.allGenericRows.lookup fn.name).isNone&&(Extern.allTypedRows.lookup fn.name).isNone&&(Extern.allRows.lookup fn.name).isNone&&(Extern.allNextRows.lookup fn.name).isNone then some t else none
  |_,_=>none
 |none=>none
def cX (dst:Option Nat) (op:Op):Option bU:=
 match op with
 | .index t x i=>do
   match<-P.underlying t with
   | .string=>some (.p (.zL (<-bd md.pr x) (<-bd md.pr i)))
   |_=>none
 | .range t x=>do
   match<-P.underlying t with
   | .map _ _=>some (.p (.Lq (<-bd md.pr x)))
   |_=>none
 | .next x s=>if s then none else(bd md.pr x).map fun x=> .p (.FU x)
 | .entry x=>(bd md.pr x).map fun x=> .p (.s8 x)
 | .call c=>
   match c.callee with
   | .value (.func f)=>
     match Q8 P f,c.args.toList with
     |some t,[x,y]=>do
      match<-P.underlying t with
      | .slice e=>some (.p (.pM (<-od P e) (<-bd md.pr x) (<-bd md.pr y)))
      |_=>none
     |_,_=>none
   | .builtin b=>cK P md dst b c.args.toList c.argTypes.toList
   |_=>none
 |_=>none
def te (dst:Option Nat) (op:Op):Option bU:=
 match cX P md dst op with
 |some r=>some r
 |none=>match sB P md dst op with
  |some r=>some r
  |none=>some (.p .stuck)
end
inductive aZ where
 |skip
 |af (ops:List RO)
 |aU (ops:List RO) (un:List (List Nat))
 |seq (a b:aZ)
 |ya (a b:aZ)
 |cond (c:au) (t e:aZ)
 |block (id:Nat) (c:aZ)
 |loop (c:aZ)
 |exit (id:Nat)
 |scope (c:aZ)
 |inScope (body cur:aZ)
 |label (l:Nat)
 |goto (l:Nat)
 |ret
 deriving Inhabited
inductive fv where
 |tmp (t:Nat)
 |cell (t:Nat) (ag:Bool) (sz:Nat)
 deriving Inhabited
structure aA where
 code:aZ
 ntmps:Nat
 results:List fv
 deriving Inhabited
end
section
open Go
def bU.cq:bU->Bool
 | .e _| .call _ _| .dyn _ _=>true
 |_=>false
def a8.reads:a8->Bool
 | .load _ _ _| .rN _| .lookup _ _ _ _| .pM _ _ _=>true
 |_=>false
def bU.reads:bU->Bool
 | .p o=>o.reads
 |_=>false
def fN:List Oper->List (List Nat)->List (List Nat)
 |[],acc=>acc
 |o::os,acc=>fN os (acc++[(o.after.toList.filter fun e=>Region.binds .any e).flatMap fun e=>e.on::acc.getD e.on []])
def au.slot:au->List Nat
 | .tmp t=>[t]
 | .const _=>[]
def CN:Option au->List au
 |some x=>[x]
 |none=>[]
def a8.dT:a8->List au
 | .aj x| .load _ _ x| .aF x| .gG _ _ x| .un _ x| .toInt _ x| .rN x| .Hh x| .Ax _ x| .Mj _ _ _ x| .ext _ x| .j9 x| .HU x| .part _ x| .tX x| .Lq x| .FU x| .s8 x=>[x]
 | .pick c a b=>[c,a,b]
 | .build _ ps=>ps.map fun p=>p.2.2
 | .cr _ _ ps=>ps.map fun p=>p.2
 | .bin _ _ x y| .JC _ _ x y| .i5 _ x y| .CR _ _ x y| .KO _ _ _ x y| .lookup _ _ x y| .HC _ _ x y| .zL x y| .pM _ x y=>[x,y]
 | .b9 _ x lo hi mx=>x::(CN lo++CN hi++CN mx)
 | .KJ _| .stuck=>[]
 | .kO _ a b=>a++b
 | .nH _ x r=>x::r
def kD.dT:kD->List au
 | .box x=>[x]
 | .alloc _| .vi=>[]
 | .uY _ _ x y=>[x,y]
 | .CJ _ _ ps=>ps.map fun p=>p.2
def gf.dT:gf->List au
 | .store _ x y| .append _ _ x y| .kF _ _ x y| .copy _ x y| .tI x y| .po _ _ x y| .nO _ x y=>[x,y]
 | .px _ x| .mark x=>[x]
 | .rS x y z=>[x,y,z]
def bU.dT:bU->List au
 | .p o=>o.dT
 | .a o=>o.dT
 | .e o=>o.dT
 | .call _ as=>as
 | .dyn x as=>x::as
def RO.tL (o:RO):List Nat:=o.op.dT.flatMap au.slot++(match o.guard with|some (g,_)=>[g]|none=>[])
def kN (pl:List (List Nat)) (i j:Nat):Bool:=(pl.getD j []).contains i
def a8.qn:a8->Bool
 | .load _ _ (.const _)| .rN (.const _)| .lookup _ _ (.const _) _| .pM _ _ (.const _)=>false
 |_=>true
def bU.qn:bU->Bool
 | .p o=>o.qn
 |_=>true
def CP (acc:List Nat):List Edge->Nat
 |[]=>0
 |e::es=>(2^e.on|||acc.getD e.on 0)|||CP acc es
def rR:List Oper->List Nat->List Nat
 |[],acc=>acc
 |o::os,acc=>rR os (acc++[CP acc (o.after.toList.filter fun e=>Region.binds .any e)])
def Ap (al:List RO) (ms:List Nat):List ((RO×Nat)×Nat):=(al.zip ms).zipIdx
def FP (ops:Array Oper) (al:List RO):Bool:=
 let ms:=rR ops.toList []
 let rs:=Ap al ms
 (ms.length==al.length)&&
 (rs.all fun p=>rs.all fun q=>p.1.1.dst.isNone||p.1.1.dst !=q.1.1.dst||p.2==q.2)&&
 (ops.toList.zipIdx.all fun(o,i)=>o.after.toList.all fun e=>!Region.binds .any e||decide (e.on<i))&&
 (rs.all fun p=>p.1.1.tL.all fun t=>rs.all fun q=>p.2==q.2||q.1.1.dst !=some t||(if q.2<p.2 then p.1.2.testBit q.2 else q.1.2.testBit p.2))&&
 (rs.all fun p=>!p.1.1.op.cq||rs.all fun q=>!q.1.1.op.cq||!decide (q.2<p.2)||p.1.2.testBit q.2)&&
 (al.all fun o=>o.op.qn)
def yB (ops:Array Oper) (al:List RO):List (List Nat):=
 let rs:=Ap al (rR ops.toList [])
 rs.map fun p=>if p.1.1.op.reads||p.1.1.op.cq then
  (rs.filter fun q=>decide (q.2<p.2)&&((p.1.1.op.reads&&q.1.1.op.cq)||(p.1.1.op.cq&&q.1.1.op.reads))&&!p.1.2.testBit q.2).map (·.2) else []
def Og (ops:Array Oper):Option (Nat×Bool)->Option (Option (Nat×Bool))
 |none=>some none
 |some (j,AP)=>((ops[j]?).bind (·.dst)).map fun d=>some (d,AP)
def aeu (n:Nat):Option Nat->Bool
 |some d=>decide (d<n)
 |none=>true
section
variable (P:Program) (md:Mode)
def uD (n:Nat) (ops:Array Oper) (o:Oper):Option RO:=
 (te P md o.dst o.op).bind fun op=>(Og ops o.guard).bind fun g=>if aeu n o.dst then some {dst:=o.dst,guard:=g,op} else none
def tY (n:Nat) (ops:Array Oper):List Oper->Option (List RO)
 |[]=>some []
 |o::os=>match uD P md n ops o,tY n ops os with
  |some a,some l=>some (a::l)
  |_,_=>none
def aZ.AT:aZ->Bool
 | .af al=>al.any fun o=>match o.op with| .p (.Lq _)=>true|_=>false
 |_=>false
def d9 (n:Nat):Code->Option aZ
 | .skip=>some .skip
 | .region _ ops false=>(tY P md n ops ops.toList).map .af
 | .region _ ops true=>do
   let al <-tY P md n ops ops.toList
   if FP ops al then some (.aU al (yB ops al)) else none
 | .seq a b=>do
   let x <-d9 n a
   let y <-d9 n b
   some (if x.AT then .ya x y else .seq x y)
 | .cond c t e=>do some (.cond (<-bd md.pr c) (<-d9 n t) (<-d9 n e))
 | .block id c=>do some (.block id (<-d9 n c))
 | .loop c=>do some (.loop (<-d9 n c))
 | .exit id=>some (.exit id)
 | .scope c=>do some (.scope (<-d9 n c))
 | .label l=>some (.label l)
 | .goto l=>some (.goto l)
 | .ret=>some .ret
 |_=>none
def Vv:ResultVar->Option fv
 | .tmp t=>some (.tmp t)
 | .cell t ty=>do
   let d <-P.underlying ty
   some (.cell t d.isRow (<-od P ty))
def zB:List ResultVar->Option (List fv)
 |[]=>some []
 |x::xs=>match Vv P x,zB xs with
  |some a,some l=>some (a::l)
  |_,_=>none
def aD (fn:Func):Option aA:=do
 let c <-fn.body
 let code <-d9 P md fn.ntmps c
 let rs <-zB P fn.results.toList
 some {code,ntmps:=fn.ntmps,results:=rs}
end
inductive aQ where
 |normal
 |exit (id:Nat)
 |goto (l:Nat)
 |ret
 deriving DecidableEq,Inhabited
def put (ρ:Env) (d:Option Nat) (v:AV):Env:=
 match d with
 |some d=>fun i=>if i=d then v else ρ i
 |none=>ρ
def fM:aZ->Nat->Option aZ
 | .seq a b,l=>
   match fM a l with
   |some rest=>some (.seq rest b)
   |none=>fM b l
 | .ya _ b,l=>fM b l
 | .label l',l=>if l'==l then some .skip else none
 |_,_=>none
end
section
open Go
section
variable {P:Program} {md:Mode} {ι:aI} {I:aR} {h:aa} {w:World}
structure AR (ι:aI) (I:aR) (w:World) (n:Nat) (ρ:Env) (a:Act):Prop where
 defers:a.defers=[]
 size:a.tmps.size=n
 get: ∀t,VR ι I w (ρ t) (a.tmps.getD t Go.undef)
theorem AR.mono {n:Nat} {ρ:Env} {a:Act} (A:AR ι I w n ρ a) {ι':aI} {I':aR} {w':World} (hm: ∀x v,VR ι I w x v->VR ι' I' w' x v):AR ι' I' w' n ρ a:=
 ⟨A.defers,A.size,fun t=>hm _ _ (A.get t)⟩
theorem YN {pr:Bool} {v:Value} {x:AV} (hc:CT pr v=some x):VR ι I w x v:=by
 unfold CT at hc
 split at hc
 ·rename_i cs
  cases hq:uV pr cs.toList with
  |none=>simp[hq] at hc
  |some l=>
   simp[hq] at hc
   subst hc
   have:=rH (ι:=ι) (I:=I) (w:=w) hq
   have h2:=VR.agg (ι:=ι) (I:=I) (w:=w) l cs.toList this.1.1 this.1.2
   simpa using h2
 ·exact(Yf hc).1
theorem bF {n:Nat} {ρ:Env} {a:Act} (A:AR ι I w n ρ a) {pr:Bool} {x:Operand} {o:au} (hc:bd pr x=some o):OR ι I w ρ o (a.eval x):=by
 cases x with
 |tmp t=>simp[bd] at hc;subst hc;exact A.get t
 |const v=>
  simp only[bd] at hc
  cases hq:CT pr v with
  |none=>simp[hq] at hc
  |some y=>simp[hq] at hc;subst hc;exact YN hq
 |func f=>
  simp[bd] at hc;subst hc
  exact .fn f [] [] [] [] rfl rfl (fun i v c h=>by simp at h) (fun i v c h=>by simp at h)
 |global g=>simp[bd] at hc
theorem wN {n:Nat} {ρ:Env} {a:Act} (A:AR ι I w n ρ a) {pr:Bool}: ∀{xs:List Operand} {os:List au},mN pr xs=some os->LR ι I w (os.map (au.ev ρ)) (xs.map a.eval)
 |[],os,hc=>by simp[mN] at hc;subst hc;exact LR.nil
 |x::xs,os,hc=>by
  simp only[mN] at hc
  split at hc
  ·rename_i o l h1 h2
   cases hc
   exact LR.cons (bF A h1) (wN A h2)
  ·cases hc
theorem Ny {n:Nat} {ρ:Env} {a:Act} (A:AR ι I w n ρ a) {pr:Bool} {x:Option Operand} {o:Option au} (hc:A5 pr x=some o):y8 ι I w ρ o (x.map a.eval):=by
 cases x with
 |none=>simp[A5] at hc;subst hc;trivial
 |some x=>
  simp only[A5] at hc
  cases hq:bd pr x with
  |none=>simp[hq] at hc
  |some y=>simp[hq] at hc;subst hc;exact bF A hq
def NP (P:Program) (ι:aI) (I:aR) (h:aa) (w:World) (v:AV) (s:Sem Next):Prop:=
 ∃c w' I',s.run P w= .ok (.value c) w'/\VR ι I' w' v c/\HR ι I' h w'/\Ext (fun _=>False) ι I h w ι I' h w'
theorem eD.next {v:AV} {s:Sem Value} (hs:eD P ι I h w v s):NP P ι I h w v (do pure (.value (<-s))):=by
 obtain⟨c,w',I',hr,hv,H,E⟩:=hs
 exact⟨c,w',I',by simp[hr],hv,H,E⟩
def NE (P:Program) (ι:aI) (I:aR) (h:aa) (w:World) (id:Nat) (v:AV) (h':aa) (s:Sem Next):Prop:=
 ∃x c w' ι' I',s.run P w= .ok x w'/\(x= .value c\/(x= .skip/\v= .undef))/\VR ι' I' w' v c/\HR ι' I' h' w'/\Ext (· =id) ι I h w ι' I' h' w'
theorem eT.next {id:Nat} {v:AV} {h':aa} {s:Sem Value} (hs:eT P ι I h w id v h' s):NE P ι I h w id v h' (do pure (.value (<-s))):=by
 obtain⟨c,w',ι',I',hr,hv,H,E⟩:=hs
 exact⟨_,c,w',ι',I',by simp[hr], .inl rfl,hv,H,E⟩
theorem uR {t:TypeId} {za:List AV} (hz:zeroOf P md t=some za): ∃i z,P.info? t=some i/\i.zero=some z/\i.size=z.cells.size/\uV md.pr z.cells.toList=some za:=by
 unfold zeroOf at hz
 split at hz
 ·rename_i i hi
  split at hz
  ·rename_i z uf
   split at hz
   ·rename_i aP
    exact⟨i,z,hi,uf,aP,hz⟩
   ·cases hz
  ·cases hz
 ·cases hz
theorem YO {n:Nat} {ρ:Env} {a:Act} (A:AR ι I w n ρ a) {tH:List (Nat×Nat)}: ∀{ps:List (Nat×Operand)} {l:List (Nat×Nat×au)},CV md tH ps=some l->
 l.length=ps.length/\ ∀(i off sz j:Nat) (x:au) (c:Value),l[i]? =some (off,sz,x)->(ps.map fun p=>(p.1,a.eval p.2))[i]? =some (j,c)->tH[j]? =some (off,sz)/\OR ι I w ρ x c
 |[],l,hc=>by simp[CV] at hc;subst hc;exact⟨rfl,fun i off sz j x c h=>by simp at h⟩
 |(k,y)::ps,l,hc=>by
  simp only[CV] at hc
  split at hc
  ·rename_i off sz o l' h1 h2 h3
   cases hc
   obtain⟨e1,e2⟩:=YO A h3
   refine⟨by simp[e1],fun i avR aO j x c hi hj=>?_⟩
   cases i with
   |zero=>
    simp at hi hj
    obtain⟨rfl,rfl,rfl⟩:=hi
    obtain⟨rfl,rfl⟩:=hj
    exact⟨h1,bF A h2⟩
   |succ i=>exact e2 i avR aO j x c (by simpa using hi) (by simpa using hj)
  ·cases hc
theorem Nd {n:Nat} {ρ:Env} {a:Act} (A:AR ι I w n ρ a): ∀{ps:List (Nat×Operand)} {l:List (Nat×au)},DX md ps=some l->
 l.length=ps.length/\ ∀(i j k:Nat) (x:au) (c:Value),l[i]? =some (j,x)->(ps.map fun p=>(p.1,a.eval p.2))[i]? =some (k,c)->j=k/\OR ι I w ρ x c
 |[],l,hc=>by simp[DX] at hc;subst hc;exact⟨rfl,fun i j k x c h=>by simp at h⟩
 |(m,y)::ps,l,hc=>by
  simp only[DX] at hc
  split at hc
  ·rename_i o l' h1 h2
   cases hc
   obtain⟨e1,e2⟩:=Nd A h2
   refine⟨by simp[e1],fun i j k x c hi hj=>?_⟩
   cases i with
   |zero=>
    simp at hi hj
    obtain⟨rfl,rfl⟩:=hi
    obtain⟨rfl,rfl⟩:=hj
    exact⟨rfl,bF A h1⟩
   |succ i=>exact e2 i j k x c (by simpa using hi) (by simpa using hj)
  ·cases hc
theorem ajv {y:Operand} {nv:Value} (h:Np y=some nv):y= .const nv:=by
 unfold Np at h
 split at h
 ·split at h<;>first|(cases h;rfl)|(cases h)
 ·cases h
theorem Yd (op:BinOp) (t:TypeId) (x y:Operand) (a b:Value) (w:World) (hb:b≠ .nilIface/\ ∀cs,b≠ .agg cs):(eqGuard op t x y a b).run P w= .ok () w:=by
 cases op<;>first
  |rfl
  |(cases a<;>cases b<;>first|rfl|(exact(hb.1 rfl).elim)|(exact(hb.2 _ rfl).elim))
theorem an6 (H:HR ι I h w) {n:Nat} {ρ:Env} {a:Act} (A:AR ι I w n ρ a) {op:BinOp} {t:TypeId} {x y:Operand} {q:a8} {v:AV} (hc:Vw P md op t x y=some q) (hv:aX q ρ h=some v):
 NP P ι I h w v (do pure (.value (<-(do eqGuard op t x y (a.eval x) (a.eval y);binOp op t (a.eval x) (a.eval y))))):=by
 simp only[Vw,Option.bind_eq_bind,Option.bind_eq_some_iff] at hc
 obtain⟨d,hd,o,ho,hc⟩:=hc
 have yK:=bF A ho
 have fin: ∀{s:Sem Value},eD P ι I h w v s->(eqGuard op t x y (a.eval x) (a.eval y)).run P w= .ok () w->s=binOp op t (a.eval x) (a.eval y)->
  NP P ι I h w v (do pure (.value (<-(do eqGuard op t x y (a.eval x) (a.eval y);binOp op t (a.eval x) (a.eval y))))):=by
  intro s hs hg he
  obtain⟨c,w',I',hr,da,H',E⟩:=hs
  rw[he] at hr
  exact⟨c,w',I',by simp[hg,hr],da,H',E⟩
 split at hc
 ·rename_i nv hnv
  simp only[Option.bind_eq_some_iff] at hc
  obtain⟨kd,BB,neg,ye,hc⟩:=hc
  cases hc
  have hy:=ajv hnv
  subst hy
  have bO:op=(if neg then .neq else .eql):=by
   unfold Jm at ye
   split at ye<;>cases ye<;>rfl
  have sx:nv≠ .nilIface/\ ∀cs,nv≠ .agg cs:=by
   unfold CD at BB
   split at BB<;>first|(cases BB;done)|exact⟨by simp,by simp⟩
  refine fin (amw (P:=P) H hd BB neg yK hv) (Yd op t x (.const nv) (a.eval x) nv w sx) ?_
  rw[bO];rfl
 ·rename_i hnv
  simp only[Option.bind_eq_some_iff] at hc
  obtain⟨o2,By,hc⟩:=hc
  have yI:=bF A By
  have plain: ∀tb,(tb=true->P.underlying t=some .bool)->q= .bin tb op o o2->NP P ι I h w v (do pure (.value (<-(do eqGuard op t x y (a.eval x) (a.eval y);binOp op t (a.eval x) (a.eval y))))):=by
   intro tb F7 hq
   subst hq
   simp only[aX] at hv
   refine fin (ao8 (P:=P) H yK yI hv t F7) (Yd op t x y _ _ w ?_) rfl
   have:(o2.ev ρ)≠ .undef/\(∀cs,o2.ev ρ≠ .agg cs)/\(o2.ev ρ)≠ .fb:=by
    refine⟨?_,?_,?_⟩
    ·intro he;rw[he] at hv;cases ed:o.ev ρ<;>simp[cR,ed] at hv
    ·intro cs he;rw[he] at hv;cases ed:o.ev ρ<;>simp[cR,ed] at hv
    ·intro he;rw[he] at hv;cases ed:o.ev ρ<;>simp[cR,ed] at hv
   have yJ:VR ι I w (o2.ev ρ) (a.eval y):=yI
   generalize o2.ev ρ=z at this yJ
   generalize a.eval y=c at yJ
   cases yJ<;>first|(exact(this.1 rfl).elim)|(exact(this.2.1 _ rfl).elim)|(exact(this.2.2 rfl).elim)|(exact⟨by simp,by simp⟩)
  split at hc
  ·cases hc;exact plain true (fun _=>hd) rfl
  ·cases hc;exact plain false (fun h=>by cases h) rfl
  ·cases hc;exact plain false (fun h=>by cases h) rfl
  ·cases hc;exact plain false (fun h=>by cases h) rfl
  ·cases hc;exact plain false (fun h=>by cases h) rfl
  ·rename_i fs
   simp only[Option.bind_eq_some_iff] at hc
   obtain⟨neg,ye,os,kx,hc⟩:=hc
   split at hc
   ·rename_i dE
    cases hc
    have bO:op=(if neg then .neq else .eql):=by
     unfold Jm at ye
     split at ye<;>cases ye<;>rfl
    simp only[aX] at hv
    have hs:=amx (P:=P) H hd dE.1 kx neg yK yI hv
    refine fin hs ?_ (by rw[bO])
    have aqV: ∃cs bD,a.eval x= .agg cs/\a.eval y= .agg bD:=by
     have oF:VR ι I w (o.ev ρ) (a.eval x):=yK
     have yJ:VR ι I w (o2.ev ρ) (a.eval y):=yI
     unfold CS at hv
     split at hv
     ·rename_i xs ys e1 e2
      rw[e1] at oF
      rw[e2] at yJ
      generalize a.eval x=c1 at oF
      generalize a.eval y=c2 at yJ
      cases oF;cases yJ
      exact⟨_,_,rfl,rfl⟩
     ·cases hv
    obtain⟨cs,bD,e1,e2⟩:=aqV
    rw[e1,e2]
    unfold eqGuard
    rw[bO]
    cases neg<;>simp[dE.2]
   ·cases hc
  ·cases hc
end
end
section
open Go
section
variable {P:Program} {md:Mode} {ι:aI} {I:aR} {h:aa} {w:World}
theorem alD (H:HR ι I h w) {n:Nat} {ρ:Env} {a:Act} (A:AR ι I w n ρ a) {dst:Option Nat} {b:Builtin} {args:Array Operand} {ts:Array TypeId} {ty:TypeId} {q:a8} {v:AV}
 (hc:wR P md dst b args.toList ts.toList=some (.p q)) (hv:aX q ρ h=some v) (cs:Array Bool):NP P ι I h w v (builtin b ts ty cs (args.map a.eval)):=by
 obtain⟨args⟩:=args
 obtain⟨ts⟩:=ts
 simp only[List.map_toArray] at*
 unfold wR at hc
 split at hc
 ·rename_i x t
  simp only[Option.bind_eq_bind,Option.bind_eq_some_iff] at hc
  obtain⟨o,ho,d,hd,hc⟩:=hc
  have yK:=bF A ho
  split at hc
  ·cases hc;simp only[aX] at hv;exact(anw (P:=P) H #[t] ty rfl hd yK hv).next
  ·cases hc;simp only[aX] at hv;exact(alc (P:=P) H #[t] ty rfl hd yK hv).next
  ·cases hc
   simp only[aX] at hv
   cases hv
   exact(eD.same (P:=P) H (c:= .int .i64 _) (by simp[Builtin.len_,cJ hd,goInt]) (.int _ _)).next
  ·cases hc
 ·simp only[Option.bind_eq_bind,Option.bind_eq_some_iff] at hc
  obtain⟨o,ho,o2,By,d,hd,d2,wx,hc⟩:=hc
  split at hc
  ·simp only[Option.bind_eq_some_iff] at hc
   obtain⟨i,hi,z,hz,hc⟩:=hc
   split at hc
   ·split at hc<;>cases hc
   ·cases hc
  ·cases hc
 ·simp only[Option.bind_eq_bind,Option.bind_eq_some_iff] at hc
  obtain⟨o,ho,o2,By,d,hd,d2,wx,hc⟩:=hc
  split at hc
  ·simp only[Option.bind_eq_some_iff] at hc
   obtain⟨sz,aP,hc⟩:=hc
   cases hc
  ·cases hc
 ·simp only[Option.bind_eq_bind,Option.bind_eq_some_iff] at hc
  obtain⟨o,ho,o2,By,d,hd,hc⟩:=hc
  split at hc
  ·simp only[Option.bind_eq_some_iff] at hc
   obtain⟨dk,cB,hc⟩:=hc
   split at hc<;>cases hc
  ·cases hc
 ·rename_i x rest
  simp only[Option.bind_eq_bind,Option.bind_eq_some_iff] at hc
  obtain⟨o,ho,os,kx,hc⟩:=hc
  cases hc
  have hl:=wN A kx
  obtain⟨c,hr,fZ⟩:=MA (P:=P) os (rest.map a.eval) _ _ _ (by have:=hl.1;simpa using this) (fun i y c h1 h2=>hl.2 i _ c (by rw[List.getElem?_map,h1];rfl) h2) (bF A ho) hv
  exact(eD.same (P:=P) (s:=Builtin.min_ _ ty _) H (by simp only[Builtin.min_,List.map_cons];exact hr) fZ).next
 ·rename_i x rest
  simp only[Option.bind_eq_bind,Option.bind_eq_some_iff] at hc
  obtain⟨o,ho,os,kx,hc⟩:=hc
  cases hc
  have hl:=wN A kx
  obtain⟨c,hr,fZ⟩:=MA (P:=P) os (rest.map a.eval) _ _ _ (by have:=hl.1;simpa using this) (fun i y c h1 h2=>hl.2 i _ c (by rw[List.getElem?_map,h1];rfl) h2) (bF A ho) hv
  exact(eD.same (P:=P) (s:=Builtin.max_ _ ty _) H (by simp only[Builtin.max_,List.map_cons];exact hr) fZ).next
 ·rename_i x
  simp only[Option.bind_eq_bind,Option.bind_eq_some_iff] at hc
  obtain⟨o,ho,hc⟩:=hc
  cases hc
  exact(ZJ (P:=P) H (im:=false) (bF A ho) ⟨ts⟩ ty hv).next
 ·rename_i x
  simp only[Option.bind_eq_bind,Option.bind_eq_some_iff] at hc
  obtain⟨o,ho,hc⟩:=hc
  cases hc
  exact(ZJ (P:=P) H (im:=true) (bF A ho) ⟨ts⟩ ty hv).next
 ·cases hc
theorem ard (H:HR ι I h w) {n:Nat} {ρ:Env} {a:Act} (A:AR ι I w n ρ a) {o:Oper} {q:a8} {v:AV} (hc:sB P md o.dst o.op=some (.p q)) (hv:aX q ρ h=some v):
 NP P ι I h w v (execOp a.eval o):=by
 obtain⟨dst,op,ty,pos,after,guard⟩:=o
 simp only at hc
 unfold sB at hc
 split at hc
 case h_1 x=>
  simp only[Option.bind_eq_bind,Option.bind_eq_some_iff] at hc
  obtain⟨o,ho,hc⟩:=hc
  cases hc;cases hv
  exact⟨_,w,I,rfl,bF A ho,H, .refl _ _ _ _ _⟩
 case h_2 x=>
  simp only[Option.bind_eq_bind,Option.bind_eq_some_iff] at hc
  obtain⟨o,ho,hc⟩:=hc
  cases hc;cases hv
  exact⟨_,w,I,rfl,bF A ho,H, .refl _ _ _ _ _⟩
 case h_3 c x y=>
  simp only[Option.bind_eq_bind,Option.bind_eq_some_iff] at hc
  obtain⟨oc,Gc,ox,bh,oy,iX,hc⟩:=hc
  cases hc
  simp only[aX] at hv
  have fZ:VR ι I w (oc.ev ρ) (a.eval c):=bF A Gc
  unfold Jj at hv
  split at hv
  ·rename_i t ht
   rw[ht] at fZ
   cases hv
   generalize hec:a.eval c=cc at fZ
   cases fZ
   refine⟨if t then a.eval x else a.eval y,w,I,?_,?_,H, .refl _ _ _ _ _⟩
   ·simp[execOp,hec,asBool]
   ·cases t
    ·exact bF A iX
    ·exact bF A bh
  ·cases hv
 case h_4 e=>simp only[Option.bind_eq_bind,Option.bind_eq_some_iff] at hc;obtain⟨_,_,hc⟩:=hc;cases hc
 case h_5 e x=>simp only[Option.bind_eq_bind,Option.bind_eq_some_iff] at hc;obtain⟨_,_,hc⟩:=hc;cases hc
 case h_6 t parts=>
  simp only[Option.bind_eq_bind,Option.bind_eq_some_iff] at hc
  obtain⟨za,dZ,d,hd,hc⟩:=hc
  split at hc
  ·rename_i fs
   simp only[Option.bind_eq_some_iff] at hc
   obtain⟨tH,hp,ps,qX,hc⟩:=hc
   cases hc
   simp only[aX] at hv
   cases hf:kJ ρ za ps with
   |none=>simp[hf] at hv
   |some r=>
    simp[hf] at hv
    subst hv
    obtain⟨i,z,hi,hz,aP,dj⟩:=uR dZ
    obtain⟨e1,e2⟩:=YO A qX
    refine(amD (P:=P) H (t:=t) (z:=z) (za:=za) (ps:=ps) (dG:=parts.map fun(p:Nat×Operand)=>(p.1,a.eval p.2)) (place:=(tH.toArray[·]?)) ?_ (rH dj).1 (by simpa using e1) ?_ hf).next
    ·intro cells lZ
     unfold Program.built
     simp only[hi,hd,hz,hp]
     exact lZ
    ·intro i' off sz j x c h1 h2
     obtain⟨h3,h4⟩:=e2 i' off sz j x c h1 (by simpa using h2)
     exact⟨by simpa using h3,h4⟩
  ·cases hc
 case h_7 t n parts=>
  simp only[Option.bind_eq_bind,Option.bind_eq_some_iff] at hc
  obtain⟨d,hd,hc⟩:=hc
  split at hc
  ·rename_i e
   simp only[Option.bind_eq_some_iff] at hc
   obtain⟨za,dZ,ps,qX,hc⟩:=hc
   split at hc
   ·rename_i fE
    split at hc
    ·cases hc
    ·cases hc
     simp only[aX] at hv
     cases hf:iQ ρ za.length (List.replicate n za) ps with
     |none=>simp[hf] at hv
     |some rows=>
      simp[hf] at hv
      subst hv
      obtain⟨i,z,hi,hz,aP,dj⟩:=uR dZ
      obtain⟨e1,e2⟩:=Nd A qX
      have dt:=rH (ι:=ι) (I:=I) (w:=w) dj
      have iv:za.length=i.size:=by rw[aP,dt.1.1];simp
      exact(alF (P:=P) H hd hi hz aP (by rw[<-iv];exact fE.2) dt.1 dt.2 fE.1 (dG:=parts.map fun(p:Nat×Operand)=>(p.1,a.eval p.2)) (by simpa using e1)
       (fun i' j k x c h1 h2=>e2 i' j k x c h1 (by simpa using h2)) hf).next
   ·cases hc
  ·cases hc
 case h_8 t x=>
  simp only[Option.bind_eq_bind,Option.bind_eq_some_iff] at hc
  obtain⟨d,hd,sz,aP,ox,bh,hc⟩:=hc
  cases hc
  exact(anu (P:=P) H hd aP (bF A bh) hv).next
 case h_9 t x y=>simp only[Option.bind_eq_bind,Option.bind_eq_some_iff] at hc;obtain⟨_,_,_,_,_,_,hc⟩:=hc;cases hc
 case h_10 x=>
  simp only[Option.bind_eq_bind,Option.bind_eq_some_iff] at hc
  obtain⟨ox,bh,hc⟩:=hc
  cases hc
  obtain⟨h1,h2,h3,h4,h5⟩:=ak3 H (bF A bh) hv
  refine⟨a.eval x,w,I,?_,h5,H, .refl _ _ _ _ _⟩
  simp only[execOp]
  generalize a.eval x=c at h1 h2 h3 h4 ⊢
  rfl
 case h_11 op t x y _=>
  simp only[Option.bind_eq_bind,Option.bind_eq_some_iff] at hc
  obtain⟨q',gP,hc⟩:=hc
  cases hc
  exact an6 H A gP hv
 case h_12 op _ x=>
  simp only[Option.bind_eq_bind,Option.bind_eq_some_iff] at hc
  obtain⟨ox,bh,hc⟩:=hc
  cases hc
  exact(ao9 (P:=P) H (bF A bh) hv).next
 case h_13 src Vp x=>
  simp only[Option.bind_eq_bind,Option.bind_eq_some_iff] at hc
  obtain⟨ox,bh,ds,wv,dd,pV,hc⟩:=hc
  split at hc
  ·cases hc
   exact(alW (P:=P) H wv pV (bF A bh) hv).next
  ·simp only[Option.bind_eq_some_iff] at hc
   obtain⟨de,mD,hc⟩:=hc
   split at hc
   ·cases hc;exact(ajS (P:=P) H wv mD pV (bF A bh) hv).next
   ·cases hc
  ·simp only[Option.bind_eq_some_iff] at hc
   obtain⟨de,mD,hc⟩:=hc
   split at hc
   ·cases hc;exact(ajB (P:=P) H wv pV mD (bF A bh) hv).next
   ·cases hc
  ·simp only[Option.bind_eq_some_iff] at hc
   obtain⟨de,mD,hc⟩:=hc
   split at hc
   ·split at hc<;>cases hc
   ·cases hc
  ·cases hc
 case h_14 f first captured=>
  simp only[Option.bind_eq_bind,Option.bind_eq_some_iff] at hc
  obtain⟨os,kx,cs,eF,hc⟩:=hc
  cases hc;cases hv
  have h1:=wN A kx
  have h2:=wN A eF
  refine⟨_,w,I,rfl,?_,H, .refl _ _ _ _ _⟩
  have:=VR.fn (ι:=ι) (I:=I) (w:=w) f _ _ _ _ h1.1 h2.1 h1.2 h2.2
  have e1:(first.toList.map a.eval).toArray=first.map a.eval:=by apply Array.ext';simp
  have e2:(captured.toList.map a.eval).toArray=captured.map a.eval:=by apply Array.ext';simp
  rw[e1,e2] at this
  exact this
 case h_15 t=>cases hc
 case h_16 t l c=>
  simp only[Option.bind_eq_bind,Option.bind_eq_some_iff] at hc
  obtain⟨d,hd,hc⟩:=hc
  split at hc
  ·rename_i e
   simp only[Option.bind_eq_some_iff] at hc
   obtain⟨za,dZ,i,hi,hc⟩:=hc
   split at hc
   ·rename_i fE
    simp only[Option.bind_eq_some_iff] at hc
    obtain⟨ol,Wv,oc,Gc,hc⟩:=hc
    split at hc
    ·cases hc
    ·cases hc
     simp only[aX] at hv
     cases hm:lT i.bytes (ol.ev ρ) (oc.ev ρ) with
     |none=>simp[hm] at hv
     |some k=>
      simp[hm] at hv
      subst hv
      obtain⟨i',z,aB,hz,aP,dj⟩:=uR dZ
      rw[hi] at aB
      cases aB
      have dt:=rH (ι:=ι) (I:=I) (w:=w) dj
      exact(akd (P:=P) H hd hi hz aP rfl dt.1 dt.2 fE (bF A Wv) (bF A Gc) hm).next
   ·cases hc
  ·cases hc
 case h_17 t x lo hi mx=>
  simp only[Option.bind_eq_bind,Option.bind_eq_some_iff] at hc
  obtain⟨d,hd,hc⟩:=hc
  split at hc
  ·rename_i e
   simp only[Option.bind_eq_some_iff] at hc
   obtain⟨sz,aP,ox,bh,olo,awr,ohi,awu,omx,awq,hc⟩:=hc
   cases hc
   exact(aol (P:=P) H hd aP (Ny A awr) (Ny A awu) (Ny A awq) (bF A bh) hv).next
  ·cases hc
 case h_18 s x f=>
  simp only[Option.bind_eq_bind,Option.bind_eq_some_iff] at hc
  obtain⟨d,hd,hc⟩:=hc
  split at hc
  ·simp only[Option.bind_eq_some_iff] at hc
   obtain⟨fd,WI,sz,aP,hc⟩:=hc
   split at hc
   ·rename_i h0
    simp only[Option.bind_eq_some_iff] at hc
    obtain⟨ox,bh,hc⟩:=hc
    cases hc
    exact(ams (P:=P) H hd WI aP h0 (bF A bh) hv).next
   ·cases hc
  ·cases hc
 case h_19 s x f=>
  simp only[Option.bind_eq_bind,Option.bind_eq_some_iff] at hc
  obtain⟨d,hd,hc⟩:=hc
  split at hc
  ·simp only[Option.bind_eq_some_iff] at hc
   obtain⟨fd,WI,dd,pV,sz,aP,ox,bh,hc⟩:=hc
   cases hc
   exact(aoI (P:=P) H hd WI pV aP (bF A bh) hv).next
  ·cases hc
 case h_20 t x i=>
  simp only[Option.bind_eq_bind,Option.bind_eq_some_iff] at hc
  obtain⟨d,hd,hc⟩:=hc
  split at hc
  ·simp only[Option.bind_eq_some_iff] at hc
   obtain⟨sz,aP,ox,bh,oi,lA,hc⟩:=hc
   cases hc
   exact(aln (P:=P) H hd aP (bF A bh) (bF A lA) hv).next
  ·simp only[Option.bind_eq_some_iff] at hc
   obtain⟨sz,aP,ox,bh,oi,lA,hc⟩:=hc
   cases hc
   exact(alo (P:=P) H hd aP (bF A bh) (bF A lA) hv).next
  ·cases hc
 case h_21 t x i=>
  simp only[Option.bind_eq_bind,Option.bind_eq_some_iff] at hc
  obtain⟨d,hd,hc⟩:=hc
  split at hc
  ·simp only[Option.bind_eq_some_iff] at hc
   obtain⟨dd,pV,sz,aP,ox,bh,oi,lA,hc⟩:=hc
   cases hc
   exact(anI (P:=P) H hd pV aP (bF A bh) (bF A lA) hv).next
  ·cases hc
 case h_22 t m k ok=>
  simp only[Option.bind_eq_bind,Option.bind_eq_some_iff] at hc
  obtain⟨d,hd,hc⟩:=hc
  split at hc
  ·simp only[Option.bind_eq_some_iff] at hc
   obtain⟨dk,cB,hc⟩:=hc
   split at hc
   ·simp only[Option.bind_eq_some_iff] at hc
    obtain⟨i,hi,z,hz,za,dZ,om,db,ok',awt,hc⟩:=hc
    cases hc
    exact(ak8 (P:=P) H hd cB hi hz (YN dZ) ok (bF A db) (bF A awt) hv).next
   ·cases hc
  ·cases hc
 case h_23 t m k x=>
  simp only[Option.bind_eq_bind,Option.bind_eq_some_iff] at hc
  obtain⟨d,hd,hc⟩:=hc
  split at hc
  ·simp only[Option.bind_eq_some_iff] at hc
   obtain⟨dk,cB,hc⟩:=hc
   split at hc
   ·simp only[Option.bind_eq_some_iff] at hc
    obtain⟨_,_,_,_,_,_,hc⟩:=hc
    cases hc
   ·cases hc
  ·cases hc
 case h_24 x i=>
  simp only[Option.bind_eq_bind,Option.bind_eq_some_iff] at hc
  obtain⟨ox,bh,hc⟩:=hc
  cases hc
  exact(aoK (P:=P) H (bF A bh) hv).next
 case h_25 c=>
  split at hc
  ·split at hc
   ·simp only[Option.bind_eq_bind,Option.bind_eq_some_iff] at hc;obtain⟨_,_,hc⟩:=hc;cases hc
   ·cases hc
  ·simp only[Option.bind_eq_bind,Option.bind_eq_some_iff] at hc;obtain⟨_,_,_,_,hc⟩:=hc;cases hc
  ·rename_i b hb
   obtain⟨c1,v1,I1,hr,DN⟩:=alD H A hc hv (c.args.map fun| .const _=>true|_=>false)
   refine⟨c1,v1,I1,?_,DN⟩
   simp only[execOp,resolve,hb,Sem.run_bind,Sem.run_pure,Result.andThen_ok,invoke]
   exact hr
  ·cases hc
 case h_26=>cases hc
theorem Hg {dst:Option Nat} {op:Op} {r:bU} (hc:te P md dst op=some r):cX P md dst op=some r\/sB P md dst op=some r\/r= .p .stuck:=by
 unfold te at hc
 split at hc
 ·rename_i r' h;cases hc;exact .inl h
 ·split at hc
  ·rename_i r' h;cases hc;exact .inr (.inl h)
  ·cases hc;exact .inr (.inr rfl)
theorem Hr {dst:Option Nat} {b:Builtin} {args:List Operand} {ts:List TypeId} {r:bU} (hc:cK P md dst b args ts=some r):
 (∃x y t tx a c e k za i,b= .append/\args=[x,y]/\ts=[t,tx]/\bd md.pr x=some a/\bd md.pr y=some c/\P.underlying t=some (.slice e)/\P.underlying tx=some (.int k)/\zeroOf P md e=some za/\P.info? e=some i/\za.length≠0/\r= .e (.po i.bytes za a c))\/
 (∃x t a e,b= .cap/\args=[x]/\ts=[t]/\bd md.pr x=some a/\P.underlying t=some (.slice e)/\r= .p (.tX a))\/
 (∃x t a e za,b= .clear/\args=[x]/\ts=[t]/\bd md.pr x=some a/\P.underlying t=some (.slice e)/\zeroOf P md e=some za/\za.length≠0/\r= .e (.px za a))\/
 (∃x y t tx a c e sz,b= .copy/\args=[x,y]/\ts=[t,tx]/\bd md.pr x=some a/\bd md.pr y=some c/\P.underlying t=some (.slice e)/\od P e=some sz/\r= .e (.nO sz a c)):=by
 unfold cK at hc
 split at hc
 ·rename_i x y t tx
  simp only[Option.bind_eq_bind,Option.bind_eq_some_iff] at hc
  obtain⟨a,ha,c,jj,d,hd,d2,wx,hc⟩:=hc
  split at hc
  ·rename_i e k
   simp only[Option.bind_eq_some_iff] at hc
   obtain⟨za,dZ,i,hi,hc⟩:=hc
   split at hc
   ·rename_i h0
    cases hc
    exact .inl ⟨x,y,t,tx,a,c,e,k,za,i,rfl,rfl,rfl,ha,jj,hd,wx,dZ,hi,h0,rfl⟩
   ·cases hc
  ·cases hc
 ·rename_i x t
  simp only[Option.bind_eq_bind,Option.bind_eq_some_iff] at hc
  obtain⟨a,ha,d,hd,hc⟩:=hc
  split at hc
  ·rename_i e
   cases hc
   exact .inr (.inl ⟨x,t,a,e,rfl,rfl,rfl,ha,hd,rfl⟩)
  ·cases hc
 ·rename_i x t
  simp only[Option.bind_eq_bind,Option.bind_eq_some_iff] at hc
  obtain⟨a,ha,d,hd,hc⟩:=hc
  split at hc
  ·rename_i e
   simp only[Option.bind_eq_some_iff] at hc
   obtain⟨za,dZ,hc⟩:=hc
   split at hc
   ·rename_i h0
    cases hc
    exact .inr (.inr (.inl ⟨x,t,a,e,za,rfl,rfl,rfl,ha,hd,dZ,h0,rfl⟩))
   ·cases hc
  ·cases hc
 ·rename_i x y t tx
  split at hc
  ·simp only[Option.bind_eq_bind,Option.bind_eq_some_iff] at hc
   obtain⟨a,ha,c,jj,d,hd,hc⟩:=hc
   split at hc
   ·rename_i e
    simp only[Option.bind_eq_some_iff] at hc
    obtain⟨sz,aP,hc⟩:=hc
    cases hc
    exact .inr (.inr (.inr ⟨x,y,t,tx,a,c,e,sz,rfl,rfl,rfl,ha,jj,hd,aP,rfl⟩))
   ·cases hc
  ·cases hc
 ·cases hc
theorem amm {f:Nat} {t:TypeId} (hf:Q8 P f=some t) (args:Array Value) (w:World):
 ∃t2 rt,(callFunc f args).run P w=((Extern.SlicesOverlaps.overlaps #[t,t2] #[rt] args).run P w).andThen fun v w'=> .ok (.value v) w':=by
 unfold Q8 at hf
 split at hf
 ·rename_i fn ji
  split at hf
  ·rename_i t' t2 rt hp hr
   split at hf
   ·rename_i fE
    rw[Option.some.injEq] at hf
    subst hf
    simp only[Bool.and_eq_true,bne_iff_ne,ne_eq,beq_iff_eq,Option.isNone_iff_eq_none] at fE
    obtain⟨⟨⟨⟨⟨⟨h1,h2⟩,h3⟩,h4⟩,h5⟩,h6⟩,h7⟩:=fE
    have ep:fn.params= #[t',t2]:=by apply Array.ext';simpa using hp
    have er:fn.resultTypes= #[rt]:=by apply Array.ext';simpa using hr
    have g1:Extern.allGenericRows.lookup "slices.overlaps" =none:=by kernel_rfl
    have g2:Extern.allTypedRows.lookup "slices.overlaps" =some Extern.SlicesOverlaps.overlaps:=by kernel_rfl
    have g3:Extern.allNextRows.lookup "slices.overlaps" =none:=by kernel_rfl
    have e1:Extern.findNext fn=none:=by simp[Extern.findNext,h3,h7,g3]
    have e2:Extern.find fn=some (Extern.SlicesOverlaps.overlaps #[t',t2] #[rt]):=by simp[Extern.find,h3,h4,h5,h6,g1,g2,ep,er]
    exact⟨t2,rt,run_callFunc_extern ji (by simpa using h1) (by simp[h2]) e1 e2 args w⟩
   ·cases hf
  ·cases hf
 ·cases hf
theorem auT (H:HR ι I h w) {n:Nat} {ρ:Env} {a:Act} (A:AR ι I w n ρ a) {o:Oper} {q:a8} {v:AV} (hc:te P md o.dst o.op=some (.p q)) (hv:aX q ρ h=some v):
 NP P ι I h w v (execOp a.eval o):=by
 replace hc:=Hg hc
 rcases hc with hc|hc|hc
 ·obtain⟨dst,op,ty,pos,after,guard⟩:=o
  simp only at hc
  unfold cX at hc
  split at hc
  ·rename_i t x i
   simp only[Option.bind_eq_bind,Option.bind_eq_some_iff] at hc
   obtain⟨d,hd,hc⟩:=hc
   split at hc
   ·simp only[Option.bind_eq_some_iff] at hc
    obtain⟨ox,bh,oi,lA,hc⟩:=hc
    cases hc
    exact(alm (P:=P) H hd (bF A bh) (bF A lA) hv).next
   ·cases hc
  ·simp only[Option.bind_eq_bind,Option.bind_eq_some_iff] at hc
   obtain⟨d,hd,hc⟩:=hc
   split at hc
   ·simp only[Option.bind_eq_some_iff] at hc
    obtain⟨ox,bh,hc⟩:=hc
    cases hc
    simp only[aX] at hv
    cases hv
   ·cases hc
  ·split at hc
   ·cases hc
   ·simp only[Option.map_eq_some_iff] at hc
    obtain⟨ox,bh,hc⟩:=hc
    cases hc
    simp only[aX] at hv
    cases hv
  ·simp only[Option.map_eq_some_iff] at hc
   obtain⟨ox,bh,hc⟩:=hc
   cases hc
   simp only[aX] at hv
   cases hv
  ·rename_i c
   split at hc
   ·rename_i f hf
    split at hc
    ·rename_i t x y ht ez
     simp only[Option.bind_eq_bind,Option.bind_eq_some_iff] at hc
     obtain⟨d,hd,hc⟩:=hc
     split at hc
     ·simp only[Option.bind_eq_some_iff] at hc
      obtain⟨sz,aP,ox,bh,oy,iX,hc⟩:=hc
      cases hc
      obtain⟨t2,rt,bQ⟩:=amm (P:=P) ht #[a.eval x,a.eval y] w
      obtain⟨c1,w1,I1,hr,fZ,H1,E1⟩:=aop (P:=P) (t2:=t2) (rt:=rt) H hd aP (bF A bh) (bF A iX) hv
      refine⟨c1,w1,I1,?_,fZ,H1,E1⟩
      have ea:c.args= #[x,y]:=by apply Array.ext';simpa using ez
      simp only[execOp,resolve,hf,Act.eval,Deferred.ofValue,Sem.run_bind,Sem.run_pure,Result.andThen_ok,invoke,ea]
      simp only[List.map_toArray,List.map_cons,List.map_nil]
      have:=bQ
      rw[hr] at this
      simpa using this
     ·cases hc
    ·cases hc
   ·rename_i b hb
    rcases Hr hc with⟨_,_,_,_,_,_,_,_,_,_,_,_,_,_,_,_,_,_,_,_,h⟩|⟨x,t,o,e,rfl,ez,qV,ho,ht,h⟩|⟨_,_,_,_,_,_,_,_,_,_,_,_,h⟩|⟨_,_,_,_,_,_,_,_,_,_,_,_,_,_,_,h⟩
    ·cases h
    ·cases h
     simp only[aX] at hv
     cases bt:vS (o.ev ρ) with
     |none=>simp[bt] at hv
     |some k=>
      simp[bt] at hv
      subst hv
      obtain⟨c1,w1,I1,hr,fZ,H1,E1⟩:=aoR (P:=P) (ty:=ty) H ht (bF A ho) bt
      refine⟨c1,w1,I1,?_,fZ,H1,E1⟩
      have ea:c.args= #[x]:=by apply Array.ext';simpa using ez
      have et:c.argTypes= #[t]:=by apply Array.ext';simpa using qV
      simp only[execOp,resolve,hb,Sem.run_bind,Sem.run_pure,Result.andThen_ok,invoke,ea,et,List.map_toArray,List.map_cons,List.map_nil,builtin]
      simp[hr]
    ·cases h
    ·cases h
   ·cases hc
  ·cases hc
 ·exact ard H A hc hv
 ·cases hc;cases hv
end
end
section
open Go
section
variable {P:Program} {md:Mode} {ι:aI} {I:aR} {h:aa} {w:World}
theorem arf (H:HR ι I h w) {n:Nat} {ρ:Env} {a:Act} (A:AR ι I w n ρ a) {o:Oper} {q:kD} {id:Nat} (aL:ι id=none) {b:cI} {v:AV} (hc:sB P md o.dst o.op=some (.a q)) (hv:ic q ρ id=some (b,v)):
 NE P ι I h w id v (h.at id b) (execOp a.eval o):=by
 obtain⟨dst,op,ty,pos,after,guard⟩:=o
 simp only at hc
 unfold sB at hc
 split at hc
 case h_4 e=>
  simp only[Option.bind_eq_bind,Option.bind_eq_some_iff] at hc
  obtain⟨za,dZ,hc⟩:=hc
  cases hc
  simp only[ic,Option.some.injEq,Prod.mk.injEq] at hv
  obtain⟨rfl,rfl⟩:=hv
  obtain⟨i,z,hi,hz,aP,dj⟩:=uR dZ
  have dt:=rH (ι:=ι) (I:=I) (w:=w) dj
  exact(amJ (P:=P) H aL hi hz dt.1 dt.2).next
 case h_5 e x=>
  simp only[Option.bind_eq_bind,Option.bind_eq_some_iff] at hc
  obtain⟨ox,bh,hc⟩:=hc
  cases hc
  simp only[ic] at hv
  split at hv
  ·rename_i gM
   simp only[Option.some.injEq,Prod.mk.injEq] at hv
   obtain⟨rfl,rfl⟩:=hv
   exact(ao6 (P:=P) H aL (bF A bh) gM e).next
  ·cases hv
 case h_7 t n parts=>
  simp only[Option.bind_eq_bind,Option.bind_eq_some_iff] at hc
  obtain⟨d,hd,hc⟩:=hc
  split at hc
  ·rename_i e
   simp only[Option.bind_eq_some_iff] at hc
   obtain⟨za,dZ,ps,qX,hc⟩:=hc
   split at hc
   ·rename_i fE
    split at hc
    ·cases hc
     simp only[ic] at hv
     cases hf:iQ ρ za.length (List.replicate n za) ps with
     |none=>simp[hf] at hv
     |some rows=>
      simp[hf] at hv
      obtain⟨rfl,rfl⟩:=hv
      obtain⟨i,z,hi,hz,aP,dj⟩:=uR dZ
      obtain⟨e1,e2⟩:=Nd A qX
      have dt:=rH (ι:=ι) (I:=I) (w:=w) dj
      have iv:za.length=i.size:=by rw[aP,dt.1.1];simp
      exact(akB (P:=P) H aL hd hi hz aP (by rw[<-iv];exact fE.2) dt.1 dt.2 fE.1 (dG:=parts.map fun(p:Nat×Operand)=>(p.1,a.eval p.2)) (by simpa using e1)
       (fun i' j k x c h1 h2=>e2 i' j k x c h1 (by simpa using h2)) hf).next
    ·cases hc
   ·cases hc
  ·cases hc
 case h_13 src Vp x=>
  simp only[Option.bind_eq_bind,Option.bind_eq_some_iff] at hc
  obtain⟨ox,bh,ds,wv,dd,pV,hc⟩:=hc
  split at hc
  ·cases hc
  ·simp only[Option.bind_eq_some_iff] at hc
   obtain⟨de,mD,hc⟩:=hc
   split at hc<;>cases hc
  ·simp only[Option.bind_eq_some_iff] at hc
   obtain⟨de,mD,hc⟩:=hc
   split at hc<;>cases hc
  ·simp only[Option.bind_eq_some_iff] at hc
   obtain⟨de,mD,hc⟩:=hc
   split at hc
   ·split at hc
    ·cases hc
    ·cases hc
   ·cases hc
  ·cases hc
 case h_15 t=>
  cases hc
  simp only[ic,Option.some.injEq,Prod.mk.injEq] at hv
  obtain⟨rfl,rfl⟩:=hv
  exact(ame (P:=P) H aL t).next
 case h_16 t l c=>
  simp only[Option.bind_eq_bind,Option.bind_eq_some_iff] at hc
  obtain⟨d,hd,hc⟩:=hc
  split at hc
  ·rename_i e
   simp only[Option.bind_eq_some_iff] at hc
   obtain⟨za,dZ,i,hi,hc⟩:=hc
   split at hc
   ·rename_i fE
    simp only[Option.bind_eq_some_iff] at hc
    obtain⟨ol,Wv,oc,Gc,hc⟩:=hc
    split at hc
    ·cases hc
     simp only[ic] at hv
     cases hm:lT i.bytes (ol.ev ρ) (oc.ev ρ) with
     |none=>simp[hm] at hv
     |some k=>
      simp[hm] at hv
      obtain⟨rfl,rfl⟩:=hv
      obtain⟨i',z,aB,hz,aP,dj⟩:=uR dZ
      rw[hi] at aB
      cases aB
      have dt:=rH (ι:=ι) (I:=I) (w:=w) dj
      exact(ajI (P:=P) H aL hd hi hz aP rfl dt.1 dt.2 fE (bF A Wv) (bF A Gc) hm).next
    ·cases hc
   ·cases hc
  ·cases hc
 case h_25 c=>
  split at hc
  ·split at hc
   ·simp only[Option.bind_eq_bind,Option.bind_eq_some_iff] at hc;obtain⟨_,_,hc⟩:=hc;cases hc
   ·cases hc
  ·simp only[Option.bind_eq_bind,Option.bind_eq_some_iff] at hc;obtain⟨_,_,_,_,hc⟩:=hc;cases hc
  ·rename_i b' hb
   unfold wR at hc
   split at hc<;>try simp only[Option.bind_eq_bind,Option.bind_eq_some_iff] at hc
   ·obtain⟨_,_,_,_,hc⟩:=hc;split at hc<;>cases hc
   ·obtain⟨_,_,_,_,_,_,_,_,hc⟩:=hc
    split at hc
    ·simp only[Option.bind_eq_some_iff] at hc
     obtain⟨_,_,_,_,hc⟩:=hc
     split at hc
     ·split at hc<;>cases hc
     ·cases hc
    ·cases hc
   ·obtain⟨_,_,_,_,_,_,_,_,hc⟩:=hc
    split at hc
    ·simp only[Option.bind_eq_some_iff] at hc;obtain⟨_,_,hc⟩:=hc;cases hc
    ·cases hc
   ·obtain⟨_,_,_,_,_,_,hc⟩:=hc
    split at hc
    ·simp only[Option.bind_eq_some_iff] at hc;obtain⟨_,_,hc⟩:=hc;split at hc<;>cases hc
    ·cases hc
   ·obtain⟨_,_,_,_,hc⟩:=hc;cases hc
   ·obtain⟨_,_,_,_,hc⟩:=hc;cases hc
   ·obtain⟨_,_,hc⟩:=hc;cases hc
   ·obtain⟨_,_,hc⟩:=hc;cases hc
   ·cases hc
  ·cases hc
 all_goals (first
  |(cases hc;done)
  |(simp only[Option.bind_eq_bind,Option.bind_eq_some_iff] at hc
    first
    |(obtain⟨_,_,hc⟩:=hc;cases hc;done)
    |(obtain⟨_,_,_,_,hc⟩:=hc;cases hc;done)
    |(obtain⟨_,_,_,_,_,_,hc⟩:=hc;cases hc;done)
    |(obtain⟨_,_,hc⟩:=hc
      split at hc<;>first
       |(cases hc;done)
       |(simp only[Option.bind_eq_some_iff] at hc
         first
         |(obtain⟨_,_,_,_,_,_,hc⟩:=hc;cases hc;done)
         |(obtain⟨_,_,_,_,_,_,_,_,hc⟩:=hc;cases hc;done)
         |(obtain⟨_,_,_,_,_,_,_,_,_,_,hc⟩:=hc;cases hc;done)
         |(obtain⟨_,_,_,_,hc⟩:=hc;cases hc;done)
         |(obtain⟨_,_,_,_,hc⟩:=hc
           split at hc
           ·simp only[Option.bind_eq_some_iff] at hc;obtain⟨_,_,hc⟩:=hc;cases hc
           ·cases hc)
         |(obtain⟨_,_,hc⟩:=hc
           split at hc<;>first
            |(cases hc;done)
            |(simp only[Option.bind_eq_some_iff] at hc
              first
              |(obtain⟨_,_,_,_,_,_,_,_,_,_,hc⟩:=hc;cases hc;done)
              |(obtain⟨_,_,_,_,_,_,hc⟩:=hc;cases hc;done)))))
    |(obtain⟨_,_,_,_,_,_,hc⟩:=hc
      split at hc<;>first
       |(cases hc;done)
       |(simp only[Option.bind_eq_some_iff] at hc
         obtain⟨_,_,hc⟩:=hc
         split at hc<;>cases hc))
    |(obtain⟨_,_,_,_,hc⟩:=hc
      split at hc
      ·simp only[Option.bind_eq_some_iff] at hc;obtain⟨_,_,_,_,hc⟩:=hc;cases hc
      ·cases hc)))
theorem amA {ρ:Env} {sz id:Nat} {x y:au} {v:AV} {h h':aa} (hv:bN (.copy sz x y) ρ id h=some (v,h')): ∃u,cQ sz h (y.ev ρ)=some u:=by
 simp only[bN] at hv
 split at hv
 ·split at hv
  ·rename_i ys cs h1 h2;exact⟨ys,h1⟩
  ·cases hv
 ·split at hv
  ·rename_i ys h1;exact⟨ys,h1⟩
  ·cases hv
 ·split at hv
  ·rename_i ys h1;exact⟨ys,h1⟩
  ·cases hv
 ·cases hv
theorem alE (H:HR ι I h w) {n:Nat} {ρ:Env} {a:Act} (A:AR ι I w n ρ a) {dst:Option Nat} {b:Builtin} {args:Array Operand} {ts:Array TypeId} {ty:TypeId} {q:gf} {id:Nat} (aL:ι id=none) {v:AV} {h':aa}
 (hc:wR P md dst b args.toList ts.toList=some (.e q)) (hv:bN q ρ id h=some (v,h')) (cs:Array Bool):NE P ι I h w id v h' (builtin b ts ty cs (args.map a.eval)):=by
 obtain⟨args⟩:=args
 obtain⟨ts⟩:=ts
 simp only[List.map_toArray] at*
 unfold wR at hc
 split at hc<;>try simp only[Option.bind_eq_bind,Option.bind_eq_some_iff] at hc
 ·obtain⟨_,_,_,_,hc⟩:=hc;split at hc<;>cases hc
 ·rename_i x y t tx
  obtain⟨ox,bh,oy,iX,d,hd,d2,wx,hc⟩:=hc
  split at hc
  ·rename_i e e'
   simp only[Option.bind_eq_some_iff] at hc
   obtain⟨i,hi,z,hz,hc⟩:=hc
   split at hc
   ·rename_i fE
    obtain⟨rfl,sO,h0⟩:=fE
    have T:t9 P t tx e i.size i.bytes:=⟨hd,wx,⟨i,z,hi,hz,rfl,rfl,sO⟩,h0⟩
    split at hc
    ·cases hc
     exact(akF (P:=P) H aL T (bF A bh) (bF A iX) rfl rfl hv).next
    ·cases hc
     exact(alH (P:=P) H aL T (bF A bh) (bF A iX) rfl rfl hv).next
   ·cases hc
  ·cases hc
 ·rename_i x y t tx
  obtain⟨ox,bh,oy,iX,d,hd,d2,wx,hc⟩:=hc
  split at hc
  ·rename_i e e'
   simp only[Option.bind_eq_some_iff] at hc
   obtain⟨sz,aP,hc⟩:=hc
   cases hc
   have yI:VR ι I w (oy.ev ρ) (a.eval y):=bF A iX
   have pP:(∃u,cQ sz h (oy.ev ρ)=some u)-> ∃p q r,a.eval y= .slice p q r:=by
    rintro⟨u,hu⟩
    obtain⟨p,q,r,hq,_⟩:=wO H yI hu
    exact⟨_,_,_,hq⟩
   exact(an1 (P:=P) H hd aP id (bF A bh) yI rfl rfl hv ⟨_,wx⟩ (pP (amA hv))).next
  ·cases hc
 ·rename_i m k t tx
  obtain⟨om,db,ok,aY,d,hd,hc⟩:=hc
  split at hc
  ·simp only[Option.bind_eq_some_iff] at hc
   obtain⟨dk,cB,hc⟩:=hc
   split at hc
   ·cases hc
    exact(ak6 (P:=P) H id hd cB (bF A db) (bF A aY) rfl rfl hv).next
   ·cases hc
  ·cases hc
 ·obtain⟨_,_,_,_,hc⟩:=hc;cases hc
 ·obtain⟨_,_,_,_,hc⟩:=hc;cases hc
 ·obtain⟨_,_,hc⟩:=hc;cases hc
 ·obtain⟨_,_,hc⟩:=hc;cases hc
 ·cases hc
theorem are (H:HR ι I h w) {n:Nat} {ρ:Env} {a:Act} (A:AR ι I w n ρ a) {o:Oper} {q:gf} {id:Nat} (aL:ι id=none) {v:AV} {h':aa} (hc:sB P md o.dst o.op=some (.e q)) (hv:bN q ρ id h=some (v,h')):
 NE P ι I h w id v h' (execOp a.eval o):=by
 obtain⟨dst,op,ty,pos,after,guard⟩:=o
 simp only at hc
 unfold sB at hc
 split at hc
 case h_7 t n parts=>
  simp only[Option.bind_eq_bind,Option.bind_eq_some_iff] at hc
  obtain⟨d,hd,hc⟩:=hc
  split at hc
  ·simp only[Option.bind_eq_some_iff] at hc
   obtain⟨_,_,_,_,hc⟩:=hc
   split at hc
   ·split at hc<;>cases hc
   ·cases hc
  ·cases hc
 case h_9 t x y=>
  simp only[Option.bind_eq_bind,Option.bind_eq_some_iff] at hc
  obtain⟨sz,aP,ox,bh,oy,iX,hc⟩:=hc
  cases hc
  obtain⟨rfl,w',hr,H',E⟩:=al1 (P:=P) H aP (bF A bh) (bF A iX) hv
  exact⟨_, .bool true,w',ι,I,by simp[execOp,hr], .inr ⟨rfl,rfl⟩, .undef _,H',E.mono (fun _ h=>h.elim)⟩
 case h_13 src Vp x=>
  simp only[Option.bind_eq_bind,Option.bind_eq_some_iff] at hc
  obtain⟨ox,bh,ds,wv,dd,pV,hc⟩:=hc
  split at hc
  ·cases hc
  ·simp only[Option.bind_eq_some_iff] at hc
   obtain⟨de,mD,hc⟩:=hc
   split at hc<;>cases hc
  ·simp only[Option.bind_eq_some_iff] at hc
   obtain⟨de,mD,hc⟩:=hc
   split at hc<;>cases hc
  ·simp only[Option.bind_eq_some_iff] at hc
   obtain⟨de,mD,hc⟩:=hc
   split at hc
   ·split at hc
    ·rename_i Wr
     cases hc
     subst Wr
     exact(anr (P:=P) H wv mD id (bF A bh) rfl hv).next
    ·cases hc
   ·cases hc
  ·cases hc
 case h_16 t l c=>
  simp only[Option.bind_eq_bind,Option.bind_eq_some_iff] at hc
  obtain⟨d,hd,hc⟩:=hc
  split at hc
  ·simp only[Option.bind_eq_some_iff] at hc
   obtain⟨_,_,_,_,hc⟩:=hc
   split at hc
   ·simp only[Option.bind_eq_some_iff] at hc
    obtain⟨_,_,_,_,hc⟩:=hc
    split at hc<;>cases hc
   ·cases hc
  ·cases hc
 case h_23 t m k x=>
  simp only[Option.bind_eq_bind,Option.bind_eq_some_iff] at hc
  obtain⟨d,hd,hc⟩:=hc
  split at hc
  ·simp only[Option.bind_eq_some_iff] at hc
   obtain⟨dk,cB,hc⟩:=hc
   split at hc
   ·simp only[Option.bind_eq_some_iff] at hc
    obtain⟨om,db,ok,aY,ov,pQ,hc⟩:=hc
    cases hc
    obtain⟨rfl,w',hr,H',E⟩:=ak5 (P:=P) H id hd cB (bF A db) (bF A aY) (bF A pQ) rfl rfl rfl hv
    exact⟨_, .bool true,w',ι,I,by simp[execOp,hr], .inr ⟨rfl,rfl⟩, .undef _,H',E.mono (fun _ h=>h.elim)⟩
   ·cases hc
  ·cases hc
 case h_25 c=>
  split at hc
  ·split at hc
   ·simp only[Option.bind_eq_bind,Option.bind_eq_some_iff] at hc;obtain⟨_,_,hc⟩:=hc;cases hc
   ·cases hc
  ·simp only[Option.bind_eq_bind,Option.bind_eq_some_iff] at hc;obtain⟨_,_,_,_,hc⟩:=hc;cases hc
  ·rename_i b hb
   obtain⟨x1,c1,w1,ι1,I1,hr,DN⟩:=alE H A (ty:=ty) aL hc hv (c.args.map fun| .const _=>true|_=>false)
   refine⟨x1,c1,w1,ι1,I1,?_,DN⟩
   simp only[execOp,resolve,hb,Sem.run_bind,Sem.run_pure,Result.andThen_ok,invoke]
   exact hr
  ·cases hc
 all_goals (first
  |(cases hc;done)
  |(simp only[Option.bind_eq_bind,Option.bind_eq_some_iff] at hc
    first
    |(obtain⟨_,_,hc⟩:=hc;cases hc;done)
    |(obtain⟨_,_,_,_,hc⟩:=hc;cases hc;done)
    |(obtain⟨_,_,_,_,_,_,hc⟩:=hc;cases hc;done)
    |(obtain⟨_,_,hc⟩:=hc
      split at hc<;>first
       |(cases hc;done)
       |(simp only[Option.bind_eq_some_iff] at hc
         first
         |(obtain⟨_,_,_,_,_,_,hc⟩:=hc;cases hc;done)
         |(obtain⟨_,_,_,_,_,_,_,_,hc⟩:=hc;cases hc;done)
         |(obtain⟨_,_,_,_,_,_,_,_,_,_,hc⟩:=hc;cases hc;done)
         |(obtain⟨_,_,_,_,hc⟩:=hc;cases hc;done)
         |(obtain⟨_,_,_,_,hc⟩:=hc
           split at hc
           ·simp only[Option.bind_eq_some_iff] at hc;obtain⟨_,_,hc⟩:=hc;cases hc
           ·cases hc)
         |(obtain⟨_,_,hc⟩:=hc
           split at hc<;>first
            |(cases hc;done)
            |(simp only[Option.bind_eq_some_iff] at hc
              first
              |(obtain⟨_,_,_,_,_,_,_,_,_,_,hc⟩:=hc;cases hc;done)
              |(obtain⟨_,_,_,_,_,_,hc⟩:=hc;cases hc;done)))))
    |(obtain⟨_,_,_,_,_,_,hc⟩:=hc
      split at hc<;>first
       |(cases hc;done)
       |(simp only[Option.bind_eq_some_iff] at hc
         obtain⟨_,_,hc⟩:=hc
         split at hc<;>cases hc))
    |(obtain⟨_,_,_,_,hc⟩:=hc
      split at hc
      ·simp only[Option.bind_eq_some_iff] at hc;obtain⟨_,_,_,_,hc⟩:=hc;cases hc
      ·cases hc)))
theorem Nw {dst:Option Nat} {op:Op} {r:bU} (hc:cX P md dst op=some r):
 (∃q,r= .p q)\/ ∃c b,op= .call c/\c.callee= .builtin b/\cK P md dst b c.args.toList c.argTypes.toList=some r:=by
 unfold cX at hc
 split at hc
 ·simp only[Option.bind_eq_bind,Option.bind_eq_some_iff] at hc
  obtain⟨d,hd,hc⟩:=hc
  split at hc
  ·simp only[Option.bind_eq_some_iff] at hc
   obtain⟨ox,bh,oi,lA,hc⟩:=hc
   cases hc
   exact .inl ⟨_,rfl⟩
  ·cases hc
 ·simp only[Option.bind_eq_bind,Option.bind_eq_some_iff] at hc
  obtain⟨d,hd,hc⟩:=hc
  split at hc
  ·simp only[Option.bind_eq_some_iff] at hc
   obtain⟨ox,bh,hc⟩:=hc
   cases hc
   exact .inl ⟨_,rfl⟩
  ·cases hc
 ·split at hc
  ·cases hc
  ·simp only[Option.map_eq_some_iff] at hc
   obtain⟨ox,bh,hc⟩:=hc
   cases hc
   exact .inl ⟨_,rfl⟩
 ·simp only[Option.map_eq_some_iff] at hc
  obtain⟨ox,bh,hc⟩:=hc
  cases hc
  exact .inl ⟨_,rfl⟩
 ·rename_i c
  split at hc
  ·split at hc
   ·simp only[Option.bind_eq_bind,Option.bind_eq_some_iff] at hc
    obtain⟨d,hd,hc⟩:=hc
    split at hc
    ·simp only[Option.bind_eq_some_iff] at hc
     obtain⟨_,_,_,_,_,_,hc⟩:=hc
     cases hc
     exact .inl ⟨_,rfl⟩
    ·cases hc
   ·cases hc
  ·rename_i b hb
   exact .inr ⟨c,b,rfl,hb,hc⟩
  ·cases hc
 ·cases hc
theorem auV (H:HR ι I h w) {n:Nat} {ρ:Env} {a:Act} (A:AR ι I w n ρ a) {o:Oper} {q:kD} {id:Nat} (aL:ι id=none) {b:cI} {v:AV} (hc:te P md o.dst o.op=some (.a q)) (hv:ic q ρ id=some (b,v)):
 NE P ι I h w id v (h.at id b) (execOp a.eval o):=by
 rcases Hg hc with h1|h1|h1
 ·rcases Nw h1 with⟨q,h⟩|⟨c,b',-,-,hk⟩
  ·cases h
  ·rcases Hr hk with⟨_,_,_,_,_,_,_,_,_,_,_,_,_,_,_,_,_,_,_,_,h⟩|⟨_,_,_,_,_,_,_,_,_,h⟩|⟨_,_,_,_,_,_,_,_,_,_,_,_,h⟩|⟨_,_,_,_,_,_,_,_,_,_,_,_,_,_,_,h⟩<;>cases h
 ·exact arf H A aL h1 hv
 ·cases h1
theorem auU (H:HR ι I h w) {n:Nat} {ρ:Env} {a:Act} (A:AR ι I w n ρ a) {o:Oper} {q:gf} {id:Nat} (aL:ι id=none) {v:AV} {h':aa} (hc:te P md o.dst o.op=some (.e q)) (hv:bN q ρ id h=some (v,h')):
 NE P ι I h w id v h' (execOp a.eval o):=by
 rcases Hg hc with h1|h1|h1
 ·rcases Nw h1 with⟨q,h⟩|⟨c,b',bO,hb,hk⟩
  ·cases h
  ·obtain⟨dst,op,ty,pos,after,guard⟩:=o
   simp only at bO
   subst bO
   have key:NE P ι I h w id v h' (builtin b' c.argTypes ty (c.args.map fun| .const _=>true|_=>false) (c.args.map a.eval)):=by
    rcases Hr hk with⟨x,y,t,tx,ox,oy,e,k,za,i,rfl,ez,qV,bh,iX,ht,ui,dZ,hi,h0,h⟩|⟨_,_,_,_,_,_,_,_,_,h⟩|⟨x,t,ox,e,za,rfl,ez,qV,bh,ht,dZ,h0,h⟩|⟨x,y,t,tx,ox,oy,e,sz,rfl,ez,qV,bh,iX,ht,aP,h⟩
    ·cases h
     have ea:c.args= #[x,y]:=by apply Array.ext';simpa using ez
     have et:c.argTypes= #[t,tx]:=by apply Array.ext';simpa using qV
     obtain⟨i',z,aB,hz,aP,dj⟩:=uR dZ
     rw[hi] at aB
     cases aB
     have dt:=rH (ι:=ι) (I:=I) (w:=w) dj
     have:=(akE (P:=P) (ty:=ty) H aL ht ui hi hz aP dt.1 dt.2 h0 (bF A bh) (bF A iX) rfl rfl hv).next
     rw[ea,et]
     simpa [builtin] using this
    ·cases h
    ·cases h
     have ea:c.args= #[x]:=by apply Array.ext';simpa using ez
     have et:c.argTypes= #[t]:=by apply Array.ext';simpa using qV
     obtain⟨i,z,hi,hz,aP,dj⟩:=uR dZ
     have dt:=rH (ι:=ι) (I:=I) (w:=w) dj
     have:=(alx (P:=P) (ty:=ty) H ht hi hz dt.1 dt.2 h0 id (bF A bh) rfl hv).next
     rw[ea,et]
     simpa [builtin] using this
    ·cases h
     have ea:c.args= #[x,y]:=by apply Array.ext';simpa using ez
     have et:c.argTypes= #[t,tx]:=by apply Array.ext';simpa using qV
     have:=(amB (P:=P) (ty:=ty) (tx:=tx) H ht aP id (bF A bh) (bF A iX) rfl rfl hv).next
     rw[ea,et]
     simpa [builtin] using this
   obtain⟨x1,c1,w1,ι1,I1,hr,DN⟩:=key
   refine⟨x1,c1,w1,ι1,I1,?_,DN⟩
   simp only[execOp,resolve,hb,Sem.run_bind,Sem.run_pure,Result.andThen_ok,invoke]
   exact hr
 ·exact are H A aL h1 hv
 ·cases h1
end
end
end Go.Proofs.YtmffhohcjifllaaGreat.Am
