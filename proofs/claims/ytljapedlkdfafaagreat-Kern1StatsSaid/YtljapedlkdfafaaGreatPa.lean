/- An abstract machine, and that what it does the program's model does. Conditions: none. -/
import Derived.Orders
import Derived.Laws.Sem
import Derived.Laws.World
import Derived.Laws.Cells
import Derived.Laws.Rows
import Derived.Below
import Derived.Deep.MidRow
import Derived.Deep.AppendSrc
import Derived.Laws.MakeOwn
import Derived.Great.BuildSlice
import Derived.Laws.Small
import Derived.Laws.StructEq
import Derived.Deep.Upon
import Derived.Lib.AppendZerosOnto
import Derived.Lib.Overlaps
import Derived.Scope
import Derived.LoopN
import Derived.ProofKit
import Derived.WideKeyArgs
import Derived.Handed
set_option maxRecDepth 100000
set_option maxHeartbeats 8000000
set_option linter.unusedSimpArgs false
set_option linter.unusedVariables false
set_option linter.unnecessarySimpa false
namespace Go.Proofs.YtljapedlkdfafaaGreat.Am
section
open Go
inductive aH where
 |ao
 |full
 |own (t:Nat)
 deriving DecidableEq,Repr,Inhabited
inductive AV where
 |undef
 |int (k:IntKind) (n:Int)
 |bool (b:Bool)
 |fU (k:FloatKind) (b:Nat)
 |fX (k:FloatKind) (re im:Nat)
 |str (s:ByteArray)
 |nil
 |ptr (b off:Nat)
 |vp (xs:List AV) (off:Nat)
 |vs (xs:List (List AV)) (t:aH)
 |bA
 |rs (b off len sz:Nat)
 |rk (b off len sz cap:Nat)
 |vz
 |map (b:Option Nat)
 |fn (f:Nat) (first d9:List AV)
 |jm
 |agg (cs:List AV)
 |ay (vs:List AV)
 |fw
 deriving Inhabited
def AV.cells:AV->List AV
 | .agg cs=>cs
 |v=>[v]
def AV.one:AV->Bool
 | .agg _=>false
 | .ay _=>false
 | .undef=>false
 |_=>true
inductive cI where
 |cells (cs:List AV)
 |map (es:List (AV×AV))
 |tail
 deriving Inhabited
structure aa where
 get:Nat->Option cI
 next:Nat
def aa.set (h:aa) (b:Nat) (x:Option cI):aa:={h with get:=fun i=>if i=b then x else h.get i}
def aa.new (h:aa) (x:cI):aa:={get:=fun i=>if i=h.next then some x else h.get i,next:=h.next+1}
def aa.empty:aa:={get:=fun _=>none,next:=0}
inductive Loc where
 |cells (cb o room:Nat)
 |map (cb:Nat)
 |tail (cb lo hi:Nat)
def Loc.has:Loc->Nat->Nat->Prop
 | .cells c _ _,k,_=>k=c
 | .map c,k,_=>k=c
 | .tail c lo hi,k,j=>k=c/\lo<=j/\j<hi
def Loc.block:Loc->Nat
 | .cells c _ _=>c
 | .map c=>c
 | .tail c _ _=>c
abbrev aG:=Nat->Option Loc
abbrev aQ:=Nat->Nat->Prop
def PA (ι:aG) (cb o s len cap:Nat):aH->Prop
 | .ao=>True
 | .full=>cap=len
 | .own t=>0<len/\ι t=some (.tail cb (o+len*s) (o+cap*s))
inductive VR (ι:aG) (I:aQ) (w:World):AV->Value->Prop
 |undef (v:Value):VR ι I w .undef v
 |int (k:IntKind) (n:Int):VR ι I w (.int k n) (.int k n)
 |bool (b:Bool):VR ι I w (.bool b) (.bool b)
 |fU (k:FloatKind) (b:Nat):VR ι I w (.fU k b) (.float k b)
 |fX (k:FloatKind) (re im:Nat):VR ι I w (.fX k re im) (.complex k re im)
 |str (s:ByteArray):VR ι I w (.str s) (.string s)
 |nil:VR ι I w .nil (.pointer none)
 |ptr (b off cb o room:Nat) (h:ι b=some (.cells cb o room)):VR ι I w (.ptr b off) (.pointer (some ⟨cb,o+off,none⟩))
 |vp (xs:List AV) (off cb o:Nat) (g:Nat->Value)
   (hI: ∀j,j<xs.length->I cb (o+j)) (hc: ∀j,j<xs.length->w.cell? ⟨cb,o+j,none⟩=some (g j))
   (hv: ∀(j:Nat) (v:AV),xs[j]? =some v->VR ι I w v (g j)) (h1: ∀v∈xs,v.one=true):VR ι I w (.vp xs off) (.pointer (some ⟨cb,o+off,none⟩))
 |vs (xs:List (List AV)) (t:aH) (cb o s cap:Nat) (g:Nat->Nat->Value)
   (hs: ∀(i:Nat) (row:List AV),xs[i]? =some row->row.length=s)
   (hI: ∀i j,i<xs.length->j<s->I cb (o+i*s+j))
   (hc: ∀i j,i<xs.length->j<s->w.cell? ⟨cb,o+i*s+j,none⟩=some (g i j))
   (hv: ∀(i:Nat) (row:List AV) (j:Nat) (v:AV),xs[i]? =some row->row[j]? =some v->VR ι I w v (g i j))
   (h1: ∀row∈xs,∀v∈row,AV.one v=true)
   (bu:xs.length<=cap) (ht:PA ι cb o s xs.length cap t):
   VR ι I w (.vs xs t) (.slice (some ⟨cb,o,none⟩) xs.length cap)
 |gw (t:aH) (ht:t= .ao\/t= .full):VR ι I w (.vs [] t) (.slice none 0 0)
 |gn (t:aH) (a:Addr) (cap:Nat) (ht:t= .ao\/(t= .full/\cap=0)):VR ι I w (.vs [] t) (.slice (some a) 0 cap)
 |bA:VR ι I w .bA (.slice none 0 0)
 |rs (b off len sz cb o room cap:Nat) (h:ι b=some (.cells cb o room)) (hlen:len<=cap) (bu:off+cap*sz<=room):
   VR ι I w (.rs b off len sz) (.slice (some ⟨cb,o+off,none⟩) len cap)
 |rk (b off len sz cap cb o room:Nat) (h:ι b=some (.cells cb o room)) (hlen:len<=cap) (bu:off+cap*sz<=room):
   VR ι I w (.rk b off len sz cap) (.slice (some ⟨cb,o+off,none⟩) len cap)
 |vz (a:Addr) (cap:Nat):VR ι I w .vz (.slice (some a) 0 cap)
 |pT:VR ι I w (.map none) (.map none)
 |map (b cb:Nat) (h:ι b=some (.map cb)):VR ι I w (.map (some b)) (.map (some cb))
 |fn (f:Nat) (fs cs:List AV) (eF bF:List Value) (hf:fs.length=eF.length) (hc:cs.length=bF.length)
   (Kn: ∀(i:Nat) (v:AV) (c:Value),fs[i]? =some v->eF[i]? =some c->VR ι I w v c)
   (gr: ∀(i:Nat) (v:AV) (c:Value),cs[i]? =some v->bF[i]? =some c->VR ι I w v c):
   VR ι I w (.fn f fs cs) (.func (.func f) eF.toArray bF.toArray)
 |jm:VR ι I w .jm .nilFunc
 |agg (cs:List AV) (bF:List Value) (hl:cs.length=bF.length) (hv: ∀(i:Nat) (v:AV) (c:Value),cs[i]? =some v->bF[i]? =some c->VR ι I w v c):
   VR ι I w (.agg cs) (.agg bF.toArray)
 |ay (cs:List AV) (bF:List Value) (hl:cs.length=bF.length) (hv: ∀(i:Nat) (v:AV) (c:Value),cs[i]? =some v->bF[i]? =some c->VR ι I w v c):
   VR ι I w (.ay cs) (.tuple bF.toArray)
 |fw (v:Value) (h:v.oneCell'=true):VR ι I w .fw v
def ew (ι:aG) (h:aa) (k j:Nat):Prop:= ∃b l x,ι b=some l/\h.get b=some x/\l.has k j
def m9 (es:Array MapEntry) (clock:Nat):Prop:=(∀e∈es.toList,e.born<clock)/\(es.toList.map (·.born)).Nodup
structure HR (ι:aG) (I:aQ) (h:aa) (w:World):Prop where
 cD: ∀b l,ι b=some l->b<h.next
 inside: ∀b l,ι b=some l->l.block<w.heap.size
 cells: ∀b cs l,h.get b=some (.cells cs)->ι b=some l-> ∃cb o room,l= .cells cb o room/\cs.length<=room/\(∀v∈cs,v.one=true)/\
  (∀j,j<room-> ∃c,w.cell? ⟨cb,o+j,none⟩=some c/\w.frozen? ⟨cb,o+j,none⟩=false/\ ∀v,cs[j]? =some v->VR ι I w v c)
 maps: ∀b es l,h.get b=some (.map es)->ι b=some l-> ∃cb aV clock,l= .map cb/\w.heap[cb]? =some (.map aV clock)/\(es.length=aV.size/\m9 aV clock)/\
  (∀(i:Nat) (k v:AV) (e:MapEntry),es[i]? =some (k,v)->aV[i]? =some e->VR ι I w k e.key/\VR ι I w v e.val)
 eQ: ∀b l,h.get b=some .tail->ι b=some l-> ∃cb lo hi,l= .tail cb lo hi/\
  ∀j,lo<=j->j<hi-> ∃c,w.cell? ⟨cb,j,none⟩=some c/\w.frozen? ⟨cb,j,none⟩=false
 dm: ∀b b' l l' x x' k j,b≠b'->ι b=some l->ι b'=some l'->h.get b=some x->h.get b'=some x'->l.has k j->l'.has k j->False
 bn: ∀b l x k j,ι b=some l->h.get b=some x->l.has k j-> ¬I k j
 dg: ∀k j,I k j->k<w.heap.size
 pl: ∀b cs cb o room,h.get b=some (.cells cs)->ι b=some (.cells cb o room)-> ∀n,w.frozen? ⟨cb,n,none⟩=false
structure Ext (N:Nat->Prop) (ι:aG) (I:aQ) (h:aa) (w:World) (ι':aG) (I':aQ) (h':aa) (w':World):Prop where
 eJ: ∀b,¬N b->ι' b=ι b
 bN: ∀b l,ι b=some l->ι' b=some l
 next:h.next<=h'.next
 bn: ∀k j,I k j->I' k j
 os:w'.os=w.os
 tape:w'.tape=w.tape
 output:w'.output=w.output
 size:w.heap.size<=w'.heap.size
 block: ∀k,k<w.heap.size->(∀j,¬ew ι h k j)->w'.heap[k]? =w.heap[k]?
 cell: ∀k j,k<w.heap.size-> ¬ew ι h k j->w'.cell? ⟨k,j,none⟩=w.cell? ⟨k,j,none⟩
 frozen: ∀k j,k<w.heap.size-> ¬ew ι h k j->w'.frozen? ⟨k,j,none⟩=w.frozen? ⟨k,j,none⟩
 own: ∀k j,ew ι' h' k j->ew ι h k j\/w.heap.size<=k
 fQ: ∀k j,I' k j->I k j\/ew ι h k j\/w.heap.size<=k
 lost: ∀b,¬N b->ι b=none->h'.get b=h.get b
theorem VR.mono {ι ι':aG} {I I':aQ} {w w':World} (hι: ∀b l,ι b=some l->ι' b=some l) (hI: ∀k j,I k j->I' k j)
 (hw: ∀k j,I k j->w'.cell? ⟨k,j,none⟩=w.cell? ⟨k,j,none⟩) {a:AV} {v:Value} (h:VR ι I w a v):VR ι' I' w' a v:=by
 induction h with
 |undef v=>exact .undef v
 |int k n=>exact .int k n
 |bool b=>exact .bool b
 |fU k b=>exact .fU k b
 |fX k a b=>exact .fX k a b
 |str s=>exact .str s
 |nil=>exact .nil
 |ptr b off cb o room h=>exact .ptr b off cb o room (hι _ _ h)
 |vp xs off cb o g h1 h2 _ cV ih=>exact .vp xs off cb o g (fun j hj=>hI _ _ (h1 j hj)) (fun j hj=>by rw[hw _ _ (h1 j hj)];exact h2 j hj) ih cV
 |vs xs t cb o s cap g hs h1 h2 _ cV bu ht ih=>
  refine .vs xs t cb o s cap g hs (fun i j hi hj=>hI _ _ (h1 i j hi hj)) (fun i j hi hj=>by rw[hw _ _ (h1 i j hi hj)];exact h2 i j hi hj) ih cV bu ?_
  cases t with
  |ao=>trivial
  |full=>exact ht
  |own t=>exact⟨ht.1,hι _ _ ht.2⟩
 |gw t ht=>exact .gw t ht
 |gn t a cap ht=>exact .gn t a cap ht
 |bA=>exact .bA
 |rs b off len sz cb o room cap h h1 h2=>exact .rs b off len sz cb o room cap (hι _ _ h) h1 h2
 |rk b off len sz cap cb o room h h1 h2=>exact .rk b off len sz cap cb o room (hι _ _ h) h1 h2
 |vz a cap=>exact .vz a cap
 |pT=>exact .pT
 |map b cb h=>exact .map b cb (hι _ _ h)
 |fn f fs cs eF bF hf hc _ _ fN jH=>exact .fn f fs cs eF bF hf hc fN jH
 |jm=>exact .jm
 |agg cs bF hl _ ih=>exact .agg cs bF hl ih
 |ay cs bF hl _ ih=>exact .ay cs bF hl ih
 |fw v h=>exact .fw v h
theorem VR.one {ι:aG} {I:aQ} {w:World} {a:AV} {v:Value} (h:VR ι I w a v) (h1:a.one=true):v.oneCell'=true:=by
 cases h<;>first|rfl|assumption|(simp[AV.one] at h1)
mutual
def AV.strip:AV->AV
 | .vs xs _=> .vs (AV.f0 xs) .ao
 | .agg xs=> .agg (AV.bG xs)
 | .ay xs=> .ay (AV.bG xs)
 |v=>v
def AV.bG:List AV->List AV
 |[]=>[]
 |x::xs=>x.strip::AV.bG xs
def AV.f0:List (List AV)->List (List AV)
 |[]=>[]
 |x::xs=>AV.bG x::AV.f0 xs
end
theorem Bm: ∀{l:List AV},(AV.bG l).length=l.length
 |[]=>rfl
 |x::xs=>by simp[AV.bG,Bm (l:=xs)]
theorem Bj: ∀{l:List (List AV)},(AV.f0 l).length=l.length
 |[]=>rfl
 |x::xs=>by simp[AV.f0,Bj (l:=xs)]
theorem yF: ∀{l:List AV} {i:Nat} {v:AV},(AV.bG l)[i]? =some v-> ∃u,l[i]? =some u/\v=u.strip
 |[],i,v,h=>by simp[AV.bG] at h
 |x::xs,i,v,h=>by
  cases i with
  |zero=>simp[AV.bG] at h;exact⟨x,rfl,h.symm⟩
  |succ i=>obtain⟨u,h1,h2⟩:=yF (l:=xs) (i:=i) (by simpa [AV.bG] using h);exact⟨u,by simpa using h1,h2⟩
theorem FT: ∀{l:List (List AV)} {i:Nat} {v:List AV},(AV.f0 l)[i]? =some v-> ∃u,l[i]? =some u/\v=AV.bG u
 |[],i,v,h=>by simp[AV.f0] at h
 |x::xs,i,v,h=>by
  cases i with
  |zero=>simp[AV.f0] at h;exact⟨x,rfl,h.symm⟩
  |succ i=>obtain⟨u,h1,h2⟩:=FT (l:=xs) (i:=i) (by simpa [AV.f0] using h);exact⟨u,by simpa using h1,h2⟩
theorem AV.aj4 {v:AV}:v.strip.one=v.one:=by cases v<;>simp[AV.strip,AV.one]
theorem VR.strip {ι:aG} {I:aQ} {w:World} {a:AV} {v:Value} (h:VR ι I w a v):VR ι I w a.strip v:=by
 induction h with
 |vs xs t cb o s cap g hs hI hc hv h1 bu ht ih=>
  have:=VR.vs (ι:=ι) (I:=I) (w:=w) (AV.f0 xs) .ao cb o s cap g
   (fun i row hi=>by obtain⟨u,e1,rfl⟩:=FT hi;rw[Bm];exact hs i u e1)
   (fun i j hi hj=>hI i j (by rwa [Bj] at hi) hj)
   (fun i j hi hj=>hc i j (by rwa [Bj] at hi) hj)
   (fun i row j v hi hj=>by
     obtain⟨u,e1,rfl⟩:=FT hi
     obtain⟨x,e2,rfl⟩:=yF hj
     exact ih i u j x e1 e2)
   (fun row hr v cT=>by
     obtain⟨i,hi⟩:=List.mem_iff_getElem?.1 hr
     obtain⟨u,e1,rfl⟩:=FT hi
     obtain⟨j,hj⟩:=List.mem_iff_getElem?.1 cT
     obtain⟨x,e2,rfl⟩:=yF hj
     rw[AV.aj4]
     exact h1 u (List.mem_of_getElem? e1) x (List.mem_of_getElem? e2))
   (by rw[Bj];exact bu) trivial
  rw[Bj] at this
  exact this
 |gw t ht=>exact .gw _ (.inl rfl)
 |gn t a cap ht=>exact .gn _ _ _ (.inl rfl)
 |agg cs bF hl hv ih=>exact .agg _ _ (by rw[Bm];exact hl) (fun i v c h1 h2=>by obtain⟨u,e1,rfl⟩:=yF h1;exact ih i u c e1 h2)
 |ay cs bF hl hv ih=>exact .ay _ _ (by rw[Bm];exact hl) (fun i v c h1 h2=>by obtain⟨u,e1,rfl⟩:=yF h1;exact ih i u c e1 h2)
 |undef v=>exact .undef v
 |int k n=>exact .int k n
 |bool b=>exact .bool b
 |fU k b=>exact .fU k b
 |fX k a b=>exact .fX k a b
 |str s=>exact .str s
 |nil=>exact .nil
 |ptr b off cb o room h=>exact .ptr b off cb o room h
 |vp xs off cb o g hI hc hv h1 ih=>exact .vp xs off cb o g hI hc hv h1
 |bA=>exact .bA
 |rs b off len sz cb o room cap h h1 h2=>exact .rs b off len sz cb o room cap h h1 h2
 |rk b off len sz cap cb o room h h1 h2=>exact .rk b off len sz cap cb o room h h1 h2
 |vz a cap=>exact .vz a cap
 |pT=>exact .pT
 |map b cb h=>exact .map b cb h
 |fn f fs cs eF bF hf hc h1 h2 fN jH=>exact .fn f fs cs eF bF hf hc h1 h2
 |jm=>exact .jm
 |fw v h=>exact .fw v h
theorem HR.alr {ι:aG} {I:aQ} {h:aa} {w:World} (H:HR ι I h w) {k j:Nat} (hI:I k j): ¬ew ι h k j:=
 fun⟨_,l,_,hb,hg,hl⟩=>H.bn _ l _ k j hb hg hl hI
theorem Ext.vr {N:Nat->Prop} {ι ι':aG} {I I':aQ} {h h':aa} {w w':World} (E:Ext N ι I h w ι' I' h' w') (H:HR ι I h w) {a:AV} {v:Value}
 (hv:VR ι I w a v):VR ι' I' w' a v:=
 hv.mono E.bN E.bn fun k j hI=>E.cell k j (H.dg k j hI) (H.alr hI)
theorem Ext.refl (N:Nat->Prop) (ι:aG) (I:aQ) (h:aa) (w:World):Ext N ι I h w ι I h w where
 eJ _ _:=rfl
 bN _ _ h:=h
 next:=Nat.le_refl _
 bn _ _ h:=h
 os:=rfl
 tape:=rfl
 output:=rfl
 size:=Nat.le_refl _
 block _ _ _:=rfl
 cell _ _ _ _:=rfl
 frozen _ _ _ _:=rfl
 own _ _ h:= .inl h
 fQ _ _ h:= .inl h
 lost _ _ _:=rfl
theorem Ext.trans {N N':Nat->Prop} {ι₁ ι₂ ι₃:aG} {I₁ I₂ I₃:aQ} {h₁ h₂ h₃:aa} {w₁ w₂ w₃:World}
 (E:Ext N ι₁ I₁ h₁ w₁ ι₂ I₂ h₂ w₂) (F:Ext N' ι₂ I₂ h₂ w₂ ι₃ I₃ h₃ w₃) (hN: ∀b,N' b->N b):Ext N ι₁ I₁ h₁ w₁ ι₃ I₃ h₃ w₃ where
 eJ b hb:=(F.eJ b (fun h=>hb (hN b h))).trans (E.eJ b hb)
 bN b l h:=F.bN b l (E.bN b l h)
 next:=Nat.le_trans E.next F.next
 bn k j h:=F.bn k j (E.bn k j h)
 os:=F.os.trans E.os
 tape:=F.tape.trans E.tape
 output:=F.output.trans E.output
 size:=Nat.le_trans E.size F.size
 block k hk ho:=by
  rw[F.block k (Nat.lt_of_lt_of_le hk E.size) (fun j hj=>(E.own k j hj).elim (ho j) (fun h=>by omega)),E.block k hk ho]
 cell k j hk ho:=by
  rw[F.cell k j (Nat.lt_of_lt_of_le hk E.size) (fun hj=>(E.own k j hj).elim ho (fun h=>by omega)),E.cell k j hk ho]
 frozen k j hk ho:=by
  rw[F.frozen k j (Nat.lt_of_lt_of_le hk E.size) (fun hj=>(E.own k j hj).elim ho (fun h=>by omega)),E.frozen k j hk ho]
 own k j h:=by
  rcases F.own k j h with h|h
  ·exact E.own k j h
  ·exact .inr (Nat.le_trans E.size h)
 fQ k j h:=by
  rcases F.fQ k j h with h|h|h
  ·exact E.fQ k j h
  ·rcases E.own k j h with h|h
   ·exact .inr (.inl h)
   ·exact .inr (.inr h)
  ·exact .inr (.inr (Nat.le_trans E.size h))
 lost b hb hi:=by rw[F.lost b (fun h=>hb (hN b h)) (by rw[E.eJ b hb,hi]),E.lost b hb hi]
theorem Ext.mono {N N':Nat->Prop} {ι ι':aG} {I I':aQ} {h h':aa} {w w':World} (E:Ext N ι I h w ι' I' h' w') (hN: ∀b,N b->N' b):Ext N' ι I h w ι' I' h' w':=
 {E with eJ:=fun b hb=>E.eJ b (fun h=>hb (hN b h)),lost:=fun b hb=>E.lost b (fun h=>hb (hN b h))}
theorem aiG {p:Nat->AV->Value->Prop}: ∀(l:List AV),(∀j v,l[j]? =some v-> ∃c,p j v c)->
 ∃l':List Value,l.length=l'.length/\ ∀j v c,l[j]? =some v->l'[j]? =some c->p j v c:=by
 intro l
 induction l generalizing p with
 |nil=>intro _;exact⟨[],rfl,fun j v c h=>by simp at h⟩
 |cons a l ih=>
  intro h
  obtain⟨c,hc⟩:=h 0 a rfl
  obtain⟨l',hl,hp⟩:=ih (p:=fun j=>p (j+1)) (fun j v hv=>h (j+1) v (by simpa using hv))
  refine⟨c::l',by simp[hl],fun j v c' hv cR=>?_⟩
  cases j with
  |zero=>simp at hv cR;subst hv;subst cR;exact hc
  |succ j=>exact hp j v c' (by simpa using hv) (by simpa using cR)
end
section
open Go
inductive aq where
 |tmp (t:Nat)
 |const (v:AV)
 deriving Inhabited
abbrev Env:=Nat->AV
def aq.ev (ρ:Env):aq->AV
 | .tmp t=>ρ t
 | .const v=>v
inductive bc where
 |aj (x:aq)
 |pick (c a b:aq)
 |build (z:List AV) (parts:List (Nat×Nat×aq))
 |da (n:Nat) (z:List AV) (parts:List (Nat×aq))
 |load (ag:Bool) (sz:Nat) (x:aq)
 |aF (x:aq)
 |bin (tb:Bool) (op:BinOp) (x y:aq)
 |eZ (kd:Nat) (neg:Bool) (x:aq)
 |Ir (neg:Bool) (JB:List Nat) (x y:aq)
 |un (op:UnOp) (x:aq)
 |toInt (k:IntKind) (x:aq)
 |kF (x:aq)
 |Gp (x:aq)
 |zH (off:Nat) (x:aq)
 |KM (ag:Bool) (sz off:Nat) (x:aq)
 |gU (sz:Nat) (x i:aq)
 |BY (sz len:Nat) (x i:aq)
 |JF (ag:Bool) (sz len:Nat) (x i:aq)
 |cG (sz:Nat) (x:aq) (lo hi mx:Option aq)
 |ext (i:Nat) (x:aq)
 |gX (x:aq)
 |GY (x:aq)
 |JC (n:Nat)
 |lookup (z:AV) (ok:Bool) (m k:aq)
 |ka (f:Nat) (first d9:List aq)
 |kH (mx:Bool) (x:aq) (rest:List aq)
 |part (im:Bool) (x:aq)
 |wj (z:List AV) (bytes:Nat) (len cap:aq)
 |ti (x:aq)
 |y6 (x i:aq)
 |pg (sz:Nat) (x y:aq)
 |JU (x:aq)
 |ET (x:aq)
 |sx (x:aq)
 |stuck
 deriving Inhabited
inductive jN where
 |box (x:aq)
 |alloc (z:List AV)
 |um (z:List AV) (bytes:Nat) (len cap:aq)
 |BO (n:Nat) (z:List AV) (parts:List (Nat×aq))
 |uF
 deriving Inhabited
inductive gu where
 |store (sz:Nat) (a v:aq)
 |append (bytes sz:Nat) (x y:aq)
 |jS (bytes sz:Nat) (x y:aq)
 |copy (sz:Nat) (x y:aq)
 |oA (bytes:Nat) (z:List AV) (x n:aq)
 |nf (sz:Nat) (x y:aq)
 |oJ (z:List AV) (x:aq)
 |mark (x:aq)
 |qX (m k v:aq)
 |sR (m k:aq)
 deriving Inhabited
inductive b7 where
 |p (o:bc)
 |a (o:jN)
 |e (o:gu)
 |call (f:Nat) (args:List aq)
 |dyn (x:aq) (args:List aq)
 deriving Inhabited
def di (cs:List AV) (off:Nat) (vs:List AV):List AV:=cs.take off++vs++cs.drop (off+vs.length)
def jX (ρ:Env) (cs:List AV):List (Nat×Nat×aq)->Option (List AV)
 |[]=>some cs
 |(off,sz,x)::rest=>
  let vs:=(x.ev ρ).cells
  if vs.length=sz/\off+sz<=cs.length/\vs.all AV.one then jX ρ (di cs off vs) rest else none
def iA (ρ:Env) (sz:Nat) (rows:List (List AV)):List (Nat×aq)->Option (List (List AV))
 |[]=>some rows
 |(i,x)::rest=>
  let vs:=(x.ev ρ).cells
  if vs.length=sz/\i<rows.length/\vs.all AV.one then iA ρ sz (rows.set i vs) rest else none
def cut (ag:Bool) (sz off:Nat) (cs:List AV):Option AV:=
 if ag then(if off+sz<=cs.length then some (.agg ((cs.drop off).take sz)) else none) else cs[off]?
def cellsOf (h:aa) (b:Nat):Option (List AV):=
 match h.get b with
 |some (.cells cs)=>some cs
 |_=>none
def j0 (ag:Bool) (sz:Nat) (h:aa):AV->Option AV
 | .ptr b off=>(cellsOf h b).bind (cut ag sz off)
 | .vp xs off=>cut ag sz off xs
 |_=>none
def notNil:AV->Option AV
 | .ptr b o=>some (.ptr b o)
 | .vp xs o=>some (.vp xs o)
 | .fn f a b=>some (.fn f a b)
 |_=>none
def oO (op:BinOp) (k:IntKind) (x y:Int):Option Int:=
 let a:=BitVec.ofInt k.bits x
 let b:=BitVec.ofInt k.bits y
 match op with
 | .and=>some (k.wrap (a&&&b).toNat)
 | .or=>some (k.wrap (a|||b).toNat)
 | .xor=>some (k.wrap (a^^^b).toNat)
 | .andNot=>some (k.wrap (a&&& ~~~b).toNat)
 |_=>none
def ki (op:BinOp) (k:IntKind) (a b:Int):Option AV:=
 match op with
 | .add=>some (.int k (k.wrap (a+b)))
 | .sub=>some (.int k (k.wrap (a-b)))
 | .mul=>some (.int k (k.wrap (a*b)))
 | .quo=>if b=0 then none else some (.int k (k.wrap (a.tdiv b)))
 | .rem=>if b=0 then none else some (.int k (a.tmod b))
 | .eql=>some (.bool (a==b))
 | .neq=>some (.bool (a !=b))
 | .lss=>some (.bool (a<b))
 | .leq=>some (.bool (a<=b))
 | .gtr=>some (.bool (a>b))
 | .geq=>some (.bool (a>=b))
 |op=>(oO op k a b).map (.int k)
def Jo (op:BinOp) (k:FloatKind) (x y:Nat):Option Bool:=
 let c:=k.format.order x y
 match op with
 | .eql=>some (c==some .eq)
 | .neq=>some (c !=some .eq)
 | .lss=>some (c==some .lt)
 | .leq=>some (c==some .lt||c==some .eq)
 | .gtr=>some (c==some .gt)
 | .geq=>some (c==some .gt||c==some .eq)
 |_=>none
def cB (tb:Bool) (op:BinOp):AV->AV->Option AV
 | .int k a, .int k' b=>
   match op with
   | .shl=>if b<0 then none else some (.int k (k.wrap (a*2^(min b.toNat k.bits))))
   | .shr=>if b<0 then none else some (.int k (a.fdiv (2^(min b.toNat k.bits))))
   |op=>if k=k' then ki op k a b else none
 | .bool a, .bool b=>
   match op with
   | .eql=>if tb then some (.bool (a==b)) else none
   | .neq=>if tb then some (.bool (!(a==b))) else none
   |_=>none
 | .fU k a, .fU k' b=>if k=k' then(Jo op k a b).map .bool else none
 | .fX k a b, .fX k' c d=>
   if k=k' then
    match op with
    | .eql=>some (.bool ((k.format.order a c==some .eq)&&(k.format.order b d==some .eq)))
    | .neq=>some (.bool (!((k.format.order a c==some .eq)&&(k.format.order b d==some .eq))))
    |_=>none
   else none
 | .str a, .str b=>
   match op with
   | .eql=>some (.bool (a.toList==b.toList))
   | .neq=>some (.bool (!(a.toList==b.toList)))
   |_=>none
 |_,_=>none
def iw (kd:Nat):AV->Option Bool
 | .nil=>if kd=0 then some true else none
 | .ptr _ _=>if kd=0 then some false else none
 | .vp _ _=>if kd=0 then some false else none
 | .bA=>if kd=1 then some true else none
 | .rs _ _ _ _=>if kd=1 then some false else none
 | .rk _ _ _ _ _=>if kd=1 then some false else none
 | .vz=>if kd=1 then some false else none
 | .vs (_::_) _=>if kd=1 then some false else none
 | .jm=>if kd=2 then some true else none
 | .fn _ _ _=>if kd=2 then some false else none
 | .map none=>if kd=3 then some true else none
 | .map (some _)=>if kd=3 then some false else none
 |_=>none
def yX (xs ys:List AV):List Nat->Option Bool
 |[]=>some true
 |o::rest=>
  match xs[o]?,ys[o]? with
  |some (.int k a),some (.int k' b)=>if k=k' then(if a==b then yX xs ys rest else some false) else none
  |_,_=>none
def Bi (op:UnOp):AV->Option AV
 | .bool b=>match op with| .not=>some (.bool !b)|_=>none
 | .int k n=>
   match op with
   | .neg=>some (.int k (k.wrap (0-n)))
   | .xor=>(oO .xor k (if k.signed then -1 else k.max) n).map (.int k)
   |_=>none
 |_=>none
def byteOf:List AV->Option UInt8
 |[.int .u8 n]=>some (UInt8.ofNat n.toNat)
 |_=>none
def rowsOf (cs:List AV) (off sz:Nat):Nat->List (List AV)
 |0=>[]
 |n+1=>(cs.drop off).take sz::rowsOf cs (off+sz) sz n
def dC (sz:Nat):List (List AV)->Bool
 |[]=>true
 |r::_=>r.length==sz
def cQ (sz:Nat) (h:aa):AV->Option (List (List AV))
 | .vs xs _=>if dC sz xs then some xs else none
 | .bA=>some []
 | .vz=>some []
 | .rs b off len aN=>
   if aN=sz then
    match cellsOf h b with
    |some cs=>if off+len*sz<=cs.length then some (rowsOf cs off sz len) else none
    |none=>none
   else none
 | .rk b off len aN _=>
   if aN=sz then
    match cellsOf h b with
    |some cs=>if off+len*sz<=cs.length then some (rowsOf cs off sz len) else none
    |none=>none
   else none
 |_=>none
def oL (sz n:Nat) (h:aa):AV->Option (List (List AV))
 | .vs xs _=>if dC sz xs then some (xs.take n) else none
 | .rk b off len aN _=>
   if aN=sz/\n<=len then
    match cellsOf h b with
    |some cs=>if off+n*sz<=cs.length then some (rowsOf cs off sz n) else none
    |none=>none
   else none
 |_=>none
def pN:List (List AV)->Option (List UInt8)
 |[]=>some []
 |r::rs=>match byteOf r,pN rs with
  |some b,some bs=>some (b::bs)
  |_,_=>none
def cJ (ρ:Env) (d:Nat):Option aq->Option Nat
 |none=>some d
 |some x=>match x.ev ρ with
  | .int _ i=>if 0<=i then some i.toNat else none
  |_=>none
def oq (t:aH) (len lo hi:Nat):aH:=
 match t with
 | .full=>if hi=len then .full else .ao
 | .own t=>if hi=len/\lo<hi then .own t else .ao
 | .ao=> .ao
def iO (ρ:Env) (sz:Nat) (x:AV) (lo hi mx:Option aq):Option AV:=
 match x with
 | .bA=>do
   let h <-cJ ρ 0 hi
   let l <-cJ ρ 0 lo
   let m <-cJ ρ 0 mx
   if l=0/\h=0/\m=0/\(mx.isSome->hi.isSome) then some .bA else none
 | .vs xs t=>do
   let h <-cJ ρ xs.length hi
   let l <-cJ ρ 0 lo
   if l<=h/\h<=xs.length/\dC sz xs then
    match mx with
    |none=>some (.vs ((xs.drop l).take (h-l)) (oq t xs.length l h))
    |some _=>do
     let m <-cJ ρ 0 mx
     if hi.isSome/\h<=m/\m<=xs.length then some (.vs ((xs.drop l).take (h-l)) (if m=h then .full else .ao)) else none
   else none
 | .rs b off len aN=>do
   let h <-cJ ρ len hi
   let l <-cJ ρ 0 lo
   if mx.isNone/\l<=h/\h<=len/\aN=sz then
    if l=h then(if lo.isNone then some (.rs b off 0 sz) else some (.vs [] .ao)) else some (.rs b (off+l*sz) (h-l) sz)
   else none
 | .rk b off len aN cap=>do
   let h <-cJ ρ len hi
   let l <-cJ ρ 0 lo
   let m <-cJ ρ cap mx
   if l<=h/\h<=m/\m<=cap/\aN=sz/\(mx.isSome->hi.isSome) then
    if m=l then some (.vs [] .full) else some (.rk b (off+l*sz) (h-l) sz (m-l))
   else none
 |_=>none
def mh (k:AV):List (AV×AV)->Nat->Option (Option Nat)
 |[],_=>some none
 |(k',_)::es,i=>
  match k,k' with
  | .int a x, .int b y=>if a=b then(if x==y then some (some i) else mh k es (i+1)) else none
  |_,_=>none
def uu (k:AV) (es:List (AV×AV)):Option (Option AV):=(mh k es 0).map fun o=>o.bind fun i=>(es[i]?).map (·.2)
def qY (k v:AV) (es:List (AV×AV)):Option (List (AV×AV)):=
 (mh k es 0).map fun o=>match o with
   |none=>es++[(k,v)]
   |some i=>es.set i (k,v)
def qZ (k:AV) (es:List (AV×AV)):Option (List (AV×AV)):=
 (mh k es 0).map fun o=>match o with
   |none=>es
   |some i=>es.eraseIdx i
def pQ (mx:Bool):AV->AV->Option AV
 | .int k a, .int k' b=>if k=k' then some (.int k (if mx then(if b>a then b else a) else(if b<a then b else a))) else none
 | .fU k a, .fU k' b=>
   if k=k' then
    match k.format.order a b with
    |some .lt=>some (.fU k (if mx then b else a))
    |some .gt=>some (.fU k (if mx then a else b))
    |some .eq=>some (.fU k (if mx then(if(k.decode a).neg then b else a) else(if(k.decode a).neg then a else b)))
    |none=>none
   else none
 |_,_=>none
def ow (mx:Bool) (ρ:Env):AV->List aq->Option AV
 |x,[]=>some x
 |x,y::ys=>(pQ mx x (y.ev ρ)).bind fun z=>ow mx ρ z ys
def gH:AV->Option Nat
 | .vs xs _=>some xs.length
 | .bA=>some 0
 | .rs _ _ len _=>some len
 | .rk _ _ len _ _=>some len
 | .vz=>some 0
 |_=>none
def vk:AV->Option Nat
 | .bA=>some 0
 | .vs xs .full=>some xs.length
 | .rk _ _ _ _ cap=>some cap
 |_=>none
def vf (sz:Nat) (h:aa) (x y:AV):Option AV:=
 match x,y with
 | .vs (r::_) _, .rk b _ (_+1) aN _=>cond (r.length==sz&&aN==sz&&(cellsOf h b).isSome) (some (.bool false)) none
 |_,_=>none
def BI (x i:AV):Option AV:=
 match x,i with
 | .str s, .int _ i=>if 0<=i then(s[i.toNat]?).map fun b=> .int .u8 b.toNat else none
 |_,_=>none
def kG (bytes:Nat) (l c:AV):Option Nat:=
 match l,c with
 | .int .i64 a, .int .i64 b=>if 0<=a/\a=b/\a<2^40/\bytes*a<=2^40 then some a.toNat else none
 |_,_=>none
def BZ (neg:Bool) (JB:List Nat) (x y:AV):Option AV:=
 match x,y with
 | .agg xs, .agg ys=>(yX xs ys JB).map fun b=> .bool (if neg then !b else b)
 |_,_=>none
def BQ (k:IntKind) (x:AV):Option AV:=match x with| .int _ n=>some (.int k (k.wrap n))|_=>none
def Gc (x:AV):Option AV:=
 match x with
 | .str s=>if s.size<2^40 then some (.vs (s.data.toList.map fun b=>[.int .u8 b.toNat]) .ao) else none
 |_=>none
def y9 (off:Nat) (x:AV):Option AV:=match x with| .ptr b o=>some (.ptr b (o+off))| .vp xs o=>some (.vp xs (o+off))|_=>none
def Et (ag:Bool) (sz off:Nat) (x:AV):Option AV:=match x with| .agg cs=>cut ag sz off cs|_=>none
def m5 (sz:Nat) (x i:AV):Option AV:=
 match i with
 | .int _ i=>
   if 0<=i then
    match x with
    | .vs xs _=>match xs[i.toNat]? with|some row=>if row.length=sz then some (.vp row 0) else none|none=>none
    | .rs b off len aN=>if aN=sz/\i<len then some (.ptr b (off+i.toNat*sz)) else none
    |_=>none
   else none
 |_=>none
def yW (sz len:Nat) (x i:AV):Option AV:=
 match i with
 | .int _ i=>
   if 0<=i/\i<len then
    match x with
    | .ptr b o=>some (.ptr b (o+i.toNat*sz))
    | .vp xs o=>some (.vp xs (o+i.toNat*sz))
    |_=>none
   else none
 |_=>none
def CU (ag:Bool) (sz len:Nat) (x i:AV):Option AV:=
 match i,x with
 | .int _ i, .agg cs=>if 0<=i/\i<len then cut ag sz (i.toNat*sz) cs else none
 |_,_=>none
def Eu (i:Nat) (x:AV):Option AV:=match x with| .ay vs=>vs[i]?|_=>none
def GM (x:AV):Option AV:=match x with| .str s=>some (.int .i64 s.size)|_=>none
def mZ (z:AV) (ok:Bool) (h:aa) (m k:AV):Option AV:=
 let wrap (r:Option AV):AV:=match r with
  |some v=>if ok then .ay [v, .bool true] else v
  |none=>if ok then .ay [z, .bool false] else z
 match m,k with
 | .map none, .int _ _=>some (wrap none)
 | .map (some b), .int kd n=>
   match h.get b with
   |some (.map es)=>(uu (.int kd n) es).map wrap
   |_=>none
 |_,_=>none
def H6 (im:Bool) (x:AV):Option AV:=match x with| .fX k a b=>some (.fU k (if im then b else a))|_=>none
def H5 (c a b:AV):Option AV:=match c with| .bool t=>some (if t then a else b)|_=>none
def wy (sz:Nat) (h:aa) (a v:AV):Option (AV×aa):=
 match a with
 | .ptr b off=>
   match cellsOf h b with
   |some cs=>if v.cells.length=sz/\off+sz<=cs.length/\v.cells.all AV.one then some (.undef,h.set b (some (.cells (di cs off v.cells)))) else none
   |none=>none
 |_=>none
def aX (o:bc) (ρ:Env) (h:aa):Option AV:=
 match o with
 | .aj x=>some (x.ev ρ)
 | .pick c a b=>H5 (c.ev ρ) (a.ev ρ) (b.ev ρ)
 | .build z parts=>(jX ρ z parts).map .agg
 | .da n z parts=>(iA ρ z.length (List.replicate n z) parts).map (.vs · .full)
 | .load ag sz x=>j0 ag sz h (x.ev ρ)
 | .aF x=>notNil (x.ev ρ)
 | .bin tb op x y=>cB tb op (x.ev ρ) (y.ev ρ)
 | .eZ kd neg x=>(iw kd (x.ev ρ)).map fun b=> .bool (if neg then !b else b)
 | .Ir neg JB x y=>BZ neg JB (x.ev ρ) (y.ev ρ)
 | .un op x=>Bi op (x.ev ρ)
 | .toInt k x=>BQ k (x.ev ρ)
 | .kF x=>((cQ 1 h (x.ev ρ)).bind pN).map fun bs=> .str ⟨bs.toArray⟩
 | .Gp x=>Gc (x.ev ρ)
 | .zH off x=>y9 off (x.ev ρ)
 | .KM ag sz off x=>Et ag sz off (x.ev ρ)
 | .gU sz x i=>m5 sz (x.ev ρ) (i.ev ρ)
 | .BY sz len x i=>yW sz len (x.ev ρ) (i.ev ρ)
 | .JF ag sz len x i=>CU ag sz len (x.ev ρ) (i.ev ρ)
 | .cG sz x lo hi mx=>iO ρ sz (x.ev ρ) lo hi mx
 | .ext i x=>Eu i (x.ev ρ)
 | .gX x=>(gH (x.ev ρ)).map fun(n:Nat)=>AV.int .i64 n
 | .GY x=>GM (x.ev ρ)
 | .JC n=>some (.int .i64 n)
 | .lookup z ok m k=>mZ z ok h (m.ev ρ) (k.ev ρ)
 | .ka f first d9=>some (.fn f (first.map (aq.ev ρ)) (d9.map (aq.ev ρ)))
 | .kH mx x rest=>ow mx ρ (x.ev ρ) rest
 | .part im x=>H6 im (x.ev ρ)
 | .wj z bytes l c=>(kG bytes (l.ev ρ) (c.ev ρ)).map fun n=> .vs (List.replicate n z) .full
 | .ti x=>(vk (x.ev ρ)).map fun(n:Nat)=>AV.int .i64 n
 | .y6 x i=>BI (x.ev ρ) (i.ev ρ)
 | .pg sz x y=>vf sz h (x.ev ρ) (y.ev ρ)
 | .JU _=>none
 | .ET _=>none
 | .sx _=>none
 | .stuck=>none
def bc.key (o:bc) (ρ:Env):Option Nat:=
 match o with
 | .load _ _ x=>match x.ev ρ with| .ptr b _=>some b|_=>none
 | .kF x=>match x.ev ρ with| .rs b _ _ _=>some b| .rk b _ _ _ _=>some b|_=>none
 | .lookup _ _ m _=>match m.ev ρ with| .map (some b)=>some b|_=>none
 | .pg _ _ y=>match y.ev ρ with| .rk b _ _ _ _=>some b|_=>none
 |_=>none
theorem uj (o:bc) (ρ:Env) (h h':aa) (hk: ∀b,o.key ρ=some b->h.get b=h'.get b):aX o ρ h=aX o ρ h':=by
 cases o<;>try rfl
 case load ag sz x=>
  simp only[aX,bc.key] at*
  cases hx:x.ev ρ<;>simp only[j0]
  rw[hx] at hk
  simp only[cellsOf,hk _ rfl]
 case kF x=>
  simp only[aX,bc.key] at*
  cases hx:x.ev ρ<;>simp only[cQ]<;>(rw[hx] at hk;simp only[cellsOf,hk _ rfl])
 case pg sz x y=>
  simp only[aX,bc.key] at*
  cases hy:y.ev ρ
  case rk b off len s' cap=>
   rw[hy] at hk
   have hb:=hk b rfl
   cases x.ev ρ<;>try rfl
   rename_i l _
   cases l<;>cases len<;>first|rfl|simp only[vf,cellsOf,hb]
  all_goals (cases x.ev ρ<;>first|rfl|(rename_i l _;cases l<;>rfl))
 case lookup z ok m k=>
  simp only[aX,bc.key] at*
  cases hx:m.ev ρ<;>try rfl
  rename_i b
  rw[hx] at hk
  cases b with
  |none=>cases k.ev ρ<;>rfl
  |some b=>have:=hk b rfl;cases k.ev ρ<;>simp only[mZ,this]
def gV (o:jN) (ρ:Env) (id:Nat):Option (cI×AV):=
 match o with
 | .box x=>if(x.ev ρ).cells.all AV.one then some (.cells (x.ev ρ).cells, .ptr id 0) else none
 | .alloc z=>some (.cells z, .ptr id 0)
 | .um z bytes l c=>(kG bytes (l.ev ρ) (c.ev ρ)).map fun n=>(.cells (List.replicate n z).flatten, .rs id 0 n z.length)
 | .BO n z parts=>(iA ρ z.length (List.replicate n z) parts).map fun rows=>(.cells rows.flatten, .rs id 0 n z.length)
 | .uF=>some (.map [], .map (some id))
def aa.at (h:aa) (id:Nat) (x:cI):aa:={get:=fun i=>if i=id then some x else h.get i,next:=max h.next (id+1)}
def bR (o:gu) (ρ:Env) (id:Nat) (h:aa):Option (AV×aa):=
 match o with
 | .store sz a v=>wy sz h (a.ev ρ) (v.ev ρ)
 | .append bytes sz x y=>
   match cQ sz h (y.ev ρ) with
   |none=>none
   |some ys=>
    match x.ev ρ with
    | .vs xs t=>
      if ys=[] then some (.vs xs t,h) else
      if dC sz xs/\(xs.length+ys.length)*bytes<2^40/\xs.length+ys.length<2^40 then
       match t with
       | .full=>some (.vs (xs++ys) (.own id),h.at id .tail)
       | .own t=>match h.get t with
         |some .tail=>some (.vs (xs++ys) (.own id),(h.set t none).at id .tail)
         |_=>none
       | .ao=>none
      else none
    | .bA=>
      if ys=[] then some (.bA,h) else
      if ys.length*bytes<2^40/\ys.length<2^40 then some (.vs ys (.own id),h.at id .tail) else none
    |_=>none
 | .jS bytes sz x y=>
   match cQ sz h (y.ev ρ) with
   |none=>none
   |some ys=>
    match x.ev ρ with
    | .vs [] .full=>if ys=[] then some (.vs [] .full,h) else if ys.length*bytes<2^40/\ys.length<2^40 then some (.rs id 0 ys.length sz,h.at id (.cells ys.flatten)) else none
    | .bA=>if ys=[] then some (.bA,h) else if ys.length*bytes<2^40/\ys.length<2^40 then some (.rs id 0 ys.length sz,h.at id (.cells ys.flatten)) else none
    | .rs b off len aN=>
      if ys=[] then some (.rs b off len aN,h) else
      match cellsOf h b with
      |some cs=>
       if aN=sz/\off=0/\len*sz<=cs.length/\(len+ys.length)*bytes<2^40/\len+ys.length<2^40 then
        some (.rs id 0 (len+ys.length) sz,(h.set b none).at id (.cells (cs.take (len*sz)++ys.flatten)))
       else none
      |none=>none
    | .rk b off len aN cap=>
      match cellsOf h b with
      |some cs=>
       if aN=sz/\len+ys.length<=cap/\off+len*sz<=cs.length then
        some (.rk b off (len+ys.length) sz cap,h.set b (some (.cells (di cs (off+len*sz) ys.flatten))))
       else none
      |none=>none
    |_=>none
 | .oA bytes z x n=>
   match n.ev ρ with
   | .int _ m=>
     if 0<m/\m<2^40 then
      match x.ev ρ with
      | .bA=>if m.toNat*bytes<2^40 then some (.rs id 0 m.toNat z.length,h.at id (.cells (List.replicate m.toNat z).flatten)) else none
      | .rk b off len aN cap=>
        match cellsOf h b with
        |some cs=>
         if aN=z.length/\cap<len+m.toNat/\off+len*z.length<=cs.length/\(len+m.toNat)*bytes<2^40/\len+m.toNat<2^40 then
          some (.rs id 0 (len+m.toNat) z.length,h.at id (.cells (rowsOf cs off z.length len++List.replicate m.toNat z).flatten))
         else none
        |none=>none
      |_=>none
     else none
   |_=>none
 | .nf sz x y=>
   match x.ev ρ,gH (y.ev ρ) with
   | .rk b off len aN _,some m=>
     match oL sz (min m len) h (y.ev ρ),cellsOf h b with
     |some ys,some cs=>
      if aN=sz/\off<=cs.length then
       some (.int .i64 (min m len:Nat),h.set b (some (.cells (di cs off ys.flatten))))
      else none
     |_,_=>none
   |_,_=>none
 | .mark x=>
   match x.ev ρ with
   | .rs b off len sz=>
     match cellsOf h b with
     |some cs=>if off+len*sz<=cs.length then some (.vs (rowsOf cs off sz len) .ao,h.set b none) else none
     |none=>none
   |_=>none
 | .oJ z x=>
   match x.ev ρ with
   | .rk b off len aN _=>
     match cellsOf h b with
     |some cs=>if aN=z.length/\off+len*z.length<=cs.length then some (.ay [],h.set b (some (.cells (di cs off (List.replicate len z).flatten)))) else none
     |none=>none
   | .vs [] _=>some (.ay [],h)
   | .bA=>some (.ay [],h)
   |_=>none
 | .copy sz x y=>
   match x.ev ρ with
   | .rs b off len aN=>
     match cQ sz h (y.ev ρ),cellsOf h b with
     |some ys,some cs=>
      let n:=min ys.length len
      if aN=sz/\off+len*sz<=cs.length then
       some (.int .i64 n,h.set b (some (.cells (di cs off (ys.take n).flatten))))
      else none
     |_,_=>none
   | .vs [] _=>match cQ sz h (y.ev ρ) with|some _=>some (.int .i64 0,h)|none=>none
   | .bA=>match cQ sz h (y.ev ρ) with|some _=>some (.int .i64 0,h)|none=>none
   |_=>none
 | .qX m k v=>
   match m.ev ρ,k.ev ρ with
   | .map (some b), .int kd n=>
     match h.get b with
     |some (.map es)=>(qY (.int kd n) (v.ev ρ).strip es).map fun aV=>(.undef,h.set b (some (.map aV)))
     |_=>none
   |_,_=>none
 | .sR m k=>
   match m.ev ρ,k.ev ρ with
   | .map (some b), .int kd n=>
     match h.get b with
     |some (.map es)=>(qZ (.int kd n) es).map fun aV=>(.ay [],h.set b (some (.map aV)))
     |_=>none
   |_,_=>none
end
section
open Go
section
variable {P:Program} {ι:aG} {I:aQ} {h:aa} {w:World}
def eK (P:Program) (ι:aG) (I:aQ) (h:aa) (w:World) (v:AV) (s:Sem Value):Prop:=
 ∃c w' I',s.run P w= .ok c w'/\VR ι I' w' v c/\HR ι I' h w'/\Ext (fun _=>False) ι I h w ι I' h w'
theorem eK.same (H:HR ι I h w) {v:AV} {s:Sem Value} {c:Value} (hr:s.run P w= .ok c w) (hv:VR ι I w v c):eK P ι I h w v s:=
 ⟨c,w,I,hr,hv,H, .refl _ _ _ _ _⟩
theorem cL {t:TypeId} {d:TypeDesc} (hu:P.underlying t=some d) (w:World):(underlying t).run P w= .ok d w:=run_underlying hu w
theorem l9 {t:TypeId} {sz:Nat} (hs:(P.info? t).map (·.size)=some sz) (w:World):(Go.sizeOf t).run P w= .ok sz w:=by
 cases hq:P.info? t with
 |none=>simp[hq] at hs
 |some i=>simp[hq] at hs;simp[Go.sizeOf,typeInfo,hq,hs]
theorem yT {t:TypeId} {d:TypeDesc} (hu:P.underlying t=some d) (w:World):(isAgg t).run P w= .ok d.isRow w:=by
 unfold isAgg
 rw[Sem.run_bind,run_underlying hu w]
 cases d<;>simp
def s9 (ι:aG) (I:aQ) (w:World) (cb o:Nat) (cs:List AV):Prop:=
 ∀j v,cs[j]? =some v-> ∃c,w.cell? ⟨cb,o+j,none⟩=some c/\VR ι I w v c
theorem HR.row (H:HR ι I h w) {b:Nat} {cs:List AV} {cb o room:Nat} (hg:h.get b=some (.cells cs)) (hb:ι b=some (.cells cb o room)):
 s9 ι I w cb o cs/\cs.length<=room/\(∀v∈cs,v.one=true):=by
 obtain⟨fY,o',me,hl,hle,h1,hc⟩:=H.cells b cs _ hg hb
 cases hl
 refine⟨fun j v hv=>?_,hle,h1⟩
 obtain⟨c,h1,_,h3⟩:=hc j (by have:=(List.getElem?_eq_some_iff.1 hv).1;omega)
 exact⟨c,h1,h3 v hv⟩
theorem s9.list {cb o:Nat} {cs:List AV} (hr:s9 ι I w cb o cs): ∃l':List Value,cs.length=l'.length/\
 (∀(j:Nat) (c:Value),l'[j]? =some c->w.cell? ⟨cb,o+j,none⟩=some c)/\ ∀(j:Nat) (v:AV) (c:Value),cs[j]? =some v->l'[j]? =some c->VR ι I w v c:=by
 obtain⟨l',hl,hp⟩:=aiG cs hr
 refine⟨l',hl,fun j c hc=>?_,fun j v c hv hc=>(hp j v c hv hc).2⟩
 have hj:j<cs.length:=by have:=(List.getElem?_eq_some_iff.1 hc).1;omega
 exact(hp j _ c (List.getElem?_eq_getElem hj) hc).1
theorem s9.sub {cb o:Nat} {cs:List AV} (hr:s9 ι I w cb o cs) (off sz:Nat):s9 ι I w cb (o+off) ((cs.drop off).take sz):=by
 intro j v hv
 rw[List.getElem?_take] at hv
 split at hv
 ·rw[List.getElem?_drop] at hv
  obtain⟨c,h1,h2⟩:=hr (off+j) v hv
  exact⟨c,by rw[Nat.add_assoc];exact h1,h2⟩
 ·cases hv
theorem Ym (H:HR ι I h w) {t:TypeId} {d:TypeDesc} {sz:Nat} (hu:P.underlying t=some d) (hs:(P.info? t).map (·.size)=some sz)
 {cb o off:Nat} {cs:List AV} {v:AV} (hr:s9 ι I w cb o cs) (hc:cut d.isRow sz off cs=some v):
 eK P ι I h w v (Instr.loadAt t (.pointer (some ⟨cb,o+off,none⟩))):=by
 cases hd:d.isRow with
 |true=>
  rw[hd] at hc
  simp only[cut,if_true] at hc
  split at hc
  ·rename_i hle
   cases hc
   obtain⟨l',hl,h1,h2⟩:=(hr.sub off sz).list
   have hlen:l'.length=sz:=by rw[<-hl];simp;omega
   have:=run_loadVar_mid (P:=P) w cb (o+off) t l' d h1 hu hd (by rw[hlen];exact hs)
   exact .same H (by simp[Instr.loadAt,Instr.sureAddr,this]) (.agg _ _ hl h2)
  ·cases hc
 |false=>
  rw[hd] at hc
  simp only[cut,Bool.false_eq_true,if_false] at hc
  obtain⟨c,h1,h2⟩:=hr off v hc
  exact .same H (by simp[Instr.loadAt,Instr.sureAddr,loadVar,yT hu,hd,run_load,h1]) h2
theorem alz (H:HR ι I h w) {t:TypeId} {d:TypeDesc} {sz:Nat} (hu:P.underlying t=some d) (hs:(P.info? t).map (·.size)=some sz)
 {a v:AV} {c:Value} (ha:VR ι I w a c) (hl:j0 d.isRow sz h a=some v):eK P ι I h w v (Instr.loadAt t c):=by
 cases ha<;>simp only[j0] at hl<;>try(cases hl;done)
 case ptr b off cb o room hb=>
  simp only[cellsOf] at hl
  split at hl
  ·rename_i cs hg
   exact Ym H hu hs (H.row (by simpa using hg) hb).1 hl
  ·cases hl
 case vp xs off cb o g hI hc hv h1=>
  refine Ym H hu hs (cs:=xs) (fun j v hj=>?_) hl
  have aD:=(List.getElem?_eq_some_iff.1 hj).1
  exact⟨g j,hc j aD,hv j v hj⟩
theorem akz (H:HR ι I h w) {s:TypeId} {fs:Array Field} {f:Nat} {fd:Field} {fsz:Nat} (hu:P.underlying s=some (.struct fs)) (hf:fs[f]? =some fd)
 (aO:(P.info? fd.type).map (·.size)=some fsz) (h0:fsz≠0) {x v:AV} {c:Value} (hx:VR ι I w x c)
 (hr:y9 fd.offset x=some v):
 eK P ι I h w v (Instr.fieldAt s c f):=by
 unfold y9 at hr
 cases hx<;>simp only[] at hr<;>try(cases hr;done)
 case ptr b off cb o room hb=>
  cases hr
  refine .same H (c:= .pointer (some ⟨cb,o+(off+fd.offset),none⟩)) ?_ (.ptr _ _ _ _ _ hb)
  simp[Instr.fieldAt,cL hu,hf,Instr.sureAddr,fieldPlace,l9 aO,h0,Addr.add_mid,Nat.add_assoc]
 case vp xs off cb o g hI hc hv h1=>
  cases hr
  refine .same H (c:= .pointer (some ⟨cb,o+(off+fd.offset),none⟩)) ?_ (.vp _ _ _ _ g hI hc hv h1)
  simp[Instr.fieldAt,cL hu,hf,Instr.sureAddr,fieldPlace,l9 aO,h0,Addr.add_mid,Nat.add_assoc]
theorem aju (H:HR ι I h w) {t e:TypeId} {len sz:Nat} (hu:P.underlying t=some (.array len e)) (hs:(P.info? e).map (·.size)=some sz)
 {x i v:AV} {c ci:Value} (hx:VR ι I w x c) (hi:VR ι I w i ci)
 (hr:yW sz len x i=some v):eK P ι I h w v (Instr.indexAt t c ci):=by
 unfold yW at hr
 cases hi<;>simp only[] at hr<;>try(cases hr;done)
 case int k n=>
  split at hr
  ·rename_i hb
   cases hx<;>simp only[] at hr<;>try(cases hr;done)
   case ptr b off cb o room bE=>
    cases hr
    refine .same H (c:= .pointer (some ⟨cb,o+(off+n.toNat*sz),none⟩)) ?_ (.ptr _ _ _ _ _ bE)
    simp[Instr.indexAt,asIntOf,cL hu,Instr.sureAddr,hb,l9 hs,Addr.add_mid,Nat.add_assoc]
   case vp xs off cb o g hI hc hv h1=>
    cases hr
    refine .same H (c:= .pointer (some ⟨cb,o+(off+n.toNat*sz),none⟩)) ?_ (.vp _ _ _ _ g hI hc hv h1)
    simp[Instr.indexAt,asIntOf,cL hu,Instr.sureAddr,hb,l9 hs,Addr.add_mid,Nat.add_assoc]
  ·cases hr
theorem ajt (H:HR ι I h w) {t e:TypeId} {sz:Nat} (hu:P.underlying t=some (.slice e)) (hs:(P.info? e).map (·.size)=some sz)
 {x i v:AV} {c ci:Value} (hx:VR ι I w x c) (hi:VR ι I w i ci)
 (hr:m5 sz x i=some v):eK P ι I h w v (Instr.indexAt t c ci):=by
 unfold m5 at hr
 cases hi<;>simp only[] at hr<;>try(cases hr;done)
 case int k n=>
  split at hr
  ·rename_i h0
   cases hx<;>simp only[] at hr<;>try(cases hr;done)
   case vs xs t cb o s cap g cE hI hc hv h1 bu ht=>
    split at hr
    ·rename_i row AG
     split at hr
     ·rename_i hlen
      cases hr
      have aD:=(List.getElem?_eq_some_iff.1 AG).1
      have jc:s=sz:=by rw[<-cE _ _ AG];exact hlen
      subst jc
      refine .same H (c:= .pointer (some ⟨cb,o+n.toNat*s+0,none⟩)) ?_ (.vp row 0 cb (o+n.toNat*s) (g n.toNat) (fun j hj=>hI _ _ aD (by omega)) (fun j hj=>hc _ _ aD (by omega)) (fun j v hj=>hv _ _ _ _ AG hj) (h1 row (List.mem_of_getElem? AG)))
      have hb:0<=n/\n<(xs.length:Int):=⟨h0,by omega⟩
      simp[Instr.indexAt,asIntOf,cL hu,hb,l9 hs,Addr.add_mid]
     ·cases hr
    ·cases hr
   case rs b off len aN cb o room cap hb hlen bu=>
    split at hr
    ·rename_i bE
     obtain⟨rfl,aD⟩:=bE
     cases hr
     refine .same H (c:= .pointer (some ⟨cb,o+(off+n.toNat*aN),none⟩)) ?_ (.ptr _ _ _ _ _ hb)
     simp[Instr.indexAt,asIntOf,cL hu,h0,aD,l9 hs,Addr.add_mid,Nat.add_assoc]
    ·cases hr
  ·cases hr
end
end
section
open Go
section
variable {P:Program} {ι:aG} {I:aQ} {h:aa} {w:World}
def LR (ι:aG) (I:aQ) (w:World) (l:List AV) (l':List Value):Prop:=
 l.length=l'.length/\ ∀(i:Nat) (v:AV) (c:Value),l[i]? =some v->l'[i]? =some c->VR ι I w v c
theorem LR.get {l:List AV} {l':List Value} (hl:LR ι I w l l') {i:Nat} {v:AV} (hv:l[i]? =some v): ∃c,l'[i]? =some c/\VR ι I w v c:=by
 have hi:=(List.getElem?_eq_some_iff.1 hv).1
 have aA:i<l'.length:=by rw[<-hl.1];exact hi
 exact⟨l'[i],List.getElem?_eq_getElem aA,hl.2 i v _ hv (List.getElem?_eq_getElem aA)⟩
theorem LR.nil:LR ι I w [] []:=⟨rfl,fun i v c h=>by simp at h⟩
theorem LR.cons {a:AV} {c:Value} {l:List AV} {l':List Value} (h:VR ι I w a c) (hl:LR ι I w l l'):LR ι I w (a::l) (c::l'):=by
 refine⟨by simp[hl.1],fun i v c' hv hc=>?_⟩
 cases i with
 |zero=>simp at hv hc;subst hv;subst hc;exact h
 |succ i=>exact hl.2 i v c' (by simpa using hv) (by simpa using hc)
theorem LR.take {l:List AV} {l':List Value} (hl:LR ι I w l l') (n:Nat):LR ι I w (l.take n) (l'.take n):=by
 refine⟨by simp[hl.1],fun i v c hv hc=>?_⟩
 rw[List.getElem?_take] at hv hc
 split at hv
 ·rename_i aD;rw[if_pos aD] at hc;exact hl.2 i v c hv hc
 ·cases hv
theorem LR.drop {l:List AV} {l':List Value} (hl:LR ι I w l l') (n:Nat):LR ι I w (l.drop n) (l'.drop n):=by
 refine⟨by simp[hl.1],fun i v c hv hc=>?_⟩
 rw[List.getElem?_drop] at hv hc
 exact hl.2 _ v c hv hc
theorem LR.append {l m:List AV} {l' m':List Value} (hl:LR ι I w l l') (hm:LR ι I w m m'):LR ι I w (l++m) (l'++m'):=by
 refine⟨by simp[hl.1,hm.1],fun i v c hv hc=>?_⟩
 rw[List.getElem?_append] at hv hc
 rw[<-hl.1] at hc
 split at hv
 ·rename_i aD;rw[if_pos aD] at hc;exact hl.2 i v c hv hc
 ·rename_i aD;rw[if_neg aD] at hc;exact hm.2 _ v c hv hc
theorem LR.mono {ι':aG} {I':aQ} {w':World} {l:List AV} {l':List Value} (hl:LR ι I w l l')
 (h: ∀a v,VR ι I w a v->VR ι' I' w' a v):LR ι' I' w' l l':=⟨hl.1,fun i v c hv hc=>h _ _ (hl.2 i v c hv hc)⟩
theorem VR.cells {a:AV} {c:Value} (hv:VR ι I w a c) (hu:a≠ .undef):LR ι I w a.cells c.cells.toList:=by
 cases hv<;>first
  |exact(hu rfl).elim
  |(refine LR.cons ?_ LR.nil;constructor<;>assumption)
  |(rename_i cs bF hl hv;exact⟨by simpa [AV.cells,Value.cells] using hl,by simpa [AV.cells,Value.cells] using hv⟩)
  |(rename_i h1;cases c<;>first|exact LR.cons (.fw _ h1) LR.nil|(simp[Value.oneCell'] at h1))
def GS (pr:Bool):Value->Option AV
 | .int k n=>some (.int k n)
 | .bool b=>some (.bool b)
 | .float k b=>some (.fU k b)
 | .complex k a b=>some (.fX k a b)
 | .string s=>some (.str s)
 | .pointer none=>some .nil
 | .slice none 0 0=>some (if pr then .bA else .vs [] .full)
 | .map none=>some (.map none)
 | .nilFunc=>some .jm
 |_=>none
def ui (pr:Bool):List Value->Option (List AV)
 |[]=>some []
 |v::vs=>match GS pr v,ui pr vs with
  |some a,some l=>some (a::l)
  |_,_=>none
def B3 (pr:Bool):Value->Option AV
 | .agg cs=>(ui pr cs.toList).map .agg
 |v=>GS pr v
theorem WB {pr:Bool} {v:Value} {a:AV} (hc:GS pr v=some a):VR ι I w a v/\a.one=true:=by
 unfold GS at hc
 split at hc<;>first
  |(cases hc;done)
  |(cases hc;exact⟨by constructor,rfl⟩)
  |skip
 cases pr
 ·cases hc;exact⟨.gw _ (.inr rfl),rfl⟩
 ·cases hc;exact⟨.bA,rfl⟩
theorem qO {pr:Bool}: ∀{vs:List Value} {l:List AV},ui pr vs=some l->LR ι I w l vs/\ ∀v∈l,v.one=true
 |[],l,hc=>by simp[ui] at hc;subst hc;exact⟨LR.nil,by simp⟩
 |v::vs,l,hc=>by
  simp only[ui] at hc
  split at hc
  ·rename_i a l' ha hl
   cases hc
   have h1:=WB (ι:=ι) (I:=I) (w:=w) ha
   have h2:=qO hl
   exact⟨LR.cons h1.1 h2.1,
    by intro x hx;rcases List.mem_cons.1 hx with rfl|hx;exact h1.2;exact h2.2 x hx⟩
  ·cases hc
end
end
section
open Go
section
variable {P:Program} {ι:aG} {I:aQ} {h:aa} {w:World}
theorem LW {a:AV} (h:a.cells.all AV.one=true):a≠ .undef:=by
 rintro rfl;simp[AV.cells,AV.one] at h
theorem Yx (off:Nat): ∀(vs:List Value) (k:Nat) (cells:Array Value),
 ((vs.zipIdx k).foldl (fun cs (p:Value×Nat)=>cs.setIfInBounds (off+p.2) p.1) cells).size=cells.size/\
 ∀i:Nat,((vs.zipIdx k).foldl (fun cs (p:Value×Nat)=>cs.setIfInBounds (off+p.2) p.1) cells)[i]? =
  if off+k<=i/\i<off+k+vs.length/\i<cells.size then vs[i-(off+k)]? else cells[i]?
 |[],k,cells=>by simp;omega
 |v::vs,k,cells=>by
  have ih:=Yx off vs (k+1) (cells.setIfInBounds (off+k) v)
  simp only[List.zipIdx_cons,List.foldl_cons]
  refine⟨by rw[ih.1];simp,fun i=>?_⟩
  rw[ih.2 i]
  simp only[Array.size_setIfInBounds,List.length_cons,Array.getElem?_setIfInBounds]
  by_cases h1:off+(k+1)<=i/\i<off+(k+1)+vs.length/\i<cells.size
  ·rw[if_pos h1,if_pos (by omega)]
   rw[show i-(off+k)=(i-(off+(k+1)))+1 by omega,List.getElem?_cons_succ]
  ·rw[if_neg h1]
   by_cases h2:off+k=i
   ·subst h2
    by_cases h3:off+k<cells.size
    ·simp[h3]
    ·simp[h3]
   ·rw[if_neg h2]
    by_cases h4:off+k<=i/\i<off+k+(vs.length+1)/\i<cells.size
    ·omega
    ·rw[if_neg h4]
theorem aj6 (cs:List AV) (off:Nat) (vs:List AV) (h:off+vs.length<=cs.length) (i:Nat):
 (di cs off vs)[i]? =if off<=i/\i<off+vs.length then vs[i-off]? else cs[i]?:=by
 unfold di
 rw[List.getElem?_append,List.getElem?_append]
 simp only[List.length_append,List.length_take,Nat.min_eq_left (show off<=cs.length by omega)]
 by_cases h1:i<off
 ·rw[if_pos (by omega),if_pos h1,List.getElem?_take,if_pos h1,if_neg (by omega)]
 ·by_cases h2:i<off+vs.length
  ·rw[if_pos h2,if_neg h1,if_pos (by omega)]
  ·rw[if_neg h2,if_neg (by omega),List.getElem?_drop]
   congr 1;omega
theorem K0 (cs:List AV) (off:Nat) (vs:List AV) (h:off+vs.length<=cs.length):(di cs off vs).length=cs.length:=by
 unfold di;simp;omega
theorem Ln (cs:List AV) (off:Nat) (vs:List AV) (h:off<=cs.length) (i:Nat):
 (di cs off vs)[i]? =if off<=i/\i<off+vs.length then vs[i-off]? else cs[i]?:=by
 unfold di
 rw[List.getElem?_append,List.getElem?_append]
 simp only[List.length_append,List.length_take,Nat.min_eq_left h]
 by_cases h1:i<off
 ·rw[if_pos (by omega),if_pos h1,List.getElem?_take,if_pos h1,if_neg (by omega)]
 ·by_cases h2:i<off+vs.length
  ·rw[if_pos h2,if_neg h1,if_pos (by omega)]
  ·rw[if_neg h2,if_neg (by omega),List.getElem?_drop]
   congr 1;omega
theorem ahI (cs:List AV) (off:Nat) (vs:List AV) (h:off<=cs.length):(di cs off vs).length=max cs.length (off+vs.length):=by
 unfold di;simp;omega
def OR (ι:aG) (I:aQ) (w:World) (ρ:Env) (x:aq) (c:Value):Prop:=VR ι I w (x.ev ρ) c
theorem Yz (place:Nat->Option (Nat×Nat)) {ρ:Env}: ∀(ps:List (Nat×Nat×aq)) (dE:List (Nat×Value)) (cs:List AV) (cells:Array Value) (r:List AV),
 ps.length=dE.length->(∀(i off sz j:Nat) (x:aq) (c:Value),ps[i]? =some (off,sz,x)->dE[i]? =some (j,c)->place j=some (off,sz)/\OR ι I w ρ x c)->
 LR ι I w cs cells.toList->jX ρ cs ps=some r-> ∃G2,Instr.fill place cells dE=some G2/\LR ι I w r G2.toList:=by
 intro ps
 induction ps with
 |nil=>
  intro dE cs cells r hl _ hc hf
  cases dE with
  |nil=>simp[jX] at hf;subst hf;exact⟨cells,rfl,hc⟩
  |cons _ _=>simp at hl
 |cons p ps ih=>
  intro dE cs cells r hl hp hc hf
  cases dE with
  |nil=>simp at hl
  |cons q dE=>
   obtain⟨off,sz,x⟩:=p
   obtain⟨j,c⟩:=q
   obtain⟨ir,hx⟩:=hp 0 off sz j x c rfl rfl
   simp only[jX] at hf
   split at hf
   ·rename_i fO
    obtain⟨h1,h2,h3⟩:=fO
    have bt:=VR.cells hx (LW h3)
    have aO:c.cells.size=sz:=by rw[<-h1,bt.1];simp
    have dp:cells.size=cs.length:=by rw[hc.1];simp
    have acI:=Yx off c.cells.toList 0 cells
    have avq:c.cells.zipIdx.foldl (fun cs (x:Value×Nat)=>cs.setIfInBounds (off+x.2) x.1) cells=(c.cells.toList.zipIdx 0).foldl (fun cs (x:Value×Nat)=>cs.setIfInBounds (off+x.2) x.1) cells:=by
     rw[<-Array.foldl_toList,Array.toList_zipIdx]
    have gl:LR ι I w (di cs off (x.ev ρ).cells) (c.cells.zipIdx.foldl (fun cs (x:Value×Nat)=>cs.setIfInBounds (off+x.2) x.1) cells).toList:=by
     rw[avq]
     refine⟨by rw[K0 _ _ _ (by omega)];simp only[Array.length_toList];rw[acI.1,dp],fun i v c' hv cR=>?_⟩
     rw[aj6 _ _ _ (by omega)] at hv
     rw[Array.getElem?_toList,acI.2 i] at cR
     have hlen:c.cells.toList.length=(x.ev ρ).cells.length:=bt.1.symm
     split at hv
     ·rename_i aE
      rw[if_pos (by simp only[Nat.add_zero];omega)] at cR
      exact bt.2 _ v c' hv (by simpa using cR)
     ·rename_i aE
      rw[if_neg (by simp only[Nat.add_zero];omega)] at cR
      exact hc.2 i v c' hv (by simpa using cR)
    obtain⟨G2,he,hr⟩:=ih dE _ _ r (by simpa using hl) (fun i off sz j x c hi hj=>hp (i+1) off sz j x c (by simpa using hi) (by simpa using hj)) gl hf
    refine⟨G2,?_,hr⟩
    unfold Instr.fill
    rw[ir]
    simp only[]
    rw[if_neg (by simp[aO];omega)]
    exact he
   ·cases hf
theorem akL (H:HR ι I h w) {t:TypeId} {z:Value} {za:List AV} {ρ:Env} {ps:List (Nat×Nat×aq)} {dE:Array (Nat×Value)} {r:List AV}
 {place:Nat->Option (Nat×Nat)}
 (ao1: ∀cells,Instr.fill place z.cells dE.toList=some cells->P.built t dE.toList=some cells)
 (hz:LR ι I w za z.cells.toList) (hl:ps.length=dE.size)
 (hp: ∀(i off sz j:Nat) (x:aq) (c:Value),ps[i]? =some (off,sz,x)->dE[i]? =some (j,c)->place j=some (off,sz)/\OR ι I w ρ x c)
 (hf:jX ρ za ps=some r):eK P ι I h w (.agg r) (Instr.build t dE):=by
 obtain⟨cells,hc,hr⟩:=Yz place ps dE.toList za z.cells r (by simpa using hl) (fun i off sz j x c hi hj=>hp i off sz j x c hi (by simpa using hj)) hz hf
 refine .same H (run_build w t dE cells (ao1 _ hc)) ?_
 have:=VR.agg (ι:=ι) (I:=I) (w:=w) r cells.toList hr.1 hr.2
 simpa using this
end
end
section
open Go
section
variable {P:Program} {ι:aG} {I:aQ} {h:aa} {w:World}
theorem HR.push (H:HR ι I h w) {w':World} {I':aQ} (ny: ∀k,k<w.heap.size->w'.heap[k]? =w.heap[k]?) (uK:w.heap.size<=w'.heap.size)
 (jJ:w'.os=w.os) (CW:w'.tape=w.tape) (oR:w'.output=w.output)
 (hI: ∀k j,I' k j->I k j\/(w.heap.size<=k/\k<w'.heap.size)) (hI2: ∀k j,I k j->I' k j):
 HR ι I' h w'/\Ext (fun _=>False) ι I h w ι I' h w':=by
 have bt: ∀k j,k<w.heap.size->w'.cell? ⟨k,j,none⟩=w.cell? ⟨k,j,none⟩:=fun k j hk=>by simp[World.cell?,ny k hk]
 have mw: ∀k j,k<w.heap.size->w'.frozen? ⟨k,j,none⟩=w.frozen? ⟨k,j,none⟩:=fun k j hk=>by simp[World.frozen?,ny k hk]
 have E:Ext (fun _=>False) ι I h w ι I' h w':=
  {eJ:=fun _ _=>rfl,bN:=fun _ _ h=>h,next:=Nat.le_refl _,bn:=hI2,os:=jJ,tape:=CW,output:=oR,size:=uK
   block:=fun k hk _=>ny k hk,cell:=fun k j hk _=>bt k j hk,frozen:=fun k j hk _=>mw k j hk
   own:=fun _ _ h=> .inl h,fQ:=fun k j h=>(hI k j h).imp id (fun h=> .inr h.1),lost:=fun _ _ _=>rfl}
 refine⟨?_,E⟩
 refine{cD:=H.cD,inside:=fun b l hb=>Nat.lt_of_lt_of_le (H.inside b l hb) uK,cells:=?_,maps:=?_,eQ:=?_,dm:=H.dm,bn:=?_,dg:=?_
        pl:=fun b cs cb o room hg hb n=>by rw[mw cb n (H.inside b _ hb)];exact H.pl b cs cb o room hg hb n}
 ·intro b cs l hg hb
  obtain⟨cb,o,room,rfl,hle,h1,hc⟩:=H.cells b cs l hg hb
  have aE:cb<w.heap.size:=H.inside b _ hb
  refine⟨cb,o,room,rfl,hle,h1,fun j hj=>?_⟩
  obtain⟨c,bj,a9,fp⟩:=hc j hj
  exact⟨c,by rw[bt _ _ aE];exact bj,by rw[mw _ _ aE];exact a9,fun v hv=>E.vr H (fp v hv)⟩
 ·intro b es l hg hb
  obtain⟨cb,aV,clock,rfl,hm,hl,hv⟩:=H.maps b es l hg hb
  refine⟨cb,aV,clock,rfl,by rw[ny cb (H.inside b _ hb)];exact hm,hl,fun i k v e h1 h2=>?_⟩
  obtain⟨a,c⟩:=hv i k v e h1 h2
  exact⟨E.vr H a,E.vr H c⟩
 ·intro b l hg hb
  obtain⟨cb,lo,hi,rfl,hc⟩:=H.eQ b l hg hb
  have aE:cb<w.heap.size:=H.inside b _ hb
  refine⟨cb,lo,hi,rfl,fun j h1 h2=>?_⟩
  obtain⟨c,bj,a9⟩:=hc j h1 h2
  exact⟨c,by rw[bt _ _ aE];exact bj,by rw[mw _ _ aE];exact a9⟩
 ·intro b l x k j hb hg hl hk
  rcases hI k j hk with hk|hk
  ·exact H.bn b l x k j hb hg hl hk
  ·have:=H.inside b l hb
   have:k=l.block:=by cases l<;>simp[Loc.has] at hl<;>simp[Loc.block,hl]
   omega
 ·intro k j hk
  rcases hI k j hk with hk|hk
  ·exact Nat.lt_of_lt_of_le (H.dg k j hk) uK
  ·exact hk.2
theorem flat_get {sz:Nat}: ∀(rows:List (List AV)),(∀r∈rows,r.length=sz)-> ∀(i j:Nat) (row:List AV),rows[i]? =some row->j<sz->
 rows.flatten[i*sz+j]? =row[j]?
 |[],_,i,j,row,h,_=>by simp at h
 |r::rows,hu,0,j,row,h,hj=>by
  simp at h;subst h
  have hr:=hu r (by simp)
  simp only[List.flatten_cons,Nat.zero_mul,Nat.zero_add]
  rw[List.getElem?_append_left (by omega)]
 |r::rows,hu,i+1,j,row,h,hj=>by
  have hr:=hu r (by simp)
  simp only[List.flatten_cons]
  rw[List.getElem?_append_right (by rw[hr,Nat.succ_mul];omega),hr,show(i+1)*sz+j-sz=i*sz+j by rw[Nat.succ_mul];omega]
  exact flat_get rows (fun r h=>hu r (List.mem_cons_of_mem _ h)) i j row (by simpa using h) hj
theorem mV {sz:Nat}: ∀(rows:List (List AV)),(∀r∈rows,r.length=sz)->rows.flatten.length=rows.length*sz
 |[],_=>by simp
 |r::rows,hu=>by
  rw[List.flatten_cons,List.length_append,mV rows (fun r h=>hu r (List.mem_cons_of_mem _ h)),hu r (by simp),List.length_cons,Nat.succ_mul];omega
theorem Gw {sz:Nat}: ∀(rows:List (List AV)),(∀r∈rows,r.length=sz)-> ∀(i:Nat) (vs:List AV),i<rows.length->vs.length=sz->
 (rows.set i vs).flatten=di rows.flatten (i*sz) vs
 |[],_,i,vs,hi,_=>by simp at hi
 |r::rows,hu,0,vs,_,hv=>by
  have hr:=hu r (by simp)
  simp only[List.set_cons_zero,List.flatten_cons,di,Nat.zero_mul,List.take_zero,List.nil_append,Nat.zero_add]
  congr 1
  rw[List.drop_append_of_le_length (by omega),List.drop_of_length_le (by omega),List.nil_append]
 |r::rows,hu,i+1,vs,hi,hv=>by
  have hr:=hu r (by simp)
  simp only[List.set_cons_succ,List.flatten_cons]
  rw[Gw rows (fun r h=>hu r (List.mem_cons_of_mem _ h)) i vs (by simpa using hi) hv]
  have e1:(i+1)*sz=r.length+i*sz:=by rw[hr,Nat.succ_mul];omega
  have e2:r.length+i*sz+vs.length=r.length+(i*sz+vs.length):=by omega
  simp only[di]
  rw[e1,e2]
  have t1:(r++rows.flatten).take (r.length+i*sz)=r++rows.flatten.take (i*sz):=by
   rw[List.take_append,List.take_of_length_le (by omega)];simp
  have t2:(r++rows.flatten).drop (r.length+(i*sz+vs.length))=rows.flatten.drop (i*sz+vs.length):=by
   rw[List.drop_append];simp
  rw[t1,t2]
  simp[List.append_assoc]
theorem VU {ρ:Env} {sz:Nat}: ∀(ps:List (Nat×aq)) (rows r:List (List AV)),(∀x∈rows,x.length=sz/\ ∀v∈x,v.one=true)->iA ρ sz rows ps=some r->
 (∀x∈r,x.length=sz/\ ∀v∈x,v.one=true)/\r.length=rows.length/\jX ρ rows.flatten (ps.map fun p=>(p.1*sz,sz,p.2))=some r.flatten
 |[],rows,r,hu,h=>by simp[iA] at h;subst h;exact⟨hu,rfl,by simp[jX]⟩
 |(i,x)::ps,rows,r,hu,h=>by
  simp only[iA] at h
  split at h
  ·rename_i hc
   obtain⟨h1,h2,h3⟩:=hc
   have iq: ∀y∈rows.set i (x.ev ρ).cells,y.length=sz/\ ∀v∈y,v.one=true:=by
    intro y hy
    rcases List.mem_or_eq_of_mem_set hy with hy|rfl
    ·exact hu y hy
    ·exact⟨h1,fun v hv=>(List.all_eq_true.1 h3) v hv⟩
   obtain⟨a,b,c⟩:=VU ps _ r iq h
   refine⟨a,by rw[b];simp,?_⟩
   simp only[List.map_cons,jX]
   have bT:=mV rows (fun r h=>(hu r h).1)
   have hle:i*sz+sz<=rows.flatten.length:=by
    rw[bT,<-Nat.succ_mul];exact Nat.mul_le_mul_right _ h2
   rw[if_pos ⟨h1,hle,h3⟩,<-Gw rows (fun r h=>(hu r h).1) i _ h2 h1]
   exact c
  ·cases h
theorem VG (za:List AV): ∀(n i:Nat),i<n*za.length->(List.replicate n za).flatten[i]? =za[i%za.length]?
 |0,i,h=>by simp at h
 |n+1,i,h=>by
  simp only[List.replicate_succ,List.flatten_cons]
  by_cases aD:i<za.length
  ·rw[List.getElem?_append_left aD,Nat.mod_eq_of_lt aD]
  ·have mv:i-za.length<n*za.length:=by rw[Nat.succ_mul] at h;omega
   rw[List.getElem?_append_right (by omega),VG za n _ mv]
   congr 1
   exact(Nat.mod_eq_sub_mod (by omega)).symm
theorem Bu {za:List AV} {z:Array Value} (hz:LR ι I w za z.toList) (n:Nat) (h0:za.length≠0\/n=0):
 LR ι I w (List.replicate n za).flatten (madeCells z (n*z.size)).toList:=by
 have hl:za.length=z.size:=by rw[hz.1];simp
 refine⟨by rw[mV (sz:=za.length) _ (fun r hr=>by rw[List.eq_of_mem_replicate hr])];simp[size_madeCells,hl],fun i v c hv hc=>?_⟩
 have hi:i<n*za.length:=by
  have:=(List.getElem?_eq_some_iff.1 hv).1
  rwa [mV (sz:=za.length) _ (fun r hr=>by rw[List.eq_of_mem_replicate hr]),List.length_replicate] at this
 rw[VG za n i hi] at hv
 have iC:0<za.length:=by
  rcases h0 with h|rfl
  ·omega
  ·simp at hi
 have hm:i%za.length<za.length:=Nat.mod_lt _ iC
 have aE:i<n*z.size:=by rw[<-hl];exact hi
 have:c=z[i%z.size]! :=by
  have h':(madeCells z (n*z.size))[i]? =some c:=by simpa using hc
  simp[madeCells,aE] at h'
  simpa using h'.symm
 subst this
 refine hz.2 (i%za.length) v _ hv ?_
 rw[hl] at hm ⊢
 simp[hm]
theorem Md (H:HR ι I h w) {w':World} {e:TypeId} {fr:Nat×Nat} {arr:Array Value} (rD:w'.heap=w.heap.push (.cells arr e fr))
 (jJ:w'.os=w.os) (CW:w'.tape=w.tape) (oR:w'.output=w.output)
 {rows:List (List AV)} {sz cap:Nat} (hu: ∀x∈rows,x.length=sz/\ ∀v∈x,v.one=true) {l:List Value}
 (hl:LR ι I w rows.flatten l) (rM: ∀(i:Nat) (c:Value),l[i]? =some c->arr[i]? =some c) (bu:rows.length<=cap) (t:aH) (ht:t= .ao\/(t= .full/\cap=rows.length)):
 ∃I',VR ι I' w' (.vs rows t) (.slice (some ⟨w.heap.size,0,none⟩) rows.length cap)/\HR ι I' h w'/\Ext (fun _=>False) ι I h w ι I' h w':=by
 have aO:w'.heap.size=w.heap.size+1:=by rw[rD];simp
 obtain⟨H',E⟩:=H.push (w':=w') (I':=fun k j=>I k j\/k=w.heap.size) (fun k hk=>by rw[rD,Array.getElem?_push,if_neg (by omega)]) (by omega) jJ CW oR
  (fun k j hk=>hk.imp id (fun h=>by omega)) (fun k j hk=> .inl hk)
 refine⟨_,?_,H',E⟩
 have bt: ∀j,w'.cell? ⟨w.heap.size,j,none⟩=arr[j]?:=fun j=>by simp[World.cell?,rD]
 have axa:=mV rows (fun r hr=>(hu r hr).1)
 have aT: ∀(i j:Nat) (row:List AV) (v:AV),rows[i]? =some row->row[j]? =some v-> ∃c,l[i*sz+j]? =some c/\VR ι I w v c:=by
  intro i j row v hi hj
  have hr:=(hu row (List.mem_of_getElem? hi)).1
  have dP:=(List.getElem?_eq_some_iff.1 hj).1
  have:=flat_get rows (fun r hr=>(hu r hr).1) i j row hi (by omega)
  exact hl.get (by rw[this];exact hj)
 refine .vs rows t w.heap.size 0 sz cap (fun i j=>l.getD (i*sz+j) undef) (fun i row hi=>(hu row (List.mem_of_getElem? hi)).1) (fun i j _ _=> .inr rfl) ?_ ?_ (fun row hr v hv=>(hu row hr).2 v hv) bu ?_
 ·intro i j hi hj
  have cE:=List.getElem?_eq_getElem hi
  have hr:=(hu rows[i] (List.getElem_mem hi)).1
  obtain⟨c,hc,_⟩:=aT i j _ _ cE (List.getElem?_eq_getElem (by omega))
  rw[Nat.zero_add,bt,rM _ _ hc]
  simp[List.getD,hc]
 ·intro i row j v hi hj
  obtain⟨c,hc,hv⟩:=aT i j row v hi hj
  have:l.getD (i*sz+j) undef=c:=by simp[List.getD,hc]
  rw[this]
  exact E.vr H hv
 ·rcases ht with rfl|⟨rfl,hh⟩
  ·trivial
  ·exact hh
end
end
section
open Go
section
variable {P:Program} {ι:aG} {I:aQ} {h:aa} {w:World}
theorem ail {ρ:Env} {sz:Nat} (ps:List (Nat×aq)) (dE:List (Nat×Value)) (hl:ps.length=dE.length)
 (hp: ∀(i j k:Nat) (x:aq) (c:Value),ps[i]? =some (j,x)->dE[i]? =some (k,c)->j=k/\OR ι I w ρ x c):
 (ps.map fun p=>(p.1*sz,sz,p.2)).length=dE.length/\
 ∀(i off aN j:Nat) (x:aq) (c:Value),(ps.map fun p=>(p.1*sz,sz,p.2))[i]? =some (off,aN,x)->dE[i]? =some (j,c)->
  (some (j*sz,sz):Option (Nat×Nat))=some (off,aN)/\OR ι I w ρ x c:=by
 refine⟨by simpa using hl,fun i off aN j x c hi hj=>?_⟩
 rw[List.getElem?_map] at hi
 cases hq:ps[i]? with
 |none=>simp[hq] at hi
 |some q=>
  obtain⟨k,y⟩:=q
  simp[hq] at hi
  obtain⟨rfl,rfl,rfl⟩:=hi
  obtain⟨rfl,ho⟩:=hp i k j y c hq hj
  exact⟨rfl,ho⟩
theorem LR.one {za:List AV} {z:List Value} (h:LR ι I w za z) (n:Nat) (h1: ∀v∈za,v.one=true): ∀x∈List.replicate n za,x.length=za.length/\ ∀v∈x,v.one=true:=by
 intro x hx
 rw[List.eq_of_mem_replicate hx]
 exact⟨rfl,h1⟩
theorem V8 {za:List AV} {z:Value} {ρ:Env} {n:Nat} {ps:List (Nat×aq)} {dE:Array (Nat×Value)} {rows:List (List AV)}
 (hz:LR ι I w za z.cells.toList) (h1: ∀v∈za,v.one=true) (h0:za.length≠0) (hl:ps.length=dE.size)
 (hp: ∀(i j k:Nat) (x:aq) (c:Value),ps[i]? =some (j,x)->dE[i]? =some (k,c)->j=k/\OR ι I w ρ x c)
 (hf:iA ρ za.length (List.replicate n za) ps=some rows):
 (∀x∈rows,x.length=za.length/\ ∀v∈x,v.one=true)/\rows.length=n/\
 ∃cells,Instr.fill (fun i=>some (i*za.length,za.length)) (madeCells z.cells (n*z.cells.size)) dE.toList=some cells/\LR ι I w rows.flatten cells.toList:=by
 obtain⟨hu,hn,hA⟩:=VU ps _ rows (LR.one hz n h1) hf
 refine⟨hu,by simpa using hn,?_⟩
 obtain⟨a,b⟩:=ail (sz:=za.length) ps dE.toList (by simpa using hl) (fun i j k x c hi hj=>hp i j k x c hi (by simpa using hj))
 exact Yz _ _ dE.toList _ _ _ a b (Bu hz n (.inl h0)) hA
theorem WM (w:World) {t e:TypeId} {ie:TypeInfo} {z:Value} {len:Nat} {parts:Array (Nat×Value)} {cells:Array Value}
 (hu:P.underlying t=some (.slice e)) (cN:P.info? e=some ie) (hz:ie.zero=some z) (aO:ie.size=z.cells.size) (G0:len*ie.size<=2^24)
 (hc:Instr.fill (fun i=>some (i*ie.size,ie.size)) (madeCells z.cells (len*z.cells.size)) parts.toList=some cells):
 (Instr.buildSlice t len parts).run P w= .ok (.slice (some ⟨w.heap.size,0,none⟩) len len) (w.alloc (.cells cells e)):=by
 by_cases h0:len*ie.size=0
 ·have Vu:len*z.cells.size=0:=by rw[<-aO];exact h0
  rw[Vu] at hc
  have he:madeCells z.cells 0= #[]:=by simp[madeCells,Array.range_zero']
  rw[he] at hc
  simp[Instr.buildSlice,cL hu,Go.sizeOf,typeInfo,cN,h0,hc,newRow,Array.range_zero']
 ·exact run_buildSlice w t e len parts cells ie z hu cN hz (by omega) h0 (by rw[<-aO] at hc;exact hc)
theorem ajJ (H:HR ι I h w) {t e:TypeId} {ie:TypeInfo} {z:Value} {za:List AV} {ρ:Env} {n:Nat} {ps:List (Nat×aq)} {dE:Array (Nat×Value)} {rows:List (List AV)}
 (hu:P.underlying t=some (.slice e)) (cN:P.info? e=some ie) (tH:ie.zero=some z) (aO:ie.size=z.cells.size) (G0:n*ie.size<=2^24)
 (hz:LR ι I w za z.cells.toList) (h1: ∀v∈za,v.one=true) (h0:za.length≠0) (hl:ps.length=dE.size)
 (hp: ∀(i j k:Nat) (x:aq) (c:Value),ps[i]? =some (j,x)->dE[i]? =some (k,c)->j=k/\OR ι I w ρ x c)
 (hf:iA ρ za.length (List.replicate n za) ps=some rows):eK P ι I h w (.vs rows .full) (Instr.buildSlice t n dE):=by
 obtain⟨iq,hn,cells,hc,dn⟩:=V8 hz h1 h0 hl hp hf
 have fy:za.length=z.cells.size:=by rw[hz.1];simp
 have hr:=WM (P:=P) w (parts:=dE) (cells:=cells) hu cN tH aO G0 (by rw[aO,<-fy];rw[<-fy] at hc;exact hc)
 obtain⟨I',hv,H',E⟩:=Md H (w':=w.alloc (.cells cells e)) (e:=e) (fr:=(0,0)) (arr:=cells) rfl rfl rfl rfl (cap:=n) iq dn (fun i c hc=>by simpa using hc) (by omega) .full (.inr ⟨rfl,hn.symm⟩)
 exact⟨_,_,I',hr,by rw[hn] at hv;exact hv,H',E⟩
theorem VY {bytes n:Nat} {l c:AV} (hm:kG bytes l c=some n):l= .int .i64 n/\c= .int .i64 n/\n<2^40/\bytes*n<=2^40:=by
 unfold kG at hm
 split at hm
 ·rename_i a b
  split at hm
  ·rename_i hc
   obtain⟨h1,rfl,h2,h3⟩:=hc
   cases hm
   have:((a.toNat:Nat):Int)=a:=Int.toNat_of_nonneg h1
   refine⟨by rw[this],by rw[this],by omega,?_⟩
   have:((bytes*a.toNat:Nat):Int)<=2^40:=by rw[Int.natCast_mul,this];exact h3
   exact_mod_cast this
  ·cases hm
 ·cases hm
theorem Wd (w:World) {t e:TypeId} {ie:TypeInfo} {z:Value} {n bytes:Nat}
 (hu:P.underlying t=some (.slice e)) (cN:P.info? e=some ie) (hz:ie.zero=some z) (aO:ie.size=z.cells.size) (hb:ie.bytes=bytes)
 (hn:n<2^40) (AS:bytes*n<=2^40):
 (Instr.makeSlice t (.int .i64 n) (.int .i64 n)).run P w= .ok (.slice (some ⟨w.heap.size,0,none⟩) n n) (w.alloc (.cells (madeCells z.cells (n*z.cells.size)) e)):=by
 have:=run_make (P:=P) w t e ie z hu cN hz .i64 .i64 n n (by omega) (by omega) (by
  rw[hb]
  have:((bytes*n:Nat):Int)<=281474976710656:=by omega
  rwa [Int.natCast_mul] at this) (by omega)
 simpa [aO] using this
theorem aio (H:HR ι I h w) {t e:TypeId} {ie:TypeInfo} {z:Value} {za:List AV} {n bytes:Nat} {l c:AV} {cl cc:Value}
 (hu:P.underlying t=some (.slice e)) (cN:P.info? e=some ie) (tH:ie.zero=some z) (aO:ie.size=z.cells.size) (hb:ie.bytes=bytes)
 (hz:LR ι I w za z.cells.toList) (h1: ∀v∈za,v.one=true) (h0:za.length≠0)
 (hl:VR ι I w l cl) (hc:VR ι I w c cc) (hm:kG bytes l c=some n):eK P ι I h w (.vs (List.replicate n za) .full) (Instr.makeSlice t cl cc):=by
 obtain⟨rfl,rfl,hn,AS⟩:=VY hm
 cases hl;cases hc
 have hr:=Wd (P:=P) w hu cN tH aO hb hn AS
 obtain⟨I',hv,H',E⟩:=Md H (w':=w.alloc (.cells (madeCells z.cells (n*z.cells.size)) e)) (e:=e) (fr:=(0,0)) (arr:=madeCells z.cells (n*z.cells.size)) rfl rfl rfl rfl (cap:=n)
  (rows:=List.replicate n za) (sz:=za.length) (LR.one hz n h1) (Bu hz n (.inl h0)) (fun i c hc=>by simpa using hc) (by simp) .full (.inr ⟨rfl,by simp⟩)
 exact⟨_,_,I',hr,by simpa using hv,H',E⟩
theorem ajb (H:HR ι I h w) {x v:AV} {c:Value} (hx:VR ι I w x c) (hn:notNil x=some v):
 c≠ .pointer none/\c≠ .nilIface/\c≠ .nilFunc/\(∀nm a b,c≠ .func (.method nm) a b)/\VR ι I w v c:=by
 cases hx<;>simp only[notNil] at hn<;>try(cases hn;done)
 case ptr b off cb o room hb=>cases hn;exact⟨by simp,by simp,by simp,by simp, .ptr _ _ _ _ _ hb⟩
 case vp xs off cb o g hI hc hv h1=>cases hn;exact⟨by simp,by simp,by simp,by simp, .vp _ _ _ _ g hI hc hv h1⟩
 case fn f fs cs eF bF hf hc Kn gr=>cases hn;exact⟨by simp,by simp,by simp,by simp, .fn f fs cs eF bF hf hc Kn gr⟩
theorem alf (op:BinOp) (k:IntKind) (a b:Int) (v:AV) (hs:op≠ .shl/\op≠ .shr) (hv:ki op k a b=some v) (t:TypeId):
 ∃c,(binOp op t (.int k a) (.int k b)).run P w= .ok c w/\VR ι I w v c:=by
 cases op<;>simp only[ki,oO,Option.map_some,Option.map_none] at hv<;>try(cases hv;done)
 case quo=>split at hv;·cases hv
           ·rename_i hb;cases hv;exact⟨_,by simp[binOp,Op.intDiv,hb], .int _ _⟩
 case rem=>split at hv;·cases hv
           ·rename_i hb;cases hv;exact⟨_,by simp[binOp,Op.intDiv,hb], .int _ _⟩
 all_goals
  cases hv
  refine⟨_,by(simp only[binOp,ne_eq,not_true_eq_false,if_false];rfl),?_⟩
  constructor
theorem aj8 (op:BinOp) (k:FloatKind) (a b:Nat) (v:Bool) (hv:Jo op k a b=some v) (t:TypeId):
 (binOp op t (.float k a) (.float k b)).run P w= .ok (.bool v) w:=by
 cases op<;>simp only[Jo] at hv<;>first|(cases hv;done)|(cases hv;simp[binOp,Op.floatCmp])
theorem ani (H:HR ι I h w) {tb:Bool} {op:BinOp} {x y v:AV} {cx cy:Value} (hx:VR ι I w x cx) (hy:VR ι I w y cy) (hv:cB tb op x y=some v) (t:TypeId)
 (ht:tb=true->P.underlying t=some .bool):eK P ι I h w v (binOp op t cx cy):=by
 cases hx<;>try(simp only[cB] at hv;cases hv;done)
 case int k a=>
  cases hy<;>try(simp only[cB] at hv;cases hv;done)
  rename_i k' b
  by_cases h1:op= .shl
  ·subst h1
   simp only[cB] at hv
   split at hv
   ·cases hv
   ·rename_i hb;cases hv;exact .same H (by simp[binOp,Op.shift,hb]) (.int _ _)
  ·by_cases h2:op= .shr
   ·subst h2
    simp only[cB] at hv
    split at hv
    ·cases hv
    ·rename_i hb;cases hv;exact .same H (by simp[binOp,Op.shift,hb]) (.int _ _)
   ·have:cB tb op (.int k a) (.int k' b)=if k=k' then ki op k a b else none:=by cases op<;>first|rfl|exact(h1 rfl).elim|exact(h2 rfl).elim
    rw[this] at hv
    split at hv
    ·rename_i hk;subst hk
     obtain⟨c,hr,hc⟩:=alf (P:=P) (ι:=ι) (I:=I) (w:=w) op k a b v ⟨h1,h2⟩ hv t
     exact .same H hr hc
    ·cases hv
 case bool a=>
  cases hy<;>try(simp only[cB] at hv;cases hv;done)
  rename_i b
  cases op<;>simp only[cB] at hv<;>try(cases hv;done)
  ·split at hv
   ·rename_i hb;cases hv;exact .same H (run_eql_bool w t a b (ht hb)) (.bool _)
   ·cases hv
  ·split at hv
   ·rename_i hb;cases hv;exact .same H (run_neq_bool w t a b (ht hb)) (.bool _)
   ·cases hv
 case fU k a=>
  cases hy<;>try(simp only[cB] at hv;cases hv;done)
  rename_i k' b
  simp only[cB] at hv
  split at hv
  ·rename_i hk;subst hk
   cases hq:Jo op k a b with
   |none=>simp[hq] at hv
   |some r=>simp[hq] at hv;subst hv;exact .same H (aj8 op k a b r hq t) (.bool _)
  ·cases hv
 case fX k a b=>
  cases hy<;>try(simp only[cB] at hv;cases hv;done)
  rename_i k' c d
  simp only[cB] at hv
  split at hv
  ·rename_i hk;subst hk
   cases op<;>simp only[] at hv<;>try(cases hv;done)
   ·cases hv;exact .same H (by simp[binOp,Op.complexOp,Op.Complex.cmp,Op.floatCmp,asBool]) (.bool _)
   ·cases hv;exact .same H (by simp[binOp,Op.complexOp,Op.Complex.cmp,Op.floatCmp,asBool]) (.bool _)
  ·cases hv
 case str a=>
  cases hy<;>try(simp only[cB] at hv;cases hv;done)
  rename_i b
  simp only[cB] at hv
  cases op<;>simp only[] at hv<;>try(cases hv;done)
  ·cases hv;exact .same H (by simp[binOp,Op.stringOp]) (.bool _)
  ·cases hv;exact .same H (by simp[binOp,Op.stringOp]) (.bool _)
end
end
section
open Go
section
variable {P:Program} {ι:aG} {I:aQ} {h:aa} {w:World}
def BH:TypeDesc->Value->Option Nat
 | .pointer _, .pointer none=>some 0
 | .slice _, .slice none 0 0=>some 1
 | .func _ _ _, .nilFunc=>some 2
 | .map _ _, .map none=>some 3
 |_,_=>none
theorem alv {kd:Nat} {x:AV} {c:Value} {b:Bool} (hx:VR ι I w x c) (hb:iw kd x=some b):
 (kd=0/\ ∃a,c= .pointer a/\b=a.isNone)\/(kd=1/\ ∃a l n,c= .slice a l n/\b=a.isNone)\/
 (kd=2/\((c= .nilFunc/\b=true)\/ ∃f u v,c= .func f u v/\b=false))\/(kd=3/\ ∃r,c= .map r/\b=r.isNone):=by
 cases hx
 case vs xs t cb o s cap g hs h1 h2 hv cS bu ht=>
  cases xs with
  |nil=>simp[iw] at hb
  |cons x xs=>
   simp only[iw] at hb
   split at hb
   ·cases hb;exact .inr (.inl ⟨by assumption,_,_,_,rfl,rfl⟩)
   ·cases hb
 all_goals simp only[iw] at hb
 all_goals first
  |(cases hb;done)
  |(split at hb
    ·cases hb;first|exact .inl ⟨by assumption,_,rfl,rfl⟩|exact .inr (.inl ⟨by assumption,_,_,_,rfl,rfl⟩)|exact .inr (.inr (.inl ⟨by assumption, .inl ⟨rfl,rfl⟩⟩))|exact .inr (.inr (.inl ⟨by assumption, .inr ⟨_,_,_,rfl,rfl⟩⟩))|exact .inr (.inr (.inr ⟨by assumption,_,rfl,rfl⟩))
    ·cases hb)
theorem akC {t:TypeId} {d:TypeDesc} {nv:Value} {kd:Nat} (hu:P.underlying t=some d) (hk:BH d nv=some kd) {x:AV} {c:Value} {b:Bool}
 (hx:VR ι I w x c) (hb:iw kd x=some b):(Op.equal t c nv).run P w= .ok b w/\
   ∀neg:Bool,(binOp (if neg then .neq else .eql) t c nv)=(do let r <-Op.equal t c nv;pure (.bool (if neg then !r else r))):=by
 suffices key:(∀n,(Op.equalIn (n+1) t c nv).run P w= .ok b w)/\ ∀neg:Bool,(binOp (if neg then .neq else .eql) t c nv)=(do let r <-Op.equal t c nv;pure (.bool (if neg then !r else r))) from⟨key.1 9999,key.2⟩
 unfold BH at hk
 rcases alv hx hb with⟨rfl,a,rfl,rfl⟩|⟨rfl,a,l,n,rfl,rfl⟩|⟨rfl,⟨rfl,rfl⟩|⟨f,u,v,rfl,rfl⟩⟩|⟨rfl,r,rfl,rfl⟩<;>
  (split at hk<;>first|(simp at hk;done)|skip)
 ·refine⟨fun n=>?_,fun neg=>by cases neg<;>cases a<;>rfl⟩
  cases a<;>simp[Op.equalIn,cL hu]
 ·refine⟨fun n=>?_,fun neg=>by cases neg<;>rfl⟩
  cases a<;>simp[Op.equalIn,cL hu]
 ·exact⟨fun n=>by simp[Op.equalIn,cL hu],fun neg=>by cases neg<;>rfl⟩
 ·exact⟨fun n=>by simp[Op.equalIn,cL hu],fun neg=>by cases neg<;>rfl⟩
 ·refine⟨fun n=>?_,fun neg=>by cases neg<;>rfl⟩
  cases r<;>simp[Op.equalIn,cL hu]
theorem akD (H:HR ι I h w) {t:TypeId} {d:TypeDesc} {nv:Value} {kd:Nat} (hu:P.underlying t=some d) (hk:BH d nv=some kd) (neg:Bool) {x v:AV} {c:Value}
 (hx:VR ι I w x c) (hv:((iw kd x).map fun b=>AV.bool (if neg then !b else b))=some v):eK P ι I h w v (binOp (if neg then .neq else .eql) t c nv):=by
 cases hb:iw kd x with
 |none=>simp[hb] at hv
 |some b=>
  simp[hb] at hv
  subst hv
  obtain⟨hr,hs⟩:=akC (P:=P) hu hk hx hb
  exact .same H (c:= .bool (if neg then !b else b)) (by rw[hs];simp[hr]) (.bool _)
theorem anj (H:HR ι I h w) {op:UnOp} {x v:AV} {c:Value} (hx:VR ι I w x c) (hv:Bi op x=some v):eK P ι I h w v (Op.unary op c):=by
 cases hx<;>simp only[Bi] at hv<;>try(cases hv;done)
 case int k n=>
  cases op<;>simp only[oO,Option.map_some] at hv<;>try(cases hv;done)
  all_goals (cases hv;exact .same H rfl (.int _ _))
 case bool b=>
  cases op<;>simp only[] at hv<;>try(cases hv;done)
  cases hv;exact .same H rfl (.bool _)
theorem aj0 (H:HR ι I h w) {src dst:TypeId} {ds:TypeDesc} {k:IntKind} (hs:P.underlying src=some ds) (hd:P.underlying dst=some (.int k)) {x v:AV} {c:Value} (hx:VR ι I w x c)
 (hv:BQ k x=some v):eK P ι I h w v (convert src dst c):=by
 unfold BQ at hv
 cases hx<;>simp only[] at hv<;>try(cases hv;done)
 cases hv
 refine .same H (c:= .int k (k.wrap _)) ?_ (.int _ _)
 cases ds<;>simp[convert,cL hs,cL hd,Conv.intToInt]
theorem LR.cut {cs:List AV} {bF:List Value} (hl:LR ι I w cs bF) {ag:Bool} {sz off:Nat} {v:AV} (hc:cut ag sz off cs=some v):
 if ag then∃l',VR ι I w v (.agg l'.toArray)/\l'=(bF.drop off).take sz/\off+sz<=bF.length else∃c,bF[off]? =some c/\VR ι I w v c:=by
 unfold Am.cut at hc
 cases ag
 ·simp only[Bool.false_eq_true,if_false] at hc ⊢
  exact hl.get hc
 ·simp only[if_true] at hc ⊢
  split at hc
  ·rename_i hle
   cases hc
   have:=(hl.drop off).take sz
   exact⟨_, .agg _ _ this.1 this.2,rfl,by rw[<-hl.1];exact hle⟩
  ·cases hc
theorem X9 {t:TypeId} {d:TypeDesc} {sz:Nat} (hu:P.underlying t=some d) (hs:(P.info? t).map (·.size)=some sz) (w:World) {cs:List AV} {bF:List Value} (hl:LR ι I w cs bF)
 {off:Nat} {v:AV} (hc:cut d.isRow sz off cs=some v): ∃c,(part t bF.toArray off).run P w= .ok c w/\VR ι I w v c:=by
 have:=hl.cut hc
 cases hd:d.isRow with
 |true=>
  rw[hd] at this
  simp only[if_true] at this
  obtain⟨l',hv,rfl,hle⟩:=this
  refine⟨_,?_,hv⟩
  simp[part,yT hu,hd,l9 hs,List.drop_take]
 |false=>
  rw[hd] at this
  simp only[Bool.false_eq_true,if_false] at this
  obtain⟨c,iW,hv⟩:=this
  exact⟨c,by simp[part,yT hu,hd,iW],hv⟩
theorem amK (H:HR ι I h w) {s:TypeId} {fs:Array Field} {f:Nat} {fd:Field} {d:TypeDesc} {sz:Nat} (hu:P.underlying s=some (.struct fs)) (hf:fs[f]? =some fd)
 (hd:P.underlying fd.type=some d) (hs:(P.info? fd.type).map (·.size)=some sz) {x v:AV} {c:Value} (hx:VR ι I w x c)
 (hv:Et d.isRow sz fd.offset x=some v):eK P ι I h w v (Instr.field s c f):=by
 unfold Et at hv
 cases hx<;>simp only[] at hv<;>try(cases hv;done)
 rename_i cs bF hl gr
 obtain⟨r,hr,gM⟩:=X9 (P:=P) hd hs w (cs:=cs) (bF:=bF) ⟨hl,gr⟩ hv
 exact .same H (by simp[Instr.field,cL hu,hf,asAgg,hr]) gM
theorem alI (H:HR ι I h w) {t e:TypeId} {len sz:Nat} {d:TypeDesc} (hu:P.underlying t=some (.array len e)) (hd:P.underlying e=some d) (hs:(P.info? e).map (·.size)=some sz)
 {x i v:AV} {c ci:Value} (hx:VR ι I w x c) (hi:VR ι I w i ci)
 (hv:CU d.isRow sz len x i=some v):eK P ι I h w v (Instr.index t c ci):=by
 unfold CU at hv
 cases hi<;>try(simp only[] at hv;cases hv;done)
 cases hx<;>simp only[] at hv<;>try(cases hv;done)
 rename_i k n cs bF hl gr
 split at hv
 ·rename_i hb
  obtain⟨r,hr,gM⟩:=X9 (P:=P) hd hs w (cs:=cs) (bF:=bF) ⟨hl,gr⟩ hv
  exact .same H (by simp[Instr.index,asIntOf,cL hu,hb,l9 hs,hr]) gM
 ·cases hv
theorem amM (H:HR ι I h w) {x v:AV} {c:Value} {i:Nat} (hx:VR ι I w x c) (hv:Eu i x=some v):eK P ι I h w v (Instr.extract c i):=by
 unfold Eu at hv
 cases hx<;>simp only[] at hv<;>try(cases hv;done)
 rename_i cs bF hl gr
 obtain⟨r,hr,gM⟩:=LR.get (l':=bF) ⟨hl,gr⟩ hv
 exact .same H (by simp[Instr.extract,hr]) gM
theorem alA (H:HR ι I h w) {t e:TypeId} (ts:Array TypeId) (ty:TypeId) (h0:ts[0]? =some t) (hu:P.underlying t=some (.slice e)) {x v:AV} {c:Value} (hx:VR ι I w x c)
 (hv:((gH x).map fun(n:Nat)=>AV.int .i64 n)=some v):eK P ι I h w v (Builtin.len_ ts ty #[c]):=by
 cases hx<;>simp only[gH,Option.map_some,Option.map_none] at hv<;>try(cases hv;done)
 all_goals (cases hv;exact .same H (by simp[Builtin.len_,h0,cL hu,goInt]) (.int _ _))
theorem ajl (H:HR ι I h w) {t:TypeId} (ts:Array TypeId) (ty:TypeId) (h0:ts[0]? =some t) (hu:P.underlying t=some .string) {x v:AV} {c:Value} (hx:VR ι I w x c)
 (hv:GM x=some v):eK P ι I h w v (Builtin.len_ ts ty #[c]):=by
 unfold GM at hv
 cases hx<;>simp only[] at hv<;>try(cases hv;done)
 cases hv;exact .same H (by simp[Builtin.len_,h0,cL hu,goInt]) (.int _ _)
theorem ajc {mx:Bool} {x y v:AV} {cx cy:Value} (hx:VR ι I w x cx) (hy:VR ι I w y cy) (hv:pQ mx x y=some v):
 ∃c,((if mx then Builtin.max2 else Builtin.min2) cx cy).run P w= .ok c w/\VR ι I w v c:=by
 cases hx<;>try(simp only[pQ] at hv;cases hv;done)
 case int k a=>
  cases hy<;>simp only[pQ] at hv<;>try(cases hv;done)
  split at hv
  ·rename_i hk;subst hk;cases hv
   cases mx<;>exact⟨_,rfl, .int _ _⟩
  ·cases hv
 case fU k a=>
  cases hy<;>simp only[pQ] at hv<;>try(cases hv;done)
  rename_i k' b
  split at hv
  ·rename_i hk;subst hk
   cases mx<;>(cases ho:k.format.order a b with
    |none=>simp[ho] at hv
    |some o=>cases o<;>(simp[ho] at hv;subst hv;exact⟨_,by simp[Builtin.max2,Builtin.min2,ho], .fU _ _⟩))
  ·cases hv
end
end
section
open Go
section
variable {P:Program} {ι:aG} {I:aQ} {h:aa} {w:World}
theorem yD (cs:List AV) (sz:Nat): ∀(n off:Nat),off+n*sz<=cs.length->(rowsOf cs off sz n).length=n/\(∀r∈rowsOf cs off sz n,r.length=sz/\ ∀v∈r,v∈cs)/\
 (rowsOf cs off sz n).flatten=(cs.drop off).take (n*sz)
 |0,off,h=>by simp[rowsOf]
 |n+1,off,h=>by
  have hh:off+sz+n*sz<=cs.length:=by rw[Nat.succ_mul] at h;omega
  obtain⟨h1,h2,h3⟩:=yD cs sz n (off+sz) hh
  refine⟨by simp[rowsOf,h1],fun r hr=>?_,?_⟩
  ·rcases List.mem_cons.1 hr with rfl|hr
   ·refine⟨?_,fun v hv=>List.mem_of_mem_drop (List.mem_of_mem_take hv)⟩
    simp;omega
   ·exact h2 r hr
  ·simp only[rowsOf,List.flatten_cons,h3]
   rw[Nat.succ_mul,Nat.add_comm (n*sz) sz,List.take_add,List.drop_drop]
theorem Lr {sz s:Nat} {xs:List (List AV)} (hs: ∀(i:Nat) (row:List AV),xs[i]? =some row->row.length=s) (h:dC sz xs=true): ∀r∈xs,r.length=sz:=by
 intro r hr
 obtain⟨i,hi,rfl⟩:=List.getElem_of_mem hr
 have h1:=hs i _ (List.getElem?_eq_getElem hi)
 cases xs with
 |nil=>simp at hi
 |cons x xs=>
  have h2:=hs 0 x rfl
  simp[dC] at h
  omega
structure Rd (ι:aG) (I:aQ) (w:World) (sz:Nat) (rows:List (List AV)) (a:Option Addr) (l:List Value):Prop where
 lN: ∀r∈rows,r.length=sz/\ ∀v∈r,v.one=true
 lr:LR ι I w rows.flatten l
 cell: ∀ad,a=some ad-> ∀(j:Nat) (u:Value),l[j]? =some u->w.cell? (ad.add j)=some u
 none:a=none->rows=[]
theorem Rd.len {sz:Nat} {rows:List (List AV)} {a:Option Addr} {l:List Value} (hr:Rd ι I w sz rows a l):l.length=rows.length*sz:=by
 rw[<-hr.lr.1,mV rows (fun r h=>(hr.lN r h).1)]
theorem Rd.one {sz:Nat} {rows:List (List AV)} {a:Option Addr} {l:List Value} (hr:Rd ι I w sz rows a l): ∀u∈l,u.oneCell'=true:=by
 intro u hu
 obtain⟨i,hi,rfl⟩:=List.getElem_of_mem hu
 have aA:i<rows.flatten.length:=by rw[hr.lr.1];exact hi
 have hv:=hr.lr.2 i _ _ (List.getElem?_eq_getElem aA) (List.getElem?_eq_getElem hi)
 refine hv.one ?_
 obtain⟨r,UU,yb⟩:=List.mem_flatten.1 (List.getElem_mem aA)
 exact(hr.lN r UU).2 _ yb
theorem wa (H:HR ι I h w) {x:AV} {c:Value} {sz:Nat} {rows:List (List AV)} (hx:VR ι I w x c) (hr:cQ sz h x=some rows):
 ∃a cap l,c= .slice a rows.length cap/\rows.length<=cap/\Rd ι I w sz rows a l:=by
 cases hx<;>simp only[cQ] at hr<;>try(cases hr;done)
 case gw t ht=>
  simp at hr;obtain⟨_,rfl⟩:=hr
  exact⟨none,0,[],rfl,Nat.le_refl _,by simp,LR.nil,by simp,fun _=>rfl⟩
 case gn t a cap ht=>
  simp at hr;obtain⟨_,rfl⟩:=hr
  exact⟨some a,cap,[],rfl,Nat.zero_le _,by simp,LR.nil,fun ad vQ=>by simp,fun h=>by cases h⟩
 case bA=>
  cases hr
  exact⟨none,0,[],rfl,Nat.le_refl _,by simp,LR.nil,by simp,fun _=>rfl⟩
 case vs xs t cb o s cap g hs hI hc hv h1 bu ht=>
  split at hr
  ·rename_i gI
   cases hr
   have Ip: ∀r∈rows,r.length=sz:=Lr hs gI
   have bT:=mV rows Ip
   refine⟨some ⟨cb,o,none⟩,cap,(List.range (rows.length*sz)).map fun j=>g (j/sz) (j%sz),rfl,bu,fun r hr=>⟨Ip r hr,h1 r hr⟩,?_,?_,by simp⟩
   ·refine⟨by simp[bT],fun j v c cT cR=>?_⟩
    have hj:j<rows.length*sz:=by rw[<-bT];exact(List.getElem?_eq_some_iff.1 cT).1
    have iC:0<sz:=by
     rcases Nat.eq_zero_or_pos sz with h0|h0
     ·rw[h0] at hj;simp at hj
     ·exact h0
    have hd:j/sz<rows.length:=(Nat.div_lt_iff_lt_mul iC).2 hj
    have hm:j%sz<sz:=Nat.mod_lt _ iC
    have cE:=List.getElem?_eq_getElem hd
    have:=flat_get rows Ip (j/sz) (j%sz) _ cE hm
    rw[Nat.div_add_mod' j sz,cT] at this
    simp[hj] at cR
    subst cR
    exact hv _ _ _ _ cE this.symm
   ·intro ad vQ
    cases vQ
    intro j u hu
    rw[Addr.add_mid]
    have hj:j<rows.length*sz:=by have:=(List.getElem?_eq_some_iff.1 hu).1;simpa using this
    simp[hj] at hu
    subst hu
    have iC:0<sz:=by
     rcases Nat.eq_zero_or_pos sz with h0|h0
     ·rw[h0] at hj;simp at hj
     ·exact h0
    have hd:j/sz<rows.length:=(Nat.div_lt_iff_lt_mul iC).2 hj
    have hm:j%sz<sz:=Nat.mod_lt _ iC
    have jc:s=sz:=by rw[<-hs _ _ (List.getElem?_eq_getElem hd)];exact Ip _ (List.getElem_mem hd)
    subst jc
    have:=hc _ _ hd hm
    rwa [Nat.add_assoc,Nat.div_add_mod' j s] at this
  ·cases hr
 case vz a cap=>
  cases hr
  exact⟨some a,cap,[],rfl,Nat.zero_le _,⟨by simp,LR.nil,fun ad _ j u hu=>by simp at hu,fun h=>by cases h⟩⟩
 case rs b off len aN cb o room cap hb hlen bu=>
  split at hr
  ·rename_i hz
   subst hz
   cases hg:cellsOf h b with
   |none=>simp[hg] at hr
   |some cs=>
    simp only[hg] at hr
    split at hr
    ·rename_i hle
     cases hr
     obtain⟨h1,h2,h3⟩:=yD cs aN len off hle
     have cC:h.get b=some (.cells cs):=by
      unfold cellsOf at hg;split at hg
      ·rename_i bF hh;cases hg;exact hh
      ·cases hg
     obtain⟨cE,_,cS⟩:=H.row cC hb
     obtain⟨l,ej,eV,vK⟩:=(cE.sub off (len*aN)).list
     refine⟨some ⟨cb,o+off,none⟩,cap,l,by rw[h1],by rw[h1];exact hlen,fun r hr=>⟨(h2 r hr).1,fun v hv=>cS v ((h2 r hr).2 v hv)⟩,?_,?_,by simp⟩
     ·rw[h3];exact⟨ej,vK⟩
     ·intro ad vQ
      cases vQ
      intro j u hu
      rw[Addr.add_mid]
      exact eV j u hu
    ·cases hr
  ·cases hr
 case rk b off len aN cap cb o room hb hlen bu=>
  split at hr
  ·rename_i hz
   subst hz
   cases hg:cellsOf h b with
   |none=>simp[hg] at hr
   |some cs=>
    simp only[hg] at hr
    split at hr
    ·rename_i hle
     cases hr
     obtain⟨h1,h2,h3⟩:=yD cs aN len off hle
     have cC:h.get b=some (.cells cs):=by
      unfold cellsOf at hg;split at hg
      ·rename_i bF hh;cases hg;exact hh
      ·cases hg
     obtain⟨cE,_,cS⟩:=H.row cC hb
     obtain⟨l,ej,eV,vK⟩:=(cE.sub off (len*aN)).list
     refine⟨some ⟨cb,o+off,none⟩,cap,l,by rw[h1],by rw[h1];exact hlen,fun r hr=>⟨(h2 r hr).1,fun v hv=>cS v ((h2 r hr).2 v hv)⟩,?_,?_,by simp⟩
     ·rw[h3];exact⟨ej,vK⟩
     ·intro ad vQ
      cases vQ
      intro j u hu
      rw[Addr.add_mid]
      exact eV j u hu
    ·cases hr
  ·cases hr
theorem Rd.src {sz:Nat} {rows:List (List AV)} {a:Option Addr} {l:List Value} (hr:Rd ι I w sz rows a l) {tx e':TypeId} (hk:P.underlying tx=some (.slice e')) (cap:Nat):
 Src P sz tx (.slice a rows.length cap) rows.length l w:=by
 cases a with
 |none=>
  have:=hr.none rfl
  subst this
  have hl:l=[]:=by have:=hr.len;simp at this;exact this
  subst hl
  exact Src.ofNil w hk cap
 |some ad=>
  exact Src.ofSlice w hk _ _ _ _ hr.len (hr.cell ad rfl) hr.one
theorem yK {ρ:Env} {d n:Nat} {x:aq} {c:Value} (hx:OR ι I w ρ x c) (hb:cJ ρ d (some x)=some n): ∃k,c= .int k n:=by
 unfold OR at hx
 simp only[cJ] at hb
 cases nJ:x.ev ρ<;>simp only[nJ] at hb<;>try(cases hb;done)
 rename_i k i
 rw[nJ] at hx
 split at hb
 ·rename_i h0
  cases hb
  cases hx
  exact⟨k,by rw[Int.toNat_of_nonneg h0]⟩
 ·cases hb
theorem sL (w:World) (k:IntKind) (n y:Nat) (code:BoundsCode) (h:n<=y):(Instr.sliceBound (.int k n) y code).run P w= .ok n w:=by
 simp[Instr.sliceBound,asIntOf,h]
def yz (ι:aG) (I:aQ) (w:World) (ρ:Env):Option aq->Option Value->Prop
 |none,none=>True
 |some x,some c=>OR ι I w ρ x c
 |_,_=>False
theorem qQ {ρ:Env} {lo hi mx:Option aq} {mM qE sy:Option Value} (gC:yz ι I w ρ lo mM) (kT:yz ι I w ρ hi qE) (mI:yz ι I w ρ mx sy)
 {len cap l hh m:Nat} (h1:cJ ρ len hi=some hh) (h2:cJ ρ 0 lo=some l) (h3:cJ ρ cap mx=some m) (AI:l<=hh) (hlen:len<=cap)
 (Km:hh<=m) (hm:m<=cap) (avO:mx.isSome->hi.isSome) (b:Bool):
 (Instr.sliceBounds b len cap mM qE sy).run P w= .ok (l,hh,m) w:=by
 unfold Instr.sliceBounds
 cases mx with
 |none=>
  cases sy with
  |some _=>exact mI.elim
  |none=>
   simp only[cJ,Option.some.injEq] at h3
   subst h3
   cases hi with
   |none=>
    cases qE with
    |some _=>exact kT.elim
    |none=>
     simp only[cJ,Option.some.injEq] at h1
     subst h1
     cases lo with
     |none=>
      cases mM with
      |some _=>exact gC.elim
      |none=>simp only[cJ,Option.some.injEq] at h2;subst h2;simp
     |some x=>
      cases mM with
      |none=>exact gC.elim
      |some c=>
       obtain⟨k,rfl⟩:=yK gC h2
       simp[sL (P:=P) w k l _ _ AI]
   |some y=>
    cases qE with
    |none=>exact kT.elim
    |some cy=>
     obtain⟨ky,rfl⟩:=yK kT h1
     cases lo with
     |none=>
      cases mM with
      |some _=>exact gC.elim
      |none=>simp only[cJ,Option.some.injEq] at h2;subst h2;simp[sL (P:=P) w ky hh _ _ Km]
     |some x=>
      cases mM with
      |none=>exact gC.elim
      |some c=>
       obtain⟨k,rfl⟩:=yK gC h2
       simp[sL (P:=P) w k l _ _ AI,sL (P:=P) w ky hh _ _ Km]
 |some z=>
  cases sy with
  |none=>exact mI.elim
  |some cz=>
   obtain⟨kz,rfl⟩:=yK mI h3
   cases hi with
   |none=>simp at avO
   |some y=>
    cases qE with
    |none=>exact kT.elim
    |some cy=>
     obtain⟨ky,rfl⟩:=yK kT h1
     cases lo with
     |none=>
      cases mM with
      |some _=>exact gC.elim
      |none=>simp only[cJ,Option.some.injEq] at h2;subst h2;simp[sL (P:=P) w ky hh _ _ Km,sL (P:=P) w kz m _ _ hm]
     |some x=>
      cases mM with
      |none=>exact gC.elim
      |some c=>
       obtain⟨k,rfl⟩:=yK gC h2
       simp[sL (P:=P) w k l _ _ AI,sL (P:=P) w ky hh _ _ Km,sL (P:=P) w kz m _ _ hm]
theorem X8 {t':aH} {xs:List (List AV)} {cb o s sz l n xI:Nat} {g:Nat->Nat->Value}
 (hs: ∀(i:Nat) (row:List AV),xs[i]? =some row->row.length=s)
 (hI: ∀i j,i<xs.length->j<s->I cb (o+i*s+j))
 (hc: ∀i j,i<xs.length->j<s->w.cell? ⟨cb,o+i*s+j,none⟩=some (g i j))
 (hv: ∀(i:Nat) (row:List AV) (j:Nat) (v:AV),xs[i]? =some row->row[j]? =some v->VR ι I w v (g i j))
 (h1: ∀row∈xs,∀v∈row,AV.one v=true) (hk:dC sz xs=true) (hn:l+n<=xs.length) (bu:n<=xI) (o':Nat) (ho:n≠0->o'=o+l*sz)
 (ht:(n≠0->s=sz/\o'=o+l*s)->PA ι cb o' s n xI t'):
 VR ι I w (.vs ((xs.drop l).take n) t') (.slice (some ⟨cb,o',none⟩) n xI):=by
 have hlen:((xs.drop l).take n).length=n:=by simp;omega
 have gI:=Lr hs hk
 have jc:n≠0->s=sz:=by
  intro h0
  have hl:l<xs.length:=by omega
  rw[<-hs l _ (List.getElem?_eq_getElem hl)]
  exact gI _ (List.getElem_mem hl)
 have aT: ∀(i:Nat) (row:List AV),((xs.drop l).take n)[i]? =some row->xs[l+i]? =some row/\i<n:=by
  intro i row hi
  rw[List.getElem?_take] at hi
  split at hi
  ·rename_i aD;rw[List.getElem?_drop] at hi;exact⟨hi,aD⟩
  ·cases hi
 have vh: ∀i j,i<n->o'+i*s+j=o+(l+i)*s+j:=by
  intro i j hi
  have h0:n≠0:=by omega
  rw[ho h0,<-jc h0,Nat.add_mul];omega
 have key:=VR.vs (ι:=ι) (I:=I) (w:=w) ((xs.drop l).take n) t' cb o' s xI (fun i j=>g (l+i) j) (fun i row hi=>hs _ row (aT i row hi).1)
  (fun i j hi hj=>by rw[hlen] at hi;rw[vh i j hi];exact hI _ _ (by omega) hj)
  (fun i j hi hj=>by rw[hlen] at hi;rw[vh i j hi];exact hc _ _ (by omega) hj)
  (fun i row j v hi hj=>hv _ row j v (aT i row hi).1 hj)
  (fun row hr v cT=>h1 row (List.mem_of_mem_drop (List.mem_of_mem_take hr)) v cT) (by rw[hlen];exact bu)
  (by rw[hlen];exact ht (fun h0=>⟨jc h0,by rw[ho h0,jc h0]⟩))
 rw[hlen] at key
 exact key
theorem qU {t e:TypeId} {sz:Nat} (hu:P.underlying t=some (.slice e)) (aO:(P.info? e).map (·.size)=some sz) (w:World) {a:Option Addr} {len cap l hh m:Nat} {mM qE sy:Option Value}
 (hb:(Instr.sliceBounds true len cap mM qE sy).run P w= .ok (l,hh,m) w):
 (Instr.sliceAt t (.slice a len cap) mM qE sy).run P w= .ok (.slice (if m=l then a else a.map (·.add (l*sz))) (hh-l) (m-l)) w:=by
 simp[Instr.sliceAt,cL hu,Instr.slice,hb,l9 aO]
theorem amp (H:HR ι I h w) {t e:TypeId} {sz:Nat} (hu:P.underlying t=some (.slice e)) (aO:(P.info? e).map (·.size)=some sz) {ρ:Env} {lo hi mx:Option aq} {mM qE sy:Option Value}
 (gC:yz ι I w ρ lo mM) (kT:yz ι I w ρ hi qE) (mI:yz ι I w ρ mx sy) {x v:AV} {c:Value} (hx:VR ι I w x c) (hv:iO ρ sz x lo hi mx=some v):
 eK P ι I h w v (Instr.sliceAt t c mM qE sy):=by
 cases hx<;>try(simp only[iO] at hv;cases hv;done)
 case bA=>
  simp only[iO,Option.bind_eq_bind,Option.bind_eq_some_iff] at hv
  obtain⟨hh,h1,l,h2,m,h3,hv⟩:=hv
  split at hv
  ·rename_i hc
   obtain⟨rfl,rfl,rfl,Kf⟩:=hc
   cases hv
   cases mx with
   |none=>
    have hb:=qQ (P:=P) gC kT mI h1 h2 (cap:=0) rfl (Nat.le_refl _) (Nat.le_refl _) (Nat.le_refl _) (Nat.le_refl _) (by simp) true
    exact .same H (qU hu aO w hb) .bA
   |some z=>
    have hb:=qQ (P:=P) gC kT mI h1 h2 (cap:=0) h3 (Nat.le_refl _) (Nat.le_refl _) (Nat.le_refl _) (Nat.le_refl _) Kf true
    exact .same H (qU hu aO w hb) .bA
  ·cases hv
 case gw t' ht=>
  simp only[iO,Option.bind_eq_bind,Option.bind_eq_some_iff,List.length_nil] at hv
  obtain⟨hh,h1,l,h2,hv⟩:=hv
  split at hv
  ·rename_i hc
   obtain⟨bj,a9,-⟩:=hc
   have:hh=0:=by omega
   subst this
   have:l=0:=by omega
   subst this
   cases mx with
   |none=>
    cases hv
    have hb:=qQ (P:=P) gC kT mI h1 h2 (cap:=0) rfl (Nat.le_refl _) (Nat.le_refl _) (Nat.le_refl _) (Nat.le_refl _) (by simp) true
    refine .same H (qU hu aO w hb) ?_
    simp
    refine .gw _ ?_
    rcases ht with rfl|rfl<;>simp[oq]
   |some z=>
    simp only[Option.bind_eq_some_iff] at hv
    obtain⟨m,h3,hv⟩:=hv
    split at hv
    ·rename_i hc
     obtain⟨aA,Fb,mJ⟩:=hc
     have:m=0:=by omega
     subst this
     cases hv
     have hb:=qQ (P:=P) gC kT mI h1 h2 (cap:=0) h3 (Nat.le_refl _) (Nat.le_refl _) (Nat.le_refl _) (Nat.le_refl _) (fun _=>aA) true
     refine .same H (qU hu aO w hb) ?_
     simp
     exact .gw _ (.inr rfl)
    ·cases hv
  ·cases hv
 case gn t' a cap ht=>
  simp only[iO,Option.bind_eq_bind,Option.bind_eq_some_iff,List.length_nil] at hv
  obtain⟨hh,h1,l,h2,hv⟩:=hv
  split at hv
  ·rename_i hc
   obtain⟨bj,a9,-⟩:=hc
   have:hh=0:=by omega
   subst this
   have:l=0:=by omega
   subst this
   have zG: ∀m,(if m=0 then some a else(some a).map (·.add (0*sz)))=some a:=by intro m;split<;>simp[Addr.add]
   cases mx with
   |none=>
    cases hv
    have hb:=qQ (P:=P) gC kT mI h1 h2 (cap:=cap) rfl (Nat.le_refl _) (Nat.zero_le _) (Nat.zero_le _) (Nat.le_refl _) (by simp) true
    refine .same H (qU hu aO w hb) ?_
    rw[zG]
    simp
    refine .gn _ _ _ ?_
    rcases ht with rfl|⟨rfl,rfl⟩<;>simp[oq]
   |some z=>
    simp only[Option.bind_eq_some_iff] at hv
    obtain⟨m,h3,hv⟩:=hv
    split at hv
    ·rename_i hc
     obtain⟨aA,Fb,mJ⟩:=hc
     have:m=0:=by omega
     subst this
     cases hv
     have mL:cJ ρ cap (some z)=some 0:=h3
     have hb:=qQ (P:=P) gC kT mI h1 h2 (cap:=cap) mL (Nat.le_refl _) (Nat.zero_le _) (Nat.le_refl _) (Nat.zero_le _) (fun _=>aA) true
     refine .same H (qU hu aO w hb) ?_
     rw[zG]
     simp
     exact .gn _ _ _ (.inr ⟨rfl,rfl⟩)
    ·cases hv
  ·cases hv
 case vs xs t' cb o s cap g hs hI hc cT cS bu ht=>
  simp only[iO,Option.bind_eq_bind,Option.bind_eq_some_iff] at hv
  obtain⟨hh,h1,l,h2,hv⟩:=hv
  split at hv
  ·rename_i fO
   obtain⟨bj,a9,hk⟩:=fO
   cases mx with
   |none=>
    cases hv
    have hb:=qQ (P:=P) gC kT mI h1 h2 (cap:=cap) rfl bj bu (by omega) (Nat.le_refl _) (by simp) true
    refine .same H (qU hu aO w hb) ?_
    have zG:(if cap=l then some (⟨cb,o,none⟩:Addr) else(some (⟨cb,o,none⟩:Addr)).map (·.add (l*sz)))=some ⟨cb,if cap=l then o else o+l*sz,none⟩:=by
     split<;>simp[Addr.add_mid]
    rw[zG]
    refine X8 (l:=l) (n:=hh-l) (xI:=cap-l) hs hI hc cT cS hk (by omega) (by omega) _ (fun h0=>by rw[if_neg (by omega)]) (fun asU=>?_)
    cases t' with
    |ao=>trivial
    |full=>
     have dp:cap=xs.length:=ht
     simp only[oq]
     by_cases iW:hh=xs.length
     ·rw[if_pos iW];show cap-l=hh-l;omega
     ·rw[if_neg iW];trivial
    |own k=>
     simp only[oq]
     by_cases iW:hh=xs.length/\l<hh
     ·rw[if_pos iW]
      obtain⟨h5,h6⟩:=asU (by omega)
      refine⟨by omega,?_⟩
      rw[h6,ht.2]
      congr 2
      ·rw[iW.1,Nat.sub_mul]
       have:=Nat.mul_le_mul_right s (show l<=xs.length by omega)
       omega
      ·rw[Nat.sub_mul]
       have:=Nat.mul_le_mul_right s (show l<=cap by omega)
       omega
     ·rw[if_neg iW];trivial
   |some z=>
    simp only[Option.bind_eq_some_iff] at hv
    obtain⟨m,h3,hv⟩:=hv
    split at hv
    ·rename_i fO
     obtain⟨aA,Fb,mJ⟩:=fO
     cases hv
     have mL:cJ ρ cap (some z)=some m:=h3
     have hb:=qQ (P:=P) gC kT mI h1 h2 (cap:=cap) mL bj bu Fb (by omega) (fun _=>aA) true
     refine .same H (qU hu aO w hb) ?_
     have zG:(if m=l then some (⟨cb,o,none⟩:Addr) else(some (⟨cb,o,none⟩:Addr)).map (·.add (l*sz)))=some ⟨cb,if m=l then o else o+l*sz,none⟩:=by
      split<;>simp[Addr.add_mid]
     rw[zG]
     refine X8 (l:=l) (n:=hh-l) (xI:=m-l) hs hI hc cT cS hk (by omega) (by omega) _ (fun h0=>by rw[if_neg (by omega)]) (fun _=>?_)
     by_cases Kf:m=hh
     ·rw[if_pos Kf];show m-l=hh-l;omega
     ·rw[if_neg Kf];trivial
    ·cases hv
  ·cases hv
 case rs b off len aN cb o room cap bE hlen bu=>
  simp only[iO,Option.bind_eq_bind,Option.bind_eq_some_iff] at hv
  obtain⟨hh,h1,l,h2,hv⟩:=hv
  split at hv
  ·rename_i fO
   obtain⟨sl,bj,a9,rfl⟩:=fO
   cases mx with
   |some _=>simp at sl
   |none=>
    have hb:=qQ (P:=P) gC kT mI h1 h2 (cap:=cap) rfl bj hlen (by omega) (Nat.le_refl _) (by simp) true
    refine .same H (qU hu aO w hb) ?_
    split at hv
    ·rename_i AI
     subst AI
     have:(if cap=l then some (⟨cb,o+off,none⟩:Addr) else(some (⟨cb,o+off,none⟩:Addr)).map (·.add (l*aN)))=some ⟨cb,if cap=l then o+off else o+off+l*aN,none⟩:=by
      split<;>simp[Addr.add_mid]
     rw[this,Nat.sub_self]
     cases lo with
     |some lo=>
      simp at hv
      subst hv
      exact .vs [] .ao cb _ 0 _ (fun _ _=>undef) (by simp) (by simp) (by simp) (by simp) (by simp) (by simp) trivial
     |none=>
      simp only[cJ,Option.some.injEq] at h2
      subst h2
      simp at hv
      subst hv
      have e:(if cap=0 then o+off else o+off+0*aN)=o+off:=by split<;>simp
      rw[e]
      exact .rs b off 0 aN cb o room (cap-0) bE (Nat.zero_le _) (by simpa using bu)
    ·rename_i AI
     cases hv
     rw[if_neg (by omega)]
     simp only[Option.map_some,Addr.add_mid]
     rw[Nat.add_assoc]
     refine .rs b (off+l*aN) (hh-l) aN cb o room (cap-l) bE (by omega) ?_
     rw[Nat.sub_mul]
     have:=Nat.mul_le_mul_right aN (show l<=cap by omega)
     omega
  ·cases hv
 case rk b off len aN cap cb o room bE hlen bu=>
  simp only[iO,Option.bind_eq_bind,Option.bind_eq_some_iff] at hv
  obtain⟨hh,h1,l,h2,m,h3,hv⟩:=hv
  split at hv
  ·rename_i fO
   obtain⟨bj,a9,fp,rfl,pw⟩:=fO
   have hb:=qQ (P:=P) gC kT mI h1 h2 (cap:=cap) h3 bj hlen a9 fp pw true
   refine .same H (qU hu aO w hb) ?_
   by_cases tQ:m=l
   ·rw[if_pos tQ] at hv
    cases hv
    rw[if_pos tQ,show hh-l=0 by omega,show m-l=0 by omega]
    exact .gn _ _ _ (.inr ⟨rfl,rfl⟩)
   ·rw[if_neg tQ] at hv
    cases hv
    rw[if_neg tQ]
    simp only[Option.map_some,Addr.add_mid]
    rw[Nat.add_assoc]
    refine .rk b (off+l*aN) (hh-l) aN (m-l) cb o room bE (by omega) ?_
    rw[Nat.sub_mul]
    have:=Nat.mul_le_mul_right aN (show l<=m by omega)
    have:=Nat.mul_le_mul_right aN (show m<=cap by omega)
    omega
  ·cases hv
end
end
section
open Go
section
variable {P:Program} {ι:aG} {I:aQ} {h:aa} {w:World}
def ER (ι:aG) (I:aQ) (w:World) (es:List (AV×AV)) (aV:List MapEntry):Prop:=
 es.length=aV.length/\ ∀(i:Nat) (k v:AV) (e:MapEntry),es[i]? =some (k,v)->aV[i]? =some e->VR ι I w k e.key/\VR ι I w v e.val
theorem ER.tail {p:AV×AV} {e:MapEntry} {es:List (AV×AV)} {aV:List MapEntry} (hr:ER ι I w (p::es) (e::aV)):ER ι I w es aV:=
 ⟨by simpa using hr.1,fun i k v e h1 h2=>hr.2 (i+1) k v e (by simpa using h1) (by simpa using h2)⟩
theorem Gx (kk:IntKind) {kd:IntKind} {n:Int}: ∀(es:List (AV×AV)) (aV:List MapEntry) (i:Nat) (r:Option Nat),ER ι I w es aV->mh (.int kd n) es i=some r->
 (r=none/\Instr.findNow (.int kk) (.int kd n) aV i=some none)\/
 ∃j e,r=some (i+j)/\aV[j]? =some e/\e.key= .int kd n/\Instr.findNow (.int kk) (.int kd n) aV i=some (some (i+j,e.val))
 |[],[],i,r,_,h=>by simp[mh] at h;subst h;exact .inl ⟨rfl,rfl⟩
 |[],_::_,i,r,hr,_=>by simp[ER] at hr
 |_::_,[],i,r,hr,_=>by simp[ER] at hr
 |(k',v)::es,e::aV,i,r,hr,h=>by
  have hk:=(hr.2 0 k' v e rfl rfl).1
  simp only[mh] at h
  cases po:k'<;>simp only[po] at h<;>try(cases h;done)
  rename_i kd' n'
  subst po
  split at h
  ·rename_i yf
   subst yf
   have yg:e.key= .int kd n':=by
    generalize he:e.key=ek at hk
    cases hk
    rfl
   split at h
   ·rename_i heq
    cases h
    have:n=n':=by simpa using heq
    subst this
    refine .inr ⟨0,e,rfl,rfl,yg,?_⟩
    simp[Instr.findNow,yg,Instr.sameNow]
   ·rename_i aM
    have Eo:(n==n')=false:=by simpa using aM
    rcases Gx kk es aV (i+1) r hr.tail h with⟨rfl,hf⟩|⟨j,e',rfl,dI,po,hf⟩
    ·refine .inl ⟨rfl,?_⟩
     simp[Instr.findNow,yg,Instr.sameNow,Eo,hf]
    ·refine .inr ⟨j+1,e',by congr 1;omega,by simpa using dI,po,?_⟩
     simp[Instr.findNow,yg,Instr.sameNow,Eo,hf];omega
  ·cases h
theorem run_checkKey (w:World) {key:TypeId} {kk:IntKind} (hk:P.underlying key=some (.int kk)) (b:Bool) (k:IntKind) (n:Int):
 (Instr.checkKey b 10000 key (.int k n)).run P w= .ok () w:=by
 suffices avi: ∀m,(Instr.checkKey b (m+1) key (.int k n)).run P w= .ok () w from avi 9999
 intro m
 simp[Instr.checkKey,cL hk]
theorem run_findKey (w:World) {key:TypeId} {kk:IntKind} (hk:P.underlying key=some (.int kk)) {k:Value} {es:List MapEntry} {r:Option (Nat×Value)}
 (hf:Instr.findNow (.int kk) k es 0=some r):(Instr.findKey key k es).run P w= .ok r w:=by
 simp[Instr.findKey,cL hk,hf]
theorem yG (w:World) {cb:Nat} {es:Array MapEntry} {clock:Nat} (hm:w.heap[cb]? =some (.map es clock)):(getObj cb).run P w= .ok (.map es clock) w:=by
 simp[getObj,Sem.run,hm]
theorem HR.map (H:HR ι I h w) {b cb:Nat} {es:List (AV×AV)} (hg:h.get b=some (.map es)) (hb:ι b=some (.map cb)):
 ∃aV clock,w.heap[cb]? =some (.map aV clock)/\ER ι I w es aV.toList/\m9 aV clock:=by
 obtain⟨fY,aV,clock,hl,hm,hlen,hv⟩:=H.maps b es _ hg hb
 cases hl
 exact⟨aV,clock,hm,⟨by simpa using hlen.1,fun i k v e h1 h2=>hv i k v e h1 (by simpa using h2)⟩,hlen.2⟩
theorem Gq {e:TypeId} {ie:TypeInfo} {z:Value} (cN:P.info? e=some ie) (hz:ie.zero=some z) (w:World):(zeroValue e).run P w= .ok z w:=by
 simp[zeroValue,typeInfo,cN,hz]
theorem LR.two {a b:AV} {c d:Value} (h1:VR ι I w a c) (h2:VR ι I w b d):VR ι I w (.ay [a,b]) (.tuple #[c,d]):=
 .ay [a,b] [c,d] rfl (LR.cons h1 (LR.cons h2 LR.nil)).2
theorem ajg (H:HR ι I h w) {t key e:TypeId} {kk:IntKind} {ie:TypeInfo} {z:Value} {za:AV} (hu:P.underlying t=some (.map key e)) (hk:P.underlying key=some (.int kk))
 (cN:P.info? e=some ie) (hz:ie.zero=some z) (ed:VR ι I w za z) (ok:Bool) {m k v:AV} {cm ck:Value} (hm:VR ι I w m cm) (AJ:VR ι I w k ck)
 (hv:mZ za ok h m k=some v):eK P ι I h w v (Instr.lookup t cm ck ok):=by
 unfold mZ at hv
 have Il: ∀w',w'=w->(∃c,(Instr.lookup t (.map none) ck ok).run P w'= .ok c w'/\True)\/True:=fun _ _=> .inr trivial
 cases hm<;>try(simp only[] at hv;cases hv;done)
 case pT=>
  cases AJ<;>simp only[] at hv<;>try(cases hv;done)
  rename_i kd n
  cases hv
  refine .same H (c:=if ok then .tuple #[z, .bool false] else z) ?_ ?_
  ·simp[Instr.lookup,cL hu,run_checkKey w hk,run_findKey w hk (show Instr.findNow (.int kk) (.int kd n) [] 0=some none from rfl),Gq cN hz]
  ·cases ok
   ·exact ed
   ·exact LR.two ed (.bool false)
 case map b cb hb=>
  cases AJ<;>simp only[] at hv<;>try(cases hv;done)
  rename_i kd n
  split at hv
  ·rename_i es hg
   obtain⟨aV,clock,g9,gO,-⟩:=H.map hg hb
   cases hl:uu (.int kd n) es with
   |none=>simp[hl] at hv
   |some r=>
    simp[hl] at hv
    unfold uu at hl
    cases hf:mh (.int kd n) es 0 with
    |none=>simp[hf] at hl
    |some o=>
     simp[hf] at hl
     rcases Gx kk es aV.toList 0 o gO hf with⟨rfl,iV⟩|⟨j,sx,rfl,xF,iQ,iV⟩
     ·simp at hl
      subst hl
      simp at hv
      subst hv
      refine .same H (c:=if ok then .tuple #[z, .bool false] else z) ?_ ?_
      ·simp[Instr.lookup,cL hu,yG w g9,run_checkKey w hk,run_findKey w hk iV,Gq cN hz]
      ·cases ok
       ·exact ed
       ·exact LR.two ed (.bool false)
     ·have hj:j<es.length:=by rw[gO.1];exact(List.getElem?_eq_some_iff.1 xF).1
      have Ko:=List.getElem?_eq_getElem hj
      simp[Ko] at hl
      subst hl
      simp at hv
      subst hv
      have gM:=(gO.2 j es[j].1 es[j].2 sx (by rw[Ko]) xF).2
      refine .same H (c:=if ok then .tuple #[sx.val, .bool true] else sx.val) ?_ ?_
      ·simp[Instr.lookup,cL hu,yG w g9,run_checkKey w hk,run_findKey w hk iV]
      ·cases ok
       ·exact gM
       ·exact LR.two gM (.bool true)
  ·cases hv
end
end
section
open Go
section
variable {P:Program} {ι:aG} {I:aQ} {h:aa} {w:World}
def yN (P:Program):List Field->Option (List Nat)
 |[]=>some []
 |f::fs=>match P.underlying f.type,yN P fs with
  |some (.int _),some os=>if f.name≠ "_" then some (f.offset::os) else none
  |_,_=>none
theorem V3 (d:Nat) {xs ys:List AV} {rW Ax:List Value} (hx:LR ι I w xs rW) (hy:LR ι I w ys Ax): ∀(fs:List Field) (os:List Nat) (b:Bool),yN P fs=some os->
 yX xs ys os=some b->(Op.eqFields (d+1) rW.toArray Ax.toArray fs).run P w= .ok b w
 |[],os,b,hf,he=>by
  simp[yN] at hf;subst hf;simp[yX] at he;subst he;simp[Op.eqFields]
 |f::fs,os,b,hf,he=>by
  simp only[yN] at hf
  split at hf
  ·rename_i k os' hu jJ
   split at hf
   ·rename_i asO
    cases hf
    simp only[yX] at he
    split at he
    ·rename_i k1 a1 k2 b1 h1 h2
     obtain⟨c1,bj,vF⟩:=hx.get h1
     obtain⟨c2,a9,jr⟩:=hy.get h2
     cases vF;cases jr
     split at he
     ·rename_i hk
      subst hk
      have tO:(part f.type rW.toArray f.offset).run P w= .ok (.int k1 a1) w:=by simp[part,yT hu,bj]
      have E9:(part f.type Ax.toArray f.offset).run P w= .ok (.int k1 b1) w:=by simp[part,yT hu,a9]
      have heq:=run_equalIn_int (P:=P) w d f.type k1 k a1 b1 hu
      simp only[Op.eqFields,Sem.run_bind,Sem.run_ite,asO,ne_eq,not_false_eq_true,if_true,tO,E9,heq,Result.andThen_ok]
      split at he
      ·rename_i Vk
       rw[Vk]
       simpa using V3 d hx hy fs os' b jJ he
      ·rename_i Vk
       cases he
       have:(a1==b1)=false:=by simpa using Vk
       rw[this]
       simp
     ·cases he
    ·cases he
   ·cases hf
  ·cases hf
theorem akE (H:HR ι I h w) {t:TypeId} {fs:Array Field} {os:List Nat} (hu:P.underlying t=some (.struct fs)) (hs:P.stoodInHeld t=false) (hf:yN P fs.toList=some os) (neg:Bool)
 {x y v:AV} {cx cy:Value} (hx:VR ι I w x cx) (hy:VR ι I w y cy)
 (hv:BZ neg os x y=some v):
 eK P ι I h w v (binOp (if neg then .neq else .eql) t cx cy):=by
 unfold BZ at hv
 cases hx<;>try(simp only[] at hv;cases hv;done)
 cases hy<;>simp only[] at hv<;>try(cases hv;done)
 rename_i xs rW hlx hvx ys Ax Kg hvy
 cases he:yX xs ys os with
 |none=>simp[he] at hv
 |some b=>
  simp[he] at hv
  subst hv
  have AO:P.fieldsOf t=fs:=by simp[Program.fieldsOf,hu]
  have hr:(Op.equal t (.agg rW.toArray) (.agg Ax.toArray)).run P w= .ok b w:=by
   have h1:=run_equalIn_struct (P:=P) w 9999 t rW.toArray Ax.toArray (by rw[AO];exact hu) hs
   have h2:=V3 (P:=P) 9998 (xs:=xs) (ys:=ys) ⟨hlx,hvx⟩ ⟨Kg,hvy⟩ fs.toList os b hf he
   rw[AO] at h1
   exact h1.trans h2
  exact .same H (c:= .bool (if neg then !b else b)) (by cases neg<;>simp[binOp,hr]) (.bool _)
theorem W1 (w:World) (f:Value->ByteArray->Sem (ForInStep ByteArray)) (hf: ∀n s,f (.int .u8 n) s=pure (ForInStep.yield (s.push (UInt8.ofNat n.toNat)))): ∀(rows:List (List AV)) (l:List Value) (bs:List UInt8) (s:ByteArray),(∀r∈rows,r.length=1)->LR ι I w rows.flatten l->pN rows=some bs->
 (forIn (m:=Sem) l s f).run P w= .ok ⟨s.data++bs.toArray⟩ w
 |[],l,bs,s,_,hl,hb=>by
  simp[pN] at hb;subst hb
  have:l=[]:=by have:=hl.1;simp at this;exact List.eq_nil_of_length_eq_zero this.symm
  subst this
  simp
 |r::rows,l,bs,s,hu,hl,hb=>by
  have hr:=hu r (by simp)
  simp only[pN] at hb
  split at hb
  ·rename_i b bs' h1 h2
   cases hb
   obtain⟨a,rfl⟩: ∃a,r=[a]:=by
    match r,hr with
    |[a],_=>exact⟨a,rfl⟩
   cases l with
   |nil=>have:=hl.1;simp at this
   |cons c l=>
    have hv:VR ι I w a c:=hl.2 0 a c rfl rfl
    have br:LR ι I w rows.flatten l:=⟨by have:=hl.1;simpa using this,fun i v c h1 h2=>hl.2 (i+1) v c (by simpa using h1) (by simpa using h2)⟩
    simp only[byteOf] at h1
    split at h1
    ·rename_i n heq
     cases heq
     cases h1
     cases hv
     have ih:=W1 w f hf rows l bs' (s.push (UInt8.ofNat n.toNat)) (fun r h=>hu r (List.mem_cons_of_mem _ h)) br h2
     simp only[List.forIn_cons,hf,Sem.run_bind,Sem.run_pure,Result.andThen_ok]
     rw[ih]
     congr 1
     simp[ByteArray.push]
    ·cases h1
  ·cases hb
end
end
section
open Go
section
variable {P:Program} {ι:aG} {I:aQ} {h:aa} {w:World}
theorem ah4 (H:HR ι I h w) {src dst e:TypeId} (hs:P.underlying src=some (.slice e)) (he:P.underlying e=some (.int .u8)) (hd:P.underlying dst=some .string)
 {x v:AV} {c:Value} (hx:VR ι I w x c) (hv:(((cQ 1 h x).bind pN).map fun bs=>AV.str ⟨bs.toArray⟩)=some v):eK P ι I h w v (convert src dst c):=by
 cases hr:cQ 1 h x with
 |none=>simp[hr] at hv
 |some rows=>
  cases hb:pN rows with
  |none=>simp[hr,hb] at hv
  |some bs=>
   simp[hr,hb] at hv
   subst hv
   obtain⟨a,cap,l,rfl,hle,R⟩:=wa H hx hr
   refine .same H (c:= .string ⟨bs.toArray⟩) ?_ (.str _)
   cases a with
   |none=>
    have:=R.none rfl
    subst this
    simp[pN] at hb
    subst hb
    simp[convert,cL hs,cL hd,cL he,Conv.bytesToString]
    rfl
   |some ad=>
    have hc:=R.cell ad rfl
    have hl:l.length=rows.length:=by rw[R.len];simp
    have asP:(loadCells ad rows.length).run P w= .ok l.toArray w:=by
     rw[<-hl]
     exact run_loadCells_list (P:=P) w ad l (fun j u hu=>hc j u hu)
    simp only[convert,Sem.run_bind,cL hs,cL hd,cL he,Result.andThen_ok,Conv.bytesToString,asP]
    rw[<-Array.forIn_toList]
    rw[W1 (P:=P) w _ (fun _ _=>rfl) rows l bs ByteArray.empty (fun r hr=>(R.lN r hr).1) R.lr hb]
    have e:(ByteArray.empty.data++bs.toArray)=bs.toArray:=by
     show(#[]:Array UInt8)++bs.toArray=bs.toArray
     simp
    rw[e]
    rfl
theorem ahO (H:HR ι I h w) {src dst e:TypeId} (hs:P.underlying src=some .string) (hd:P.underlying dst=some (.slice e)) (he:P.underlying e=some (.int .u8))
 {x v:AV} {c:Value} (hx:VR ι I w x c)
 (hv:Gc x=some v):eK P ι I h w v (convert src dst c):=by
 unfold Gc at hv
 cases hx<;>simp only[] at hv<;>try(cases hv;done)
 rename_i s
 split at hv
 ·rename_i aO
  cases hv
  have bT:(s.data.toList.map fun b=>[AV.int .u8 b.toNat]).flatten=s.data.toList.map fun b=>AV.int .u8 b.toNat:=by
   induction s.data.toList with
   |nil=>rfl
   |cons a l ih=>simp[ih]
  have dn:LR ι I w (s.data.toList.map fun b=>[AV.int .u8 b.toNat]).flatten (s.data.toList.map fun b=>Value.int .u8 b.toNat):=by
   rw[bT]
   refine⟨by simp,fun i v c h1 h2=>?_⟩
   simp only[List.getElem?_map,Option.map_eq_some_iff] at h1 h2
   obtain⟨a,ha,rfl⟩:=h1
   obtain⟨b,hb,rfl⟩:=h2
   rw[ha] at hb
   cases hb
   exact .int _ _
  have hlen:(s.data.toList.map fun b=>[AV.int .u8 b.toNat]).length=s.size:=by rw[List.length_map,Array.length_toList];rfl
  let q:=Question.appendCap s.size 0 e
  let cap:=q.cut (w.tape w.drawn q)
  have bu:s.size<=cap:=by show s.size<=s.size+_;omega
  let arr:Array Value:=(s.data.map fun b=>Value.int .u8 b.toNat)++Array.replicate (cap-s.size) (Value.int .u8 0)
  let w1:World:={w with drawn:=w.drawn+1,heap:=w.heap.push (.cells arr e)}
  let w2:World:=w1.freeze {block:=w.heap.size,off:=arr.size} 1
  have axj:w1.heap.size=w.heap.size+1:=by simp[w1]
  have bW:(convert src dst (.string s)).run P w= .ok (.slice (some ⟨w.heap.size,0,none⟩) s.size cap) w2:=by
   have AF:w1.shape? w.heap.size=some (e,arr.size):=by simp[World.shape?,w1]
   simp only[convert,Sem.run_bind,cL hs,cL hd,cL he,Result.andThen_ok,Conv.stringToBytes,run_choose,Question.forced,Bool.false_eq_true,if_false,newRow,run_newObj,Sem.run_pure,markStringish,run_shape]
   have:({heap:=w.heap.push (.cells arr e),tape:=w.tape,drawn:=w.drawn+1,os:=w.os,output:=w.output}:World).shape? w.heap.size=some (e,arr.size):=AF
   have E7:({heap:=w.heap.push (.cells arr e),tape:=w.tape,drawn:=w.drawn+1,os:=w.os,output:=w.output}:World).shape? w.heap.size=some (e,arr.size):=AF
   show((Sem.run P (match({heap:=w.heap.push (.cells arr e),tape:=w.tape,drawn:=w.drawn+1,os:=w.os,output:=w.output}:World).shape? w.heap.size with|some (fst,n)=>freeze {block:=w.heap.size,off:=n} 1|x=>pure ()) w1).andThen fun a w'=>Result.ok (Value.slice (some {block:=w.heap.size,off:=0}) s.size cap) w')=_
   rw[E7]
   rfl
  have rD:w2.heap=w.heap.push (.cells arr e (arr.size,arr.size+1)):=by
   apply Array.ext
   ·simp[w2,World.freeze,w1]
   ·intro i h1 h2
    by_cases hi:i=w.heap.size
    ·subst hi
     simp[w2,World.freeze,w1,Array.getElem_modify]
    ·have aA:i<w.heap.size:=by simp at h2;omega
     simp[w2,World.freeze,w1,Array.getElem_modify,Ne.symm hi,Array.getElem_push,aA]
  have hf: ∀(f:World->World),True:=fun _=>trivial
  obtain⟨I',gM,H',E⟩:=Md H (w':=w2) (e:=e) (fr:=(arr.size,arr.size+1)) (arr:=arr) rD (by simp[w2,World.freeze,w1]) (by simp[w2,World.freeze,w1]) (by simp[w2,World.freeze,w1])
   (rows:=s.data.toList.map fun b=>[AV.int .u8 b.toNat]) (sz:=1) (cap:=cap) (by
     intro x hx
     obtain⟨b,_,rfl⟩:=List.mem_map.1 hx
     exact⟨rfl,by simp[AV.one]⟩) dn (by
     intro i c hc
     have hi:i<s.data.size:=by have:=(List.getElem?_eq_some_iff.1 hc).1;simpa using this
     simp only[arr]
     rw[Array.getElem?_append_left (by simpa using hi)]
     simpa using hc) (by rw[hlen];exact bu) .ao (.inl rfl)
  rw[hlen] at gM
  exact⟨_,_,I',bW,gM,H',E⟩
 ·cases hv
theorem Yd (H:HR ι I h w) {im:Bool} {x v:AV} {c:Value} (hx:VR ι I w x c) (ts:Array TypeId) (ty:TypeId)
 (hv:H6 im x=some v):eK P ι I h w v (if im then Builtin.imag_ ts ty #[c] else Builtin.real_ ts ty #[c]):=by
 unfold H6 at hv
 cases hx<;>simp only[] at hv<;>try(cases hv;done)
 cases hv
 cases im
 ·exact .same H rfl (.fU _ _)
 ·exact .same H rfl (.fU _ _)
theorem Ld {mx:Bool} {ρ:Env}: ∀(ys:List aq) (Fz:List Value) (x v:AV) (cx:Value),ys.length=Fz.length->(∀(i:Nat) (y:aq) (c:Value),ys[i]? =some y->Fz[i]? =some c->OR ι I w ρ y c)->
 VR ι I w x cx->ow mx ρ x ys=some v-> ∃c,(Fz.foldlM (if mx then Builtin.max2 else Builtin.min2) cx).run P w= .ok c w/\VR ι I w v c
 |[],[],x,v,cx,_,_,hx,hv=>by simp[ow] at hv;subst hv;exact⟨cx,by simp,hx⟩
 |[],_::_,_,_,_,hl,_,_,_=>by simp at hl
 |_::_,[],_,_,_,hl,_,_,_=>by simp at hl
 |y::ys,cy::Fz,x,v,cx,hl,ho,hx,hv=>by
  simp only[ow] at hv
  cases hm:pQ mx x (y.ev ρ) with
  |none=>simp[hm] at hv
  |some z=>
   simp[hm] at hv
   obtain⟨c,hc,hvc⟩:=ajc (P:=P) hx (ho 0 y cy rfl rfl) hm
   obtain⟨c',cR,avr⟩:=Ld ys Fz z v c (by simpa using hl) (fun i y c h1 h2=>ho (i+1) y c (by simpa using h1) (by simpa using h2)) hvc hv
   refine⟨c',?_,avr⟩
   rw[List.foldlM_cons,Sem.run_bind,hc]
   exact cR
end
end
section
open Go
section
variable {P:Program} {ι:aG} {I:aQ} {h:aa} {w:World}
def aG.set (ι:aG) (id:Nat) (l:Loc):aG:=fun b=>if b=id then some l else ι b
theorem aG.gv (ι:aG) (id:Nat) (l:Loc):ι.set id l id=some l:=by simp[aG.set]
theorem aG.fi (ι:aG) {id b:Nat} (l:Loc) (hb:b≠id):ι.set id l b=ι b:=by simp[aG.set,hb]
theorem Loc.v8 {l:Loc} {k j:Nat} (h:l.has k j):k=l.block:=by
 cases l<;>simp[Loc.has] at h<;>simp[Loc.block,h]
theorem BV (H:HR ι I h w) {w':World} {e:TypeId} {arr:Array Value} (rD:w'.heap=w.heap.push (.cells arr e))
 (jJ:w'.os=w.os) (CW:w'.tape=w.tape) (oR:w'.output=w.output) {id:Nat} (aL:ι id=none) {cs:List AV} (cS: ∀v∈cs,v.one=true) (hle:cs.length<=arr.size)
 (hl: ∀(j:Nat) (v:AV) (c:Value),cs[j]? =some v->arr[j]? =some c->VR ι I w v c):
 HR (ι.set id (.cells w.heap.size 0 arr.size)) I (h.at id (.cells cs)) w'/\Ext (· =id) ι I h w (ι.set id (.cells w.heap.size 0 arr.size)) I (h.at id (.cells cs)) w':=by
 have aO:w'.heap.size=w.heap.size+1:=by rw[rD];simp
 have ny: ∀k,k<w.heap.size->w'.heap[k]? =w.heap[k]?:=fun k hk=>by rw[rD,Array.getElem?_push,if_neg (by omega)]
 have bt: ∀k j,k<w.heap.size->w'.cell? ⟨k,j,none⟩=w.cell? ⟨k,j,none⟩:=fun k j hk=>by simp[World.cell?,ny k hk]
 have mw: ∀k j,k<w.heap.size->w'.frozen? ⟨k,j,none⟩=w.frozen? ⟨k,j,none⟩:=fun k j hk=>by simp[World.frozen?,ny k hk]
 have gl: ∀j,w'.cell? ⟨w.heap.size,j,none⟩=arr[j]?:=fun j=>by simp[World.cell?,rD]
 have acH: ∀j,w'.frozen? ⟨w.heap.size,j,none⟩=false:=fun j=>by simp[World.frozen?,rD]
 have aT: ∀b,b≠id->(h.at id (.cells cs)).get b=h.get b:=fun b hb=>by simp[aa.at,hb]
 have uA:(h.at id (.cells cs)).get id=some (.cells cs):=by simp[aa.at]
 have CZ: ∀b l,ι b=some l->b≠id:=fun b l hb he=>by rw[he,aL] at hb;cases hb
 have E:Ext (· =id) ι I h w (ι.set id (.cells w.heap.size 0 arr.size)) I (h.at id (.cells cs)) w':=
  {eJ:=fun b hb=>aG.fi _ _ hb,bN:=fun b l hb=>by rw[aG.fi _ _ (CZ b l hb)];exact hb,next:=by simp[aa.at];omega,bn:=fun _ _ h=>h
   os:=jJ,tape:=CW,output:=oR,size:=by omega,block:=fun k hk _=>ny k hk,cell:=fun k j hk _=>bt k j hk,frozen:=fun k j hk _=>mw k j hk
   own:=by
    rintro k j ⟨b,l,x,hb,hg,br⟩
    by_cases bP:b=id
    ·subst bP
     rw[aG.gv] at hb
     cases hb
     exact .inr (by have:k=w.heap.size:=br;omega)
    ·rw[aG.fi _ _ bP] at hb
     rw[aT b bP] at hg
     exact .inl ⟨b,l,x,hb,hg,br⟩
   fQ:=fun _ _ h=> .inl h,lost:=fun b hb _=>aT b hb}
 refine⟨?_,E⟩
 have jj: ∀b l,(ι.set id (.cells w.heap.size 0 arr.size)) b=some l->(b=id/\l= .cells w.heap.size 0 arr.size)\/(b≠id/\ι b=some l):=by
  intro b l hb
  by_cases bP:b=id
  ·subst bP;rw[aG.gv] at hb;cases hb;exact .inl ⟨rfl,rfl⟩
  ·rw[aG.fi _ _ bP] at hb;exact .inr ⟨bP,hb⟩
 refine{cD:=?_,inside:=?_,cells:=?_,maps:=?_,eQ:=?_,dm:=?_,bn:=?_,dg:=fun k j hk=>by have:=H.dg k j hk;omega,pl:=?_}
 ·intro b l hb
  rcases jj b l hb with⟨rfl,_⟩|⟨_,hb⟩
  ·simp[aa.at];omega
  ·have:=H.cD b l hb;simp[aa.at];omega
 ·intro b l hb
  rcases jj b l hb with⟨rfl,rfl⟩|⟨_,hb⟩
  ·simp[Loc.block];omega
  ·have:=H.inside b l hb;omega
 ·intro b bF l hg hb
  rcases jj b l hb with⟨rfl,rfl⟩|⟨bP,hb⟩
  ·rw[uA] at hg
   cases hg
   refine⟨_,_,_,rfl,hle,cS,fun j hj=>⟨arr[j],by rw[Nat.zero_add,gl];exact Array.getElem?_eq_getElem hj,acH _,fun v hv=>?_⟩⟩
   exact E.vr H (hl j v _ hv (Array.getElem?_eq_getElem hj))
  ·rw[aT b bP] at hg
   obtain⟨cb,o,room,rfl,rL,h1,hc⟩:=H.cells b bF l hg hb
   have aE:cb<w.heap.size:=H.inside b _ hb
   refine⟨cb,o,room,rfl,rL,h1,fun j hj=>?_⟩
   obtain⟨c,bj,a9,fp⟩:=hc j hj
   exact⟨c,by rw[bt _ _ aE];exact bj,by rw[mw _ _ aE];exact a9,fun v hv=>E.vr H (fp v hv)⟩
 ·intro b es l hg hb
  rcases jj b l hb with⟨rfl,rfl⟩|⟨bP,hb⟩
  ·rw[uA] at hg;cases hg
  ·rw[aT b bP] at hg
   obtain⟨cb,aV,clock,rfl,hm,br,hv⟩:=H.maps b es l hg hb
   refine⟨cb,aV,clock,rfl,by rw[ny cb (H.inside b _ hb)];exact hm,br,fun i k v e h1 h2=>?_⟩
   obtain⟨a,c⟩:=hv i k v e h1 h2
   exact⟨E.vr H a,E.vr H c⟩
 ·intro b l hg hb
  rcases jj b l hb with⟨rfl,rfl⟩|⟨bP,hb⟩
  ·rw[uA] at hg;cases hg
  ·rw[aT b bP] at hg
   obtain⟨cb,lo,hi,rfl,hc⟩:=H.eQ b l hg hb
   have aE:cb<w.heap.size:=H.inside b _ hb
   refine⟨cb,lo,hi,rfl,fun j h1 h2=>?_⟩
   obtain⟨c,bj,a9⟩:=hc j h1 h2
   exact⟨c,by rw[bt _ _ aE];exact bj,by rw[mw _ _ aE];exact a9⟩
 ·intro b b' l l' x x' k j aM hb bE hg cC ej eV
  rcases jj b l hb with⟨rfl,rfl⟩|⟨bP,ch⟩<;>rcases jj b' l' bE with⟨rfl,rfl⟩|⟨JN,Es⟩
  ·exact aM rfl
  ·have:=H.inside b' l' Es
   have:=Loc.v8 eV
   have:k=w.heap.size:=ej
   omega
  ·have:=H.inside b l ch
   have:=Loc.v8 ej
   have:k=w.heap.size:=eV
   omega
  ·rw[aT b bP] at hg
   rw[aT b' JN] at cC
   exact H.dm b b' l l' x x' k j aM ch Es hg cC ej eV
 ·intro b l x k j hb hg br hI
  rcases jj b l hb with⟨rfl,rfl⟩|⟨bP,hb⟩
  ·have:=H.dg k j hI
   have:k=w.heap.size:=br
   omega
  ·rw[aT b bP] at hg
   exact H.bn b l x k j hb hg br hI
 ·intro b bF cb o room hg hb n
  rcases jj b _ hb with⟨rfl,hl⟩|⟨bP,hb⟩
  ·cases hl
   exact acH n
  ·rw[aT b bP] at hg
   rw[mw cb n (H.inside b _ hb)]
   exact H.pl b bF cb o room hg hb n
def fo (P:Program) (ι:aG) (I:aQ) (h:aa) (w:World) (id:Nat) (v:AV) (h':aa) (s:Sem Value):Prop:=
 ∃c w' ι' I',s.run P w= .ok c w'/\VR ι' I' w' v c/\HR ι' I' h' w'/\Ext (· =id) ι I h w ι' I' h' w'
theorem ang (H:HR ι I h w) {id:Nat} (aL:ι id=none) {x:AV} {c:Value} (hx:VR ι I w x c) (h1:x.cells.all AV.one=true) (e:TypeId):
 fo P ι I h w id (.ptr id 0) (h.at id (.cells x.cells)) (Instr.box e c):=by
 have hc:=VR.cells hx (LW h1)
 obtain⟨H',E⟩:=BV H (w':=w.alloc (.cells c.cells e)) (arr:=c.cells) rfl rfl rfl rfl aL (fun v hv=>(List.all_eq_true.1 h1) v hv) (by rw[hc.1];simp)
  (fun j v c' hv cR=>hc.2 j v c' hv (by simpa using cR))
 exact⟨.pointer (some ⟨w.heap.size,0,none⟩),_,_,_,rfl, .ptr _ _ _ _ _ (aG.gv _ _ _),H',E⟩
theorem akQ (H:HR ι I h w) {id:Nat} (aL:ι id=none) {e:TypeId} {ie:TypeInfo} {z:Value} {za:List AV} (cN:P.info? e=some ie) (hz:ie.zero=some z)
 (ed:LR ι I w za z.cells.toList) (h1: ∀v∈za,v.one=true):fo P ι I h w id (.ptr id 0) (h.at id (.cells za)) (Instr.alloc e true (.tuple #[])):=by
 obtain⟨H',E⟩:=BV H (w':=w.alloc (.cells z.cells e)) (arr:=z.cells) rfl rfl rfl rfl aL h1 (by rw[ed.1];simp) (fun j v c' hv cR=>ed.2 j v c' hv (by simpa using cR))
 exact⟨.pointer (some ⟨w.heap.size,0,none⟩),_,_,_,by simp[Instr.alloc,Gq cN hz,newVar,newRow], .ptr _ _ _ _ _ (aG.gv _ _ _),H',E⟩
theorem ahU (H:HR ι I h w) {id:Nat} (aL:ι id=none) {t e:TypeId} {ie:TypeInfo} {z:Value} {za:List AV} {n bytes:Nat} {l c:AV} {cl cc:Value}
 (hu:P.underlying t=some (.slice e)) (cN:P.info? e=some ie) (tH:ie.zero=some z) (aO:ie.size=z.cells.size) (hb:ie.bytes=bytes)
 (hz:LR ι I w za z.cells.toList) (h1: ∀v∈za,v.one=true) (h0:za.length≠0)
 (hl:VR ι I w l cl) (hc:VR ι I w c cc) (hm:kG bytes l c=some n):
 fo P ι I h w id (.rs id 0 n za.length) (h.at id (.cells (List.replicate n za).flatten)) (Instr.makeSlice t cl cc):=by
 obtain⟨rfl,rfl,hn,AS⟩:=VY hm
 cases hl;cases hc
 have hr:=Wd (P:=P) w hu cN tH aO hb hn AS
 have fy:=Bu hz n (.inl h0)
 have sd:za.length=z.cells.size:=by rw[hz.1];simp
 obtain⟨H',E⟩:=BV H (w':=w.alloc (.cells (madeCells z.cells (n*z.cells.size)) e)) (arr:=madeCells z.cells (n*z.cells.size)) rfl rfl rfl rfl aL (cs:=(List.replicate n za).flatten)
  (fun v hv=>by
    obtain⟨r,hr,hv⟩:=List.mem_flatten.1 hv
    rw[List.eq_of_mem_replicate hr] at hv
    exact h1 v hv) (by rw[fy.1];simp) (fun j v c' hv cR=>fy.2 j v c' hv (by simpa using cR))
 refine⟨_,_,_,_,hr,?_,H',E⟩
 refine .rs id 0 n za.length w.heap.size 0 _ n (aG.gv _ _ _) (Nat.le_refl _) ?_
 rw[size_madeCells,sd];omega
theorem aiL (H:HR ι I h w) {id:Nat} (aL:ι id=none) {t e:TypeId} {ie:TypeInfo} {z:Value} {za:List AV} {ρ:Env} {n:Nat} {ps:List (Nat×aq)} {dE:Array (Nat×Value)} {rows:List (List AV)}
 (hu:P.underlying t=some (.slice e)) (cN:P.info? e=some ie) (tH:ie.zero=some z) (aO:ie.size=z.cells.size) (G0:n*ie.size<=2^24)
 (hz:LR ι I w za z.cells.toList) (h1: ∀v∈za,v.one=true) (h0:za.length≠0) (hl:ps.length=dE.size)
 (hp: ∀(i j k:Nat) (x:aq) (c:Value),ps[i]? =some (j,x)->dE[i]? =some (k,c)->j=k/\OR ι I w ρ x c)
 (hf:iA ρ za.length (List.replicate n za) ps=some rows):fo P ι I h w id (.rs id 0 n za.length) (h.at id (.cells rows.flatten)) (Instr.buildSlice t n dE):=by
 obtain⟨iq,hn,cells,hc,dn⟩:=V8 hz h1 h0 hl hp hf
 have fy:za.length=z.cells.size:=by rw[hz.1];simp
 have hr:=WM (P:=P) w (parts:=dE) (cells:=cells) hu cN tH aO G0 (by rw[aO,<-fy];rw[<-fy] at hc;exact hc)
 obtain⟨H',E⟩:=BV H (w':=w.alloc (.cells cells e)) (arr:=cells) rfl rfl rfl rfl aL (cs:=rows.flatten)
  (fun v hv=>by
    obtain⟨r,hr,hv⟩:=List.mem_flatten.1 hv
    exact(iq r hr).2 v hv) (by rw[dn.1];simp) (fun j v c' hv cR=>dn.2 j v c' hv (by simpa using cR))
 refine⟨_,_,_,_,hr,?_,H',E⟩
 refine .rs id 0 n za.length w.heap.size 0 _ n (aG.gv _ _ _) (Nat.le_refl _) ?_
 have:=dn.1
 rw[mV rows (fun r h=>(iq r h).1),hn] at this
 simp at this
 omega
end
end
section
open Go
section
variable {P:Program} {ι:aG} {I:aQ} {h:aa} {w:World}
structure xS (R:Nat->Nat->Prop) (w w':World):Prop where
 os:w'.os=w.os
 tape:w'.tape=w.tape
 output:w'.output=w.output
 size:w.heap.size<=w'.heap.size
 block: ∀k,k<w.heap.size->(∀j,¬R k j)->w'.heap[k]? =w.heap[k]?
 cell: ∀k j,k<w.heap.size-> ¬R k j->w'.cell? ⟨k,j,none⟩=w.cell? ⟨k,j,none⟩
 frozen: ∀k j,k<w.heap.size-> ¬R k j->w'.frozen? ⟨k,j,none⟩=w.frozen? ⟨k,j,none⟩
structure fg (R:Nat->Nat->Prop) (w w':World):Prop where
 os:w'.os=w.os
 tape:w'.tape=w.tape
 output:w'.output=w.output
 size:w.heap.size<=w'.heap.size
 block: ∀k,k<w.heap.size->(∀j,¬R k j)->w'.heap[k]? =w.heap[k]?
 cell: ∀k j,k<w.heap.size-> ¬R k j->w'.cell? ⟨k,j,none⟩=w.cell? ⟨k,j,none⟩
 frozen: ∀k j,k<w.heap.size->w'.frozen? ⟨k,j,none⟩=w.frozen? ⟨k,j,none⟩
theorem fg.D9 {R:Nat->Nat->Prop} {w w':World} (W:fg R w w'):xS R w w':=
 ⟨W.os,W.tape,W.output,W.size,W.block,W.cell,fun k j hk _=>W.frozen k j hk⟩
theorem fg.trans {R R':Nat->Nat->Prop} {w₁ w₂ w₃:World} (A:fg R w₁ w₂) (B:fg R' w₂ w₃) (hR: ∀k j,k<w₁.heap.size->R' k j->R k j):fg R w₁ w₃ where
 os:=B.os.trans A.os
 tape:=B.tape.trans A.tape
 output:=B.output.trans A.output
 size:=Nat.le_trans A.size B.size
 block k hk hr:=(B.block k (Nat.lt_of_lt_of_le hk A.size) (fun j hj=>hr j (hR k j hk hj))).trans (A.block k hk hr)
 cell k j hk hr:=(B.cell k j (Nat.lt_of_lt_of_le hk A.size) (fun hj=>hr (hR k j hk hj))).trans (A.cell k j hk hr)
 frozen k j hk:=(B.frozen k j (Nat.lt_of_lt_of_le hk A.size)).trans (A.frozen k j hk)
theorem VQ (cb:Nat): ∀(vs:List Value) (o:Nat) (w:World) (k:Nat),k≠cb->(w.setCells cb o vs).heap[k]? =w.heap[k]?
 |[],_,_,_,_=>rfl
 |v::vs,o,w,k,hk=>by
  rw[World.setCells,VQ cb vs (o+1) _ k hk,heap_setCell_other _ _ _ _ hk]
theorem VN (cb:Nat): ∀(vs:List Value) (o:Nat) (w:World),(w.setCells cb o vs).heap.size=w.heap.size/\(w.setCells cb o vs).os=w.os/\(w.setCells cb o vs).tape=w.tape/\(w.setCells cb o vs).output=w.output
 |[],_,_=>⟨rfl,rfl,rfl,rfl⟩
 |v::vs,o,w=>by
  obtain⟨a,b,c,d⟩:=VN cb vs (o+1) (w.setCell ⟨cb,o,none⟩ v)
  exact⟨by rw[World.setCells,a];simp[World.setCell],by rw[World.setCells,b];rfl,by rw[World.setCells,c];rfl,by rw[World.setCells,d];rfl⟩
theorem fg.setCells (w:World) (cb o:Nat) (vs:List Value):fg (fun k j=>k=cb/\o<=j/\j<o+vs.length) w (w.setCells cb o vs):=by
 obtain⟨a,b,c,d⟩:=VN cb vs o w
 refine{os:=b,tape:=c,output:=d,size:=by omega,block:=fun k hk hr=>?_,cell:=fun k j hk hr=>?_,frozen:=fun k j hk=>World.frozen?_setCells cb vs o w _}
 ·by_cases so:k=cb
  ·subst so
   cases vs with
   |nil=>rfl
   |cons v vs=>exact(hr o ⟨rfl,Nat.le_refl _,by simp⟩).elim
  ·exact VQ cb vs o w k so
 ·exact World.cell?_setCells_out cb vs o w _ (fun h1 _=>by
   by_cases hj:j<o
   ·exact .inl hj
   ·refine .inr (Nat.le_of_not_lt fun h2=>hr ⟨h1,by omega,h2⟩))
theorem fg.push (w:World) (o:Obj):fg (fun _ _=>False) w (w.alloc o):=by
 have ny: ∀k,k<w.heap.size->(w.alloc o).heap[k]? =w.heap[k]?:=fun k hk=>by
  show(w.heap.push o)[k]? =_
  rw[Array.getElem?_push,if_neg (by omega)]
 exact{os:=rfl,tape:=rfl,output:=rfl,size:=by simp,block:=fun k hk _=>ny k hk
       cell:=fun k j hk _=>by simp[World.cell?,ny k hk],frozen:=fun k j hk=>by simp[World.frozen?,ny k hk]}
theorem fg.drew (w:World):fg (fun _ _=>False) w w.drew:=
 {os:=rfl,tape:=rfl,output:=rfl,size:=Nat.le_refl _,block:=fun _ _ _=>rfl,cell:=fun _ _ _ _=>rfl,frozen:=fun _ _ _=>rfl}
theorem HR.agR (H:HR ι I h w) {w':World} {R:Nat->Nat->Prop} (W:xS R w w') {h':aa} (fu:h.next<=h'.next) (dc: ∀b x,h'.get b=some x->h.get b=some x)
 (hR: ∀b l x k j,ι b=some l->h'.get b=some x->l.has k j-> ¬R k j) (hI: ∀k j,R k j-> ¬I k j):HR ι I h' w':=by
 have cq: ∀a v,VR ι I w a v->VR ι I w' a v:=fun a v hv=>hv.mono (fun _ _ h=>h) (fun _ _ h=>h) (fun k j hk=>W.cell k j (H.dg k j hk) (fun hr=>hI k j hr hk))
 refine{cD:=fun b l hb=>Nat.lt_of_lt_of_le (H.cD b l hb) fu,inside:=fun b l hb=>Nat.lt_of_lt_of_le (H.inside b l hb) W.size,cells:=?_,maps:=?_,eQ:=?_
        dm:=fun b b' l l' x x' k j aM hb bE hg cC=>H.dm b b' l l' x x' k j aM hb bE (dc _ _ hg) (dc _ _ cC)
        bn:=fun b l x k j hb hg=>H.bn b l x k j hb (dc _ _ hg),dg:=fun k j hk=>Nat.lt_of_lt_of_le (H.dg k j hk) W.size
        pl:=fun b cs cb o room hg hb n=>by rw[W.frozen cb n (H.inside b _ hb) (hR b _ _ cb n hb hg rfl)];exact H.pl b cs cb o room (dc _ _ hg) hb n}
 ·intro b cs l hg hb
  obtain⟨cb,o,room,rfl,hle,h1,hc⟩:=H.cells b cs l (dc _ _ hg) hb
  have aE:cb<w.heap.size:=H.inside b _ hb
  refine⟨cb,o,room,rfl,hle,h1,fun j hj=>?_⟩
  obtain⟨c,bj,a9,fp⟩:=hc j hj
  have hnr:=hR b _ _ cb (o+j) hb hg rfl
  exact⟨c,by rw[W.cell _ _ aE hnr];exact bj,by rw[W.frozen _ _ aE hnr];exact a9,fun v hv=>cq _ _ (fp v hv)⟩
 ·intro b es l hg hb
  obtain⟨cb,aV,clock,rfl,hm,br,hv⟩:=H.maps b es l (dc _ _ hg) hb
  have aE:cb<w.heap.size:=H.inside b _ hb
  refine⟨cb,aV,clock,rfl,by rw[W.block cb aE (fun j=>hR b _ _ cb j hb hg rfl)];exact hm,br,fun i k v e h1 h2=>?_⟩
  obtain⟨a,c⟩:=hv i k v e h1 h2
  exact⟨cq _ _ a,cq _ _ c⟩
 ·intro b l hg hb
  obtain⟨cb,lo,hi,rfl,hc⟩:=H.eQ b l (dc _ _ hg) hb
  have aE:cb<w.heap.size:=H.inside b _ hb
  refine⟨cb,lo,hi,rfl,fun j h1 h2=>?_⟩
  obtain⟨c,bj,a9⟩:=hc j h1 h2
  exact⟨c,by rw[W.cell _ _ aE (hR b _ _ cb j hb hg ⟨rfl,h1,h2⟩)];exact bj,by rw[W.frozen _ _ aE (hR b _ _ cb j hb hg ⟨rfl,h1,h2⟩)];exact a9⟩
theorem HR.vx (H:HR ι I h w) {w':World} {R:Nat->Nat->Prop} (W:fg R w w') {h':aa} (fu:h.next<=h'.next) (dc: ∀b x,h'.get b=some x->h.get b=some x)
 (hR: ∀b l x k j,ι b=some l->h'.get b=some x->l.has k j-> ¬R k j) (hI: ∀k j,R k j-> ¬I k j):HR ι I h' w':=
 H.agR W.D9 fu dc hR hI
theorem HR.Mg (H:HR ι I h w) {J:aQ} (hJ: ∀k j,J k j->k<w.heap.size/\ ¬ew ι h k j):HR ι (fun k j=>I k j\/J k j) h w:=by
 have cq: ∀a v,VR ι I w a v->VR ι (fun k j=>I k j\/J k j) w a v:=fun a v hv=>hv.mono (fun _ _ h=>h) (fun _ _ h=> .inl h) (fun k j hk=>rfl)
 refine{cD:=H.cD,inside:=H.inside,cells:=?_,maps:=?_,eQ:=H.eQ,dm:=H.dm,bn:=?_,dg:=?_,pl:=H.pl}
 ·intro b cs l hg hb
  obtain⟨cb,o,room,rfl,hle,h1,hc⟩:=H.cells b cs l hg hb
  refine⟨cb,o,room,rfl,hle,h1,fun j hj=>?_⟩
  obtain⟨c,bj,a9,fp⟩:=hc j hj
  exact⟨c,bj,a9,fun v hv=>cq _ _ (fp v hv)⟩
 ·intro b es l hg hb
  obtain⟨cb,aV,clock,rfl,hm,br,hv⟩:=H.maps b es l hg hb
  exact⟨cb,aV,clock,rfl,hm,br,fun i k v e h1 h2=>⟨cq _ _ (hv i k v e h1 h2).1,cq _ _ (hv i k v e h1 h2).2⟩⟩
 ·intro b l x k j hb hg hl hk
  rcases hk with hk|hk
  ·exact H.bn b l x k j hb hg hl hk
  ·exact(hJ k j hk).2 ⟨b,l,x,hb,hg,hl⟩
 ·intro k j hk
  rcases hk with hk|hk
  ·exact H.dg k j hk
  ·exact(hJ k j hk).1
def Fits (ι:aG) (I:aQ) (w:World):Loc->cI->Prop
 | .cells cb o room, .cells cs=>cs.length<=room/\(∀v∈cs,v.one=true)/\
    (∀j,j<room-> ∃c,w.cell? ⟨cb,o+j,none⟩=some c/\w.frozen? ⟨cb,o+j,none⟩=false/\ ∀v,cs[j]? =some v->VR ι I w v c)/\ ∀n,w.frozen? ⟨cb,n,none⟩=false
 | .map cb, .map es=> ∃aV clock,w.heap[cb]? =some (.map aV clock)/\ER ι I w es aV.toList/\m9 aV clock
 | .tail cb lo hi, .tail=> ∀j,lo<=j->j<hi-> ∃c,w.cell? ⟨cb,j,none⟩=some c/\w.frozen? ⟨cb,j,none⟩=false
 |_,_=>False
theorem HR.xd (H:HR ι I h w) {id:Nat} {l:Loc} {x:cI} (aL: ∀l',ι id=some l'->l'=l) (aE:l.block<w.heap.size) (kc:Fits ι I w l x)
 (uM: ∀k j,l.has k j-> ¬ew ι h k j/\ ¬I k j):HR (ι.set id l) I (h.at id x) w:=by
 have aT: ∀b,b≠id->(h.at id x).get b=h.get b:=fun b hb=>by simp[aa.at,hb]
 have uA:(h.at id x).get id=some x:=by simp[aa.at]
 have jj: ∀b l',(ι.set id l) b=some l'->(b=id/\l'=l)\/(b≠id/\ι b=some l'):=by
  intro b l' hb
  by_cases bP:b=id
  ·subst bP;rw[aG.gv] at hb;cases hb;exact .inl ⟨rfl,rfl⟩
  ·rw[aG.fi _ _ bP] at hb;exact .inr ⟨bP,hb⟩
 have cq: ∀a v,VR ι I w a v->VR (ι.set id l) I w a v:=fun a v hv=>hv.mono (fun b l' hb=>by
  by_cases he:b=id
  ·subst he;rw[aG.gv,aL _ hb]
  ·rw[aG.fi _ _ he];exact hb) (fun _ _ h=>h) (fun k j hk=>rfl)
 refine{cD:=?_,inside:=?_,cells:=?_,maps:=?_,eQ:=?_,dm:=?_,bn:=?_,dg:=H.dg,pl:=?_}
 ·intro b l' hb
  rcases jj b l' hb with⟨rfl,_⟩|⟨_,hb⟩
  ·simp[aa.at];omega
  ·have:=H.cD b l' hb;simp[aa.at];omega
 ·intro b l' hb
  rcases jj b l' hb with⟨rfl,rfl⟩|⟨_,hb⟩
  ·exact aE
  ·exact H.inside b l' hb
 ·intro b cs l' hg hb
  rcases jj b l' hb with⟨rfl,rfl⟩|⟨bP,hb⟩
  ·rw[uA] at hg
   cases hg
   cases l' with
   |cells cb o room=>
    obtain⟨h1,h2,h3,-⟩:=kc
    refine⟨cb,o,room,rfl,h1,h2,fun j hj=>?_⟩
    obtain⟨c,bj,a9,fp⟩:=h3 j hj
    exact⟨c,bj,a9,fun v hv=>cq _ _ (fp v hv)⟩
   |map _=>exact kc.elim
   |tail _ _ _=>exact kc.elim
  ·rw[aT b bP] at hg
   obtain⟨cb,o,room,rfl,rL,h1,hc⟩:=H.cells b cs l' hg hb
   refine⟨cb,o,room,rfl,rL,h1,fun j hj=>?_⟩
   obtain⟨c,bj,a9,fp⟩:=hc j hj
   exact⟨c,bj,a9,fun v hv=>cq _ _ (fp v hv)⟩
 ·intro b es l' hg hb
  rcases jj b l' hb with⟨rfl,rfl⟩|⟨bP,hb⟩
  ·rw[uA] at hg
   cases hg
   cases l' with
   |map cb=>
    obtain⟨aV,clock,hm,gO,dB⟩:=kc
    exact⟨cb,aV,clock,rfl,hm,⟨by simpa using gO.1,dB⟩,fun i k v e h1 h2=>by
     have:=gO.2 i k v e h1 (by simpa using h2)
     exact⟨cq _ _ this.1,cq _ _ this.2⟩⟩
   |cells _ _ _=>exact kc.elim
   |tail _ _ _=>exact kc.elim
  ·rw[aT b bP] at hg
   obtain⟨cb,aV,clock,rfl,hm,br,hv⟩:=H.maps b es l' hg hb
   exact⟨cb,aV,clock,rfl,hm,br,fun i k v e h1 h2=>⟨cq _ _ (hv i k v e h1 h2).1,cq _ _ (hv i k v e h1 h2).2⟩⟩
 ·intro b l' hg hb
  rcases jj b l' hb with⟨rfl,rfl⟩|⟨bP,hb⟩
  ·rw[uA] at hg
   cases hg
   cases l' with
   |tail cb lo hi=>exact⟨cb,lo,hi,rfl,kc⟩
   |cells _ _ _=>exact kc.elim
   |map _=>exact kc.elim
  ·rw[aT b bP] at hg
   exact H.eQ b l' hg hb
 ·intro b b' l1 l2 x1 x2 k j aM hb bE hg cC ej eV
  rcases jj b l1 hb with⟨rfl,rfl⟩|⟨bP,ch⟩<;>rcases jj b' l2 bE with⟨rfl,rfl⟩|⟨JN,Es⟩
  ·exact aM rfl
  ·rw[aT b' JN] at cC
   exact(uM k j ej).1 ⟨b',l2,x2,Es,cC,eV⟩
  ·rw[aT b bP] at hg
   exact(uM k j eV).1 ⟨b,l1,x1,ch,hg,ej⟩
  ·rw[aT b bP] at hg
   rw[aT b' JN] at cC
   exact H.dm b b' l1 l2 x1 x2 k j aM ch Es hg cC ej eV
 ·intro b l1 x1 k j hb hg hl hI
  rcases jj b l1 hb with⟨rfl,rfl⟩|⟨bP,ch⟩
  ·exact(uM k j hl).2 hI
  ·rw[aT b bP] at hg
   exact H.bn b l1 x1 k j ch hg hl hI
 ·intro b cs cb o room hg hb n
  rcases jj b _ hb with⟨rfl,hl⟩|⟨bP,ch⟩
  ·rw[uA] at hg
   cases hg
   subst hl
   exact kc.2.2.2 n
  ·rw[aT b bP] at hg
   exact H.pl b cs cb o room hg ch n
theorem Ext.of0 {N:Nat->Prop} {ι':aG} {I':aQ} {h':aa} {w':World} {R:Nat->Nat->Prop} (W:xS R w w') (hR: ∀k j,k<w.heap.size->R k j->ew ι h k j)
 (hU: ∀b,¬N b->ι' b=ι b) (CZ: ∀b l,ι b=some l->ι' b=some l) (fu:h.next<=h'.next) (Tv: ∀k j,I k j->I' k j)
 (i7: ∀k j,ew ι' h' k j->ew ι h k j\/w.heap.size<=k) (PL: ∀k j,I' k j->I k j\/ew ι h k j\/w.heap.size<=k)
 (C0: ∀b,¬N b->ι b=none->h'.get b=h.get b):Ext N ι I h w ι' I' h' w':=
 {eJ:=hU,bN:=CZ,next:=fu,bn:=Tv,os:=W.os,tape:=W.tape,output:=W.output,size:=W.size
  block:=fun k hk ho=>W.block k hk (fun j hj=>ho j (hR k j hk hj)),cell:=fun k j hk ho=>W.cell k j hk (fun hj=>ho (hR k j hk hj)),frozen:=fun k j hk ho=>W.frozen k j hk (fun hj=>ho (hR k j hk hj))
  own:=i7,fQ:=PL,lost:=C0}
theorem Ext.of {N:Nat->Prop} {ι':aG} {I':aQ} {h':aa} {w':World} {R:Nat->Nat->Prop} (W:fg R w w') (hR: ∀k j,k<w.heap.size->R k j->ew ι h k j)
 (hU: ∀b,¬N b->ι' b=ι b) (CZ: ∀b l,ι b=some l->ι' b=some l) (fu:h.next<=h'.next) (Tv: ∀k j,I k j->I' k j)
 (i7: ∀k j,ew ι' h' k j->ew ι h k j\/w.heap.size<=k) (PL: ∀k j,I' k j->I k j\/ew ι h k j\/w.heap.size<=k)
 (C0: ∀b,¬N b->ι b=none->h'.get b=h.get b):Ext N ι I h w ι' I' h' w':=
 Ext.of0 W.D9 hR hU CZ fu Tv i7 PL C0
end
end
section
open Go
section
variable {P:Program} {ι:aG} {I:aQ} {h:aa} {w:World}
theorem aa.amP (h:aa) {b:Nat} (hb:b<h.next) (x:cI):(h.set b none).at b x=h.set b (some x):=by
 unfold aa.at aa.set
 congr 1
 ·funext i;by_cases hi:i=b<;>simp[hi]
 ·simp;omega
theorem aG.anz {ι:aG} {b:Nat} {l:Loc} (hb:ι b=some l):ι.set b l=ι:=by
 funext i
 by_cases hi:i=b
 ·subst hi;rw[aG.gv,hb]
 ·rw[aG.fi _ _ hi]
theorem iN {h:aa} {b i:Nat} {x:cI} (hg:(h.set b none).get i=some x):i≠b/\h.get i=some x:=by
 simp only[aa.set] at hg
 split at hg
 ·cases hg
 ·exact⟨by assumption,hg⟩
theorem HR.bQ (H:HR ι I h w) {w':World} {R:Nat->Nat->Prop} (W:fg R w w') {b:Nat} {l:Loc} {x x':cI} (hb:ι b=some l) (hg:h.get b=some x)
 (hR: ∀k j,R k j->l.has k j) (kc:HR ι I (h.set b none) w'->Fits ι I w' l x'):
 HR ι I (h.set b (some x')) w'/\Ext (fun _=>False) ι I h w ι I (h.set b (some x')) w':=by
 have H1:HR ι I (h.set b none) w':=H.vx W (Nat.le_refl _) (fun i y hi=>(iN hi).2)
  (fun i l' y k j hi dX hl hr=>(H.dm i b l' l y x k j (iN dX).1 hi hb (iN dX).2 hg hl (hR k j hr)).elim)
  (fun k j hr=>H.bn b l x k j hb hg (hR k j hr))
 have H2:=H1.xd (id:=b) (l:=l) (x:=x') (fun l' br=>by rw[hb] at br;cases br;rfl) (Nat.lt_of_lt_of_le (H.inside b l hb) W.size) (kc H1)
  (fun k j hl=>⟨fun⟨i,l',y,hi,dX,iU⟩=>H.dm i b l' l y x k j (iN dX).1 hi hb (iN dX).2 hg iU hl,H.bn b l x k j hb hg hl⟩)
 rw[aG.anz hb,aa.amP h (H.cD b l hb)] at H2
 refine⟨H2,Ext.of W (fun k j _ hr=>⟨b,l,x,hb,hg,hR k j hr⟩) (fun _ _=>rfl) (fun _ _ h=>h) (Nat.le_refl _) (fun _ _ h=>h) ?_ (fun _ _ h=> .inl h) ?_⟩
 ·rintro k j ⟨i,l',y,hi,dX,hl⟩
  by_cases lV:i=b
  ·subst lV
   rw[hb] at hi;cases hi
   exact .inl ⟨i,_,x,hb,hg,hl⟩
  ·exact .inl ⟨i,l',y,hi,by simpa [aa.set,lV] using dX,hl⟩
 ·intro i _ hi
  have:i≠b:=fun he=>by rw[he,hb] at hi;cases hi
  simp[aa.set,this]
theorem HR.GW (H:HR ι I h w) {b cb o room off:Nat} {cs vs:List AV} {mr:List Value} (hb:ι b=some (.cells cb o room)) (hg:h.get b=some (.cells cs))
 (hle:off<=cs.length) (i9:off+vs.length<=room) (hv:LR ι I w vs mr) (cS: ∀v∈vs,v.one=true):
 HR ι I (h.set b (some (.cells (di cs off vs)))) (w.setCells cb (o+off) mr)/\
 Ext (fun _=>False) ι I h w ι I (h.set b (some (.cells (di cs off vs)))) (w.setCells cb (o+off) mr):=by
 obtain⟨_,_,_,hl,eY,h1,hc⟩:=H.cells b cs _ hg hb
 cases hl
 have hvl:=hv.1
 refine H.bQ (fg.setCells w cb (o+off) mr) hb hg (fun k j ⟨h1,h2,h3⟩=>h1) (fun H1=>?_)
 have cq: ∀a c,VR ι I w a c->VR ι I (w.setCells cb (o+off) mr) a c:=fun a c ss=>ss.mono (fun _ _ h=>h) (fun _ _ h=>h) (fun k j hk=>
  (fg.setCells w cb (o+off) mr).cell k j (H.dg k j hk) (fun⟨e1,e2,e3⟩=>H.bn b _ _ k j hb hg e1 hk))
 refine⟨by rw[ahI _ _ _ hle];omega,?_,fun j hj=>?_,fun n=>by rw[World.frozen?_setCells];exact H.pl b cs cb o room hg hb n⟩
 ·intro v cT
  obtain⟨i,hi,rfl⟩:=List.getElem_of_mem cT
  have aT:=Ln cs off vs hle i
  rw[List.getElem?_eq_getElem hi] at aT
  split at aT
  ·exact cS _ (List.mem_of_getElem? aT.symm)
  ·exact h1 _ (List.mem_of_getElem? aT.symm)
 ·obtain⟨c,bj,a9,fp⟩:=hc j hj
  by_cases aE:off<=j/\j<off+mr.length
  ·have hex: ∀i,i<mr.length->(w.cell? ⟨cb,o+off+i,none⟩).isSome=true:=fun i hi=>by
    obtain⟨c',cR,_⟩:=hc (off+i) (by omega)
    rw[Nat.add_assoc,cR];rfl
   have:=World.cell?_setCells_in cb mr (o+off) w hex (j-off) (by omega)
   rw[show o+off+(j-off)=o+j by omega] at this
   refine⟨_,this,by rw[World.frozen?_setCells];exact a9,fun v cT=>?_⟩
   rw[Ln _ _ _ hle,if_pos (by omega)] at cT
   exact cq _ _ (hv.2 _ v _ cT (List.getElem?_eq_getElem (by omega)))
  ·refine⟨c,?_,by rw[World.frozen?_setCells];exact a9,fun v cT=>?_⟩
   ·rw[World.cell?_setCells_out cb mr (o+off) w _ (fun _ _=>by simp;omega)]
    exact bj
   ·rw[Ln _ _ _ hle,if_neg (by omega)] at cT
    exact cq _ _ (fp v cT)
theorem HR.write (H:HR ι I h w) {b cb o room off:Nat} {cs vs:List AV} {mr:List Value} (hb:ι b=some (.cells cb o room)) (hg:h.get b=some (.cells cs))
 (hle:off+vs.length<=cs.length) (hv:LR ι I w vs mr) (cS: ∀v∈vs,v.one=true):
 HR ι I (h.set b (some (.cells (di cs off vs)))) (w.setCells cb (o+off) mr)/\
 Ext (fun _=>False) ι I h w ι I (h.set b (some (.cells (di cs off vs)))) (w.setCells cb (o+off) mr):=by
 obtain⟨_,_,_,hl,eY,-,-⟩:=H.cells b cs _ hg hb
 cases hl
 exact H.GW hb hg (by omega) (by omega) hv cS
theorem qP {b:Nat} {cs:List AV} (hg:cellsOf h b=some cs):h.get b=some (.cells cs):=by
 unfold cellsOf at hg
 split at hg
 ·rename_i bF hh;cases hg;exact hh
 ·cases hg
theorem aj5 (H:HR ι I h w) {t:TypeId} {sz:Nat} (hs:(P.info? t).map (·.size)=some sz) {a v:AV} {ca cv:Value} (ha:VR ι I w a ca) (hv:VR ι I w v cv) {h':aa} {r:AV}
 (he:wy sz h a v=some (r,h')):
 r= .undef/\ ∃w',(Instr.storeAt t ca cv).run P w= .ok () w'/\HR ι I h' w'/\Ext (fun _=>False) ι I h w ι I h' w':=by
 unfold wy at he
 cases ha<;>simp only[] at he<;>try(cases he;done)
 rename_i b off cb o room hb
 split at he
 ·rename_i cs hg
  split at he
  ·rename_i fO
   obtain⟨h1,h2,h3⟩:=fO
   cases he
   have cC:=qP hg
   have hc:=VR.cells hv (LW h3)
   obtain⟨_,_,_,hl,eY,_,bt⟩:=H.cells b cs _ cC hb
   cases hl
   have cS: ∀u∈cv.cells.toList,u.oneCell'=true:=by
    intro u hu
    obtain⟨i,hi,rfl⟩:=List.getElem_of_mem hu
    have aA:i<v.cells.length:=by rw[hc.1];exact hi
    exact(hc.2 i _ _ (List.getElem?_eq_getElem aA) (List.getElem?_eq_getElem hi)).one ((List.all_eq_true.1 h3) _ (List.getElem_mem aA))
   have hlen:cv.cells.toList.length=sz:=by rw[<-h1,hc.1]
   have bW:=run_storeCells_cells (P:=P) cb (o+off) cv.cells.toList 0 w
    (fun j hj=>by obtain⟨c,cR,_⟩:=bt (off+j) (by omega);simp only[Nat.add_zero];rw[Nat.add_assoc,cR];rfl)
    (fun j hj=>by obtain⟨c,_,cR,_⟩:=bt (off+j) (by omega);simp only[Nat.add_zero];rw[Nat.add_assoc];exact cR) cS
   obtain⟨H',E⟩:=H.write (off:=off) hb cC (by omega) hc (fun u hu=>(List.all_eq_true.1 h3) u hu)
   refine⟨rfl,w.setCells cb (o+off) cv.cells.toList,?_,H',E⟩
   have aO:cv.cells.size=sz:=by simpa using hlen
   simp only[Nat.add_zero] at bW
   simp[Instr.storeAt,Instr.sureAddr,storeVar,l9 hs,aO,bW]
  ·cases he
 ·cases he
end
end
section
open Go
section
variable {P:Program} {ι:aG} {I:aQ} {h:aa} {w:World}
theorem fg.refl (w:World):fg (fun _ _=>False) w w:=
 {os:=rfl,tape:=rfl,output:=rfl,size:=Nat.le_refl _,block:=fun _ _ _=>rfl,cell:=fun _ _ _ _=>rfl,frozen:=fun _ _ _=>rfl}
theorem HR.drop (H:HR ι I h w) {b:Nat} {l:Loc} (hb:ι b=some l):HR ι I (h.set b none) w/\Ext (fun _=>False) ι I h w ι I (h.set b none) w:=by
 refine⟨H.vx (fg.refl w) (Nat.le_refl _) (fun i y hi=>(iN hi).2) (fun _ _ _ _ _ _ _ _ h=>h) (fun _ _ h=>h.elim),?_⟩
 refine Ext.of (fg.refl w) (fun _ _ _ h=>h.elim) (fun _ _=>rfl) (fun _ _ h=>h) (Nat.le_refl _) (fun _ _ h=>h) ?_ (fun _ _ h=> .inl h) ?_
 ·rintro k j ⟨i,l',y,hi,hg,hl⟩
  exact .inl ⟨i,l',y,hi,(iN hg).2,hl⟩
 ·intro i _ hi
  have:i≠b:=fun he=>by rw[he,hb] at hi;cases hi
  simp[aa.set,this]
theorem Yu {Ti cap bytes:Nat} (hg:cap<Ti) (hb:Ti*bytes<2^40):Builtin.nextslicecap Ti cap*bytes<=281474976710656:=by
 have h1:=nextslicecap_le hg
 have h2:=Nat.mul_le_mul_right bytes h1
 rw[Nat.mul_assoc] at h2
 omega
structure tw (P:Program) (t tx e:TypeId) (sz bytes:Nat):Prop where
 ht:P.underlying t=some (.slice e)
 tK:P.underlying tx=some (.slice e)
 info: ∃ie z,P.info? e=some ie/\ie.zero=some z/\ie.size=sz/\ie.bytes=bytes/\z.cells.size=sz
 pos:sz≠0
theorem Yc {sz:Nat} {rows:List (List AV)} {a:Option Addr} {l:List Value} (R:Rd ι I w sz rows a l) (cap:Nat) (w':World)
 (hw: ∀a,w'.cell? a=w.cell? a):(Builtin.firstCells sz rows.length (.slice a rows.length cap)).run P w'= .ok l.toArray w':=by
 cases a with
 |none=>
  have:=R.none rfl
  subst this
  have:l=[]:=by have:=R.len;simpa using this
  subst this
  exact run_firstCells_none w' sz 0 _ cap
 |some ad=>
  exact run_firstCells_some w' sz _ _ _ _ l R.len (fun j v hv=>by rw[hw];exact R.cell ad rfl j v hv)
theorem Yt (H:HR ι I h w) {id:Nat} (aL:ι id=none) {t tx ty e:TypeId} {sz bytes:Nat} (T:tw P t tx e sz bytes) {xs ys:List (List AV)} {a b:Option Addr} {lx ly:List Value} {cap cM:Nat}
 (Rx:Rd ι I w sz xs a lx) (Ry:Rd ι I w sz ys b ly) (hg:cap<xs.length+ys.length) (hb:(xs.length+ys.length)*bytes<2^40) (hn:xs.length+ys.length<2^40):
 ∃(c:Nat) (w':World),(Builtin.append_ #[t,tx] ty #[.slice a xs.length cap, .slice b ys.length cM]).run P w= .ok (.slice (some ⟨w.heap.size,0,none⟩) (xs.length+ys.length) c) w'/\
  xs.length+ys.length<=c/\w'.heap.size=w.heap.size+1/\fg (fun _ _=>False) w w'/\(∀j,w'.frozen? ⟨w.heap.size,j,none⟩=false)/\
  (∀j,j<c*sz-> ∃u,w'.cell? ⟨w.heap.size,j,none⟩=some u)/\(∀(j:Nat) (u:Value),(lx++ly)[j]? =some u->w'.cell? ⟨w.heap.size,j,none⟩=some u):=by
 obtain⟨ie,z,cN,hz,aO,y7,sd⟩:=T.info
 have hold:=Yc (P:=P) Rx cap w.drew (fun _=>rfl)
 have qb:=Ry.src (P:=P) T.tK cM
 rw[<-aO] at hold qb
 have kc:=Yu hg hb
 rw[<-y7] at kc
 have bW:=run_append_grow_src (P:=P) w t tx ty e ie z T.ht cN hz a xs.length cap lx hold (.slice b ys.length cM) ys.length ly qb hg (by omega) kc
 have AM:=grownCap_ge w (xs.length+ys.length) cap e
 refine⟨_,_,bW,AM,by simp,(fg.drew w).trans (fg.push _ _) (fun _ _ _ h=>h),?_,?_,?_⟩
 ·intro j;exact World.frozen?_alloc_new (w:=w.drew) _ _ j
 ·intro j hj
  have uK:((lx++ly).toArray++Builtin.zeroCells z.cells (grownCap w (xs.length+ys.length) cap e-(xs.length+ys.length))).size=grownCap w (xs.length+ys.length) cap e*sz:=by
   rw[Array.size_append,size_zeroCells,sd]
   simp only[List.size_toArray,List.length_append,Rx.len,Ry.len]
   rw[<-Nat.add_mul,<-Nat.add_mul]
   congr 1;omega
  exact⟨_,(World.cell?_alloc_new (w:=w.drew) _ _ j).trans (Array.getElem?_eq_getElem (by rw[uK];exact hj))⟩
 ·intro j u hu
  refine(World.cell?_alloc_new (w:=w.drew) _ _ j).trans ?_
  rw[Array.getElem?_append_left (by have:=(List.getElem?_eq_some_iff.1 hu).1;simpa using this)]
  simpa using hu
theorem Rd.append {sz:Nat} {xs ys:List (List AV)} {a b:Option Addr} {lx ly:List Value} (Rx:Rd ι I w sz xs a lx) (Ry:Rd ι I w sz ys b ly):
 (∀r∈xs++ys,r.length=sz/\ ∀v∈r,v.one=true)/\LR ι I w (xs++ys).flatten (lx++ly):=by
 refine⟨fun r hr=>?_,?_⟩
 ·rcases List.mem_append.1 hr with h|h
  ·exact Rx.lN r h
  ·exact Ry.lN r h
 ·rw[List.flatten_append]
  exact Rx.lr.append Ry.lr
theorem Zw {ι':aG} {I':aQ} {w':World} {rows:List (List AV)} {l:List Value} {sz cb o cap:Nat} {t:aH} (hu: ∀r∈rows,r.length=sz/\ ∀v∈r,v.one=true) (hl:LR ι' I' w' rows.flatten l)
 (hc: ∀(j:Nat) (u:Value),l[j]? =some u->w'.cell? ⟨cb,o+j,none⟩=some u) (hI: ∀j,j<rows.length*sz->I' cb (o+j)) (bu:rows.length<=cap)
 (ht:PA ι' cb o sz rows.length cap t):VR ι' I' w' (.vs rows t) (.slice (some ⟨cb,o,none⟩) rows.length cap):=by
 have bT:=mV rows (fun r hr=>(hu r hr).1)
 have ku:l.length=rows.length*sz:=by rw[<-hl.1,bT]
 have ahb: ∀i j,i<rows.length->j<sz->i*sz+j<rows.length*sz:=fun i j hi hj=>by
  have:=Nat.mul_le_mul_right sz (show i+1<=rows.length by omega)
  rw[Nat.succ_mul] at this;omega
 refine .vs rows t cb o sz cap (fun i j=>l.getD (i*sz+j) undef) (fun i row hi=>(hu row (List.mem_of_getElem? hi)).1) (fun i j hi hj=>?_) (fun i j hi hj=>?_) (fun i row j v hi hj=>?_) (fun row hr=>(hu row hr).2) bu ht
 ·rw[Nat.add_assoc];exact hI _ (ahb i j hi hj)
 ·have aD:=ahb i j hi hj
  rw[Nat.add_assoc]
  refine hc _ _ ?_
  rw[<-ku] at aD
  simp[List.getD,List.getElem?_eq_getElem aD]
 ·have aA:=(List.getElem?_eq_some_iff.1 hi).1
  have js:=(List.getElem?_eq_some_iff.1 hj).1
  have hr:=(hu row (List.mem_of_getElem? hi)).1
  have:=flat_get rows (fun r hr=>(hu r hr).1) i j row hi (by omega)
  rw[hj] at this
  obtain⟨c,bj,a9⟩:=hl.get this
  have e:l.getD (i*sz+j) undef=c:=by simp[List.getD,bj]
  rw[e];exact a9
theorem Bl (H:HR ι I h w) {id:Nat} (aL:ι id=none) {t tx ty e:TypeId} {sz bytes:Nat} (T:tw P t tx e sz bytes) {xs ys:List (List AV)} {a b:Option Addr} {lx ly:List Value} {cap cM:Nat}
 (Rx:Rd ι I w sz xs a lx) (Ry:Rd ι I w sz ys b ly) (hg:cap<xs.length+ys.length) (hb:(xs.length+ys.length)*bytes<2^40) (hn:xs.length+ys.length<2^40) (hy:ys≠[]):
 fo P ι I h w id (.vs (xs++ys) (.own id)) (h.at id .tail) (Builtin.append_ #[t,tx] ty #[.slice a xs.length cap, .slice b ys.length cM]):=by
 obtain⟨c,w',bW,hc,aO,W,mw,hex,bt⟩:=Yt H aL T Rx Ry hg hb hn (cM:=cM) (ty:=ty)
 obtain⟨hu,hl⟩:=Rx.append Ry
 have iC:0<xs.length+ys.length:=by
  have:=List.length_pos_iff.2 hy;omega
 have hlen:(xs++ys).length=xs.length+ys.length:=by simp
 let J:aQ:=fun k j=>k=w.heap.size/\j<(xs.length+ys.length)*sz
 let l0:Loc:= .tail w.heap.size ((xs.length+ys.length)*sz) (c*sz)
 have i7: ∀k j,ew ι h k j->k<w.heap.size:=fun k j ⟨i,l,x,hi,_,hl⟩=>by rw[Loc.v8 hl];exact H.inside i l hi
 have H1:HR ι I h w':=H.vx W (Nat.le_refl _) (fun _ _ h=>h) (fun _ _ _ _ _ _ _ _ h=>h) (fun _ _ h=>h.elim)
 have H2:HR ι (fun k j=>I k j\/J k j) h w':=H1.Mg (fun k j hj=>⟨by rw[hj.1];omega,fun ho=>by have:=i7 k j ho;have:=hj.1;omega⟩)
 have H3:=H2.xd (id:=id) (l:=l0) (x:= .tail) (fun l' br=>by rw[aL] at br;cases br) (by simp[l0,Loc.block];omega)
  (fun j h1 h2=>by obtain⟨u,hu⟩:=hex j h2;exact⟨u,hu,mw j⟩)
  (fun k j hl=>⟨fun ho=>by have:=i7 k j ho;have:=hl.1;omega,fun hI=>by
    rcases hI with hI|hI
    ·have:=H.dg k j hI;have:=hl.1;omega
    ·have:=hI.2;have:=hl.2.1;omega⟩)
 have cq: ∀a v,VR ι I w a v->VR (ι.set id l0) (fun k j=>I k j\/J k j) w' a v:=fun a v hv=>hv.mono
  (fun b l hb=>by rw[aG.fi _ _ (fun he=>by rw[he,aL] at hb;cases hb)];exact hb) (fun _ _ h=> .inl h) (fun k j hk=>W.cell k j (H.dg k j hk) (fun h=>h))
 refine⟨_,w',_,_,bW,?_,H3,?_⟩
 ·rw[<-hlen]
  refine Zw (sz:=sz) (l:=lx++ly) hu (hl.mono cq) (fun j u iq=>by rw[Nat.zero_add];exact bt j u iq) (fun j hj=> .inr ⟨rfl,by rw[Nat.zero_add];rw[hlen] at hj;exact hj⟩) (by rw[hlen];exact hc) ?_
  rw[hlen]
  refine⟨iC,?_⟩
  rw[aG.gv]
  simp[l0]
 ·refine Ext.of W (fun _ _ _ h=>h.elim) (fun b hb=>aG.fi _ _ hb) (fun b l hb=>by rw[aG.fi _ _ (fun he=>by rw[he,aL] at hb;cases hb)];exact hb) (by simp[aa.at];omega) (fun _ _ h=> .inl h) ?_ ?_ (fun b hb _=>by simp[aa.at,hb])
  ·rintro k j ⟨i,l,x,hi,dX,hl⟩
   by_cases iu:i=id
   ·subst iu;rw[aG.gv] at hi;cases hi;exact .inr (by have:=hl.1;omega)
   ·rw[aG.fi _ _ iu] at hi
    exact .inl ⟨i,l,x,hi,by simpa [aa.at,iu] using dX,hl⟩
  ·intro k j hk
   rcases hk with hk|hk
   ·exact .inl hk
   ·exact .inr (.inr (by have:=hk.1;omega))
end
end
section
open Go
section
variable {P:Program} {ι:aG} {I:aQ} {h:aa} {w:World}
theorem fo.YW {id:Nat} {v:AV} {h':aa} {s:Sem Value} {b:Nat} {l:Loc} (H:HR ι I h w) (hb:ι b=some l) (hs:fo P ι I (h.set b none) w id v h' s) (axo:ι id=none):
 fo P ι I h w id v h' s:=by
 obtain⟨c,w',ι',I',hr,hv,H',E⟩:=hs
 obtain⟨H1,E1⟩:=H.drop hb
 exact⟨c,w',ι',I',hr,hv,H',(E1.mono (fun _ h=>h.elim)).trans E (fun _ h=>h)⟩
theorem aiN (H:HR ι I h w) {id:Nat} (aL:ι id=none) {t tx ty e:TypeId} {sz bytes:Nat} (T:tw P t tx e sz bytes) {xs ys:List (List AV)} {b:Option Addr} {lx ly:List Value} {cb o cap cM t0:Nat}
 (Rx:Rd ι I w sz xs (some ⟨cb,o,none⟩) lx) (Ry:Rd ι I w sz ys b ly) (hI: ∀j,j<xs.length*sz->I cb (o+j)) (ht:ι t0=some (.tail cb (o+xs.length*sz) (o+cap*sz))) (hg:h.get t0=some .tail)
 (eY:xs.length+ys.length<=cap) (hx:0<xs.length):
 fo P ι I h w id (.vs (xs++ys) (.own id)) ((h.set t0 none).at id .tail) (Builtin.append_ #[t,tx] ty #[.slice (some ⟨cb,o,none⟩) xs.length cap, .slice b ys.length cM]):=by
 obtain⟨ie,z,cN,hz,aO,y7,sd⟩:=T.info
 have qb:=Ry.src (P:=P) T.tK cM
 rw[<-aO] at qb
 have hmul:xs.length*sz+ys.length*sz<=cap*sz:=by rw[<-Nat.add_mul];exact Nat.mul_le_mul_right _ eY
 have Kg:=Ry.len
 have hlx:=Rx.len
 obtain⟨fY,lo',aA,br,Ii⟩:=H.eQ t0 _ hg ht
 cases br
 have bW:=run_append_room_src (P:=P) w t tx ty e ie T.ht cN cb o xs.length cap (.slice b ys.length cM) ys.length ly qb eY
  (fun j hj=>by rw[aO];obtain⟨u,hu,_⟩:=Ii (o+xs.length*sz+j) (by omega) (by omega);rw[hu];rfl)
  (fun j hj=>by rw[aO];obtain⟨u,_,hu⟩:=Ii (o+xs.length*sz+j) (by omega) (by omega);exact hu)
 rw[aO] at bW
 have W:=fg.setCells w cb (o+xs.length*sz) ly
 have hR: ∀k j,(k=cb/\o+xs.length*sz<=j/\j<o+xs.length*sz+ly.length)->(Loc.tail cb (o+xs.length*sz) (o+cap*sz)).has k j:=fun k j ⟨h1,h2,h3⟩=>⟨h1,h2,by omega⟩
 have oR: ∀k j,(Loc.tail cb (o+xs.length*sz) (o+cap*sz)).has k j-> ¬ew ι (h.set t0 none) k j:=fun k j hl ⟨i,l,x,hi,dX,iU⟩=>
  H.dm i t0 l _ x .tail k j (iN dX).1 hi ht (iN dX).2 hg iU hl
 have yd: ∀k j,(Loc.tail cb (o+xs.length*sz) (o+cap*sz)).has k j-> ¬I k j:=fun k j hl=>H.bn t0 _ .tail k j ht hg hl
 have aE:cb<w.heap.size:=H.inside t0 _ ht
 have H1:HR ι I (h.set t0 none) (w.setCells cb (o+xs.length*sz) ly):=H.vx W (Nat.le_refl _) (fun i y hi=>(iN hi).2)
  (fun i l y k j hi dX hl hr=>oR k j (hR k j hr) ⟨i,l,y,hi,dX,hl⟩) (fun k j hr=>yd k j (hR k j hr))
 let J:aQ:=fun k j=>k=cb/\o+xs.length*sz<=j/\j<o+(xs.length+ys.length)*sz
 have hJ: ∀k j,J k j->(Loc.tail cb (o+xs.length*sz) (o+cap*sz)).has k j:=fun k j ⟨h1,h2,h3⟩=>⟨h1,h2,by rw[Nat.add_mul] at h3;omega⟩
 have H2:=H1.Mg (J:=J) (fun k j hj=>⟨by rw[hj.1];exact Nat.lt_of_lt_of_le aE W.size,oR k j (hJ k j hj)⟩)
 let l0:Loc:= .tail cb (o+(xs.length+ys.length)*sz) (o+cap*sz)
 have ye: ∀k j,l0.has k j->(Loc.tail cb (o+xs.length*sz) (o+cap*sz)).has k j:=fun k j ⟨h1,h2,h3⟩=>⟨h1,by rw[Nat.add_mul] at h2;omega,h3⟩
 have H3:=H2.xd (id:=id) (l:=l0) (x:= .tail) (fun l' br=>by rw[aL] at br;cases br) (Nat.lt_of_lt_of_le aE W.size)
  (fun j h1 h2=>by
    have cV:o+xs.length*sz+ly.length<=j:=by rw[Nat.add_mul] at h1;omega
    obtain⟨u,hu,hf⟩:=Ii j (by omega) h2
    exact⟨u,by rw[W.cell _ _ aE (fun hr=>by have:=hr.2.2;omega)];exact hu,by rw[W.frozen _ _ aE];exact hf⟩)
  (fun k j hl=>⟨oR k j (ye k j hl),fun nT=>by
    rcases nT with nT|nT
    ·exact yd k j (ye k j hl) nT
    ·have:=nT.2.2;have:=hl.2.1;omega⟩)
 have cq: ∀a v,VR ι I w a v->VR (ι.set id l0) (fun k j=>I k j\/J k j) (w.setCells cb (o+xs.length*sz) ly) a v:=fun a v hv=>hv.mono
  (fun b l hb=>by rw[aG.fi _ _ (fun he=>by rw[he,aL] at hb;cases hb)];exact hb) (fun _ _ h=> .inl h) (fun k j hk=>W.cell k j (H.dg k j hk) (fun hr=>yd k j (hR k j hr) hk))
 obtain⟨hu,hl⟩:=Rx.append Ry
 have hlen:(xs++ys).length=xs.length+ys.length:=by simp
 refine⟨_,_,_,_,bW,?_,H3,?_⟩
 ·rw[<-hlen]
  refine Zw (sz:=sz) (l:=lx++ly) hu (hl.mono cq) (fun j u iq=>?_) (fun j hj=>?_) (by rw[hlen];exact eY) ?_
  ·by_cases hj:j<lx.length
   ·rw[List.getElem?_append_left hj] at iq
    have hc:=Rx.cell _ rfl j u iq
    rw[Addr.add_mid] at hc
    rw[W.cell _ _ aE (fun hr=>by have:=hr.2.1;omega)]
    exact hc
   ·rw[List.getElem?_append_right (by omega)] at iq
    have dP:=(List.getElem?_eq_some_iff.1 iq).1
    have:=World.cell?_setCells_in cb ly (o+xs.length*sz) w (fun i hi=>by
     obtain⟨u',iq,_⟩:=Ii (o+xs.length*sz+i) (by omega) (by omega);rw[iq];rfl) (j-lx.length) dP
    rw[show o+xs.length*sz+(j-lx.length)=o+j by omega] at this
    rw[this,<-iq,List.getElem?_eq_getElem dP]
  ·rw[hlen,Nat.add_mul] at hj
   by_cases Fg:j<xs.length*sz
   ·exact .inl (hI j Fg)
   ·exact .inr ⟨rfl,by omega,by rw[Nat.add_mul];omega⟩
  ·rw[hlen]
   exact⟨by omega,by rw[aG.gv]⟩
 ·refine Ext.of W (fun k j _ hr=>⟨t0,_, .tail,ht,hg,hR k j hr⟩) (fun b hb=>aG.fi _ _ hb) (fun b l hb=>by rw[aG.fi _ _ (fun he=>by rw[he,aL] at hb;cases hb)];exact hb)
   (by simp[aa.at,aa.set];omega) (fun _ _ h=> .inl h) ?_ ?_ ?_
  ·rintro k j ⟨i,l,x,hi,dX,iU⟩
   by_cases iu:i=id
   ·subst iu;rw[aG.gv] at hi;cases hi;exact .inl ⟨t0,_, .tail,ht,hg,ye k j iU⟩
   ·rw[aG.fi _ _ iu] at hi
    have Er:(h.set t0 none).get i=some x:=by simpa [aa.at,iu] using dX
    exact .inl ⟨i,l,x,hi,(iN Er).2,iU⟩
  ·intro k j hk
   rcases hk with hk|hk
   ·exact .inl hk
   ·exact .inr (.inl ⟨t0,_, .tail,ht,hg,hJ k j hk⟩)
  ·intro i hi vi
   have:i≠t0:=fun he=>by rw[he,ht] at vi;cases vi
   simp[aa.at,aa.set,hi,this]
theorem ajL (H:HR ι I h w) {id:Nat} (aL:ι id=none) {t tx ty e:TypeId} {sz bytes:Nat} (T:tw P t tx e sz bytes) {x y v:AV} {cx cy:Value} (hx:VR ι I w x cx) (hy:VR ι I w y cy) {ρ:Env} {ox oy:aq} (bq:ox.ev ρ=x) (iI:oy.ev ρ=y)
 {h':aa} (he:bR (.append bytes sz ox oy) ρ id h=some (v,h')):fo P ι I h w id v h' (Builtin.append_ #[t,tx] ty #[cx,cy]):=by
 simp only[bR,bq,iI] at he
 cases km:cQ sz h y with
 |none=>simp[km] at he
 |some ys=>
  simp only[km] at he
  obtain⟨b,cM,ly,rfl,ag5,Ry⟩:=wa H hy km
  obtain⟨ie,z,cN,hz,aO,y7,sd⟩:=T.info
  have qR: ∀(a:Option Addr) (n cap:Nat),n<=cap->ys=[]->(Builtin.append_ #[t,tx] ty #[.slice a n cap, .slice b ys.length cM]).run P w= .ok (.slice a n cap) w:=by
   intro a n cap hle h0
   subst h0
   have hs:=Ry.src (P:=P) T.tK cM
   have:ly=[]:=by have:=Ry.len;simpa using this
   subst this
   rw[<-aO] at hs
   exact run_append_nothing w t tx ty e ie T.ht cN a n cap hle _ hs
  have iy: ∀(c:Value) (v:AV),VR ι I w v c->(Builtin.append_ #[t,tx] ty #[c, .slice b ys.length cM]).run P w= .ok c w->fo P ι I h w id v h (Builtin.append_ #[t,tx] ty #[c, .slice b ys.length cM]):=
   fun c v hv hr=>⟨c,w,ι,I,hr,hv,H,Ext.refl _ _ _ _ _⟩
  cases hx<;>(try simp only[] at he)<;>try(cases he;done)
  case bA=>
   by_cases h0:ys=[]
   ·rw[if_pos h0] at he
    cases he
    exact iy _ _ .bA (qR none 0 0 (Nat.le_refl _) h0)
   ·rw[if_neg h0] at he
    split at he
    ·rename_i hc
     cases he
     have Rx:Rd ι I w sz [] none []:=⟨by simp,LR.nil,by simp,fun _=>rfl⟩
     have:=Bl H aL T Rx Ry (cap:=0) (cM:=cM) (ty:=ty) (by have:=List.length_pos_iff.2 h0;simp;omega) (by simpa using hc.1) (by simpa using hc.2) h0
     simpa using this
    ·cases he
  case gw t' ht=>
   by_cases h0:ys=[]
   ·rw[if_pos h0] at he
    cases he
    exact iy _ _ (.gw _ ht) (qR none 0 0 (Nat.le_refl _) h0)
   ·rw[if_neg h0] at he
    split at he
    ·rename_i hc
     rcases ht with rfl|rfl
     ·simp at he
     ·cases he
      have Rx:Rd ι I w sz [] none []:=⟨by simp,LR.nil,by simp,fun _=>rfl⟩
      have:=Bl H aL T Rx Ry (cap:=0) (cM:=cM) (ty:=ty) (by have:=List.length_pos_iff.2 h0;simp;omega) (by simpa using hc.2.1) (by simpa using hc.2.2) h0
      simpa using this
    ·cases he
  case gn t' a cap ht=>
   by_cases h0:ys=[]
   ·rw[if_pos h0] at he
    cases he
    exact iy _ _ (.gn _ _ _ ht) (qR _ 0 cap (Nat.zero_le _) h0)
   ·rw[if_neg h0] at he
    split at he
    ·rename_i hc
     rcases ht with rfl|⟨rfl,rfl⟩
     ·simp at he
     ·cases he
      have Rx:Rd ι I w sz [] (some a) []:=⟨by simp,LR.nil,fun ad _ j u hu=>by simp at hu,fun h=>by cases h⟩
      have:=Bl H aL T Rx Ry (cap:=0) (cM:=cM) (ty:=ty) (by have:=List.length_pos_iff.2 h0;simp;omega) (by simpa using hc.2.1) (by simpa using hc.2.2) h0
      simpa using this
    ·cases he
  case vs xs t' cb o s cap g hs hI hc cT cS bu ht=>
   by_cases h0:ys=[]
   ·rw[if_pos h0] at he
    cases he
    exact iy _ _ (.vs xs t' cb o s cap g hs hI hc cT cS bu ht) (qR _ _ _ bu h0)
   ·rw[if_neg h0] at he
    split at he
    ·rename_i fO
     obtain⟨hk,eo,ch⟩:=fO
     obtain⟨a',xI,lx,heq,_,Rx⟩:=wa H (.vs xs t' cb o s cap g hs hI hc cT cS bu ht) (show cQ sz h (.vs xs t')=some xs by simp[cQ,hk])
     cases heq
     have aw6:=List.length_pos_iff.2 h0
     cases t' with
     |ao=>simp at he
     |full=>
      cases he
      have dp:cap=xs.length:=ht
      exact Bl H aL T Rx Ry (cap:=cap) (by omega) eo ch h0
     |own t0=>
      simp only[] at he
      cases hg:h.get t0 with
      |none=>simp[hg] at he
      |some x=>
       cases x with
       |cells cs=>simp[hg] at he
       |map es=>simp[hg] at he
       |tail=>
        simp only[hg] at he
        cases he
        obtain⟨PH,xD⟩:=ht
        have jc:s=sz:=by
         rw[<-hs 0 _ (List.getElem?_eq_getElem PH)]
         exact Lr hs hk _ (List.getElem_mem PH)
        subst jc
        by_cases eY:xs.length+ys.length<=cap
        ·refine aiN H aL T Rx Ry (fun j hj=>?_) xD hg eY PH
         have iC:0<s:=Nat.pos_of_ne_zero T.pos
         have:=hI (j/s) (j%s) ((Nat.div_lt_iff_lt_mul iC).2 hj) (Nat.mod_lt _ iC)
         rwa [Nat.add_assoc,Nat.div_add_mod' j s] at this
        ·obtain⟨H1,E1⟩:=H.drop xD
         exact fo.YW H xD (Bl H1 aL T Rx Ry (cap:=cap) (by omega) eo ch h0) aL
    ·cases he
end
end
section
open Go
section
variable {P:Program} {ι:aG} {I:aQ} {h:aa} {w:World}
theorem V9 (H:HR ι I h w) {id:Nat} (aL:ι id=none) {t tx ty e:TypeId} {sz bytes:Nat} (T:tw P t tx e sz bytes) {xs ys:List (List AV)} {a b:Option Addr} {lx ly:List Value} {cap cM:Nat}
 (Rx:Rd ι I w sz xs a lx) (Ry:Rd ι I w sz ys b ly) (hg:cap<xs.length+ys.length) (hb:(xs.length+ys.length)*bytes<2^40) (hn:xs.length+ys.length<2^40):
 fo P ι I h w id (.rs id 0 (xs.length+ys.length) sz) (h.at id (.cells (xs++ys).flatten)) (Builtin.append_ #[t,tx] ty #[.slice a xs.length cap, .slice b ys.length cM]):=by
 obtain⟨c,w',bW,hc,aO,W,mw,hex,bt⟩:=Yt H aL T Rx Ry hg hb hn (cM:=cM) (ty:=ty)
 obtain⟨hu,hl⟩:=Rx.append Ry
 have i7: ∀k j,ew ι h k j->k<w.heap.size:=fun k j ⟨i,l,x,hi,_,hl⟩=>by rw[Loc.v8 hl];exact H.inside i l hi
 have H1:HR ι I h w':=H.vx W (Nat.le_refl _) (fun _ _ h=>h) (fun _ _ _ _ _ _ _ _ h=>h) (fun _ _ h=>h.elim)
 have cq: ∀a v,VR ι I w a v->VR ι I w' a v:=fun a v hv=>hv.mono (fun _ _ h=>h) (fun _ _ h=>h) (fun k j hk=>W.cell k j (H.dg k j hk) (fun h=>h))
 have bT:=mV (xs++ys) (fun r hr=>(hu r hr).1)
 let l0:Loc:= .cells w.heap.size 0 (c*sz)
 have H3:=H1.xd (id:=id) (l:=l0) (x:= .cells (xs++ys).flatten) (fun l' br=>by rw[aL] at br;cases br) (by simp[l0,Loc.block];omega)
  ⟨by rw[bT];simp only[List.length_append];exact Nat.mul_le_mul_right _ hc,fun v hv=>by
    obtain⟨r,hr,hv⟩:=List.mem_flatten.1 hv
    exact(hu r hr).2 v hv,fun j hj=>by
    obtain⟨u,iq⟩:=hex j hj
    refine⟨u,by rw[Nat.zero_add];exact iq,by rw[Nat.zero_add];exact mw j,fun v hv=>?_⟩
    obtain⟨c',bj,a9⟩:=hl.get hv
    have:=bt j c' bj
    rw[iq] at this
    cases this
    exact cq _ _ a9,mw⟩
  (fun k j hl=>⟨fun ho=>by have:=i7 k j ho;have:k=w.heap.size:=hl;omega,fun hI=>by have:=H.dg k j hI;have:k=w.heap.size:=hl;omega⟩)
 refine⟨_,w',_,_,bW,?_,H3,?_⟩
 ·exact .rs id 0 _ sz w.heap.size 0 (c*sz) c (by rw[aG.gv]) hc (by omega)
 ·refine Ext.of W (fun _ _ _ h=>h.elim) (fun b hb=>aG.fi _ _ hb) (fun b l hb=>by rw[aG.fi _ _ (fun he=>by rw[he,aL] at hb;cases hb)];exact hb) (by simp[aa.at];omega) (fun _ _ h=>h) ?_ (fun _ _ h=> .inl h) (fun b hb _=>by simp[aa.at,hb])
  rintro k j ⟨i,l,x,hi,dX,hl⟩
  by_cases iu:i=id
  ·subst iu;rw[aG.gv] at hi;cases hi;exact .inr (by have:k=w.heap.size:=hl;omega)
  ·rw[aG.fi _ _ iu] at hi
   exact .inl ⟨i,l,x,hi,by simpa [aa.at,iu] using dX,hl⟩
theorem ah5 (H:HR ι I h w) {id:Nat} (aL:ι id=none) {t tx ty e:TypeId} {sz bytes:Nat} (T:tw P t tx e sz bytes) {cs:List AV} {ys:List (List AV)} {b:Option Addr} {ly:List Value} {cb o room len cap cM t0:Nat}
 (Ry:Rd ι I w sz ys b ly) (ht:ι t0=some (.cells cb o room)) (hg:h.get t0=some (.cells cs)) (eN:cs.length=len*sz)
 (eY:len+ys.length<=cap) (bu:cap*sz<=room):
 fo P ι I h w id (.rs id 0 (len+ys.length) sz) ((h.set t0 none).at id (.cells (cs++ys.flatten))) (Builtin.append_ #[t,tx] ty #[.slice (some ⟨cb,o,none⟩) len cap, .slice b ys.length cM]):=by
 obtain⟨ie,z,cN,hz,aO,y7,sd⟩:=T.info
 have qb:=Ry.src (P:=P) T.tK cM
 rw[<-aO] at qb
 have hmul:len*sz+ys.length*sz<=cap*sz:=by rw[<-Nat.add_mul];exact Nat.mul_le_mul_right _ eY
 have Kg:=Ry.len
 obtain⟨fY,o',me,br,rL,acG,bt⟩:=H.cells t0 cs _ hg ht
 cases br
 have bW:=run_append_room_src (P:=P) w t tx ty e ie T.ht cN cb o len cap (.slice b ys.length cM) ys.length ly qb eY
  (fun j hj=>by rw[aO];obtain⟨u,hu,_⟩:=bt (len*sz+j) (by omega);rw[Nat.add_assoc,hu];rfl)
  (fun j hj=>by rw[aO];obtain⟨u,_,hu,_⟩:=bt (len*sz+j) (by omega);rw[Nat.add_assoc];exact hu)
 rw[aO] at bW
 have W:=fg.setCells w cb (o+len*sz) ly
 have hR: ∀k j,(k=cb/\o+len*sz<=j/\j<o+len*sz+ly.length)->(Loc.cells cb o room).has k j:=fun k j ⟨h1,h2,h3⟩=>h1
 have oR: ∀k j,(Loc.cells cb o room).has k j-> ¬ew ι (h.set t0 none) k j:=fun k j hl ⟨i,l,x,hi,dX,iU⟩=>
  H.dm i t0 l _ x _ k j (iN dX).1 hi ht (iN dX).2 hg iU hl
 have yd: ∀k j,(Loc.cells cb o room).has k j-> ¬I k j:=fun k j hl=>H.bn t0 _ _ k j ht hg hl
 have aE:cb<w.heap.size:=H.inside t0 _ ht
 have H1:HR ι I (h.set t0 none) (w.setCells cb (o+len*sz) ly):=H.vx W (Nat.le_refl _) (fun i y hi=>(iN hi).2)
  (fun i l y k j hi dX hl hr=>oR k j (hR k j hr) ⟨i,l,y,hi,dX,hl⟩) (fun k j hr=>yd k j (hR k j hr))
 have cq: ∀a v,VR ι I w a v->VR ι I (w.setCells cb (o+len*sz) ly) a v:=fun a v hv=>hv.mono (fun _ _ h=>h) (fun _ _ h=>h)
  (fun k j hk=>W.cell k j (H.dg k j hk) (fun hr=>yd k j (hR k j hr) hk))
 have se:ys.flatten.length=ys.length*sz:=mV ys (fun r hr=>(Ry.lN r hr).1)
 have H3:=H1.xd (id:=id) (l:= .cells cb o room) (x:= .cells (cs++ys.flatten)) (fun l' br=>by rw[aL] at br;cases br) (Nat.lt_of_lt_of_le aE W.size)
  ⟨by rw[List.length_append,se];omega,fun v hv=>by
    rcases List.mem_append.1 hv with hv|hv
    ·exact acG v hv
    ·obtain⟨r,hr,hv⟩:=List.mem_flatten.1 hv
     exact(Ry.lN r hr).2 v hv,fun j hj=>by
    obtain⟨c,bj,a9,fp⟩:=bt j hj
    by_cases hjr:len*sz<=j/\j<len*sz+ly.length
    ·have:=World.cell?_setCells_in cb ly (o+len*sz) w (fun i hi=>by
      obtain⟨u',iq,_⟩:=bt (len*sz+i) (by omega);rw[Nat.add_assoc,iq];rfl) (j-len*sz) (by omega)
     rw[show o+len*sz+(j-len*sz)=o+j by omega] at this
     refine⟨_,this,by rw[W.frozen _ _ aE];exact a9,fun v hv=>?_⟩
     rw[List.getElem?_append_right (by omega),eN] at hv
     obtain⟨c',e1,e2⟩:=Ry.lr.get hv
     rw[List.getElem?_eq_getElem (by omega)] at e1
     cases e1
     exact cq _ _ e2
    ·refine⟨c,by rw[W.cell _ _ aE (fun hr=>hjr ⟨by have:=hr.2.1;omega,by have:=hr.2.2;omega⟩)];exact bj,by rw[W.frozen _ _ aE];exact a9,fun v hv=>?_⟩
     have dP:=(List.getElem?_eq_some_iff.1 hv).1
     rw[List.length_append,se] at dP
     rw[List.getElem?_append_left (by omega)] at hv
     exact cq _ _ (fp v hv),fun n=>by rw[W.frozen _ _ aE];exact H.pl t0 cs cb o room hg ht n⟩
  (fun k j hl=>⟨oR k j hl,yd k j hl⟩)
 refine⟨_,_,_,_,bW,?_,H3,?_⟩
 ·have:=VR.rs (ι:=ι.set id (.cells cb o room)) (I:=I) (w:=w.setCells cb (o+len*sz) ly) id 0 (len+ys.length) sz cb o room cap (by rw[aG.gv]) eY (by omega)
  simpa using this
 ·refine Ext.of W (fun k j _ hr=>⟨t0,_,_,ht,hg,hR k j hr⟩) (fun b hb=>aG.fi _ _ hb) (fun b l hb=>by rw[aG.fi _ _ (fun he=>by rw[he,aL] at hb;cases hb)];exact hb)
   (by simp[aa.at,aa.set];omega) (fun _ _ h=>h) ?_ (fun _ _ h=> .inl h) ?_
  ·rintro k j ⟨i,l,x,hi,dX,iU⟩
   by_cases iu:i=id
   ·subst iu;rw[aG.gv] at hi;cases hi;exact .inl ⟨t0,_,_,ht,hg,iU⟩
   ·rw[aG.fi _ _ iu] at hi
    have Er:(h.set t0 none).get i=some x:=by simpa [aa.at,iu] using dX
    exact .inl ⟨i,l,x,hi,(iN Er).2,iU⟩
  ·intro i hi vi
   have:i≠t0:=fun he=>by rw[he,ht] at vi;cases vi
   simp[aa.at,aa.set,hi,this]
theorem LP {len sz cb o off:Nat} {cs:List AV} (hr:s9 ι I w cb o cs) (h1: ∀v∈cs,v.one=true) (hl:off+len*sz<=cs.length):
 ∃l,Rd ι I w sz (rowsOf cs off sz len) (some ⟨cb,o+off,none⟩) l/\(rowsOf cs off sz len).length=len/\(rowsOf cs off sz len).flatten=(cs.drop off).take (len*sz):=by
 obtain⟨e1,e2,e3⟩:=yD cs sz len off hl
 obtain⟨l,ej,eV,vK⟩:=(hr.sub off (len*sz)).list
 refine⟨l,⟨fun r hr=>⟨(e2 r hr).1,fun v hv=>h1 v ((e2 r hr).2 v hv)⟩,by rw[e3];exact⟨ej,vK⟩,fun ad vQ=>by cases vQ;intro j u hu;rw[Addr.add_mid];exact eV j u hu,fun h=>by cases h⟩,e1,e3⟩
theorem HR.aq0 (H:HR ι I h w) {b cb o room:Nat} {cs:List AV} (hb:ι b=some (.cells cb o room)) (hg:h.get b=some (.cells cs)) (k:Nat):
 HR ι I (h.set b (some (.cells (cs.take k)))) w/\Ext (fun _=>False) ι I h w ι I (h.set b (some (.cells (cs.take k)))) w:=by
 have W:fg (fun _ _=>False) w w:={os:=rfl,tape:=rfl,output:=rfl,size:=Nat.le_refl _,block:=fun _ _ _=>rfl,cell:=fun _ _ _ _=>rfl,frozen:=fun _ _ _=>rfl}
 obtain⟨_,_,_,hl,eY,h1,hc⟩:=H.cells b cs _ hg hb
 cases hl
 refine H.bQ W hb hg (fun _ _ h=>h.elim) (fun _=>⟨by simp;omega,fun v hv=>h1 v (List.mem_of_mem_take hv),fun j hj=>?_,H.pl b cs cb o room hg hb⟩)
 obtain⟨c,e1,e2,e3⟩:=hc j hj
 refine⟨c,e1,e2,fun v hv=>e3 v ?_⟩
 rw[List.getElem?_take] at hv
 split at hv
 ·exact hv
 ·cases hv
theorem set_set (h:aa) (b:Nat) (x y:Option cI):(h.set b x).set b y=h.set b y:=by
 unfold aa.set
 congr 1
 funext i
 by_cases hi:i=b<;>simp[hi]
theorem ajM (H:HR ι I h w) (id:Nat) {t tx ty e:TypeId} {sz bytes:Nat} (T:tw P t tx e sz bytes) {cs:List AV} {ys:List (List AV)} {b:Option Addr} {ly:List Value} {cb o room len cap cM b0 off:Nat}
 (Ry:Rd ι I w sz ys b ly) (hb:ι b0=some (.cells cb o room)) (hg:h.get b0=some (.cells cs)) (hle:off+len*sz<=cs.length)
 (eY:len+ys.length<=cap) (bu:off+cap*sz<=room):
 fo P ι I h w id (.rk b0 off (len+ys.length) sz cap) (h.set b0 (some (.cells (di cs (off+len*sz) ys.flatten)))) (Builtin.append_ #[t,tx] ty #[.slice (some ⟨cb,o+off,none⟩) len cap, .slice b ys.length cM]):=by
 obtain⟨ie,z,cN,hz,aO,y7,sd⟩:=T.info
 have qb:=Ry.src (P:=P) T.tK cM
 rw[<-aO] at qb
 have hmul:len*sz+ys.length*sz<=cap*sz:=by rw[<-Nat.add_mul];exact Nat.mul_le_mul_right _ eY
 have Kg:=Ry.len
 obtain⟨fY,o',me,br,rL,acG,bt⟩:=H.cells b0 cs _ hg hb
 cases br
 have bW:=run_append_room_src (P:=P) w t tx ty e ie T.ht cN cb (o+off) len cap (.slice b ys.length cM) ys.length ly qb eY
  (fun j hj=>by rw[aO];obtain⟨u,hu,_⟩:=bt (off+len*sz+j) (by omega);rw[show o+off+len*sz+j=o+(off+len*sz+j) by omega,hu];rfl)
  (fun j hj=>by rw[aO];obtain⟨u,_,hu,_⟩:=bt (off+len*sz+j) (by omega);rw[show o+off+len*sz+j=o+(off+len*sz+j) by omega];exact hu)
 rw[aO] at bW
 have se:ys.flatten.length=ys.length*sz:=mV ys (fun r hr=>(Ry.lN r hr).1)
 obtain⟨H',E⟩:=H.GW (off:=off+len*sz) hb hg hle (by rw[se];omega) Ry.lr (fun u hu=>by
  obtain⟨r,hr,hv⟩:=List.mem_flatten.1 hu
  exact(Ry.lN r hr).2 u hv)
 rw[show o+(off+len*sz)=o+off+len*sz by omega] at H' E
 exact⟨_,_,ι,I,bW, .rk b0 off _ sz cap cb o room hb eY bu,H',E.mono (fun _ h=>h.elim)⟩
theorem aiP (H:HR ι I h w) {id:Nat} (aL:ι id=none) {t tx ty e:TypeId} {sz bytes:Nat} (T:tw P t tx e sz bytes) {x y v:AV} {cx cy:Value} (hx:VR ι I w x cx) (hy:VR ι I w y cy) {ρ:Env} {ox oy:aq} (bq:ox.ev ρ=x) (iI:oy.ev ρ=y)
 {h':aa} (he:bR (.jS bytes sz ox oy) ρ id h=some (v,h')):fo P ι I h w id v h' (Builtin.append_ #[t,tx] ty #[cx,cy]):=by
 simp only[bR,bq,iI] at he
 cases km:cQ sz h y with
 |none=>simp[km] at he
 |some ys=>
  simp only[km] at he
  obtain⟨b,cM,ly,rfl,ag5,Ry⟩:=wa H hy km
  obtain⟨ie,z,cN,hz,aO,y7,sd⟩:=T.info
  have Rn:Rd ι I w sz [] none []:=⟨by simp,LR.nil,by simp,fun _=>rfl⟩
  have qR: ∀(a:Option Addr) (n cap:Nat),n<=cap->ys=[]->(Builtin.append_ #[t,tx] ty #[.slice a n cap, .slice b ys.length cM]).run P w= .ok (.slice a n cap) w:=by
   intro a n cap hle h0
   subst h0
   have hs:=Ry.src (P:=P) T.tK cM
   have:ly=[]:=by have:=Ry.len;simpa using this
   subst this
   rw[<-aO] at hs
   exact run_append_nothing w t tx ty e ie T.ht cN a n cap hle _ hs
  have iy: ∀(c:Value) (v:AV),VR ι I w v c->(Builtin.append_ #[t,tx] ty #[c, .slice b ys.length cM]).run P w= .ok c w->fo P ι I h w id v h (Builtin.append_ #[t,tx] ty #[c, .slice b ys.length cM]):=
   fun c v hv hr=>⟨c,w,ι,I,hr,hv,H,Ext.refl _ _ _ _ _⟩
  have gl: ∀(a:Option Addr),Rd ι I w sz [] a []-> ¬ys=[]->ys.length*bytes<2^40/\ys.length<2^40->fo P ι I h w id (.rs id 0 ys.length sz) (h.at id (.cells ys.flatten)) (Builtin.append_ #[t,tx] ty #[.slice a 0 0, .slice b ys.length cM]):=by
   intro a Rx h0 hc
   have:=V9 H aL T Rx Ry (cap:=0) (cM:=cM) (ty:=ty) (by have:=List.length_pos_iff.2 h0;simp;omega) (by simpa using hc.1) (by simpa using hc.2)
   simpa using this
  cases hx<;>(try simp only[] at he)<;>try(cases he;done)
  case bA=>
   split at he
   ·rename_i h0
    cases he
    exact iy _ _ .bA (qR none 0 0 (Nat.le_refl _) h0)
   ·rename_i h0
    split at he
    ·rename_i hc
     cases he
     exact gl none Rn h0 hc
    ·cases he
  case gw t' ht=>
   rcases ht with rfl|rfl
   ·simp at he
   ·simp only[] at he
    split at he
    ·rename_i h0
     cases he
     exact iy _ _ (.gw _ (.inr rfl)) (qR none 0 0 (Nat.le_refl _) h0)
    ·rename_i h0
     split at he
     ·rename_i hc
      cases he
      exact gl none Rn h0 hc
     ·cases he
  case gn t' a cap ht=>
   rcases ht with rfl|⟨rfl,rfl⟩
   ·simp at he
   ·simp only[] at he
    split at he
    ·rename_i h0
     cases he
     exact iy _ _ (.gn _ _ _ (.inr ⟨rfl,rfl⟩)) (qR _ 0 0 (Nat.le_refl _) h0)
    ·rename_i h0
     split at he
     ·rename_i hc
      cases he
      exact gl (some a) ⟨by simp,LR.nil,fun ad _ j u hu=>by simp at hu,fun _=>rfl⟩ h0 hc
     ·cases he
  case vs xs t' cb o s cap g hs hI hc cT cS bu ht=>
   cases xs with
   |cons a b=>simp at he
   |nil=>
    cases t' with
    |ao=>simp at he
    |own t0=>simp at he
    |full=>
     (try simp only[] at he)
     have asV:cap=0:=ht
     subst asV
     split at he
     ·rename_i h0
      cases he
      exact iy _ _ (.vs [] .full cb o s 0 g hs hI hc cT cS bu ht) (qR _ 0 0 (Nat.le_refl _) h0)
     ·rename_i h0
      split at he
      ·rename_i cR
       cases he
       exact gl (some ⟨cb,o,none⟩) ⟨by simp,LR.nil,fun ad _ j u hu=>by simp at hu,fun _=>rfl⟩ h0 cR
      ·cases he
  case rs b' off len aN cb o room cap bE hlen bu=>
   split at he
   ·rename_i h0
    cases he
    exact iy _ _ (.rs b' off len aN cb o room cap bE hlen bu) (qR _ len cap hlen h0)
   ·rename_i aM
    split at he
    ·rename_i cs hg
     split at he
     ·rename_i hc
      obtain⟨rfl,rfl,eN,eo,ch⟩:=hc
      cases he
      have cC:=qP hg
      obtain⟨cE,awY,cS⟩:=H.row cC bE
      by_cases eY:len+ys.length<=cap
      ·obtain⟨H1,E1⟩:=H.aq0 bE cC (len*aN)
       have cw:(h.set b' (some (.cells (cs.take (len*aN))))).get b'=some (.cells (cs.take (len*aN))):=by simp[aa.set]
       obtain⟨c,w',ι',I',h1,h2,h3,h4⟩:=ah5 H1 aL T Ry (ty:=ty) (cM:=cM) bE cw (by rw[List.length_take];exact Nat.min_eq_left eN) eY (by simpa using bu)
       rw[set_set] at h3 h4
       exact⟨c,w',ι',I',h1,h2,h3,(E1.mono (fun _ h=>h.elim)).trans h4 (fun _ h=>h)⟩
      ·obtain⟨H1,E1⟩:=H.drop bE
       obtain⟨l,Rx,e1,e2⟩:=LP (off:=0) (sz:=aN) (len:=len) cE cS (by simpa using eN)
       have:=V9 H1 aL T Rx Ry (cap:=cap) (cM:=cM) (ty:=ty) (by rw[e1];omega) (by rw[e1];exact eo) (by rw[e1];exact ch)
       rw[e1,List.flatten_append,e2,List.drop_zero] at this
       exact fo.YW H bE this aL
     ·cases he
    ·cases he
  case rk b' off len aN cap cb o room bE hlen bu=>
   split at he
   ·rename_i cs hg
    split at he
    ·rename_i hc
     obtain⟨rfl,eY,eN⟩:=hc
     cases he
     exact ajM H id T Ry bE (qP hg) eN eY bu
    ·cases he
   ·cases he
theorem LH {sz:Nat}: ∀(zs:List (List AV)) (n:Nat),(∀r∈zs,r.length=sz)->(zs.take n).flatten=zs.flatten.take (n*sz)
 |[],n,_=>by simp
 |z::zs,0,_=>by simp
 |z::zs,n+1,hz=>by
  have h0:=hz z (by simp)
  have e:(n+1)*sz=z.length+n*sz:=by rw[h0,Nat.succ_mul];omega
  have e2:z.take (z.length+n*sz)=z:=List.take_of_length_le (by omega)
  rw[List.take_succ_cons,List.flatten_cons,List.flatten_cons,LH zs n (fun r hr=>hz r (List.mem_cons_of_mem _ hr)),e,List.take_append,e2]
  simp
theorem al2 (H:HR ι I h w) {t tx ty e:TypeId} {sz:Nat} (ht:P.underlying t=some (.slice e)) (hs:(P.info? e).map (·.size)=some sz) (id:Nat) {x y v:AV} {cx cy:Value} (hx:VR ι I w x cx) (hy:VR ι I w y cy) {ρ:Env} {ox oy:aq} (bq:ox.ev ρ=x) (iI:oy.ev ρ=y)
 {h':aa} (he:bR (.copy sz ox oy) ρ id h=some (v,h')) (tK: ∃e',P.underlying tx=some (.slice e')) (se: ∃a n c,cy= .slice a n c):fo P ι I h w id v h' (Builtin.copy_ #[t,tx] ty #[cx,cy]):=by
 simp only[bR,bq,iI] at he
 have hzero: ∀a n c,(Builtin.copy_ #[t,tx] ty #[.slice a 0 n,c]).run P w= .ok (.int .i64 0) w\/ ¬(∃x y z,c= .slice x y z):=by
  intro a n c
  by_cases hc: ∃x y z,c= .slice x y z
  ·obtain⟨x,y,z,rfl⟩:=hc
   refine .inl ?_
   cases x<;>cases a<;>simp[Builtin.copy_,cL ht,l9 hs,Builtin.lenOf,Builtin.firstCells,loadCells,loadCellsFrom,storeCells,goInt]
  ·exact .inr hc
 cases hx<;>(try simp only[] at he)<;>try(cases he;done)
 case bA=>
  split at he<;>cases he
  rcases hzero none 0 cy with h|h
  ·exact⟨_,w,ι,I,h, .int _ _,H,Ext.refl _ _ _ _ _⟩
  ·exact(h se).elim
 case gw t' UR=>
  split at he<;>cases he
  rcases hzero none 0 cy with h|h
  ·exact⟨_,w,ι,I,h, .int _ _,H,Ext.refl _ _ _ _ _⟩
  ·exact(h se).elim
 case gn t' a cap UR=>
  split at he<;>cases he
  rcases hzero (some a) cap cy with h|h
  ·exact⟨_,w,ι,I,h, .int _ _,H,Ext.refl _ _ _ _ _⟩
  ·exact(h se).elim
 case vs xs t' cb o s cap g iH hI hc cT cS bu UR=>
  cases xs with
  |cons a b=>simp at he
  |nil=>
   simp only[] at he
   split at he<;>cases he
   rcases hzero (some ⟨cb,o,none⟩) cap cy with h|h
   ·exact⟨_,w,ι,I,h, .int _ _,H,Ext.refl _ _ _ _ _⟩
   ·exact(h se).elim
 case rs b off len aN cb o room cap hb hlen bu=>
  cases km:cQ sz h y with
  |none=>simp[km] at he
  |some ys=>
   cases jL:cellsOf h b with
   |none=>simp[km,jL] at he
   |some cs=>
    simp only[km,jL] at he
    split at he
    ·rename_i hc
     obtain⟨rfl,hle⟩:=hc
     cases he
     have hg:=qP jL
     obtain⟨a,cM,ly,rfl,ag5,Ry⟩:=wa H hy km
     obtain⟨_,_,_,hl,eY,_,bt⟩:=H.cells b cs _ hg hb
     cases hl
     have dc:(ys.take (min ys.length len)).flatten=ys.flatten.take (min ys.length len*aN):=by
      exact LH ys _ (fun r hr=>(Ry.lN r hr).1)
     have dn:LR ι I w (ys.take (min ys.length len)).flatten (ly.take (min ys.length len*aN)):=by rw[dc];exact Ry.lr.take _
     have C1:(ly.take (min ys.length len*aN)).length=min ys.length len*aN:=by
      rw[List.length_take,Ry.len];exact Nat.min_eq_left (Nat.mul_le_mul_right _ (Nat.min_le_left _ _))
     have sl:min ys.length len*aN<=len*aN:=Nat.mul_le_mul_right _ (Nat.min_le_right _ _)
     have cS: ∀u∈(ly.take (min ys.length len*aN)),u.oneCell'=true:=fun u hu=>Ry.one u (List.mem_of_mem_take hu)
     have MD:(Builtin.firstCells aN (min ys.length len) (.slice a ys.length cM)).run P w= .ok (ly.take (min ys.length len*aN)).toArray w:=by
      cases a with
      |none=>
       have:=Ry.none rfl
       subst this
       have:ly=[]:=by have:=Ry.len;simpa using this
       subst this
       simpa using run_firstCells_none (P:=P) w aN 0 0 cM
      |some ad=>
       have iW:=Ry.cell ad rfl
       refine run_firstCells_some w aN _ _ _ _ _ C1 (fun j u hu=>?_)
       rw[List.getElem?_take] at hu
       split at hu
       ·exact iW j u hu
       ·cases hu
     have dB:=run_storeCells_cells (P:=P) cb (o+off) (ly.take (min ys.length len*aN)) 0 w
      (fun j hj=>by simp only[Nat.add_zero];obtain⟨c,cR,_⟩:=bt (off+j) (by omega);rw[Nat.add_assoc,cR];rfl)
      (fun j hj=>by simp only[Nat.add_zero];obtain⟨c,_,cR,_⟩:=bt (off+j) (by omega);rw[Nat.add_assoc];exact cR) cS
     simp only[Nat.add_zero] at dB
     obtain⟨H',E⟩:=H.write (off:=off) hb hg (by rw[dn.1,C1];omega) dn (fun u hu=>by
      obtain⟨r,hr,hv⟩:=List.mem_flatten.1 hu
      exact(Ry.lN r (List.mem_of_mem_take hr)).2 u hv)
     refine⟨_,_,ι,I,?_, .int _ _,H',E.mono (fun _ h=>h.elim)⟩
     have Tq:Nat.min ys.length len=min ys.length len:=rfl
     simp[Builtin.copy_,cL ht,l9 hs,Builtin.lenOf,Tq,MD,dB,goInt]
    ·cases he
end
end
section
open Go
section
variable {P:Program} {ι:aG} {I:aQ} {h:aa} {w:World}
theorem akh (H:HR ι I h w) {id:Nat} (aL:ι id=none) (t:TypeId):fo P ι I h w id (.map (some id)) (h.at id (.map [])) (Instr.makeMap t none):=by
 have W:=fg.push w (.map #[] 0)
 have i7: ∀k j,ew ι h k j->k<w.heap.size:=fun k j ⟨i,l,x,hi,_,hl⟩=>by rw[Loc.v8 hl];exact H.inside i l hi
 have H1:HR ι I h (w.alloc (.map #[] 0)):=H.vx W (Nat.le_refl _) (fun _ _ h=>h) (fun _ _ _ _ _ _ _ _ h=>h) (fun _ _ h=>h.elim)
 have H3:=H1.xd (id:=id) (l:= .map w.heap.size) (x:= .map []) (fun l' br=>by rw[aL] at br;cases br) (by simp[Loc.block])
  ⟨#[],0,heap_alloc_new w _,⟨rfl,fun i k v e h=>by simp at h⟩,⟨fun e he=>by simp at he,by simp⟩⟩
  (fun k j hl=>⟨fun ho=>by have:=i7 k j ho;have:=(show k=w.heap.size from hl);omega,fun hI=>by have:=H.dg k j hI;have:=(show k=w.heap.size from hl);omega⟩)
 refine⟨.map (some w.heap.size),_,_,_,rfl, .map id w.heap.size (by rw[aG.gv]),H3,?_⟩
 refine Ext.of W (fun _ _ _ h=>h.elim) (fun b hb=>aG.fi _ _ hb) (fun b l hb=>by rw[aG.fi _ _ (fun he=>by rw[he,aL] at hb;cases hb)];exact hb) (by simp[aa.at];omega) (fun _ _ h=>h) ?_ (fun _ _ h=> .inl h) (fun b hb _=>by simp[aa.at,hb])
 rintro k j ⟨i,l,x,hi,dX,hl⟩
 by_cases iu:i=id
 ·subst iu;rw[aG.gv] at hi;cases hi;exact .inr (by have:=(show k=w.heap.size from hl);omega)
 ·rw[aG.fi _ _ iu] at hi
  exact .inl ⟨i,l,x,hi,by simpa [aa.at,iu] using dX,hl⟩
theorem fg.anA (w:World) {cb:Nat} {es:Array MapEntry} {clock:Nat} (hm:w.heap[cb]? =some (.map es clock)) (aV:Array MapEntry) (pW:Nat):
 fg (fun k _=>k=cb) w {w with heap:=w.heap.setIfInBounds cb (.map aV pW)}:=by
 have MC: ∀k,k≠cb->(w.heap.setIfInBounds cb (.map aV pW))[k]? =w.heap[k]?:=fun k hk=>Array.getElem?_setIfInBounds_ne (Ne.symm hk)
 have aD:cb<w.heap.size:=(Array.getElem?_eq_some_iff.1 hm).1
 have Ik:(w.heap.setIfInBounds cb (.map aV pW))[cb]? =some (.map aV pW):=by simp[aD]
 refine{os:=rfl,tape:=rfl,output:=rfl,size:=by simp,block:=fun k hk hr=>MC k (fun he=>hr 0 he),cell:=fun k j hk hr=>?_,frozen:=fun k j hk=>?_}
 ·simp[World.cell?,MC k hr]
 ·by_cases so:k=cb
  ·subst so;simp only[World.frozen?,Ik,hm]
  ·simp[World.frozen?,MC k so]
theorem FY (w:World) {cb:Nat} {es:Array MapEntry} {clock:Nat} (hm:w.heap[cb]? =some (.map es clock)) (o:Obj):
 (setObj cb o).run P w= .ok () {w with heap:=w.heap.setIfInBounds cb o}:=by
 simp[setObj,Sem.run,hm]
theorem GC (H:HR ι I h w) {b cb:Nat} {es:List (AV×AV)} {aV:Array MapEntry} {clock:Nat} (hb:ι b=some (.map cb)) (hg:h.get b=some (.map es)) (hm:w.heap[cb]? =some (.map aV clock))
 {fs:List (AV×AV)} {eF:Array MapEntry} (pW:Nat) (gO:ER ι I w fs eF.toList) (dB:m9 eF pW):
 HR ι I (h.set b (some (.map fs))) {w with heap:=w.heap.setIfInBounds cb (.map eF pW)}/\
 Ext (fun _=>False) ι I h w ι I (h.set b (some (.map fs))) {w with heap:=w.heap.setIfInBounds cb (.map eF pW)}:=by
 have W:=fg.anA w hm eF pW
 refine H.bQ W hb hg (fun k j hk=>hk) (fun H1=>?_)
 have aD:cb<w.heap.size:=(Array.getElem?_eq_some_iff.1 hm).1
 have cq: ∀a c,VR ι I w a c->VR ι I {w with heap:=w.heap.setIfInBounds cb (.map eF pW)} a c:=fun a c ss=>ss.mono (fun _ _ h=>h) (fun _ _ h=>h) (fun k j hk=>
  W.cell k j (H.dg k j hk) (fun so=>H.bn b _ _ k j hb hg so hk))
 exact⟨eF,pW,by simp[aD],⟨gO.1,fun i k v e h1 h2=>⟨cq _ _ (gO.2 i k v e h1 h2).1,cq _ _ (gO.2 i k v e h1 h2).2⟩⟩,dB⟩
theorem m9.push {es:Array MapEntry} {clock:Nat} (hs:m9 es clock) {k v:Value}:m9 (es.push {key:=k,val:=v,born:=clock}) (clock+1):=by
 refine⟨fun e he=>?_,?_⟩
 ·simp only[Array.toList_push,List.mem_append,List.mem_singleton] at he
  rcases he with he|rfl
  ·exact Nat.lt_succ_of_lt (hs.1 e he)
  ·exact Nat.lt_succ_self _
 ·simp only[Array.toList_push,List.map_append,List.map_cons,List.map_nil]
  refine List.nodup_append.2 ⟨hs.2,by simp,fun a ha b hb=>?_⟩
  simp only[List.mem_singleton] at hb
  obtain⟨e,he,rfl⟩:=List.mem_map.1 ha
  have:=hs.1 e he
  omega
theorem VI {f:MapEntry->MapEntry} (hf: ∀e,(f e).born=e.born): ∀(l:List MapEntry) (j:Nat),(l.modify j f).map (·.born)=l.map (·.born)
 |[],j=>by simp
 |e::l,0=>by simp[hf]
 |e::l,j+1=>by simp[VI hf l j]
theorem m9.modify {es:Array MapEntry} {clock j:Nat} (hs:m9 es clock) {f:MapEntry->MapEntry} (hf: ∀e,(f e).born=e.born):m9 (es.modify j f) clock:=by
 have hb:(es.modify j f).toList.map (·.born)=es.toList.map (·.born):=by rw[Array.toList_modify];exact VI hf _ _
 refine⟨fun e he=>?_,by rw[hb];exact hs.2⟩
 have:e.born∈(es.modify j f).toList.map (·.born):=List.mem_map.2 ⟨e,he,rfl⟩
 rw[hb] at this
 obtain⟨e',dI,h⟩:=List.mem_map.1 this
 rw[<-h];exact hs.1 e' dI
theorem m9.erase {es:Array MapEntry} {clock j:Nat} (hs:m9 es clock):m9 (es.eraseIdxIfInBounds j) clock:=by
 have dc:(es.eraseIdxIfInBounds j).toList.Sublist es.toList:=by rw[Array.toList_eraseIdxIfInBounds];exact List.eraseIdx_sublist _ _
 exact⟨fun e he=>hs.1 e (dc.subset he),(dc.map _).nodup hs.2⟩
theorem ahQ (w:World) (k:IntKind) (n:Int):(Instr.keyThatStays (.int k n) (.int k n)).run P w= .ok (.int k n) w:=by
 simp[Instr.keyThatStays,Instr.sameBits]
theorem ajd (H:HR ι I h w) (id:Nat) {t key e:TypeId} {kk:IntKind} (hu:P.underlying t=some (.map key e)) (hk:P.underlying key=some (.int kk)) {m k v r:AV} {cm ck cv:Value}
 (hm:VR ι I w m cm) (AJ:VR ι I w k ck) (hv:VR ι I w v cv) {ρ:Env} {om ok ov:aq} (cU:om.ev ρ=m) (ba:ok.ev ρ=k) (tP:ov.ev ρ=v) {h':aa} (he:bR (.qX om ok ov) ρ id h=some (r,h')):
 r= .undef/\ ∃w',(Instr.mapUpdate t cm ck cv).run P w= .ok () w'/\HR ι I h' w'/\Ext (fun _=>False) ι I h w ι I h' w':=by
 simp only[bR,cU,ba,tP] at he
 replace hv:=hv.strip
 generalize v.strip=v at*
 cases hm<;>(try simp only[] at he)<;>try(cases he;done)
 rename_i b cb hb
 cases AJ<;>(try simp only[] at he)<;>try(cases he;done)
 rename_i kd n
 split at he
 ·rename_i es hg
  obtain⟨aV,clock,g9,gO,dB⟩:=H.map hg hb
  cases iT:qY (.int kd n) v es with
  |none=>simp[iT] at he
  |some fs=>
   simp[iT] at he
   obtain⟨rfl,rfl⟩:=he
   unfold qY at iT
   cases hf:mh (.int kd n) es 0 with
   |none=>simp[hf] at iT
   |some o=>
    simp only[hf,Option.map_some,Option.some.injEq] at iT
    rcases Gx kk es aV.toList 0 o gO hf with⟨rfl,iV⟩|⟨j,sx,rfl,xF,iQ,iV⟩
    ·simp only[] at iT
     subst iT
     obtain⟨H',E⟩:=GC H hb hg g9 (fs:=es++[(.int kd n,v)]) (eF:=aV.push {key:= .int kd n,val:=cv,born:=clock}) (clock+1) (by
      refine⟨by simp[gO.1],fun i k1 v1 e1 h1 h2=>?_⟩
      simp only[Array.toList_push] at h2
      rw[List.getElem?_append] at h1 h2
      rw[<-gO.1] at h2
      split at h1
      ·rename_i aD;rw[if_pos aD] at h2;exact gO.2 i k1 v1 e1 h1 h2
      ·rename_i aD
       rw[if_neg aD] at h2
       have h0:i-es.length=0:=by have:=(List.getElem?_eq_some_iff.1 h1).1;simpa using this
       rw[h0] at h1 h2
       simp at h1 h2
       obtain⟨rfl,rfl⟩:=h1
       subst h2
       exact⟨.int _ _,hv⟩) dB.push
     refine⟨rfl,_,?_,H',E⟩
     simp[Instr.mapUpdate,cL hu,yG w g9,run_checkKey w hk,run_findKey w hk iV,FY w g9]
    ·simp only[Nat.zero_add] at iT iV
     subst iT
     have hj:j<aV.size:=by have:=(List.getElem?_eq_some_iff.1 xF).1;simpa using this
     have acJ:aV[j]? =some sx:=by simpa using xF
     obtain⟨H',E⟩:=GC H hb hg g9 (fs:=es.set j (.int kd n,v)) (eF:=aV.modify j fun e=>{e with key:= .int kd n,val:=cv}) clock (by
      refine⟨by simp[gO.1],fun i k1 v1 e1 h1 h2=>?_⟩
      simp only[Array.getElem?_toList,Array.getElem?_modify] at h2
      rw[List.getElem?_set] at h1
      by_cases nP:j=i
      ·subst nP
       rw[if_pos rfl] at h1
       have dP:j<es.length:=by rw[gO.1];simpa using hj
       rw[if_pos dP] at h1
       rw[if_pos rfl] at h2
       simp at h1
       obtain⟨rfl,rfl⟩:=h1
       rw[acJ] at h2
       simp at h2
       subst h2
       exact⟨.int _ _,hv⟩
      ·rw[if_neg nP] at h1 h2
       exact gO.2 i k1 v1 e1 h1 (by simpa using h2)) (dB.modify (fun _=>rfl))
     refine⟨rfl,_,?_,H',E⟩
     simp[Instr.mapUpdate,cL hu,yG w g9,run_checkKey w hk,run_findKey w hk iV,acJ,iQ,ahQ,FY w g9]
 ·cases he
theorem aje (H:HR ι I h w) (id:Nat) {t tx ty key e:TypeId} {kk:IntKind} (hu:P.underlying t=some (.map key e)) (hk:P.underlying key=some (.int kk)) {m k r:AV} {cm ck:Value}
 (hm:VR ι I w m cm) (AJ:VR ι I w k ck) {ρ:Env} {om ok:aq} (cU:om.ev ρ=m) (ba:ok.ev ρ=k) {h':aa} (he:bR (.sR om ok) ρ id h=some (r,h')):
 fo P ι I h w id r h' (Builtin.delete_ #[t,tx] ty #[cm,ck]):=by
 simp only[bR,cU,ba] at he
 cases hm<;>(try simp only[] at he)<;>try(cases he;done)
 rename_i b cb hb
 cases AJ<;>(try simp only[] at he)<;>try(cases he;done)
 rename_i kd n
 split at he
 ·rename_i es hg
  obtain⟨aV,clock,g9,gO,dB⟩:=H.map hg hb
  cases iT:qZ (.int kd n) es with
  |none=>simp[iT] at he
  |some fs=>
   simp[iT] at he
   obtain⟨rfl,rfl⟩:=he
   unfold qZ at iT
   cases hf:mh (.int kd n) es 0 with
   |none=>simp[hf] at iT
   |some o=>
    simp only[hf,Option.map_some,Option.some.injEq] at iT
    have En:VR ι I w (.ay []) (.tuple #[]):= .ay [] [] rfl (fun i v c h=>by simp at h)
    rcases Gx kk es aV.toList 0 o gO hf with⟨rfl,iV⟩|⟨j,sx,rfl,xF,iQ,iV⟩
    ·simp only[] at iT
     subst iT
     obtain⟨H',E⟩:=GC H hb hg g9 (fs:=es) (eF:=aV) clock gO dB
     refine⟨_,_,ι,I,?_,E.vr H En,H',E.mono (fun _ h=>h.elim)⟩
     simp[Builtin.delete_,cL hu,yG w g9,run_checkKey w hk,run_findKey w hk iV,FY w g9]
    ·simp only[Nat.zero_add] at iT iV
     subst iT
     obtain⟨H',E⟩:=GC H hb hg g9 (fs:=es.eraseIdx j) (eF:=aV.eraseIdxIfInBounds j) clock (by
      have hj:j<aV.size:=by have:=(List.getElem?_eq_some_iff.1 xF).1;simpa using this
      have dP:j<es.length:=by rw[gO.1];simpa using hj
      have hl:=gO.1
      refine⟨by simp[List.length_eraseIdx,hj,dP,hl],fun i k1 v1 e1 h1 h2=>?_⟩
      rw[List.getElem?_eraseIdx] at h1
      simp only[Array.toList_eraseIdxIfInBounds,List.getElem?_eraseIdx] at h2
      split at h1
      ·rename_i aD;rw[if_pos aD] at h2;exact gO.2 i k1 v1 e1 h1 h2
      ·rename_i aD;rw[if_neg aD] at h2;exact gO.2 _ k1 v1 e1 h1 h2) dB.erase
     refine⟨_,_,ι,I,?_,E.vr H En,H',E.mono (fun _ h=>h.elim)⟩
     simp[Builtin.delete_,cL hu,yG w g9,run_checkKey w hk,run_findKey w hk iV,FY w g9]
 ·cases he
end
end
section
open Go
section
variable {P:Program} {ι:aG} {I:aQ} {h:aa} {w:World}
theorem am0 (H:HR ι I h w) {t e ty:TypeId} (hu:P.underlying t=some (.slice e)) {x:AV} {c:Value} (hx:VR ι I w x c) {n:Nat} (hn:vk x=some n):
 eK P ι I h w (.int .i64 n) (Builtin.cap_ #[t] ty #[c]):=by
 have run: ∀a l k,(Builtin.cap_ #[t] ty #[.slice a l k]).run P w= .ok (.int .i64 k) w:=fun a l k=>by
  simp[Builtin.cap_,cL hu,goInt]
 unfold vk at hn
 cases hx<;>(try simp only[] at hn)<;>try(cases hn;done)
 case bA=>cases hn;exact .same H (run _ _ _) (.int _ _)
 case gw t' ht=>
  rcases ht with rfl|rfl
  ·cases hn
  ·cases hn;exact .same H (run _ _ _) (.int _ _)
 case gn t' a cap ht=>
  rcases ht with rfl|⟨rfl,rfl⟩
  ·cases hn
  ·cases hn;exact .same H (run _ _ _) (.int _ _)
 case vs xs t' cb o s cap g hs hI hc hv h1 bu ht=>
  cases t' with
  |ao=>cases hn
  |own t=>cases hn
  |full=>
   cases hn
   have:cap=xs.length:=ht
   subst this
   exact .same H (run _ _ _) (.int _ _)
 case rk b off len sz cap cb o room hb hlen bu=>
  cases hn
  exact .same H (run _ _ _) (.int _ _)
theorem ajs (H:HR ι I h w) {t:TypeId} (hu:P.underlying t=some .string) {x i v:AV} {c ci:Value} (hx:VR ι I w x c) (hi:VR ι I w i ci) (hv:BI x i=some v):
 eK P ι I h w v (Instr.index t c ci):=by
 unfold BI at hv
 cases hx<;>(try simp only[] at hv)<;>try(cases hv;done)
 rename_i s
 cases hi<;>(try simp only[] at hv)<;>try(cases hv;done)
 rename_i k n
 split at hv
 ·rename_i h0
  cases hb:s[n.toNat]? with
  |none=>simp[hb] at hv
  |some b=>
   simp[hb] at hv
   subst hv
   refine .same H (c:= .int .u8 b.toNat) ?_ (.int _ _)
   simp[Instr.index,asIntOf,cL hu,h0,hb]
 ·cases hv
theorem ao3 (H:HR ι I h w) {y:AV} {cy:Value} (hy:VR ι I w y cy) {sz n m:Nat} {ys:List (List AV)} (hr:oL sz n h y=some ys) (hm:gH y=some m) (mH:n<=m):
 ∃a cap l,cy= .slice a m cap/\ys.length=n/\(∀r∈ys,r.length=sz/\ ∀v∈r,v.one=true)/\LR ι I w ys.flatten l/\l.length=n*sz/\(Builtin.firstCells sz n (.slice a m cap)).run P w= .ok l.toArray w:=by
 unfold oL at hr
 have Um: ∀xs t,y= .vs xs t-> ∃a cap l,cy= .slice a m cap/\ys.length=n/\(∀r∈ys,r.length=sz/\ ∀v∈r,v.one=true)/\LR ι I w ys.flatten l/\l.length=n*sz/\(Builtin.firstCells sz n (.slice a m cap)).run P w= .ok l.toArray w:=by
  rintro xs t rfl
  simp only[] at hr
  split at hr
  ·rename_i hk
   cases hr
   simp only[gH,Option.some.injEq] at hm
   subst hm
   obtain⟨a,cap,l,rfl,hle,R⟩:=wa H hy (show cQ sz h (.vs xs t)=some xs by simp[cQ,hk])
   have dc:(xs.take n).flatten=xs.flatten.take (n*sz):=LH xs _ (fun r hr=>(R.lN r hr).1)
   have C1:(l.take (n*sz)).length=n*sz:=by rw[List.length_take,R.len];exact Nat.min_eq_left (Nat.mul_le_mul_right _ mH)
   refine⟨a,cap,l.take (n*sz),rfl,by simp;omega,fun r hr=>R.lN r (List.mem_of_mem_take hr),by rw[dc];exact R.lr.take _,C1,?_⟩
   cases a with
   |none=>
    have:=R.none rfl
    subst this
    have ye:l=[]:=by have:=R.len;simpa using this
    subst ye
    have U3:n=0:=by simpa using mH
    subst U3
    simpa using run_firstCells_none (P:=P) w sz 0 0 cap
   |some ad=>
    refine run_firstCells_some w sz _ _ _ _ _ C1 (fun j u hu=>?_)
    rw[List.getElem?_take] at hu
    split at hu
    ·exact R.cell ad rfl j u hu
    ·cases hu
  ·cases hr
 cases hy<;>(try simp only[] at hr)<;>try(cases hr;done)
 case vs xs t _ _ _ _ _ _ _ _ _ _ _ _=>exact Um xs t rfl
 case gw t _=>exact Um [] t rfl
 case gn t _ _ _=>exact Um [] t rfl
 case rk b off len aN cap cb o room hb hlen bu=>
  split at hr
  ·rename_i hc
   obtain⟨rfl,hn⟩:=hc
   cases hg:cellsOf h b with
   |none=>simp[hg] at hr
   |some cs=>
    simp only[hg] at hr
    split at hr
    ·rename_i hle
     cases hr
     simp only[gH,Option.some.injEq] at hm
     subst hm
     obtain⟨cE,_,cS⟩:=H.row (qP hg) hb
     obtain⟨l,R,e1,e2⟩:=LP (len:=n) cE cS hle
     refine⟨_,cap,l,rfl,e1,R.lN,R.lr,by rw[R.len,e1],?_⟩
     exact run_firstCells_some w aN _ _ _ _ _ (by rw[R.len,e1]) (fun j u hu=>R.cell _ rfl j u hu)
    ·cases hr
  ·cases hr
theorem akJ (H:HR ι I h w) {t tx ty e:TypeId} {sz:Nat} (ht:P.underlying t=some (.slice e)) (hs:(P.info? e).map (·.size)=some sz) (id:Nat) {x y v:AV} {cx cy:Value} (hx:VR ι I w x cx) (hy:VR ι I w y cy) {ρ:Env} {ox oy:aq} (bq:ox.ev ρ=x) (iI:oy.ev ρ=y)
 {h':aa} (he:bR (.nf sz ox oy) ρ id h=some (v,h')):fo P ι I h w id v h' (Builtin.copy_ #[t,tx] ty #[cx,cy]):=by
 simp only[bR,bq,iI] at he
 cases hx<;>(try simp only[] at he)<;>try(cases he;done)
 case rk b off len aN cap cb o room hb hlen bu=>
  cases hm:gH y with
  |none=>simp[hm] at he
  |some m=>
   simp only[hm] at he
   cases km:oL sz (min m len) h y with
   |none=>simp[km] at he
   |some ys=>
    cases jL:cellsOf h b with
    |none=>simp[km,jL] at he
    |some cs=>
     simp only[km,jL] at he
     split at he
     ·rename_i hc
      obtain⟨rfl,hle⟩:=hc
      cases he
      have hg:=qP jL
      obtain⟨a,cM,l,rfl,se,ag2,dn,ku,MD⟩:=ao3 (P:=P) H hy km hm (Nat.min_le_left _ _)
      obtain⟨_,_,_,hl,eY,_,bt⟩:=H.cells b cs _ hg hb
      cases hl
      have sl:min m len*aN<=cap*aN:=Nat.mul_le_mul_right _ (Nat.le_trans (Nat.min_le_right _ _) hlen)
      have cS: ∀u∈l,u.oneCell'=true:=by
       intro u hu
       obtain⟨i,hi,rfl⟩:=List.getElem_of_mem hu
       have aA:i<ys.flatten.length:=by rw[dn.1];exact hi
       refine(dn.2 i _ _ (List.getElem?_eq_getElem aA) (List.getElem?_eq_getElem hi)).one ?_
       obtain⟨r,hr,hv⟩:=List.mem_flatten.1 (List.getElem_mem aA)
       exact(ag2 r hr).2 _ hv
      have dB:=run_storeCells_cells (P:=P) cb (o+off) l 0 w
       (fun j hj=>by simp only[Nat.add_zero];obtain⟨c,cR,_⟩:=bt (off+j) (by omega);rw[Nat.add_assoc,cR];rfl)
       (fun j hj=>by simp only[Nat.add_zero];obtain⟨c,_,cR,_⟩:=bt (off+j) (by omega);rw[Nat.add_assoc];exact cR) cS
      simp only[Nat.add_zero] at dB
      obtain⟨H',E⟩:=H.GW (off:=off) hb hg hle (by rw[dn.1,ku];omega) dn (fun u hu=>by
       obtain⟨r,hr,hv⟩:=List.mem_flatten.1 hu
       exact(ag2 r hr).2 u hv)
      refine⟨_,_,ι,I,?_, .int _ _,H',E.mono (fun _ h=>h.elim)⟩
      have Tq:Nat.min m len=min m len:=rfl
      simp[Builtin.copy_,cL ht,l9 hs,Builtin.lenOf,Tq,MD,dB,goInt]
     ·cases he
theorem ajC (H:HR ι I h w) {t ty e:TypeId} {ie:TypeInfo} {z:Value} {za:List AV} (ht:P.underlying t=some (.slice e)) (cN:P.info? e=some ie) (hz:ie.zero=some z) (ed:LR ι I w za z.cells.toList) (h1: ∀v∈za,v.one=true) (h0:za.length≠0)
 (id:Nat) {x v:AV} {cx:Value} (hx:VR ι I w x cx) {ρ:Env} {ox:aq} (bq:ox.ev ρ=x)
 {h':aa} (he:bR (.oJ za ox) ρ id h=some (v,h')):fo P ι I h w id v h' (Builtin.clear_ #[t] ty #[cx]):=by
 have En: ∀w:World,VR ι I w (.ay []) (.tuple #[]):=fun w=> .ay [] [] rfl (fun i v c h=>by simp at h)
 have zero: ∀a cap,(Builtin.clear_ #[t] ty #[.slice a 0 cap]).run P w= .ok (.tuple #[]) w:=fun a cap=>by
  cases a<;>simp[Builtin.clear_,cL ht]
 have HZ: ∀a cap,fo P ι I h w id (.ay []) h (Builtin.clear_ #[t] ty #[.slice a 0 cap]):=fun a cap=>⟨_,w,ι,I,zero a cap,En w,H,Ext.refl _ _ _ _ _⟩
 simp only[bR,bq] at he
 cases hx<;>(try simp only[] at he)<;>try(cases he;done)
 case bA=>cases he;exact HZ _ _
 case gw=>cases he;exact HZ _ _
 case gn=>cases he;exact HZ _ _
 case vs xs t' cb o s cap g hs hI hc cT cS bu UR=>
  cases xs with
  |cons a b=>cases he
  |nil=>cases he;exact HZ _ _
 case rk b off len aN cap cb o room hb hlen bu=>
  cases jL:cellsOf h b with
  |none=>simp[jL] at he
  |some cs=>
   simp only[jL] at he
   split at he
   ·rename_i hc
    obtain⟨rfl,hle⟩:=hc
    cases he
    have hg:=qP jL
    obtain⟨_,_,_,hl,eY,_,bt⟩:=H.cells b cs _ hg hb
    cases hl
    have fy:=Bu ed len (.inl h0)
    have aO:za.length=z.cells.size:=by rw[ed.1];simp
    have bT:(List.replicate len za).flatten.length=len*za.length:=by
     rw[mV (sz:=za.length) _ (fun r hr=>by rw[List.eq_of_mem_replicate hr])];simp
    have hu1: ∀u∈(List.replicate len za).flatten,u.one=true:=fun u hu=>by
     obtain⟨r,hr,hv⟩:=List.mem_flatten.1 hu
     rw[List.eq_of_mem_replicate hr] at hv
     exact h1 u hv
    obtain⟨l,ag6⟩: ∃l,l=(madeCells z.cells (len*z.cells.size)).toList:=⟨_,rfl⟩
    rw[<-ag6] at fy
    have ku:l.length=len*za.length:=by rw[<-fy.1,bT]
    have cS: ∀u∈l,u.oneCell'=true:=by
     intro u hu
     obtain⟨i,hi,rfl⟩:=List.getElem_of_mem hu
     have aA:i<(List.replicate len za).flatten.length:=by rw[fy.1];exact hi
     exact(fy.2 i _ _ (List.getElem?_eq_getElem aA) (List.getElem?_eq_getElem hi)).one (hu1 _ (List.getElem_mem aA))
    have dB:=run_storeCells_cells (P:=P) cb (o+off) l 0 w
     (fun j hj=>by simp only[Nat.add_zero];obtain⟨c,cR,_⟩:=bt (off+j) (by omega);rw[Nat.add_assoc,cR];rfl)
     (fun j hj=>by simp only[Nat.add_zero];obtain⟨c,_,cR,_⟩:=bt (off+j) (by omega);rw[Nat.add_assoc];exact cR) cS
    simp only[Nat.add_zero] at dB
    obtain⟨H',E⟩:=H.GW (off:=off) hb hg (by omega) (by rw[bT];omega) fy hu1
    refine⟨_,_,ι,I,?_,En _,H',E.mono (fun _ h=>h.elim)⟩
    cases len with
    |zero=>
     have:l=[]:=by simpa using ku
     subst this
     exact zero _ _
    |succ n=>
     have hzc:(Builtin.zeroCells z.cells (n+1)).toList=l:=ag6.symm
     simp[Builtin.clear_,cL ht,Gq cN hz,hzc,dB]
   ·cases he
theorem amr (H:HR ι I h w) {t rt e:TypeId} {sz:Nat} (ht:P.underlying t=some (.slice e)) (hs:(P.info? e).map (·.size)=some sz) {x y v:AV} {cx cy:Value} (hx:VR ι I w x cx) (hy:VR ι I w y cy) (hv:vf sz h x y=some v) {t2:TypeId}:
 eK P ι I h w v (Extern.SlicesOverlaps.overlaps #[t,t2] #[rt] #[cx,cy]):=by
 unfold vf at hv
 cases hx<;>(try simp only[] at hv)<;>try(cases hv;done)
 case vs xs t' ca oa s TO g cE hI hc hvv h1 bu sh=>
  cases xs with
  |nil=>cases hv
  |cons r xs=>
   cases hy<;>(try simp only[] at hv)<;>try(cases hv;done)
   case rk b off len aN JP cb ob room hb hlen axc=>
    cases len with
    |zero=>cases hv
    |succ len=>
     simp only[] at hv
     cases hq:(r.length==sz&&aN==sz&&(cellsOf h b).isSome) with
     |false=>rw[hq] at hv;cases hv
     |true=>
      rw[hq] at hv
      cases hv
      simp only[Bool.and_eq_true,beq_iff_eq] at hq
      obtain⟨⟨gN,rfl⟩,eN⟩:=hq
      obtain⟨cs,eN⟩:=Option.isSome_iff_exists.1 eN
      have hg:=qP eN
      have tL:s=aN:=by rw[<-cE 0 r rfl];exact gN
      subst tL
      refine .same H (c:= .bool false) ?_ (.bool _)
      obtain⟨_,_,_,hl,eY,_,bt⟩:=H.cells b cs _ hg hb
      cases hl
      have ir:=H.pl b cs cb ob room hg hb
      have e1:=fun w'=>cL ht w'
      have e2:=fun w'=>l9 (P:=P) hs w'
      by_cases tL:s=0
      ·subst tL
       delta Extern.SlicesOverlaps.overlaps
       delta Extern.SlicesOverlaps.overlaps.match_4
       dsimp only[]
       rw[dif_pos (show(#[Value.slice (some ⟨ca,oa,none⟩) (r::xs).length TO,Value.slice (some ⟨cb,ob+off,none⟩) (len+1) JP]:Array Value).size=2 from rfl)]
       delta Extern.SlicesOverlaps.overlaps._sparseCasesOn_4
       delta Array.getLit
       simp only[List.getElem_toArray,List.getElem_cons_zero,List.getElem_cons_succ]
       simp[e1,e2]
      have hmul:(len+1)*s<=JP*s:=Nat.mul_le_mul_right _ hlen
      have iC:0<(len+1)*s:=Nat.mul_pos (by omega) (by omega)
      have aw8:0<(xs.length+1)*s:=Nat.mul_pos (by omega) (by omega)
      by_cases kB:ca=cb
      ·subst kB
       have xG: ∀j,oa<=j->j<oa+(xs.length+1)*s->ob+off<=j->j<ob+off+(len+1)*s->False:=fun j q1 q2 q3 q4=>by
        have hd:=(Nat.div_lt_iff_lt_mul (k:=s) (x:=j-oa) (y:=xs.length+1) (by omega)).2 (by omega)
        have nT:=hI ((j-oa)/s) ((j-oa)%s) (by simpa using hd) (Nat.mod_lt _ (by omega))
        rw[Nat.add_assoc,Nat.div_add_mod' (j-oa) s,show oa+(j-oa)=j by omega] at nT
        exact H.bn b _ _ ca j hb hg rfl nT
       have key: ¬(oa<ob+off+(len+1)*s/\ob+off<oa+(xs.length+1)*s):=fun⟨q1,q2⟩=>
        xG (max oa (ob+off)) (by omega) (by omega) (by omega) (by omega)
       delta Extern.SlicesOverlaps.overlaps
       delta Extern.SlicesOverlaps.overlaps.match_4
       dsimp only[]
       rw[dif_pos (show(#[Value.slice (some ⟨ca,oa,none⟩) (r::xs).length TO,Value.slice (some ⟨ca,ob+off,none⟩) (len+1) JP]:Array Value).size=2 from rfl)]
       delta Extern.SlicesOverlaps.overlaps._sparseCasesOn_4
       delta Array.getLit
       simp only[List.getElem_toArray,List.getElem_cons_zero,List.getElem_cons_succ]
       simp[e1,e2,tL]
       omega
      ·have ca0:w.cell? ⟨ca,oa,none⟩=some (g 0 0):=by simpa using hc 0 0 (by simp) (by omega)
       obtain⟨cb0,avU,-⟩:=bt off (by omega)
       have shp: ∀(k o:Nat) (c:Value),w.cell? ⟨k,o,none⟩=some c-> ∃el n,w.shape? k=some (el,n+1):=fun k o c hk=>by
        unfold World.cell? at hk
        unfold World.shape?
        split at hk
        ·rename_i cells el fr hh
         simp at hk
         have:=(Array.getElem?_eq_some_iff.1 hk).1
         simp only[] at hh
         rw[hh]
         exact⟨el,cells.size-1,by simp;omega⟩
        ·cases hk
       obtain⟨ea,na,sa⟩:=shp _ _ _ ca0
       obtain⟨eb,nb,sb⟩:=shp _ _ _ avU
       have hfb:w.frozen? ⟨cb,ob+off,none⟩=false:=ir _
       have iV:w.frozen? ⟨cb,nb+1,none⟩=false:=ir _
       delta Extern.SlicesOverlaps.overlaps
       delta Extern.SlicesOverlaps.overlaps.match_4
       dsimp only[]
       rw[dif_pos (show(#[Value.slice (some ⟨ca,oa,none⟩) (r::xs).length TO,Value.slice (some ⟨cb,ob+off,none⟩) (len+1) JP]:Array Value).size=2 from rfl)]
       delta Extern.SlicesOverlaps.overlaps._sparseCasesOn_4
       delta Array.getLit
       simp only[List.getElem_toArray,List.getElem_cons_zero,List.getElem_cons_succ]
       simp[e1,e2,tL,kB,frozen,noView,viewAt,mayBeOne,stringish,shape,Sem.run,sa,sb,hfb,iV]
theorem WE (H:HR ι I h w) {id:Nat} (aL:ι id=none) {t tn ty e:TypeId} {ie:TypeInfo} {z:Value} {za:List AV} {kn kq:IntKind} (ht:P.underlying t=some (.slice e)) (E5:P.underlying tn=some (.int kn)) (cN:P.info? e=some ie) (hz:ie.zero=some z)
 (aO:ie.size=z.cells.size) (ed:LR ι I w za z.cells.toList) (h1: ∀v∈za,v.one=true) (h0:za.length≠0) {xs:List (List AV)} {a:Option Addr} {lx:List Value} {cap m:Nat}
 (Rx:Rd ι I w za.length xs a lx) (hm:0<m) (hg:cap<xs.length+m) (hb:(xs.length+m)*ie.bytes<2^40) (hn:xs.length+m<2^40):
 fo P ι I h w id (.rs id 0 (xs.length+m) za.length) (h.at id (.cells (xs++List.replicate m za).flatten)) (Builtin.append_ #[t,tn] ty #[.slice a xs.length cap, .int kq m]):=by
 have fy:za.length=z.cells.size:=by rw[ed.1];simp
 have hold:=Yc (P:=P) Rx cap w.drew (fun _=>rfl)
 rw[fy,<-aO] at hold
 have kc:=Yu hg hb
 have hmb:m*ie.bytes<=(xs.length+m)*ie.bytes:=Nat.mul_le_mul_right _ (by omega)
 have bW:=Go.Lib.run_append_grow_zeros (P:=P) (ty:=ty) w t tn e ie z kq kn ht E5 cN hz a xs.length cap lx hold m hm (by omega) hg (by omega) (by omega) kc
 have AM:=grownCap_ge w (xs.length+m) cap e
 have hzm:=Bu ed m (.inl h0)
 have hmc:madeCells z.cells (m*z.cells.size)=Builtin.zeroCells z.cells m:=rfl
 rw[hmc] at hzm
 generalize grownCap w (xs.length+m) cap e=c at*
 have uK:(lx.toArray++Builtin.zeroCells z.cells m++Builtin.zeroCells z.cells (c-(xs.length+m))).size=c*za.length:=by
  rw[Array.size_append,Array.size_append,size_zeroCells,size_zeroCells,<-fy]
  simp only[List.size_toArray,Rx.len]
  rw[<-Nat.add_mul,<-Nat.add_mul]
  congr 1;omega
 have dn:LR ι I w (xs++List.replicate m za).flatten (lx++(Builtin.zeroCells z.cells m).toList):=by
  rw[List.flatten_append];exact Rx.lr.append hzm
 obtain⟨H',E⟩:=BV H (w':=w.drew.alloc (.cells (lx.toArray++Builtin.zeroCells z.cells m++Builtin.zeroCells z.cells (c-(xs.length+m))) e)) rfl rfl rfl rfl aL (cs:=(xs++List.replicate m za).flatten)
  (fun v hv=>by
    obtain⟨r,hr,hv⟩:=List.mem_flatten.1 hv
    rcases List.mem_append.1 hr with hr|hr
    ·exact(Rx.lN r hr).2 v hv
    ·rw[List.eq_of_mem_replicate hr] at hv;exact h1 v hv)
  (by
    have kl:(Builtin.zeroCells z.cells m).toList.length=m*za.length:=by rw[Array.length_toList,size_zeroCells,<-fy]
    rw[dn.1,uK,List.length_append,Rx.len,kl,<-Nat.add_mul]
    exact Nat.mul_le_mul_right _ AM)
  (fun j v u hv hu=>by
    have hj:=(List.getElem?_eq_some_iff.1 hv).1
    rw[dn.1] at hj
    refine dn.2 j v u hv ?_
    rw[Array.getElem?_append_left (by simp at hj ⊢;omega)] at hu
    rw[<-hu,<-Array.getElem?_toList]
    simp)
 refine⟨_,_,_,_,bW,?_,H',E⟩
 exact .rs id 0 _ za.length w.heap.size 0 _ c (aG.gv _ _ _) AM (by rw[uK];omega)
theorem aiO (H:HR ι I h w) {id:Nat} (aL:ι id=none) {t tn ty e:TypeId} {ie:TypeInfo} {z:Value} {za:List AV} {kn:IntKind} (ht:P.underlying t=some (.slice e)) (E5:P.underlying tn=some (.int kn)) (cN:P.info? e=some ie) (hz:ie.zero=some z)
 (aO:ie.size=z.cells.size) (ed:LR ι I w za z.cells.toList) (h1: ∀v∈za,v.one=true) (h0:za.length≠0) {x n v:AV} {cx cn:Value} (hx:VR ι I w x cx) (hn:VR ι I w n cn) {ρ:Env} {ox on:aq} (bq:ox.ev ρ=x) (qx:on.ev ρ=n)
 {h':aa} (he:bR (.oA ie.bytes za ox on) ρ id h=some (v,h')):fo P ι I h w id v h' (Builtin.append_ #[t,tn] ty #[cx,cn]):=by
 simp only[bR,bq,qx] at he
 cases hn<;>(try simp only[] at he)<;>try(cases he;done)
 rename_i kq m
 split at he
 ·rename_i hm
  obtain⟨k,rfl⟩: ∃k:Nat,m=k:=⟨m.toNat,by omega⟩
  simp only[Int.toNat_natCast] at he
  cases hx<;>(try simp only[] at he)<;>try(cases he;done)
  case bA=>
   split at he
   ·rename_i hb
    cases he
    have Rn:Rd ι I w za.length [] none []:=⟨by simp,LR.nil,by simp,fun _=>rfl⟩
    have:=WE (P:=P) (ty:=ty) (kq:=kq) (cap:=0) (m:=k) H aL ht E5 cN hz aO ed h1 h0 Rn (by omega) (by simp;omega) (by simpa using hb) (by simp;omega)
    simpa using this
   ·cases he
  case rk b off len aN cap cb o room hb hlen bu=>
   split at he
   ·rename_i cs hg
    split at he
    ·rename_i hc
     obtain⟨rfl,cw,hle,eo,ch⟩:=hc
     cases he
     obtain⟨cE,_,cS⟩:=H.row (qP hg) hb
     obtain⟨l,R,e1,e2⟩:=LP (len:=len) cE cS hle
     have:=WE (P:=P) (ty:=ty) (kq:=kq) (cap:=cap) (m:=k) H aL ht E5 cN hz aO ed h1 h0 R (by omega) (by rw[e1];omega) (by rw[e1];exact eo) (by rw[e1];exact ch)
     rw[e1] at this
     exact this
    ·cases he
   ·cases he
 ·cases he
end
end
section
open Go
section
variable {P:Program}
mutual
def AV.dQ (b:Nat) (cs:List AV):AV->AV
 | .rs b' off len sz=>if b'=b then(if off+len*sz<=cs.length then .vs (rowsOf cs off sz len) .ao else .undef) else .rs b' off len sz
 | .rk b' off len sz cap=>if b'=b then .undef else .rk b' off len sz cap
 | .agg xs=> .agg (AV.qe b cs xs)
 | .ay xs=> .ay (AV.qe b cs xs)
 |v=>v
def AV.qe (b:Nat) (cs:List AV):List AV->List AV
 |[]=>[]
 |x::xs=>AV.dQ b cs x::AV.qe b cs xs
end
theorem BD {b:Nat} {cs:List AV}: ∀{l:List AV},(AV.qe b cs l).length=l.length
 |[]=>rfl
 |x::xs=>by simp[AV.qe,BD (l:=xs)]
theorem BE {b:Nat} {cs:List AV}: ∀{l:List AV} {i:Nat} {v:AV},(AV.qe b cs l)[i]? =some v-> ∃u,l[i]? =some u/\v=AV.dQ b cs u
 |[],i,v,h=>by simp[AV.qe] at h
 |x::xs,i,v,h=>by
  cases i with
  |zero=>simp[AV.qe] at h;exact⟨x,rfl,h.symm⟩
  |succ i=>obtain⟨u,h1,h2⟩:=BE (l:=xs) (i:=i) (by simpa [AV.qe] using h);exact⟨u,by simpa using h1,h2⟩
section
variable {ι:aG} {I:aQ} {h:aa} {w:World} {b cb o room:Nat} {cs:List AV}
def rN (I:aQ) (cb o n:Nat):aQ:=fun k j=>I k j\/(k=cb/\o<=j/\j<o+n)
theorem VR.dQ (H:HR ι I h w) (hg:h.get b=some (.cells cs)) (hb:ι b=some (.cells cb o room)) {a:AV} {v:Value} (hv:VR ι I w a v):VR ι (rN I cb o room) w (AV.dQ b cs a) v:=by
 obtain⟨cE,eY,cS⟩:=H.row hg hb
 have cq: ∀a v,VR ι I w a v->VR ι (rN I cb o room) w a v:=fun a v h=>h.mono (fun _ _ h=>h) (fun _ _ h=> .inl h) (fun _ _ _=>rfl)
 induction hv with
 |rk b' off len sz cap fY o' me h1 h2 h3=>
  unfold AV.dQ
  by_cases kU:b'=b
  ·rw[if_pos kU];exact .undef _
  ·rw[if_neg kU];exact .rk b' off len sz cap fY o' me h1 h2 h3
 |rs b' off len sz fY o' me cap h1 h2 h3=>
  unfold AV.dQ
  by_cases kU:b'=b
  ·subst kU
   rw[hb] at h1;cases h1
   rw[if_pos rfl]
   split
   ·rename_i hle
    obtain⟨e1,e2,e3⟩:=yD cs sz len off hle
    rcases Nat.eq_zero_or_pos len with h0|h0
    ·subst h0
     exact .gn _ _ _ (.inl rfl)
    rcases Nat.eq_zero_or_pos sz with hz|hz
    ·subst hz
     have:=VR.vs (ι:=ι) (I:=rN I cb o room) (w:=w) (rowsOf cs off 0 len) .ao cb (o+off) 0 cap (fun _ _=>Go.undef) (fun i row hi=>(e2 row (List.mem_of_getElem? hi)).1) (fun i j _ hj=>by omega) (fun i j _ hj=>by omega)
      (fun i row j v hi hj=>by
        have:=(e2 row (List.mem_of_getElem? hi)).1
        have:=(List.getElem?_eq_some_iff.1 hj).1;omega)
      (fun row hr v hv=>by have:=(e2 row hr).1;have:=List.length_eq_zero_iff.1 this;subst this;simp at hv) (by rw[e1];exact h2) trivial
     rw[e1] at this
     exact this
    have bT: ∀i j,i<len->j<sz->off+i*sz+j<cs.length:=fun i j hi hj=>by
     have:i*sz+j<len*sz:=by
      have:=Nat.mul_le_mul_right sz (show i+1<=len by omega)
      rw[Nat.succ_mul] at this
      omega
     omega
    have bt: ∀i j,i<len->j<sz-> ∃u,w.cell? ⟨cb,o+off+i*sz+j,none⟩=some u/\ ∀v,cs[off+i*sz+j]? =some v->VR ι I w v u:=fun i j hi hj=>by
     have aD:=bT i j hi hj
     obtain⟨u,h5,h6⟩:=cE (off+i*sz+j) _ (List.getElem?_eq_getElem aD)
     refine⟨u,by rw[show o+off+i*sz+j=o+(off+i*sz+j) by omega];exact h5,fun v hv=>?_⟩
     rw[List.getElem?_eq_getElem aD] at hv
     cases hv
     exact h6
    have aT: ∀(i j:Nat) (row:List AV) (v:AV),(rowsOf cs off sz len)[i]? =some row->row[j]? =some v->cs[off+i*sz+j]? =some v:=fun i j row v hi hj=>by
     have hr:=(e2 row (List.mem_of_getElem? hi)).1
     have js:j<sz:=by have:=(List.getElem?_eq_some_iff.1 hj).1;omega
     have:=flat_get (rowsOf cs off sz len) (fun r hr=>(e2 r hr).1) i j row hi js
     rw[hj,e3,List.getElem?_take_of_lt (by
      have:=bT i j (by have:=(List.getElem?_eq_some_iff.1 hi).1;omega) js
      have h7:=(List.getElem?_eq_some_iff.1 hi).1
      have:=Nat.mul_le_mul_right sz (show i+1<=len by omega)
      rw[Nat.succ_mul] at this
      omega),List.getElem?_drop] at this
     rw[<-this];congr 1;omega
    have:=VR.vs (ι:=ι) (I:=rN I cb o room) (w:=w) (rowsOf cs off sz len) .ao cb (o+off) sz cap (fun i j=>(w.cell? ⟨cb,o+off+i*sz+j,none⟩).getD Go.undef)
     (fun i row hi=>(e2 row (List.mem_of_getElem? hi)).1)
     (fun i j hi hj=> .inr ⟨rfl,by omega,by rw[e1] at hi;have:=bT i j hi hj;omega⟩)
     (fun i j hi hj=>by rw[e1] at hi;obtain⟨u,h5,_⟩:=bt i j hi hj;simp[h5])
     (fun i row j v hi hj=>by
       have aA:i<len:=by have:=(List.getElem?_eq_some_iff.1 hi).1;omega
       have js:j<sz:=by have:=(e2 row (List.mem_of_getElem? hi)).1;have:=(List.getElem?_eq_some_iff.1 hj).1;omega
       obtain⟨u,h5,h6⟩:=bt i j aA js
       simp only[h5,Option.getD_some]
       exact cq _ _ (h6 v (aT i j row v hi hj)))
     (fun row hr v hv=>cS v ((e2 row hr).2 v hv)) (by rw[e1];exact h2) trivial
    rw[e1] at this
    exact this
   ·exact .undef _
  ·rw[if_neg kU]
   exact .rs b' off len sz fY o' me cap h1 h2 h3
 |agg xs rW hl hv ih=>exact .agg _ _ (by rw[BD];exact hl) (fun i v c h1 h2=>by obtain⟨u,e1,rfl⟩:=BE h1;exact ih i u c e1 h2)
 |ay xs rW hl hv ih=>exact .ay _ _ (by rw[BD];exact hl) (fun i v c h1 h2=>by obtain⟨u,e1,rfl⟩:=BE h1;exact ih i u c e1 h2)
 |vs xs t fY o' s cap g hs hI hc hv h1 bu ht ih=>exact cq _ _ (.vs xs t fY o' s cap g hs hI hc hv h1 bu ht)
 |gw t ht=>exact .gw t ht
 |gn t a cap ht=>exact .gn t a cap ht
 |undef v=>exact .undef v
 |int k n=>exact .int k n
 |bool b=>exact .bool b
 |fU k b=>exact .fU k b
 |fX k a b=>exact .fX k a b
 |str s=>exact .str s
 |nil=>exact .nil
 |ptr b off cb o room h=>exact .ptr b off cb o room h
 |vp xs off fY o' g hI hc hv h1 ih=>exact cq _ _ (.vp xs off fY o' g hI hc hv h1)
 |bA=>exact .bA
 |vz a cap=>exact .vz a cap
 |pT=>exact .pT
 |map b cb h=>exact .map b cb h
 |fn f fs cs eF bF hf hc h1 h2 fN jH=>exact cq _ _ (.fn f fs cs eF bF hf hc h1 h2)
 |jm=>exact .jm
 |fw v h=>exact .fw v h
end
theorem WD (w:World) (a:Addr) (n:Nat) (c:Addr):(w.freeze a n).cell? c=w.cell? c:=by
 unfold World.freeze
 split
 ·rfl
 ·simp only[World.cell?,Array.getElem?_modify]
  by_cases hc:a.block=c.block
  ·rw[if_pos hc]
   cases hk:w.heap[c.block]? with
   |none=>simp
   |some o=>cases o<;>simp
  ·rw[if_neg hc]
theorem xS.freeze (w:World) (cb n:Nat):xS (fun k _=>k=cb) w (w.freeze ⟨cb,n,none⟩ 1):=by
 have hb: ∀k,k≠cb->(w.freeze ⟨cb,n,none⟩ 1).heap[k]? =w.heap[k]?:=fun k hk=>by
  unfold World.freeze
  simp only[Nat.one_ne_zero,if_false,Array.getElem?_modify]
  rw[if_neg (fun h=>hk h.symm)]
 refine{os:=rfl,tape:=rfl,output:=rfl,size:=by simp[World.freeze],block:=fun k _ hr=>hb k (hr 0),cell:=fun k j _ _=>WD _ _ _ _,frozen:=fun k j _ hr=>?_}
 simp only[World.frozen?,hb k hr]
theorem alw {ι:aG} {I:aQ} {h:aa} {w:World} (H:HR ι I h w) {src e:TypeId} (hu:P.underlying src=some (.slice e)) (he8:P.underlying e=some (.int .u8))
 (id:Nat) {x v:AV} {cx:Value} (hx:VR ι I w x cx) {ρ:Env} {ox:aq} (bq:ox.ev ρ=x)
 {h':aa} (he:bR (.mark ox) ρ id h=some (v,h')):fo P ι I h w id v h' (convert src src cx):=by
 simp only[bR,bq] at he
 have UN:=hx
 cases hx<;>(try simp only[] at he)<;>try(cases he;done)
 rename_i b off len sz cb o room cap hb hlen bu
 cases jL:cellsOf h b with
 |none=>simp[jL] at he
 |some cs=>
  simp only[jL] at he
  split at he
  ·rename_i hle
   cases he
   have hg:=qP jL
   have hv:=VR.dQ H hg hb UN
   have avR:AV.dQ b cs (.rs b off len sz)= .vs (rowsOf cs off sz len) .ao:=by
    unfold AV.dQ;rw[if_pos rfl,if_pos hle]
   rw[avR] at hv
   have main: ∀w',xS (fun k _=>k=cb) w w'->(∀c,w'.cell? c=w.cell? c)->(convert src src (.slice (some ⟨cb,o+off,none⟩) len cap)).run P w= .ok (.slice (some ⟨cb,o+off,none⟩) len cap) w'->
    fo P ι I h w id (.vs (rowsOf cs off sz len) .ao) (h.set b none) (convert src src (.slice (some ⟨cb,o+off,none⟩) len cap)):=by
    intro w' W bt bW
    have H1:HR ι I (h.set b none) w':=H.agR W (Nat.le_refl _) (fun i y hi=>(iN hi).2)
     (fun i l' y k j hi dX hl hr=>(H.dm i b l' (.cells cb o room) y _ k j (iN dX).1 hi hb (iN dX).2 hg hl hr).elim)
     (fun k j hr=>H.bn b _ _ k j hb hg hr)
    have H2:=H1.Mg (J:=fun k j=>k=cb/\o<=j/\j<o+room) (fun k j ⟨h1,h2,h3⟩=>⟨by rw[h1];exact Nat.lt_of_lt_of_le (H.inside b _ hb) W.size,fun⟨i,l',y,hi,dX,hl⟩=>
     H.dm i b l' (.cells cb o room) y _ k j (iN dX).1 hi hb (iN dX).2 hg hl h1⟩)
    refine⟨_,w',ι,rN I cb o room,bW,hv.mono (fun _ _ h=>h) (fun _ _ h=>h) (fun k j _=>bt _),H2,?_⟩
    refine Ext.of0 W (fun k j _ hr=>⟨b,_,_,hb,hg,hr⟩) (fun _ _=>rfl) (fun _ _ h=>h) (Nat.le_refl _) (fun _ _ h=> .inl h) ?_ ?_ ?_
    ·rintro k j ⟨i,l',y,hi,dX,hl⟩
     exact .inl ⟨i,l',y,hi,(iN dX).2,hl⟩
    ·rintro k j (hk|⟨h1,_,_⟩)
     ·exact .inl hk
     ·exact .inr (.inl ⟨b,_,_,hb,hg,h1⟩)
    ·intro i _ hi
     have:i≠b:=fun he=>by rw[he,hb] at hi;cases hi
     simp[aa.set,this]
   cases hs:w.shape? cb with
   |none=>
    refine main w {os:=rfl,tape:=rfl,output:=rfl,size:=Nat.le_refl _,block:=fun _ _ _=>rfl,cell:=fun _ _ _ _=>rfl,frozen:=fun _ _ _ _=>rfl} (fun _=>rfl) ?_
    have AF:Sem.run P (Sem.shape cb Sem.pure) w= .ok (w.shape? cb) w:=rfl
    simp[convert,cL hu,cL he8,markStringish,shape,AF,hs,Result.andThen]
   |some q=>
    obtain⟨el,n⟩:=q
    refine main _ (xS.freeze w cb n) (fun _=>WD _ _ _ _) ?_
    have AF:Sem.run P (Sem.shape cb Sem.pure) w= .ok (w.shape? cb) w:=rfl
    have fb:Sem.run P (Sem.freeze ⟨cb,n,none⟩ 1 (Sem.pure ())) w= .ok () (w.freeze ⟨cb,n,none⟩ 1):=rfl
    simp[convert,cL hu,cL he8,markStringish,shape,freeze,AF,hs,fb,Result.andThen]
  ·cases he
end
end
section
open Go
structure RO where
 dst:Option Nat
 guard:Option (Nat×Bool)
 op:b7
 deriving Inhabited
structure Mode where
 pr:Bool
 refs:List Nat
section
variable (P:Program) (md:Mode)
def bk (pr:Bool):Operand->Option aq
 | .tmp t=>some (.tmp t)
 | .const v=>(B3 pr v).map .const
 | .func f=>some (.const (.fn f [] []))
 | .global _=>none
def mo (pr:Bool):List Operand->Option (List aq)
 |[]=>some []
 |x::xs=>match bk pr x,mo pr xs with
  |some a,some l=>some (a::l)
  |_,_=>none
def Aj (pr:Bool):Option Operand->Option (Option aq)
 |none=>some none
 |some x=>(bk pr x).map some
def np (t:TypeId):Option Nat:=(P.info? t).map (·.size)
def zeroOf (t:TypeId):Option (List AV):=
 match P.info? t with
 |some i=>match i.zero with
  |some z=>if i.size=z.cells.size then ui md.pr z.cells.toList else none
  |none=>none
 |none=>none
def B5 (sQ:List (Nat×Nat)):List (Nat×Operand)->Option (List (Nat×Nat×aq))
 |[]=>some []
 |(i,x)::ps=>match sQ[i]?,bk md.pr x,B5 sQ ps with
  |some (off,sz),some o,some l=>some ((off,sz,o)::l)
  |_,_,_=>none
def C5:List (Nat×Operand)->Option (List (Nat×aq))
 |[]=>some []
 |(i,x)::ps=>match bk md.pr x,C5 ps with
  |some o,some l=>some ((i,o)::l)
  |_,_=>none
def isRef (d:Option Nat):Bool:=match d with|some d=>md.refs.contains d|none=>false
def LX:Operand->Option Value
 | .const v=>match v with
   | .pointer none=>some v
   | .slice none 0 0=>some v
   | .nilFunc=>some v
   | .map none=>some v
   |_=>none
 |_=>none
def H8:BinOp->Option Bool
 | .eql=>some false
 | .neq=>some true
 |_=>none
def TQ (op:BinOp) (t:TypeId) (x y:Operand):Option bc:=do
 let d <-P.underlying t
 let a <-bk md.pr x
 match LX y with
 |some nv=>
  let kd <-BH d nv
  let neg <-H8 op
  some (.eZ kd neg a)
 |none=>
  let b <-bk md.pr y
  match d with
  | .bool=>some (.bin true op a b)
  | .int _| .float _| .complex _| .string=>some (.bin false op a b)
  | .struct fs=>
    let neg <-H8 op
    let os <-yN P fs.toList
    if P.stoodInHeld t=false/\P.eqGuardType P.depth t=false then some (.Ir neg os a b) else none
  |_=>none
def wg (dst:Option Nat) (b:Builtin) (args:List Operand) (ts:List TypeId):Option b7:=
 match b,args,ts with
 | .len,[x],[t]=>do
   let a <-bk md.pr x
   match<-P.underlying t with
   | .slice _=>some (.p (.gX a))
   | .string=>some (.p (.GY a))
   | .array n _=>some (.p (.JC n))
   |_=>none
 | .append,[x,y],[t,tx]=>do
   let a <-bk md.pr x
   let c <-bk md.pr y
   match<-P.underlying t,<-P.underlying tx with
   | .slice e, .slice e'=>
     let i <-P.info? e
     let z <-i.zero
     if e=e'/\z.cells.size=i.size/\i.size≠0 then
      some (.e (if isRef md dst then .jS i.bytes i.size a c else .append i.bytes i.size a c))
     else none
   |_,_=>none
 | .copy,[x,y],[t,tx]=>do
   let a <-bk md.pr x
   let c <-bk md.pr y
   match<-P.underlying t,<-P.underlying tx with
   | .slice e, .slice _=>some (.e (.copy (<-np P e) a c))
   |_,_=>none
 | .delete,[m,k],[t,_]=>do
   let a <-bk md.pr m
   let c <-bk md.pr k
   match<-P.underlying t with
   | .map key _=>
     match<-P.underlying key with
     | .int _=>some (.e (.sR a c))
     |_=>none
   |_=>none
 | .min,x::rest,_=>do some (.p (.kH false (<-bk md.pr x) (<-mo md.pr rest)))
 | .max,x::rest,_=>do some (.p (.kH true (<-bk md.pr x) (<-mo md.pr rest)))
 | .real,[x],_=>do some (.p (.part false (<-bk md.pr x)))
 | .imag,[x],_=>do some (.p (.part true (<-bk md.pr x)))
 |_,_,_=>none
def cj (f:Nat):Bool:=
 match P.funcs[f]? with
 |some fn=>fn.name != "runtime.NumGoroutine" &&fn.body.isSome
 |none=>false
def rO (dst:Option Nat) (op:Op):Option b7:=
 match op with
 | .move x| .assign x=>do some (.p (.aj (<-bk md.pr x)))
 | .pick c a b=>do some (.p (.pick (<-bk md.pr c) (<-bk md.pr a) (<-bk md.pr b)))
 | .alloc e=>do some (.a (.alloc (<-zeroOf P md e)))
 | .box _ x=>do some (.a (.box (<-bk md.pr x)))
 | .build t parts=>do
   let z <-zeroOf P md t
   match<-P.underlying t with
   | .struct fs=>
     let sQ <-fs.toList.mapM (fun f=>(P.info? f.type).map fun i=>(f.offset,i.size))
     some (.p (.build z (<-B5 md sQ parts.toList)))
   |_=>none
 | .buildSlice t n parts=>do
   match<-P.underlying t with
   | .slice e=>
     let z <-zeroOf P md e
     let ps <-C5 md parts.toList
     if z.length≠0/\n*z.length<=2^24 then
      some (if isRef md dst then .a (.BO n z ps) else .p (.da n z ps))
     else none
   |_=>none
 | .load t a=>do
   let d <-P.underlying t
   some (.p (.load d.isRow (<-np P t) (<-bk md.pr a)))
 | .store t a v=>do some (.e (.store (<-np P t) (<-bk md.pr a) (<-bk md.pr v)))
 | .nilCheck x=>do some (.p (.aF (<-bk md.pr x)))
 | .binOp op t x y _=>do some (.p (<-TQ P md op t x y))
 | .unOp op _ x=>do some (.p (.un op (<-bk md.pr x)))
 | .convert src dst x=>do
   let a <-bk md.pr x
   match<-P.underlying src,<-P.underlying dst with
   |_, .int k=>some (.p (.toInt k a))
   | .slice e, .string=>
     match<-P.underlying e with
     | .int .u8=>some (.p (.kF a))
     |_=>none
   | .string, .slice e=>
     match<-P.underlying e with
     | .int .u8=>some (.p (.Gp a))
     |_=>none
   | .slice e, .slice _=>
     match<-P.underlying e with
     | .int .u8=>if src=dst then some (.e (.mark a)) else none
     |_=>none
   |_,_=>none
 | .makeFunc (.func f) first captured=>do some (.p (.ka f (<-mo md.pr first.toList) (<-mo md.pr captured.toList)))
 | .makeMap _ none=>some (.a .uF)
 | .makeSlice t l c=>do
   match<-P.underlying t with
   | .slice e=>
     let z <-zeroOf P md e
     let i <-P.info? e
     if z.length≠0 then
      let a <-bk md.pr l
      let b <-bk md.pr c
      some (if isRef md dst then .a (.um z i.bytes a b) else .p (.wj z i.bytes a b))
     else none
   |_=>none
 | .slice t x lo hi mx=>do
   match<-P.underlying t with
   | .slice e=>some (.p (.cG (<-np P e) (<-bk md.pr x) (<-Aj md.pr lo) (<-Aj md.pr hi) (<-Aj md.pr mx)))
   |_=>none
 | .fieldAddr s x f=>do
   match<-P.underlying s with
   | .struct fs=>
     let fd <-fs[f]?
     let sz <-np P fd.type
     if sz≠0 then some (.p (.zH fd.offset (<-bk md.pr x))) else none
   |_=>none
 | .field s x f=>do
   match<-P.underlying s with
   | .struct fs=>
     let fd <-fs[f]?
     let d <-P.underlying fd.type
     some (.p (.KM d.isRow (<-np P fd.type) fd.offset (<-bk md.pr x)))
   |_=>none
 | .indexAddr t x i=>do
   match<-P.underlying t with
   | .slice e=>some (.p (.gU (<-np P e) (<-bk md.pr x) (<-bk md.pr i)))
   | .array n e=>some (.p (.BY (<-np P e) n (<-bk md.pr x) (<-bk md.pr i)))
   |_=>none
 | .index t x i=>do
   match<-P.underlying t with
   | .array n e=>
     let d <-P.underlying e
     some (.p (.JF d.isRow (<-np P e) n (<-bk md.pr x) (<-bk md.pr i)))
   |_=>none
 | .lookup t m k ok=>do
   match<-P.underlying t with
   | .map key e=>
     match<-P.underlying key with
     | .int _=>
       let i <-P.info? e
       let z <-i.zero
       some (.p (.lookup (<-B3 md.pr z) ok (<-bk md.pr m) (<-bk md.pr k)))
     |_=>none
   |_=>none
 | .mapUpdate t m k v=>do
   match<-P.underlying t with
   | .map key _=>
     match<-P.underlying key with
     | .int _=>some (.e (.qX (<-bk md.pr m) (<-bk md.pr k) (<-bk md.pr v)))
     |_=>none
   |_=>none
 | .extract x i=>do some (.p (.ext i (<-bk md.pr x)))
 | .call c=>do
   match c.callee with
   | .value (.func f)=>if cj P f then some (.call f (<-mo md.pr c.args.toList)) else none
   | .value x=>some (.dyn (<-bk md.pr x) (<-mo md.pr c.args.toList))
   | .builtin b=>wg P md dst b c.args.toList c.argTypes.toList
   |_=>none
 |_=>none
def cK (dst:Option Nat) (b:Builtin) (args:List Operand) (ts:List TypeId):Option b7:=
 match b,args,ts with
 | .append,[x,y],[t,tx]=>do
   let a <-bk md.pr x
   let c <-bk md.pr y
   match<-P.underlying t,<-P.underlying tx with
   | .slice e, .int _=>
     let za <-zeroOf P md e
     let i <-P.info? e
     if za.length≠0 then some (.e (.oA i.bytes za a c)) else none
   |_,_=>none
 | .cap,[x],[t]=>do
   let a <-bk md.pr x
   match<-P.underlying t with
   | .slice _=>some (.p (.ti a))
   |_=>none
 | .clear,[x],[t]=>do
   let a <-bk md.pr x
   match<-P.underlying t with
   | .slice e=>
     let za <-zeroOf P md e
     if za.length≠0 then some (.e (.oJ za a)) else none
   |_=>none
 | .copy,[x,y],[t,_]=>
   if isRef md dst then do
    let a <-bk md.pr x
    let c <-bk md.pr y
    match<-P.underlying t with
    | .slice e=>some (.e (.nf (<-np P e) a c))
    |_=>none
   else none
 |_,_,_=>none
def PG (f:Nat):Option TypeId:=
 match P.funcs[f]? with
 |some fn=>
  match fn.params.toList,fn.resultTypes.toList with
  |[t,_],[_]=>if fn.name != "runtime.NumGoroutine" &&fn.body.isNone&&fn.origin== "slices.overlaps" &&(Extern.allGenericRows.lookup fn.name).isNone&&(Extern.allTypedRows.lookup fn.name).isNone&&(Extern.allRows.lookup fn.name).isNone&&(Extern.allNextRows.lookup fn.name).isNone then some t else none
  |_,_=>none
 |none=>none
def cX (dst:Option Nat) (op:Op):Option b7:=
 match op with
 | .index t x i=>do
   match<-P.underlying t with
   | .string=>some (.p (.y6 (<-bk md.pr x) (<-bk md.pr i)))
   |_=>none
 | .range t x=>do
   match<-P.underlying t with
   | .map _ _=>some (.p (.JU (<-bk md.pr x)))
   |_=>none
 | .next x s=>if s then none else(bk md.pr x).map fun x=> .p (.ET x)
 | .entry x=>(bk md.pr x).map fun x=> .p (.sx x)
 | .call c=>
   match c.callee with
   | .value (.func f)=>
     match PG P f,c.args.toList with
     |some t,[x,y]=>do
      match<-P.underlying t with
      | .slice e=>some (.p (.pg (<-np P e) (<-bk md.pr x) (<-bk md.pr y)))
      |_=>none
     |_,_=>none
   | .builtin b=>cK P md dst b c.args.toList c.argTypes.toList
   |_=>none
 |_=>none
def sA (dst:Option Nat) (op:Op):Option b7:=
 match cX P md dst op with
 |some r=>some r
 |none=>match rO P md dst op with
  |some r=>some r
  |none=>some (.p .stuck)
end
inductive aW where
 |skip
 |af (ops:List RO)
 |aY (ops:List RO) (un:List (List Nat))
 |seq (a b:aW)
 |xy (a b:aW)
 |cond (c:aq) (t e:aW)
 |block (id:Nat) (c:aW)
 |loop (c:aW)
 |exit (id:Nat)
 |scope (c:aW)
 |inScope (body cur:aW)
 |label (l:Nat)
 |goto (l:Nat)
 |ret
 deriving Inhabited
inductive fI where
 |tmp (t:Nat)
 |cell (t:Nat) (ag:Bool) (sz:Nat)
 deriving Inhabited
structure az where
 code:aW
 ntmps:Nat
 results:List fI
 deriving Inhabited
end
section
open Go
def b7.cA:b7->Bool
 | .e _| .call _ _| .dyn _ _=>true
 |_=>false
def bc.reads:bc->Bool
 | .load _ _ _| .kF _| .lookup _ _ _ _| .pg _ _ _=>true
 |_=>false
def b7.reads:b7->Bool
 | .p o=>o.reads
 |_=>false
def gd:List Oper->List (List Nat)->List (List Nat)
 |[],acc=>acc
 |o::os,acc=>gd os (acc++[(o.after.toList.filter fun e=>Region.binds .any e).flatMap fun e=>e.on::acc.getD e.on []])
def aq.slot:aq->List Nat
 | .tmp t=>[t]
 | .const _=>[]
def BU:Option aq->List aq
 |some x=>[x]
 |none=>[]
def bc.dV:bc->List aq
 | .aj x| .load _ _ x| .aF x| .eZ _ _ x| .un _ x| .toInt _ x| .kF x| .Gp x| .zH _ x| .KM _ _ _ x| .ext _ x| .gX x| .GY x| .part _ x| .ti x| .JU x| .ET x| .sx x=>[x]
 | .pick c a b=>[c,a,b]
 | .build _ ps=>ps.map fun p=>p.2.2
 | .da _ _ ps=>ps.map fun p=>p.2
 | .bin _ _ x y| .Ir _ _ x y| .gU _ x y| .BY _ _ x y| .JF _ _ _ x y| .lookup _ _ x y| .wj _ _ x y| .y6 x y| .pg _ x y=>[x,y]
 | .cG _ x lo hi mx=>x::(BU lo++BU hi++BU mx)
 | .JC _| .stuck=>[]
 | .ka _ a b=>a++b
 | .kH _ x r=>x::r
def jN.dV:jN->List aq
 | .box x=>[x]
 | .alloc _| .uF=>[]
 | .um _ _ x y=>[x,y]
 | .BO _ _ ps=>ps.map fun p=>p.2
def gu.dV:gu->List aq
 | .store _ x y| .append _ _ x y| .jS _ _ x y| .copy _ x y| .sR x y| .oA _ _ x y| .nf _ x y=>[x,y]
 | .oJ _ x| .mark x=>[x]
 | .qX x y z=>[x,y,z]
def b7.dV:b7->List aq
 | .p o=>o.dV
 | .a o=>o.dV
 | .e o=>o.dV
 | .call _ as=>as
 | .dyn x as=>x::as
def RO.sW (o:RO):List Nat:=o.op.dV.flatMap aq.slot++(match o.guard with|some (g,_)=>[g]|none=>[])
def j9 (pl:List (List Nat)) (i j:Nat):Bool:=(pl.getD j []).contains i
def bc.pV:bc->Bool
 | .load _ _ (.const _)| .kF (.const _)| .lookup _ _ (.const _) _| .pg _ _ (.const _)=>false
 |_=>true
def b7.pV:b7->Bool
 | .p o=>o.pV
 |_=>true
def BW (acc:List Nat):List Edge->Nat
 |[]=>0
 |e::es=>(2^e.on|||acc.getD e.on 0)|||BW acc es
def qW:List Oper->List Nat->List Nat
 |[],acc=>acc
 |o::os,acc=>qW os (acc++[BW acc (o.after.toList.filter fun e=>Region.binds .any e)])
def zA (al:List RO) (ms:List Nat):List ((RO×Nat)×Nat):=(al.zip ms).zipIdx
def EM (ops:Array Oper) (al:List RO):Bool:=
 let ms:=qW ops.toList []
 let rs:=zA al ms
 (ms.length==al.length)&&
 (rs.all fun p=>rs.all fun q=>p.1.1.dst.isNone||p.1.1.dst !=q.1.1.dst||p.2==q.2)&&
 (ops.toList.zipIdx.all fun(o,i)=>o.after.toList.all fun e=>!Region.binds .any e||decide (e.on<i))&&
 (rs.all fun p=>p.1.1.sW.all fun t=>rs.all fun q=>p.2==q.2||q.1.1.dst !=some t||(if q.2<p.2 then p.1.2.testBit q.2 else q.1.2.testBit p.2))&&
 (rs.all fun p=>!p.1.1.op.cA||rs.all fun q=>!q.1.1.op.cA||!decide (q.2<p.2)||p.1.2.testBit q.2)&&
 (al.all fun o=>o.op.pV)
def xT (ops:Array Oper) (al:List RO):List (List Nat):=
 let rs:=zA al (qW ops.toList [])
 rs.map fun p=>if p.1.1.op.reads||p.1.1.op.cA then
  (rs.filter fun q=>decide (q.2<p.2)&&((p.1.1.op.reads&&q.1.1.op.cA)||(p.1.1.op.cA&&q.1.1.op.reads))&&!p.1.2.testBit q.2).map (·.2) else []
def MK (ops:Array Oper):Option (Nat×Bool)->Option (Option (Nat×Bool))
 |none=>some none
 |some (j,Aa)=>((ops[j]?).bind (·.dst)).map fun d=>some (d,Aa)
def acU (n:Nat):Option Nat->Bool
 |some d=>decide (d<n)
 |none=>true
section
variable (P:Program) (md:Mode)
def tX (n:Nat) (ops:Array Oper) (o:Oper):Option RO:=
 (sA P md o.dst o.op).bind fun op=>(MK ops o.guard).bind fun g=>if acU n o.dst then some {dst:=o.dst,guard:=g,op} else none
def tj (n:Nat) (ops:Array Oper):List Oper->Option (List RO)
 |[]=>some []
 |o::os=>match tX P md n ops o,tj n ops os with
  |some a,some l=>some (a::l)
  |_,_=>none
def aW.Ac:aW->Bool
 | .af al=>al.any fun o=>match o.op with| .p (.JU _)=>true|_=>false
 |_=>false
def d7 (n:Nat):Code->Option aW
 | .skip=>some .skip
 | .region _ ops false=>(tj P md n ops ops.toList).map .af
 | .region _ ops true=>do
   let al <-tj P md n ops ops.toList
   if EM ops al then some (.aY al (xT ops al)) else none
 | .seq a b=>do
   let x <-d7 n a
   let y <-d7 n b
   some (if x.Ac then .xy x y else .seq x y)
 | .cond c t e=>do some (.cond (<-bk md.pr c) (<-d7 n t) (<-d7 n e))
 | .block id c=>do some (.block id (<-d7 n c))
 | .loop c=>do some (.loop (<-d7 n c))
 | .exit id=>some (.exit id)
 | .scope c=>do some (.scope (<-d7 n c))
 | .label l=>some (.label l)
 | .goto l=>some (.goto l)
 | .ret=>some .ret
 |_=>none
def TP:ResultVar->Option fI
 | .tmp t=>some (.tmp t)
 | .cell t ty=>do
   let d <-P.underlying ty
   some (.cell t d.isRow (<-np P ty))
def yS:List ResultVar->Option (List fI)
 |[]=>some []
 |x::xs=>match TP P x,yS xs with
  |some a,some l=>some (a::l)
  |_,_=>none
def aC (fn:Func):Option az:=do
 let c <-fn.body
 let code <-d7 P md fn.ntmps c
 let rs <-yS P fn.results.toList
 some {code,ntmps:=fn.ntmps,results:=rs}
end
inductive aP where
 |normal
 |exit (id:Nat)
 |goto (l:Nat)
 |ret
 deriving DecidableEq,Inhabited
def put (ρ:Env) (d:Option Nat) (v:AV):Env:=
 match d with
 |some d=>fun i=>if i=d then v else ρ i
 |none=>ρ
def fZ:aW->Nat->Option aW
 | .seq a b,l=>
   match fZ a l with
   |some rest=>some (.seq rest b)
   |none=>fZ b l
 | .xy _ b,l=>fZ b l
 | .label l',l=>if l'==l then some .skip else none
 |_,_=>none
end
section
open Go
section
variable {P:Program} {md:Mode} {ι:aG} {I:aQ} {h:aa} {w:World}
structure AR (ι:aG) (I:aQ) (w:World) (n:Nat) (ρ:Env) (a:Act):Prop where
 defers:a.defers=[]
 size:a.tmps.size=n
 get: ∀t,VR ι I w (ρ t) (a.tmps.getD t Go.undef)
theorem AR.mono {n:Nat} {ρ:Env} {a:Act} (A:AR ι I w n ρ a) {ι':aG} {I':aQ} {w':World} (hm: ∀x v,VR ι I w x v->VR ι' I' w' x v):AR ι' I' w' n ρ a:=
 ⟨A.defers,A.size,fun t=>hm _ _ (A.get t)⟩
theorem Xc {pr:Bool} {v:Value} {x:AV} (hc:B3 pr v=some x):VR ι I w x v:=by
 unfold B3 at hc
 split at hc
 ·rename_i cs
  cases hq:ui pr cs.toList with
  |none=>simp[hq] at hc
  |some l=>
   simp[hq] at hc
   subst hc
   have:=qO (ι:=ι) (I:=I) (w:=w) hq
   have h2:=VR.agg (ι:=ι) (I:=I) (w:=w) l cs.toList this.1.1 this.1.2
   simpa using h2
 ·exact(WB hc).1
theorem bK {n:Nat} {ρ:Env} {a:Act} (A:AR ι I w n ρ a) {pr:Bool} {x:Operand} {o:aq} (hc:bk pr x=some o):OR ι I w ρ o (a.eval x):=by
 cases x with
 |tmp t=>simp[bk] at hc;subst hc;exact A.get t
 |const v=>
  simp only[bk] at hc
  cases hq:B3 pr v with
  |none=>simp[hq] at hc
  |some y=>simp[hq] at hc;subst hc;exact Xc hq
 |func f=>
  simp[bk] at hc;subst hc
  exact .fn f [] [] [] [] rfl rfl (fun i v c h=>by simp at h) (fun i v c h=>by simp at h)
 |global g=>simp[bk] at hc
theorem v9 {n:Nat} {ρ:Env} {a:Act} (A:AR ι I w n ρ a) {pr:Bool}: ∀{xs:List Operand} {os:List aq},mo pr xs=some os->LR ι I w (os.map (aq.ev ρ)) (xs.map a.eval)
 |[],os,hc=>by simp[mo] at hc;subst hc;exact LR.nil
 |x::xs,os,hc=>by
  simp only[mo] at hc
  split at hc
  ·rename_i o l h1 h2
   cases hc
   exact LR.cons (bK A h1) (v9 A h2)
  ·cases hc
theorem L6 {n:Nat} {ρ:Env} {a:Act} (A:AR ι I w n ρ a) {pr:Bool} {x:Option Operand} {o:Option aq} (hc:Aj pr x=some o):yz ι I w ρ o (x.map a.eval):=by
 cases x with
 |none=>simp[Aj] at hc;subst hc;trivial
 |some x=>
  simp only[Aj] at hc
  cases hq:bk pr x with
  |none=>simp[hq] at hc
  |some y=>simp[hq] at hc;subst hc;exact bK A hq
def NP (P:Program) (ι:aG) (I:aQ) (h:aa) (w:World) (v:AV) (s:Sem Next):Prop:=
 ∃c w' I',s.run P w= .ok (.value c) w'/\VR ι I' w' v c/\HR ι I' h w'/\Ext (fun _=>False) ι I h w ι I' h w'
theorem eK.next {v:AV} {s:Sem Value} (hs:eK P ι I h w v s):NP P ι I h w v (do pure (.value (<-s))):=by
 obtain⟨c,w',I',hr,hv,H,E⟩:=hs
 exact⟨c,w',I',by simp[hr],hv,H,E⟩
def NE (P:Program) (ι:aG) (I:aQ) (h:aa) (w:World) (id:Nat) (v:AV) (h':aa) (s:Sem Next):Prop:=
 ∃x c w' ι' I',s.run P w= .ok x w'/\(x= .value c\/(x= .skip/\v= .undef))/\VR ι' I' w' v c/\HR ι' I' h' w'/\Ext (· =id) ι I h w ι' I' h' w'
theorem fo.next {id:Nat} {v:AV} {h':aa} {s:Sem Value} (hs:fo P ι I h w id v h' s):NE P ι I h w id v h' (do pure (.value (<-s))):=by
 obtain⟨c,w',ι',I',hr,hv,H,E⟩:=hs
 exact⟨_,c,w',ι',I',by simp[hr], .inl rfl,hv,H,E⟩
theorem ud {t:TypeId} {za:List AV} (hz:zeroOf P md t=some za): ∃i z,P.info? t=some i/\i.zero=some z/\i.size=z.cells.size/\ui md.pr z.cells.toList=some za:=by
 unfold zeroOf at hz
 split at hz
 ·rename_i i hi
  split at hz
  ·rename_i z tH
   split at hz
   ·rename_i aO
    exact⟨i,z,hi,tH,aO,hz⟩
   ·cases hz
  ·cases hz
 ·cases hz
theorem Xd {n:Nat} {ρ:Env} {a:Act} (A:AR ι I w n ρ a) {sQ:List (Nat×Nat)}: ∀{ps:List (Nat×Operand)} {l:List (Nat×Nat×aq)},B5 md sQ ps=some l->
 l.length=ps.length/\ ∀(i off sz j:Nat) (x:aq) (c:Value),l[i]? =some (off,sz,x)->(ps.map fun p=>(p.1,a.eval p.2))[i]? =some (j,c)->sQ[j]? =some (off,sz)/\OR ι I w ρ x c
 |[],l,hc=>by simp[B5] at hc;subst hc;exact⟨rfl,fun i off sz j x c h=>by simp at h⟩
 |(k,y)::ps,l,hc=>by
  simp only[B5] at hc
  split at hc
  ·rename_i off sz o l' h1 h2 h3
   cases hc
   obtain⟨e1,e2⟩:=Xd A h3
   refine⟨by simp[e1],fun i au2 aN j x c hi hj=>?_⟩
   cases i with
   |zero=>
    simp at hi hj
    obtain⟨rfl,rfl,rfl⟩:=hi
    obtain⟨rfl,rfl⟩:=hj
    exact⟨h1,bK A h2⟩
   |succ i=>exact e2 i au2 aN j x c (by simpa using hi) (by simpa using hj)
  ·cases hc
theorem LJ {n:Nat} {ρ:Env} {a:Act} (A:AR ι I w n ρ a): ∀{ps:List (Nat×Operand)} {l:List (Nat×aq)},C5 md ps=some l->
 l.length=ps.length/\ ∀(i j k:Nat) (x:aq) (c:Value),l[i]? =some (j,x)->(ps.map fun p=>(p.1,a.eval p.2))[i]? =some (k,c)->j=k/\OR ι I w ρ x c
 |[],l,hc=>by simp[C5] at hc;subst hc;exact⟨rfl,fun i j k x c h=>by simp at h⟩
 |(m,y)::ps,l,hc=>by
  simp only[C5] at hc
  split at hc
  ·rename_i o l' h1 h2
   cases hc
   obtain⟨e1,e2⟩:=LJ A h2
   refine⟨by simp[e1],fun i j k x c hi hj=>?_⟩
   cases i with
   |zero=>
    simp at hi hj
    obtain⟨rfl,rfl⟩:=hi
    obtain⟨rfl,rfl⟩:=hj
    exact⟨rfl,bK A h1⟩
   |succ i=>exact e2 i j k x c (by simpa using hi) (by simpa using hj)
  ·cases hc
theorem ahJ {y:Operand} {nv:Value} (h:LX y=some nv):y= .const nv:=by
 unfold LX at h
 split at h
 ·split at h<;>first|(cases h;rfl)|(cases h)
 ·cases h
theorem Wz (op:BinOp) (t:TypeId) (x y:Operand) (a b:Value) (w:World) (hb:b≠ .nilIface/\ ∀cs,b≠ .agg cs):(eqGuard op t x y a b).run P w= .ok () w:=by
 cases op<;>first
  |rfl
  |(cases a<;>cases b<;>first|rfl|(exact(hb.1 rfl).elim)|(exact(hb.2 _ rfl).elim))
theorem al6 (H:HR ι I h w) {n:Nat} {ρ:Env} {a:Act} (A:AR ι I w n ρ a) {op:BinOp} {t:TypeId} {x y:Operand} {q:bc} {v:AV} (hc:TQ P md op t x y=some q) (hv:aX q ρ h=some v):
 NP P ι I h w v (do pure (.value (<-(do eqGuard op t x y (a.eval x) (a.eval y);binOp op t (a.eval x) (a.eval y))))):=by
 simp only[TQ,Option.bind_eq_bind,Option.bind_eq_some_iff] at hc
 obtain⟨d,hd,o,ho,hc⟩:=hc
 have x8:=bK A ho
 have fin: ∀{s:Sem Value},eK P ι I h w v s->(eqGuard op t x y (a.eval x) (a.eval y)).run P w= .ok () w->s=binOp op t (a.eval x) (a.eval y)->
  NP P ι I h w v (do pure (.value (<-(do eqGuard op t x y (a.eval x) (a.eval y);binOp op t (a.eval x) (a.eval y))))):=by
  intro s hs hg he
  obtain⟨c,w',I',hr,cT,H',E⟩:=hs
  rw[he] at hr
  exact⟨c,w',I',by simp[hg,hr],cT,H',E⟩
 split at hc
 ·rename_i nv hnv
  simp only[Option.bind_eq_some_iff] at hc
  obtain⟨kd,yf,neg,xC,hc⟩:=hc
  cases hc
  have hy:=ahJ hnv
  subst hy
  have bS:op=(if neg then .neq else .eql):=by
   unfold H8 at xC
   split at xC<;>cases xC<;>rfl
  have rK:nv≠ .nilIface/\ ∀cs,nv≠ .agg cs:=by
   unfold BH at yf
   split at yf<;>first|(cases yf;done)|exact⟨by simp,by simp⟩
  refine fin (akD (P:=P) H hd yf neg x8 hv) (Wz op t x (.const nv) (a.eval x) nv w rK) ?_
  rw[bS];rfl
 ·rename_i hnv
  simp only[Option.bind_eq_some_iff] at hc
  obtain⟨o2,sk,hc⟩:=hc
  have x6:=bK A sk
  have plain: ∀tb,(tb=true->P.underlying t=some .bool)->q= .bin tb op o o2->NP P ι I h w v (do pure (.value (<-(do eqGuard op t x y (a.eval x) (a.eval y);binOp op t (a.eval x) (a.eval y))))):=by
   intro tb E6 hq
   subst hq
   simp only[aX] at hv
   refine fin (ani (P:=P) H x8 x6 hv t E6) (Wz op t x y _ _ w ?_) rfl
   have:(o2.ev ρ)≠ .undef/\(∀cs,o2.ev ρ≠ .agg cs)/\(o2.ev ρ)≠ .fw:=by
    refine⟨?_,?_,?_⟩
    ·intro he;rw[he] at hv;cases ei:o.ev ρ<;>simp[cB,ei] at hv
    ·intro cs he;rw[he] at hv;cases ei:o.ev ρ<;>simp[cB,ei] at hv
    ·intro he;rw[he] at hv;cases ei:o.ev ρ<;>simp[cB,ei] at hv
   have x7:VR ι I w (o2.ev ρ) (a.eval y):=x6
   generalize o2.ev ρ=z at this x7
   generalize a.eval y=c at x7
   cases x7<;>first|(exact(this.1 rfl).elim)|(exact(this.2.1 _ rfl).elim)|(exact(this.2.2 rfl).elim)|(exact⟨by simp,by simp⟩)
  split at hc
  ·cases hc;exact plain true (fun _=>hd) rfl
  ·cases hc;exact plain false (fun h=>by cases h) rfl
  ·cases hc;exact plain false (fun h=>by cases h) rfl
  ·cases hc;exact plain false (fun h=>by cases h) rfl
  ·cases hc;exact plain false (fun h=>by cases h) rfl
  ·rename_i fs
   simp only[Option.bind_eq_some_iff] at hc
   obtain⟨neg,xC,os,jJ,hc⟩:=hc
   split at hc
   ·rename_i dB
    cases hc
    have bS:op=(if neg then .neq else .eql):=by
     unfold H8 at xC
     split at xC<;>cases xC<;>rfl
    simp only[aX] at hv
    have hs:=akE (P:=P) H hd dB.1 jJ neg x8 x6 hv
    refine fin hs ?_ (by rw[bS])
    have ao0: ∃cs bF,a.eval x= .agg cs/\a.eval y= .agg bF:=by
     have nI:VR ι I w (o.ev ρ) (a.eval x):=x8
     have x7:VR ι I w (o2.ev ρ) (a.eval y):=x6
     unfold BZ at hv
     split at hv
     ·rename_i xs ys e1 e2
      rw[e1] at nI
      rw[e2] at x7
      generalize a.eval x=c1 at nI
      generalize a.eval y=c2 at x7
      cases nI;cases x7
      exact⟨_,_,rfl,rfl⟩
     ·cases hv
    obtain⟨cs,bF,e1,e2⟩:=ao0
    rw[e1,e2]
    unfold eqGuard
    rw[bS]
    cases neg<;>simp[dB.2]
   ·cases hc
  ·cases hc
end
end
section
open Go
section
variable {P:Program} {md:Mode} {ι:aG} {I:aQ} {h:aa} {w:World}
theorem ajH (H:HR ι I h w) {n:Nat} {ρ:Env} {a:Act} (A:AR ι I w n ρ a) {dst:Option Nat} {b:Builtin} {args:Array Operand} {ts:Array TypeId} {ty:TypeId} {q:bc} {v:AV}
 (hc:wg P md dst b args.toList ts.toList=some (.p q)) (hv:aX q ρ h=some v) (cs:Array Bool):NP P ι I h w v (builtin b ts ty cs (args.map a.eval)):=by
 obtain⟨args⟩:=args
 obtain⟨ts⟩:=ts
 simp only[List.map_toArray] at*
 unfold wg at hc
 split at hc
 ·rename_i x t
  simp only[Option.bind_eq_bind,Option.bind_eq_some_iff] at hc
  obtain⟨o,ho,d,hd,hc⟩:=hc
  have x8:=bK A ho
  split at hc
  ·cases hc;simp only[aX] at hv;exact(alA (P:=P) H #[t] ty rfl hd x8 hv).next
  ·cases hc;simp only[aX] at hv;exact(ajl (P:=P) H #[t] ty rfl hd x8 hv).next
  ·cases hc
   simp only[aX] at hv
   cases hv
   exact(eK.same (P:=P) H (c:= .int .i64 _) (by simp[Builtin.len_,cL hd,goInt]) (.int _ _)).next
  ·cases hc
 ·simp only[Option.bind_eq_bind,Option.bind_eq_some_iff] at hc
  obtain⟨o,ho,o2,sk,d,hd,d2,vO,hc⟩:=hc
  split at hc
  ·simp only[Option.bind_eq_some_iff] at hc
   obtain⟨i,hi,z,hz,hc⟩:=hc
   split at hc
   ·split at hc<;>cases hc
   ·cases hc
  ·cases hc
 ·simp only[Option.bind_eq_bind,Option.bind_eq_some_iff] at hc
  obtain⟨o,ho,o2,sk,d,hd,d2,vO,hc⟩:=hc
  split at hc
  ·simp only[Option.bind_eq_some_iff] at hc
   obtain⟨sz,aO,hc⟩:=hc
   cases hc
  ·cases hc
 ·simp only[Option.bind_eq_bind,Option.bind_eq_some_iff] at hc
  obtain⟨o,ho,o2,sk,d,hd,hc⟩:=hc
  split at hc
  ·simp only[Option.bind_eq_some_iff] at hc
   obtain⟨dk,dt,hc⟩:=hc
   split at hc<;>cases hc
  ·cases hc
 ·rename_i x rest
  simp only[Option.bind_eq_bind,Option.bind_eq_some_iff] at hc
  obtain⟨o,ho,os,jJ,hc⟩:=hc
  cases hc
  have hl:=v9 A jJ
  obtain⟨c,hr,gr⟩:=Ld (P:=P) os (rest.map a.eval) _ _ _ (by have:=hl.1;simpa using this) (fun i y c h1 h2=>hl.2 i _ c (by rw[List.getElem?_map,h1];rfl) h2) (bK A ho) hv
  exact(eK.same (P:=P) (s:=Builtin.min_ _ ty _) H (by simp only[Builtin.min_,List.map_cons];exact hr) gr).next
 ·rename_i x rest
  simp only[Option.bind_eq_bind,Option.bind_eq_some_iff] at hc
  obtain⟨o,ho,os,jJ,hc⟩:=hc
  cases hc
  have hl:=v9 A jJ
  obtain⟨c,hr,gr⟩:=Ld (P:=P) os (rest.map a.eval) _ _ _ (by have:=hl.1;simpa using this) (fun i y c h1 h2=>hl.2 i _ c (by rw[List.getElem?_map,h1];rfl) h2) (bK A ho) hv
  exact(eK.same (P:=P) (s:=Builtin.max_ _ ty _) H (by simp only[Builtin.max_,List.map_cons];exact hr) gr).next
 ·rename_i x
  simp only[Option.bind_eq_bind,Option.bind_eq_some_iff] at hc
  obtain⟨o,ho,hc⟩:=hc
  cases hc
  exact(Yd (P:=P) H (im:=false) (bK A ho) ⟨ts⟩ ty hv).next
 ·rename_i x
  simp only[Option.bind_eq_bind,Option.bind_eq_some_iff] at hc
  obtain⟨o,ho,hc⟩:=hc
  cases hc
  exact(Yd (P:=P) H (im:=true) (bK A ho) ⟨ts⟩ ty hv).next
 ·cases hc
theorem apo (H:HR ι I h w) {n:Nat} {ρ:Env} {a:Act} (A:AR ι I w n ρ a) {o:Oper} {q:bc} {v:AV} (hc:rO P md o.dst o.op=some (.p q)) (hv:aX q ρ h=some v):
 NP P ι I h w v (execOp a.eval o):=by
 obtain⟨dst,op,ty,pos,after,guard⟩:=o
 simp only at hc
 unfold rO at hc
 split at hc
 case h_1 x=>
  simp only[Option.bind_eq_bind,Option.bind_eq_some_iff] at hc
  obtain⟨o,ho,hc⟩:=hc
  cases hc;cases hv
  exact⟨_,w,I,rfl,bK A ho,H, .refl _ _ _ _ _⟩
 case h_2 x=>
  simp only[Option.bind_eq_bind,Option.bind_eq_some_iff] at hc
  obtain⟨o,ho,hc⟩:=hc
  cases hc;cases hv
  exact⟨_,w,I,rfl,bK A ho,H, .refl _ _ _ _ _⟩
 case h_3 c x y=>
  simp only[Option.bind_eq_bind,Option.bind_eq_some_iff] at hc
  obtain⟨oc,Fa,ox,bq,oy,iI,hc⟩:=hc
  cases hc
  simp only[aX] at hv
  have gr:VR ι I w (oc.ev ρ) (a.eval c):=bK A Fa
  unfold H5 at hv
  split at hv
  ·rename_i t ht
   rw[ht] at gr
   cases hv
   generalize hec:a.eval c=cc at gr
   cases gr
   refine⟨if t then a.eval x else a.eval y,w,I,?_,?_,H, .refl _ _ _ _ _⟩
   ·simp[execOp,hec,asBool]
   ·cases t
    ·exact bK A iI
    ·exact bK A bq
  ·cases hv
 case h_4 e=>simp only[Option.bind_eq_bind,Option.bind_eq_some_iff] at hc;obtain⟨_,_,hc⟩:=hc;cases hc
 case h_5 e x=>simp only[Option.bind_eq_bind,Option.bind_eq_some_iff] at hc;obtain⟨_,_,hc⟩:=hc;cases hc
 case h_6 t parts=>
  simp only[Option.bind_eq_bind,Option.bind_eq_some_iff] at hc
  obtain⟨za,ed,d,hd,hc⟩:=hc
  split at hc
  ·rename_i fs
   simp only[Option.bind_eq_some_iff] at hc
   obtain⟨sQ,hp,ps,nM,hc⟩:=hc
   cases hc
   simp only[aX] at hv
   cases hf:jX ρ za ps with
   |none=>simp[hf] at hv
   |some r=>
    simp[hf] at hv
    subst hv
    obtain⟨i,z,hi,hz,aO,dp⟩:=ud ed
    obtain⟨e1,e2⟩:=Xd A nM
    refine(akL (P:=P) H (t:=t) (z:=z) (za:=za) (ps:=ps) (dE:=parts.map fun(p:Nat×Operand)=>(p.1,a.eval p.2)) (place:=(sQ.toArray[·]?)) ?_ (qO dp).1 (by simpa using e1) ?_ hf).next
    ·intro cells lp
     unfold Program.built
     simp only[hi,hd,hz,hp]
     exact lp
    ·intro i' off sz j x c h1 h2
     obtain⟨h3,h4⟩:=e2 i' off sz j x c h1 (by simpa using h2)
     exact⟨by simpa using h3,h4⟩
  ·cases hc
 case h_7 t n parts=>
  simp only[Option.bind_eq_bind,Option.bind_eq_some_iff] at hc
  obtain⟨d,hd,hc⟩:=hc
  split at hc
  ·rename_i e
   simp only[Option.bind_eq_some_iff] at hc
   obtain⟨za,ed,ps,nM,hc⟩:=hc
   split at hc
   ·rename_i fO
    split at hc
    ·cases hc
    ·cases hc
     simp only[aX] at hv
     cases hf:iA ρ za.length (List.replicate n za) ps with
     |none=>simp[hf] at hv
     |some rows=>
      simp[hf] at hv
      subst hv
      obtain⟨i,z,hi,hz,aO,dp⟩:=ud ed
      obtain⟨e1,e2⟩:=LJ A nM
      have dn:=qO (ι:=ι) (I:=I) (w:=w) dp
      have fy:za.length=i.size:=by rw[aO,dn.1.1];simp
      exact(ajJ (P:=P) H hd hi hz aO (by rw[<-fy];exact fO.2) dn.1 dn.2 fO.1 (dE:=parts.map fun(p:Nat×Operand)=>(p.1,a.eval p.2)) (by simpa using e1)
       (fun i' j k x c h1 h2=>e2 i' j k x c h1 (by simpa using h2)) hf).next
   ·cases hc
  ·cases hc
 case h_8 t x=>
  simp only[Option.bind_eq_bind,Option.bind_eq_some_iff] at hc
  obtain⟨d,hd,sz,aO,ox,bq,hc⟩:=hc
  cases hc
  exact(alz (P:=P) H hd aO (bK A bq) hv).next
 case h_9 t x y=>simp only[Option.bind_eq_bind,Option.bind_eq_some_iff] at hc;obtain⟨_,_,_,_,_,_,hc⟩:=hc;cases hc
 case h_10 x=>
  simp only[Option.bind_eq_bind,Option.bind_eq_some_iff] at hc
  obtain⟨ox,bq,hc⟩:=hc
  cases hc
  obtain⟨h1,h2,h3,h4,h5⟩:=ajb H (bK A bq) hv
  refine⟨a.eval x,w,I,?_,h5,H, .refl _ _ _ _ _⟩
  simp only[execOp]
  generalize a.eval x=c at h1 h2 h3 h4 ⊢
  rfl
 case h_11 op t x y _=>
  simp only[Option.bind_eq_bind,Option.bind_eq_some_iff] at hc
  obtain⟨q',tM,hc⟩:=hc
  cases hc
  exact al6 H A tM hv
 case h_12 op _ x=>
  simp only[Option.bind_eq_bind,Option.bind_eq_some_iff] at hc
  obtain⟨ox,bq,hc⟩:=hc
  cases hc
  exact(anj (P:=P) H (bK A bq) hv).next
 case h_13 src TJ x=>
  simp only[Option.bind_eq_bind,Option.bind_eq_some_iff] at hc
  obtain⟨ox,bq,ds,vN,dd,pt,hc⟩:=hc
  split at hc
  ·cases hc
   exact(aj0 (P:=P) H vN pt (bK A bq) hv).next
  ·simp only[Option.bind_eq_some_iff] at hc
   obtain⟨de,lY,hc⟩:=hc
   split at hc
   ·cases hc;exact(ah4 (P:=P) H vN lY pt (bK A bq) hv).next
   ·cases hc
  ·simp only[Option.bind_eq_some_iff] at hc
   obtain⟨de,lY,hc⟩:=hc
   split at hc
   ·cases hc;exact(ahO (P:=P) H vN pt lY (bK A bq) hv).next
   ·cases hc
  ·simp only[Option.bind_eq_some_iff] at hc
   obtain⟨de,lY,hc⟩:=hc
   split at hc
   ·split at hc<;>cases hc
   ·cases hc
  ·cases hc
 case h_14 f first captured=>
  simp only[Option.bind_eq_bind,Option.bind_eq_some_iff] at hc
  obtain⟨os,jJ,cs,eN,hc⟩:=hc
  cases hc;cases hv
  have h1:=v9 A jJ
  have h2:=v9 A eN
  refine⟨_,w,I,rfl,?_,H, .refl _ _ _ _ _⟩
  have:=VR.fn (ι:=ι) (I:=I) (w:=w) f _ _ _ _ h1.1 h2.1 h1.2 h2.2
  have e1:(first.toList.map a.eval).toArray=first.map a.eval:=by apply Array.ext';simp
  have e2:(captured.toList.map a.eval).toArray=captured.map a.eval:=by apply Array.ext';simp
  rw[e1,e2] at this
  exact this
 case h_15 t=>cases hc
 case h_16 t l c=>
  simp only[Option.bind_eq_bind,Option.bind_eq_some_iff] at hc
  obtain⟨d,hd,hc⟩:=hc
  split at hc
  ·rename_i e
   simp only[Option.bind_eq_some_iff] at hc
   obtain⟨za,ed,i,hi,hc⟩:=hc
   split at hc
   ·rename_i fO
    simp only[Option.bind_eq_some_iff] at hc
    obtain⟨ol,UY,oc,Fa,hc⟩:=hc
    split at hc
    ·cases hc
    ·cases hc
     simp only[aX] at hv
     cases hm:kG i.bytes (ol.ev ρ) (oc.ev ρ) with
     |none=>simp[hm] at hv
     |some k=>
      simp[hm] at hv
      subst hv
      obtain⟨i',z,aA,hz,aO,dp⟩:=ud ed
      rw[hi] at aA
      cases aA
      have dn:=qO (ι:=ι) (I:=I) (w:=w) dp
      exact(aio (P:=P) H hd hi hz aO rfl dn.1 dn.2 fO (bK A UY) (bK A Fa) hm).next
   ·cases hc
  ·cases hc
 case h_17 t x lo hi mx=>
  simp only[Option.bind_eq_bind,Option.bind_eq_some_iff] at hc
  obtain⟨d,hd,hc⟩:=hc
  split at hc
  ·rename_i e
   simp only[Option.bind_eq_some_iff] at hc
   obtain⟨sz,aO,ox,bq,olo,avD,ohi,avG,omx,avC,hc⟩:=hc
   cases hc
   exact(amp (P:=P) H hd aO (L6 A avD) (L6 A avG) (L6 A avC) (bK A bq) hv).next
  ·cases hc
 case h_18 s x f=>
  simp only[Option.bind_eq_bind,Option.bind_eq_some_iff] at hc
  obtain⟨d,hd,hc⟩:=hc
  split at hc
  ·simp only[Option.bind_eq_some_iff] at hc
   obtain⟨fd,Vc,sz,aO,hc⟩:=hc
   split at hc
   ·rename_i h0
    simp only[Option.bind_eq_some_iff] at hc
    obtain⟨ox,bq,hc⟩:=hc
    cases hc
    exact(akz (P:=P) H hd Vc aO h0 (bK A bq) hv).next
   ·cases hc
  ·cases hc
 case h_19 s x f=>
  simp only[Option.bind_eq_bind,Option.bind_eq_some_iff] at hc
  obtain⟨d,hd,hc⟩:=hc
  split at hc
  ·simp only[Option.bind_eq_some_iff] at hc
   obtain⟨fd,Vc,dd,pt,sz,aO,ox,bq,hc⟩:=hc
   cases hc
   exact(amK (P:=P) H hd Vc pt aO (bK A bq) hv).next
  ·cases hc
 case h_20 t x i=>
  simp only[Option.bind_eq_bind,Option.bind_eq_some_iff] at hc
  obtain⟨d,hd,hc⟩:=hc
  split at hc
  ·simp only[Option.bind_eq_some_iff] at hc
   obtain⟨sz,aO,ox,bq,oi,mF,hc⟩:=hc
   cases hc
   exact(ajt (P:=P) H hd aO (bK A bq) (bK A mF) hv).next
  ·simp only[Option.bind_eq_some_iff] at hc
   obtain⟨sz,aO,ox,bq,oi,mF,hc⟩:=hc
   cases hc
   exact(aju (P:=P) H hd aO (bK A bq) (bK A mF) hv).next
  ·cases hc
 case h_21 t x i=>
  simp only[Option.bind_eq_bind,Option.bind_eq_some_iff] at hc
  obtain⟨d,hd,hc⟩:=hc
  split at hc
  ·simp only[Option.bind_eq_some_iff] at hc
   obtain⟨dd,pt,sz,aO,ox,bq,oi,mF,hc⟩:=hc
   cases hc
   exact(alI (P:=P) H hd pt aO (bK A bq) (bK A mF) hv).next
  ·cases hc
 case h_22 t m k ok=>
  simp only[Option.bind_eq_bind,Option.bind_eq_some_iff] at hc
  obtain⟨d,hd,hc⟩:=hc
  split at hc
  ·simp only[Option.bind_eq_some_iff] at hc
   obtain⟨dk,dt,hc⟩:=hc
   split at hc
   ·simp only[Option.bind_eq_some_iff] at hc
    obtain⟨i,hi,z,hz,za,ed,om,cU,ok',avF,hc⟩:=hc
    cases hc
    exact(ajg (P:=P) H hd dt hi hz (Xc ed) ok (bK A cU) (bK A avF) hv).next
   ·cases hc
  ·cases hc
 case h_23 t m k x=>
  simp only[Option.bind_eq_bind,Option.bind_eq_some_iff] at hc
  obtain⟨d,hd,hc⟩:=hc
  split at hc
  ·simp only[Option.bind_eq_some_iff] at hc
   obtain⟨dk,dt,hc⟩:=hc
   split at hc
   ·simp only[Option.bind_eq_some_iff] at hc
    obtain⟨_,_,_,_,_,_,hc⟩:=hc
    cases hc
   ·cases hc
  ·cases hc
 case h_24 x i=>
  simp only[Option.bind_eq_bind,Option.bind_eq_some_iff] at hc
  obtain⟨ox,bq,hc⟩:=hc
  cases hc
  exact(amM (P:=P) H (bK A bq) hv).next
 case h_25 c=>
  split at hc
  ·split at hc
   ·simp only[Option.bind_eq_bind,Option.bind_eq_some_iff] at hc;obtain⟨_,_,hc⟩:=hc;cases hc
   ·cases hc
  ·simp only[Option.bind_eq_bind,Option.bind_eq_some_iff] at hc;obtain⟨_,_,_,_,hc⟩:=hc;cases hc
  ·rename_i b hb
   obtain⟨c1,v1,I1,hr,CX⟩:=ajH H A hc hv (c.args.map fun| .const _=>true|_=>false)
   refine⟨c1,v1,I1,?_,CX⟩
   simp only[execOp,resolve,hb,Sem.run_bind,Sem.run_pure,Result.andThen_ok,invoke]
   exact hr
  ·cases hc
 case h_26=>cases hc
theorem Gn {dst:Option Nat} {op:Op} {r:b7} (hc:sA P md dst op=some r):cX P md dst op=some r\/rO P md dst op=some r\/r= .p .stuck:=by
 unfold sA at hc
 split at hc
 ·rename_i r' h;cases hc;exact .inl h
 ·split at hc
  ·rename_i r' h;cases hc;exact .inr (.inl h)
  ·cases hc;exact .inr (.inr rfl)
theorem Gz {dst:Option Nat} {b:Builtin} {args:List Operand} {ts:List TypeId} {r:b7} (hc:cK P md dst b args ts=some r):
 (∃x y t tx a c e k za i,b= .append/\args=[x,y]/\ts=[t,tx]/\bk md.pr x=some a/\bk md.pr y=some c/\P.underlying t=some (.slice e)/\P.underlying tx=some (.int k)/\zeroOf P md e=some za/\P.info? e=some i/\za.length≠0/\r= .e (.oA i.bytes za a c))\/
 (∃x t a e,b= .cap/\args=[x]/\ts=[t]/\bk md.pr x=some a/\P.underlying t=some (.slice e)/\r= .p (.ti a))\/
 (∃x t a e za,b= .clear/\args=[x]/\ts=[t]/\bk md.pr x=some a/\P.underlying t=some (.slice e)/\zeroOf P md e=some za/\za.length≠0/\r= .e (.oJ za a))\/
 (∃x y t tx a c e sz,b= .copy/\args=[x,y]/\ts=[t,tx]/\bk md.pr x=some a/\bk md.pr y=some c/\P.underlying t=some (.slice e)/\np P e=some sz/\r= .e (.nf sz a c)):=by
 unfold cK at hc
 split at hc
 ·rename_i x y t tx
  simp only[Option.bind_eq_bind,Option.bind_eq_some_iff] at hc
  obtain⟨a,ha,c,iW,d,hd,d2,vO,hc⟩:=hc
  split at hc
  ·rename_i e k
   simp only[Option.bind_eq_some_iff] at hc
   obtain⟨za,ed,i,hi,hc⟩:=hc
   split at hc
   ·rename_i h0
    cases hc
    exact .inl ⟨x,y,t,tx,a,c,e,k,za,i,rfl,rfl,rfl,ha,iW,hd,vO,ed,hi,h0,rfl⟩
   ·cases hc
  ·cases hc
 ·rename_i x t
  simp only[Option.bind_eq_bind,Option.bind_eq_some_iff] at hc
  obtain⟨a,ha,d,hd,hc⟩:=hc
  split at hc
  ·rename_i e
   cases hc
   exact .inr (.inl ⟨x,t,a,e,rfl,rfl,rfl,ha,hd,rfl⟩)
  ·cases hc
 ·rename_i x t
  simp only[Option.bind_eq_bind,Option.bind_eq_some_iff] at hc
  obtain⟨a,ha,d,hd,hc⟩:=hc
  split at hc
  ·rename_i e
   simp only[Option.bind_eq_some_iff] at hc
   obtain⟨za,ed,hc⟩:=hc
   split at hc
   ·rename_i h0
    cases hc
    exact .inr (.inr (.inl ⟨x,t,a,e,za,rfl,rfl,rfl,ha,hd,ed,h0,rfl⟩))
   ·cases hc
  ·cases hc
 ·rename_i x y t tx
  split at hc
  ·simp only[Option.bind_eq_bind,Option.bind_eq_some_iff] at hc
   obtain⟨a,ha,c,iW,d,hd,hc⟩:=hc
   split at hc
   ·rename_i e
    simp only[Option.bind_eq_some_iff] at hc
    obtain⟨sz,aO,hc⟩:=hc
    cases hc
    exact .inr (.inr (.inr ⟨x,y,t,tx,a,c,e,sz,rfl,rfl,rfl,ha,iW,hd,aO,rfl⟩))
   ·cases hc
  ·cases hc
 ·cases hc
theorem aks {f:Nat} {t:TypeId} (hf:PG P f=some t) (args:Array Value) (w:World):
 ∃t2 rt,(callFunc f args).run P w=((Extern.SlicesOverlaps.overlaps #[t,t2] #[rt] args).run P w).andThen fun v w'=> .ok (.value v) w':=by
 unfold PG at hf
 split at hf
 ·rename_i fn iV
  split at hf
  ·rename_i t' t2 rt hp hr
   split at hf
   ·rename_i fO
    rw[Option.some.injEq] at hf
    subst hf
    simp only[Bool.and_eq_true,bne_iff_ne,ne_eq,beq_iff_eq,Option.isNone_iff_eq_none] at fO
    obtain⟨⟨⟨⟨⟨⟨h1,h2⟩,h3⟩,h4⟩,h5⟩,h6⟩,h7⟩:=fO
    have ep:fn.params= #[t',t2]:=by apply Array.ext';simpa using hp
    have er:fn.resultTypes= #[rt]:=by apply Array.ext';simpa using hr
    have g1:Extern.allGenericRows.lookup "slices.overlaps" =none:=by kernel_rfl
    have g2:Extern.allTypedRows.lookup "slices.overlaps" =some Extern.SlicesOverlaps.overlaps:=by kernel_rfl
    have g3:Extern.allNextRows.lookup "slices.overlaps" =none:=by kernel_rfl
    have e1:Extern.findNext fn=none:=by simp[Extern.findNext,h3,h7,g3]
    have e2:Extern.find fn=some (Extern.SlicesOverlaps.overlaps #[t',t2] #[rt]):=by simp[Extern.find,h3,h4,h5,h6,g1,g2,ep,er]
    exact⟨t2,rt,run_callFunc_extern iV (by simpa using h1) (by simp[h2]) e1 e2 args w⟩
   ·cases hf
  ·cases hf
 ·cases hf
theorem atb (H:HR ι I h w) {n:Nat} {ρ:Env} {a:Act} (A:AR ι I w n ρ a) {o:Oper} {q:bc} {v:AV} (hc:sA P md o.dst o.op=some (.p q)) (hv:aX q ρ h=some v):
 NP P ι I h w v (execOp a.eval o):=by
 replace hc:=Gn hc
 rcases hc with hc|hc|hc
 ·obtain⟨dst,op,ty,pos,after,guard⟩:=o
  simp only at hc
  unfold cX at hc
  split at hc
  ·rename_i t x i
   simp only[Option.bind_eq_bind,Option.bind_eq_some_iff] at hc
   obtain⟨d,hd,hc⟩:=hc
   split at hc
   ·simp only[Option.bind_eq_some_iff] at hc
    obtain⟨ox,bq,oi,mF,hc⟩:=hc
    cases hc
    exact(ajs (P:=P) H hd (bK A bq) (bK A mF) hv).next
   ·cases hc
  ·simp only[Option.bind_eq_bind,Option.bind_eq_some_iff] at hc
   obtain⟨d,hd,hc⟩:=hc
   split at hc
   ·simp only[Option.bind_eq_some_iff] at hc
    obtain⟨ox,bq,hc⟩:=hc
    cases hc
    simp only[aX] at hv
    cases hv
   ·cases hc
  ·split at hc
   ·cases hc
   ·simp only[Option.map_eq_some_iff] at hc
    obtain⟨ox,bq,hc⟩:=hc
    cases hc
    simp only[aX] at hv
    cases hv
  ·simp only[Option.map_eq_some_iff] at hc
   obtain⟨ox,bq,hc⟩:=hc
   cases hc
   simp only[aX] at hv
   cases hv
  ·rename_i c
   split at hc
   ·rename_i f hf
    split at hc
    ·rename_i t x y ht dZ
     simp only[Option.bind_eq_bind,Option.bind_eq_some_iff] at hc
     obtain⟨d,hd,hc⟩:=hc
     split at hc
     ·simp only[Option.bind_eq_some_iff] at hc
      obtain⟨sz,aO,ox,bq,oy,iI,hc⟩:=hc
      cases hc
      obtain⟨t2,rt,bW⟩:=aks (P:=P) ht #[a.eval x,a.eval y] w
      obtain⟨c1,w1,I1,hr,gr,H1,E1⟩:=amr (P:=P) (t2:=t2) (rt:=rt) H hd aO (bK A bq) (bK A iI) hv
      refine⟨c1,w1,I1,?_,gr,H1,E1⟩
      have ea:c.args= #[x,y]:=by apply Array.ext';simpa using dZ
      simp only[execOp,resolve,hf,Act.eval,Deferred.ofValue,Sem.run_bind,Sem.run_pure,Result.andThen_ok,invoke,ea]
      simp only[List.map_toArray,List.map_cons,List.map_nil]
      have:=bW
      rw[hr] at this
      simpa using this
     ·cases hc
    ·cases hc
   ·rename_i b hb
    rcases Gz hc with⟨_,_,_,_,_,_,_,_,_,_,_,_,_,_,_,_,_,_,_,_,h⟩|⟨x,t,o,e,rfl,dZ,qt,ho,ht,h⟩|⟨_,_,_,_,_,_,_,_,_,_,_,_,h⟩|⟨_,_,_,_,_,_,_,_,_,_,_,_,_,_,_,h⟩
    ·cases h
    ·cases h
     simp only[aX] at hv
     cases bu:vk (o.ev ρ) with
     |none=>simp[bu] at hv
     |some k=>
      simp[bu] at hv
      subst hv
      obtain⟨c1,w1,I1,hr,gr,H1,E1⟩:=am0 (P:=P) (ty:=ty) H ht (bK A ho) bu
      refine⟨c1,w1,I1,?_,gr,H1,E1⟩
      have ea:c.args= #[x]:=by apply Array.ext';simpa using dZ
      have et:c.argTypes= #[t]:=by apply Array.ext';simpa using qt
      simp only[execOp,resolve,hb,Sem.run_bind,Sem.run_pure,Result.andThen_ok,invoke,ea,et,List.map_toArray,List.map_cons,List.map_nil,builtin]
      simp[hr]
    ·cases h
    ·cases h
   ·cases hc
  ·cases hc
 ·exact apo H A hc hv
 ·cases hc;cases hv
end
end
section
open Go
section
variable {P:Program} {md:Mode} {ι:aG} {I:aQ} {h:aa} {w:World}
theorem apr (H:HR ι I h w) {n:Nat} {ρ:Env} {a:Act} (A:AR ι I w n ρ a) {o:Oper} {q:jN} {id:Nat} (aL:ι id=none) {b:cI} {v:AV} (hc:rO P md o.dst o.op=some (.a q)) (hv:gV q ρ id=some (b,v)):
 NE P ι I h w id v (h.at id b) (execOp a.eval o):=by
 obtain⟨dst,op,ty,pos,after,guard⟩:=o
 simp only at hc
 unfold rO at hc
 split at hc
 case h_4 e=>
  simp only[Option.bind_eq_bind,Option.bind_eq_some_iff] at hc
  obtain⟨za,ed,hc⟩:=hc
  cases hc
  simp only[gV,Option.some.injEq,Prod.mk.injEq] at hv
  obtain⟨rfl,rfl⟩:=hv
  obtain⟨i,z,hi,hz,aO,dp⟩:=ud ed
  have dn:=qO (ι:=ι) (I:=I) (w:=w) dp
  exact(akQ (P:=P) H aL hi hz dn.1 dn.2).next
 case h_5 e x=>
  simp only[Option.bind_eq_bind,Option.bind_eq_some_iff] at hc
  obtain⟨ox,bq,hc⟩:=hc
  cases hc
  simp only[gV] at hv
  split at hv
  ·rename_i gI
   simp only[Option.some.injEq,Prod.mk.injEq] at hv
   obtain⟨rfl,rfl⟩:=hv
   exact(ang (P:=P) H aL (bK A bq) gI e).next
  ·cases hv
 case h_7 t n parts=>
  simp only[Option.bind_eq_bind,Option.bind_eq_some_iff] at hc
  obtain⟨d,hd,hc⟩:=hc
  split at hc
  ·rename_i e
   simp only[Option.bind_eq_some_iff] at hc
   obtain⟨za,ed,ps,nM,hc⟩:=hc
   split at hc
   ·rename_i fO
    split at hc
    ·cases hc
     simp only[gV] at hv
     cases hf:iA ρ za.length (List.replicate n za) ps with
     |none=>simp[hf] at hv
     |some rows=>
      simp[hf] at hv
      obtain⟨rfl,rfl⟩:=hv
      obtain⟨i,z,hi,hz,aO,dp⟩:=ud ed
      obtain⟨e1,e2⟩:=LJ A nM
      have dn:=qO (ι:=ι) (I:=I) (w:=w) dp
      have fy:za.length=i.size:=by rw[aO,dn.1.1];simp
      exact(aiL (P:=P) H aL hd hi hz aO (by rw[<-fy];exact fO.2) dn.1 dn.2 fO.1 (dE:=parts.map fun(p:Nat×Operand)=>(p.1,a.eval p.2)) (by simpa using e1)
       (fun i' j k x c h1 h2=>e2 i' j k x c h1 (by simpa using h2)) hf).next
    ·cases hc
   ·cases hc
  ·cases hc
 case h_13 src TJ x=>
  simp only[Option.bind_eq_bind,Option.bind_eq_some_iff] at hc
  obtain⟨ox,bq,ds,vN,dd,pt,hc⟩:=hc
  split at hc
  ·cases hc
  ·simp only[Option.bind_eq_some_iff] at hc
   obtain⟨de,lY,hc⟩:=hc
   split at hc<;>cases hc
  ·simp only[Option.bind_eq_some_iff] at hc
   obtain⟨de,lY,hc⟩:=hc
   split at hc<;>cases hc
  ·simp only[Option.bind_eq_some_iff] at hc
   obtain⟨de,lY,hc⟩:=hc
   split at hc
   ·split at hc
    ·cases hc
    ·cases hc
   ·cases hc
  ·cases hc
 case h_15 t=>
  cases hc
  simp only[gV,Option.some.injEq,Prod.mk.injEq] at hv
  obtain⟨rfl,rfl⟩:=hv
  exact(akh (P:=P) H aL t).next
 case h_16 t l c=>
  simp only[Option.bind_eq_bind,Option.bind_eq_some_iff] at hc
  obtain⟨d,hd,hc⟩:=hc
  split at hc
  ·rename_i e
   simp only[Option.bind_eq_some_iff] at hc
   obtain⟨za,ed,i,hi,hc⟩:=hc
   split at hc
   ·rename_i fO
    simp only[Option.bind_eq_some_iff] at hc
    obtain⟨ol,UY,oc,Fa,hc⟩:=hc
    split at hc
    ·cases hc
     simp only[gV] at hv
     cases hm:kG i.bytes (ol.ev ρ) (oc.ev ρ) with
     |none=>simp[hm] at hv
     |some k=>
      simp[hm] at hv
      obtain⟨rfl,rfl⟩:=hv
      obtain⟨i',z,aA,hz,aO,dp⟩:=ud ed
      rw[hi] at aA
      cases aA
      have dn:=qO (ι:=ι) (I:=I) (w:=w) dp
      exact(ahU (P:=P) H aL hd hi hz aO rfl dn.1 dn.2 fO (bK A UY) (bK A Fa) hm).next
    ·cases hc
   ·cases hc
  ·cases hc
 case h_25 c=>
  split at hc
  ·split at hc
   ·simp only[Option.bind_eq_bind,Option.bind_eq_some_iff] at hc;obtain⟨_,_,hc⟩:=hc;cases hc
   ·cases hc
  ·simp only[Option.bind_eq_bind,Option.bind_eq_some_iff] at hc;obtain⟨_,_,_,_,hc⟩:=hc;cases hc
  ·rename_i b' hb
   unfold wg at hc
   split at hc<;>try simp only[Option.bind_eq_bind,Option.bind_eq_some_iff] at hc
   ·obtain⟨_,_,_,_,hc⟩:=hc;split at hc<;>cases hc
   ·obtain⟨_,_,_,_,_,_,_,_,hc⟩:=hc
    split at hc
    ·simp only[Option.bind_eq_some_iff] at hc
     obtain⟨_,_,_,_,hc⟩:=hc
     split at hc
     ·split at hc<;>cases hc
     ·cases hc
    ·cases hc
   ·obtain⟨_,_,_,_,_,_,_,_,hc⟩:=hc
    split at hc
    ·simp only[Option.bind_eq_some_iff] at hc;obtain⟨_,_,hc⟩:=hc;cases hc
    ·cases hc
   ·obtain⟨_,_,_,_,_,_,hc⟩:=hc
    split at hc
    ·simp only[Option.bind_eq_some_iff] at hc;obtain⟨_,_,hc⟩:=hc;split at hc<;>cases hc
    ·cases hc
   ·obtain⟨_,_,_,_,hc⟩:=hc;cases hc
   ·obtain⟨_,_,_,_,hc⟩:=hc;cases hc
   ·obtain⟨_,_,hc⟩:=hc;cases hc
   ·obtain⟨_,_,hc⟩:=hc;cases hc
   ·cases hc
  ·cases hc
 all_goals (first
  |(cases hc;done)
  |(simp only[Option.bind_eq_bind,Option.bind_eq_some_iff] at hc
    first
    |(obtain⟨_,_,hc⟩:=hc;cases hc;done)
    |(obtain⟨_,_,_,_,hc⟩:=hc;cases hc;done)
    |(obtain⟨_,_,_,_,_,_,hc⟩:=hc;cases hc;done)
    |(obtain⟨_,_,hc⟩:=hc
      split at hc<;>first
       |(cases hc;done)
       |(simp only[Option.bind_eq_some_iff] at hc
         first
         |(obtain⟨_,_,_,_,_,_,hc⟩:=hc;cases hc;done)
         |(obtain⟨_,_,_,_,_,_,_,_,hc⟩:=hc;cases hc;done)
         |(obtain⟨_,_,_,_,_,_,_,_,_,_,hc⟩:=hc;cases hc;done)
         |(obtain⟨_,_,_,_,hc⟩:=hc;cases hc;done)
         |(obtain⟨_,_,_,_,hc⟩:=hc
           split at hc
           ·simp only[Option.bind_eq_some_iff] at hc;obtain⟨_,_,hc⟩:=hc;cases hc
           ·cases hc)
         |(obtain⟨_,_,hc⟩:=hc
           split at hc<;>first
            |(cases hc;done)
            |(simp only[Option.bind_eq_some_iff] at hc
              first
              |(obtain⟨_,_,_,_,_,_,_,_,_,_,hc⟩:=hc;cases hc;done)
              |(obtain⟨_,_,_,_,_,_,hc⟩:=hc;cases hc;done)))))
    |(obtain⟨_,_,_,_,_,_,hc⟩:=hc
      split at hc<;>first
       |(cases hc;done)
       |(simp only[Option.bind_eq_some_iff] at hc
         obtain⟨_,_,hc⟩:=hc
         split at hc<;>cases hc))
    |(obtain⟨_,_,_,_,hc⟩:=hc
      split at hc
      ·simp only[Option.bind_eq_some_iff] at hc;obtain⟨_,_,_,_,hc⟩:=hc;cases hc
      ·cases hc)))
theorem akI {ρ:Env} {sz id:Nat} {x y:aq} {v:AV} {h h':aa} (hv:bR (.copy sz x y) ρ id h=some (v,h')): ∃u,cQ sz h (y.ev ρ)=some u:=by
 simp only[bR] at hv
 split at hv
 ·split at hv
  ·rename_i ys cs h1 h2;exact⟨ys,h1⟩
  ·cases hv
 ·split at hv
  ·rename_i ys h1;exact⟨ys,h1⟩
  ·cases hv
 ·split at hv
  ·rename_i ys h1;exact⟨ys,h1⟩
  ·cases hv
 ·cases hv
theorem ajI (H:HR ι I h w) {n:Nat} {ρ:Env} {a:Act} (A:AR ι I w n ρ a) {dst:Option Nat} {b:Builtin} {args:Array Operand} {ts:Array TypeId} {ty:TypeId} {q:gu} {id:Nat} (aL:ι id=none) {v:AV} {h':aa}
 (hc:wg P md dst b args.toList ts.toList=some (.e q)) (hv:bR q ρ id h=some (v,h')) (cs:Array Bool):NE P ι I h w id v h' (builtin b ts ty cs (args.map a.eval)):=by
 obtain⟨args⟩:=args
 obtain⟨ts⟩:=ts
 simp only[List.map_toArray] at*
 unfold wg at hc
 split at hc<;>try simp only[Option.bind_eq_bind,Option.bind_eq_some_iff] at hc
 ·obtain⟨_,_,_,_,hc⟩:=hc;split at hc<;>cases hc
 ·rename_i x y t tx
  obtain⟨ox,bq,oy,iI,d,hd,d2,vO,hc⟩:=hc
  split at hc
  ·rename_i e e'
   simp only[Option.bind_eq_some_iff] at hc
   obtain⟨i,hi,z,hz,hc⟩:=hc
   split at hc
   ·rename_i fO
    obtain⟨rfl,sd,h0⟩:=fO
    have T:tw P t tx e i.size i.bytes:=⟨hd,vO,⟨i,z,hi,hz,rfl,rfl,sd⟩,h0⟩
    split at hc
    ·cases hc
     exact(aiP (P:=P) H aL T (bK A bq) (bK A iI) rfl rfl hv).next
    ·cases hc
     exact(ajL (P:=P) H aL T (bK A bq) (bK A iI) rfl rfl hv).next
   ·cases hc
  ·cases hc
 ·rename_i x y t tx
  obtain⟨ox,bq,oy,iI,d,hd,d2,vO,hc⟩:=hc
  split at hc
  ·rename_i e e'
   simp only[Option.bind_eq_some_iff] at hc
   obtain⟨sz,aO,hc⟩:=hc
   cases hc
   have x6:VR ι I w (oy.ev ρ) (a.eval y):=bK A iI
   have qv:(∃u,cQ sz h (oy.ev ρ)=some u)-> ∃p q r,a.eval y= .slice p q r:=by
    rintro⟨u,hu⟩
    obtain⟨p,q,r,hq,_⟩:=wa H x6 hu
    exact⟨_,_,_,hq⟩
   exact(al2 (P:=P) H hd aO id (bK A bq) x6 rfl rfl hv ⟨_,vO⟩ (qv (akI hv))).next
  ·cases hc
 ·rename_i m k t tx
  obtain⟨om,cU,ok,ba,d,hd,hc⟩:=hc
  split at hc
  ·simp only[Option.bind_eq_some_iff] at hc
   obtain⟨dk,dt,hc⟩:=hc
   split at hc
   ·cases hc
    exact(aje (P:=P) H id hd dt (bK A cU) (bK A ba) rfl rfl hv).next
   ·cases hc
  ·cases hc
 ·obtain⟨_,_,_,_,hc⟩:=hc;cases hc
 ·obtain⟨_,_,_,_,hc⟩:=hc;cases hc
 ·obtain⟨_,_,hc⟩:=hc;cases hc
 ·obtain⟨_,_,hc⟩:=hc;cases hc
 ·cases hc
theorem apq (H:HR ι I h w) {n:Nat} {ρ:Env} {a:Act} (A:AR ι I w n ρ a) {o:Oper} {q:gu} {id:Nat} (aL:ι id=none) {v:AV} {h':aa} (hc:rO P md o.dst o.op=some (.e q)) (hv:bR q ρ id h=some (v,h')):
 NE P ι I h w id v h' (execOp a.eval o):=by
 obtain⟨dst,op,ty,pos,after,guard⟩:=o
 simp only at hc
 unfold rO at hc
 split at hc
 case h_7 t n parts=>
  simp only[Option.bind_eq_bind,Option.bind_eq_some_iff] at hc
  obtain⟨d,hd,hc⟩:=hc
  split at hc
  ·simp only[Option.bind_eq_some_iff] at hc
   obtain⟨_,_,_,_,hc⟩:=hc
   split at hc
   ·split at hc<;>cases hc
   ·cases hc
  ·cases hc
 case h_9 t x y=>
  simp only[Option.bind_eq_bind,Option.bind_eq_some_iff] at hc
  obtain⟨sz,aO,ox,bq,oy,iI,hc⟩:=hc
  cases hc
  obtain⟨rfl,w',hr,H',E⟩:=aj5 (P:=P) H aO (bK A bq) (bK A iI) hv
  exact⟨_, .bool true,w',ι,I,by simp[execOp,hr], .inr ⟨rfl,rfl⟩, .undef _,H',E.mono (fun _ h=>h.elim)⟩
 case h_13 src TJ x=>
  simp only[Option.bind_eq_bind,Option.bind_eq_some_iff] at hc
  obtain⟨ox,bq,ds,vN,dd,pt,hc⟩:=hc
  split at hc
  ·cases hc
  ·simp only[Option.bind_eq_some_iff] at hc
   obtain⟨de,lY,hc⟩:=hc
   split at hc<;>cases hc
  ·simp only[Option.bind_eq_some_iff] at hc
   obtain⟨de,lY,hc⟩:=hc
   split at hc<;>cases hc
  ·simp only[Option.bind_eq_some_iff] at hc
   obtain⟨de,lY,hc⟩:=hc
   split at hc
   ·split at hc
    ·rename_i US
     cases hc
     subst US
     exact(alw (P:=P) H vN lY id (bK A bq) rfl hv).next
    ·cases hc
   ·cases hc
  ·cases hc
 case h_16 t l c=>
  simp only[Option.bind_eq_bind,Option.bind_eq_some_iff] at hc
  obtain⟨d,hd,hc⟩:=hc
  split at hc
  ·simp only[Option.bind_eq_some_iff] at hc
   obtain⟨_,_,_,_,hc⟩:=hc
   split at hc
   ·simp only[Option.bind_eq_some_iff] at hc
    obtain⟨_,_,_,_,hc⟩:=hc
    split at hc<;>cases hc
   ·cases hc
  ·cases hc
 case h_23 t m k x=>
  simp only[Option.bind_eq_bind,Option.bind_eq_some_iff] at hc
  obtain⟨d,hd,hc⟩:=hc
  split at hc
  ·simp only[Option.bind_eq_some_iff] at hc
   obtain⟨dk,dt,hc⟩:=hc
   split at hc
   ·simp only[Option.bind_eq_some_iff] at hc
    obtain⟨om,cU,ok,ba,ov,tP,hc⟩:=hc
    cases hc
    obtain⟨rfl,w',hr,H',E⟩:=ajd (P:=P) H id hd dt (bK A cU) (bK A ba) (bK A tP) rfl rfl rfl hv
    exact⟨_, .bool true,w',ι,I,by simp[execOp,hr], .inr ⟨rfl,rfl⟩, .undef _,H',E.mono (fun _ h=>h.elim)⟩
   ·cases hc
  ·cases hc
 case h_25 c=>
  split at hc
  ·split at hc
   ·simp only[Option.bind_eq_bind,Option.bind_eq_some_iff] at hc;obtain⟨_,_,hc⟩:=hc;cases hc
   ·cases hc
  ·simp only[Option.bind_eq_bind,Option.bind_eq_some_iff] at hc;obtain⟨_,_,_,_,hc⟩:=hc;cases hc
  ·rename_i b hb
   obtain⟨x1,c1,w1,ι1,I1,hr,CX⟩:=ajI H A (ty:=ty) aL hc hv (c.args.map fun| .const _=>true|_=>false)
   refine⟨x1,c1,w1,ι1,I1,?_,CX⟩
   simp only[execOp,resolve,hb,Sem.run_bind,Sem.run_pure,Result.andThen_ok,invoke]
   exact hr
  ·cases hc
 all_goals (first
  |(cases hc;done)
  |(simp only[Option.bind_eq_bind,Option.bind_eq_some_iff] at hc
    first
    |(obtain⟨_,_,hc⟩:=hc;cases hc;done)
    |(obtain⟨_,_,_,_,hc⟩:=hc;cases hc;done)
    |(obtain⟨_,_,_,_,_,_,hc⟩:=hc;cases hc;done)
    |(obtain⟨_,_,hc⟩:=hc
      split at hc<;>first
       |(cases hc;done)
       |(simp only[Option.bind_eq_some_iff] at hc
         first
         |(obtain⟨_,_,_,_,_,_,hc⟩:=hc;cases hc;done)
         |(obtain⟨_,_,_,_,_,_,_,_,hc⟩:=hc;cases hc;done)
         |(obtain⟨_,_,_,_,_,_,_,_,_,_,hc⟩:=hc;cases hc;done)
         |(obtain⟨_,_,_,_,hc⟩:=hc;cases hc;done)
         |(obtain⟨_,_,_,_,hc⟩:=hc
           split at hc
           ·simp only[Option.bind_eq_some_iff] at hc;obtain⟨_,_,hc⟩:=hc;cases hc
           ·cases hc)
         |(obtain⟨_,_,hc⟩:=hc
           split at hc<;>first
            |(cases hc;done)
            |(simp only[Option.bind_eq_some_iff] at hc
              first
              |(obtain⟨_,_,_,_,_,_,_,_,_,_,hc⟩:=hc;cases hc;done)
              |(obtain⟨_,_,_,_,_,_,hc⟩:=hc;cases hc;done)))))
    |(obtain⟨_,_,_,_,_,_,hc⟩:=hc
      split at hc<;>first
       |(cases hc;done)
       |(simp only[Option.bind_eq_some_iff] at hc
         obtain⟨_,_,hc⟩:=hc
         split at hc<;>cases hc))
    |(obtain⟨_,_,_,_,hc⟩:=hc
      split at hc
      ·simp only[Option.bind_eq_some_iff] at hc;obtain⟨_,_,_,_,hc⟩:=hc;cases hc
      ·cases hc)))
theorem L4 {dst:Option Nat} {op:Op} {r:b7} (hc:cX P md dst op=some r):
 (∃q,r= .p q)\/ ∃c b,op= .call c/\c.callee= .builtin b/\cK P md dst b c.args.toList c.argTypes.toList=some r:=by
 unfold cX at hc
 split at hc
 ·simp only[Option.bind_eq_bind,Option.bind_eq_some_iff] at hc
  obtain⟨d,hd,hc⟩:=hc
  split at hc
  ·simp only[Option.bind_eq_some_iff] at hc
   obtain⟨ox,bq,oi,mF,hc⟩:=hc
   cases hc
   exact .inl ⟨_,rfl⟩
  ·cases hc
 ·simp only[Option.bind_eq_bind,Option.bind_eq_some_iff] at hc
  obtain⟨d,hd,hc⟩:=hc
  split at hc
  ·simp only[Option.bind_eq_some_iff] at hc
   obtain⟨ox,bq,hc⟩:=hc
   cases hc
   exact .inl ⟨_,rfl⟩
  ·cases hc
 ·split at hc
  ·cases hc
  ·simp only[Option.map_eq_some_iff] at hc
   obtain⟨ox,bq,hc⟩:=hc
   cases hc
   exact .inl ⟨_,rfl⟩
 ·simp only[Option.map_eq_some_iff] at hc
  obtain⟨ox,bq,hc⟩:=hc
  cases hc
  exact .inl ⟨_,rfl⟩
 ·rename_i c
  split at hc
  ·split at hc
   ·simp only[Option.bind_eq_bind,Option.bind_eq_some_iff] at hc
    obtain⟨d,hd,hc⟩:=hc
    split at hc
    ·simp only[Option.bind_eq_some_iff] at hc
     obtain⟨_,_,_,_,_,_,hc⟩:=hc
     cases hc
     exact .inl ⟨_,rfl⟩
    ·cases hc
   ·cases hc
  ·rename_i b hb
   exact .inr ⟨c,b,rfl,hb,hc⟩
  ·cases hc
 ·cases hc
theorem atd (H:HR ι I h w) {n:Nat} {ρ:Env} {a:Act} (A:AR ι I w n ρ a) {o:Oper} {q:jN} {id:Nat} (aL:ι id=none) {b:cI} {v:AV} (hc:sA P md o.dst o.op=some (.a q)) (hv:gV q ρ id=some (b,v)):
 NE P ι I h w id v (h.at id b) (execOp a.eval o):=by
 rcases Gn hc with h1|h1|h1
 ·rcases L4 h1 with⟨q,h⟩|⟨c,b',-,-,hk⟩
  ·cases h
  ·rcases Gz hk with⟨_,_,_,_,_,_,_,_,_,_,_,_,_,_,_,_,_,_,_,_,h⟩|⟨_,_,_,_,_,_,_,_,_,h⟩|⟨_,_,_,_,_,_,_,_,_,_,_,_,h⟩|⟨_,_,_,_,_,_,_,_,_,_,_,_,_,_,_,h⟩<;>cases h
 ·exact apr H A aL h1 hv
 ·cases h1
theorem atc (H:HR ι I h w) {n:Nat} {ρ:Env} {a:Act} (A:AR ι I w n ρ a) {o:Oper} {q:gu} {id:Nat} (aL:ι id=none) {v:AV} {h':aa} (hc:sA P md o.dst o.op=some (.e q)) (hv:bR q ρ id h=some (v,h')):
 NE P ι I h w id v h' (execOp a.eval o):=by
 rcases Gn hc with h1|h1|h1
 ·rcases L4 h1 with⟨q,h⟩|⟨c,b',bS,hb,hk⟩
  ·cases h
  ·obtain⟨dst,op,ty,pos,after,guard⟩:=o
   simp only at bS
   subst bS
   have key:NE P ι I h w id v h' (builtin b' c.argTypes ty (c.args.map fun| .const _=>true|_=>false) (c.args.map a.eval)):=by
    rcases Gz hk with⟨x,y,t,tx,ox,oy,e,k,za,i,rfl,dZ,qt,bq,iI,ht,tK,ed,hi,h0,h⟩|⟨_,_,_,_,_,_,_,_,_,h⟩|⟨x,t,ox,e,za,rfl,dZ,qt,bq,ht,ed,h0,h⟩|⟨x,y,t,tx,ox,oy,e,sz,rfl,dZ,qt,bq,iI,ht,aO,h⟩
    ·cases h
     have ea:c.args= #[x,y]:=by apply Array.ext';simpa using dZ
     have et:c.argTypes= #[t,tx]:=by apply Array.ext';simpa using qt
     obtain⟨i',z,aA,hz,aO,dp⟩:=ud ed
     rw[hi] at aA
     cases aA
     have dn:=qO (ι:=ι) (I:=I) (w:=w) dp
     have:=(aiO (P:=P) (ty:=ty) H aL ht tK hi hz aO dn.1 dn.2 h0 (bK A bq) (bK A iI) rfl rfl hv).next
     rw[ea,et]
     simpa [builtin] using this
    ·cases h
    ·cases h
     have ea:c.args= #[x]:=by apply Array.ext';simpa using dZ
     have et:c.argTypes= #[t]:=by apply Array.ext';simpa using qt
     obtain⟨i,z,hi,hz,aO,dp⟩:=ud ed
     have dn:=qO (ι:=ι) (I:=I) (w:=w) dp
     have:=(ajC (P:=P) (ty:=ty) H ht hi hz dn.1 dn.2 h0 id (bK A bq) rfl hv).next
     rw[ea,et]
     simpa [builtin] using this
    ·cases h
     have ea:c.args= #[x,y]:=by apply Array.ext';simpa using dZ
     have et:c.argTypes= #[t,tx]:=by apply Array.ext';simpa using qt
     have:=(akJ (P:=P) (ty:=ty) (tx:=tx) H ht aO id (bK A bq) (bK A iI) rfl rfl hv).next
     rw[ea,et]
     simpa [builtin] using this
   obtain⟨x1,c1,w1,ι1,I1,hr,CX⟩:=key
   refine⟨x1,c1,w1,ι1,I1,?_,CX⟩
   simp only[execOp,resolve,hb,Sem.run_bind,Sem.run_pure,Result.andThen_ok,invoke]
   exact hr
 ·exact apq H A aL h1 hv
 ·cases h1
end
end
end Go.Proofs.YtljapedlkdfafaaGreat.Am
