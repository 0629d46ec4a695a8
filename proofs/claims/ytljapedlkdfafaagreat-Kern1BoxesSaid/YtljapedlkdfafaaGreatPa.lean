/- An abstract machine, and that what it does the program's model does. Conditions: none. -/
import Derived.Orders
import Derived.Laws.Sem
import Derived.Laws.World
import Derived.Laws.Cells
import Derived.Laws.Rows
import Derived.Below
import Derived.Deep.MidRow
import Derived.Deep.AppendSrc
import Derived.Laws.MakeOwn
import Derived.Great.BuildSlice
import Derived.Laws.Small
import Derived.Laws.StructEq
import Derived.Deep.Upon
import Derived.Lib.AppendZerosOnto
import Derived.Lib.Overlaps
import Derived.Scope
import Derived.LoopN
import Derived.ProofKit
import Derived.WideKeyArgs
import Derived.Handed
set_option maxRecDepth 100000
set_option maxHeartbeats 8000000
set_option linter.unusedSimpArgs false
set_option linter.unusedVariables false
set_option linter.unnecessarySimpa false
namespace Go.Proofs.YtljapedlkdfafaaGreat.Am
section
open Go
inductive aG where
 |ao
 |full
 |own (t:Nat)
 deriving DecidableEq,Repr,Inhabited
inductive AV where
 |undef
 |int (k:IntKind) (n:Int)
 |bool (b:Bool)
 |fU (k:FloatKind) (b:Nat)
 |fX (k:FloatKind) (re im:Nat)
 |str (s:ByteArray)
 |nil
 |ptr (b off:Nat)
 |vp (xs:List AV) (off:Nat)
 |vs (xs:List (List AV)) (t:aG)
 |bA
 |rs (b off len sz:Nat)
 |rk (b off len sz cap:Nat)
 |vz
 |map (b:Option Nat)
 |fn (f:Nat) (first ed:List AV)
 |jk
 |agg (cs:List AV)
 |ay (vs:List AV)
 |fD
 deriving Inhabited
def AV.cells:AV->List AV
 | .agg cs=>cs
 |v=>[v]
def AV.one:AV->Bool
 | .agg _=>false
 | .ay _=>false
 | .undef=>false
 |_=>true
inductive cF where
 |cells (cs:List AV)
 |map (es:List (AV×AV))
 |tail
 deriving Inhabited
structure aa where
 get:Nat->Option cF
 next:Nat
def aa.set (h:aa) (b:Nat) (x:Option cF):aa:={h with get:=fun i=>if i=b then x else h.get i}
def aa.new (h:aa) (x:cF):aa:={get:=fun i=>if i=h.next then some x else h.get i,next:=h.next+1}
def aa.empty:aa:={get:=fun _=>none,next:=0}
inductive Loc where
 |cells (cb o room:Nat)
 |map (cb:Nat)
 |tail (cb lo hi:Nat)
def Loc.has:Loc->Nat->Nat->Prop
 | .cells c _ _,k,_=>k=c
 | .map c,k,_=>k=c
 | .tail c lo hi,k,j=>k=c/\lo<=j/\j<hi
def Loc.block:Loc->Nat
 | .cells c _ _=>c
 | .map c=>c
 | .tail c _ _=>c
abbrev aF:=Nat->Option Loc
abbrev aP:=Nat->Nat->Prop
def Pv (ι:aF) (cb o s len cap:Nat):aG->Prop
 | .ao=>True
 | .full=>cap=len
 | .own t=>0<len/\ι t=some (.tail cb (o+len*s) (o+cap*s))
inductive VR (ι:aF) (I:aP) (w:World):AV->Value->Prop
 |undef (v:Value):VR ι I w .undef v
 |int (k:IntKind) (n:Int):VR ι I w (.int k n) (.int k n)
 |bool (b:Bool):VR ι I w (.bool b) (.bool b)
 |fU (k:FloatKind) (b:Nat):VR ι I w (.fU k b) (.float k b)
 |fX (k:FloatKind) (re im:Nat):VR ι I w (.fX k re im) (.complex k re im)
 |str (s:ByteArray):VR ι I w (.str s) (.string s)
 |nil:VR ι I w .nil (.pointer none)
 |ptr (b off cb o room:Nat) (h:ι b=some (.cells cb o room)):VR ι I w (.ptr b off) (.pointer (some ⟨cb,o+off,none⟩))
 |vp (xs:List AV) (off cb o:Nat) (g:Nat->Value)
   (hI: ∀j,j<xs.length->I cb (o+j)) (hc: ∀j,j<xs.length->w.cell? ⟨cb,o+j,none⟩=some (g j))
   (hv: ∀(j:Nat) (v:AV),xs[j]? =some v->VR ι I w v (g j)) (h1: ∀v∈xs,v.one=true):VR ι I w (.vp xs off) (.pointer (some ⟨cb,o+off,none⟩))
 |vs (xs:List (List AV)) (t:aG) (cb o s cap:Nat) (g:Nat->Nat->Value)
   (hs: ∀(i:Nat) (row:List AV),xs[i]? =some row->row.length=s)
   (hI: ∀i j,i<xs.length->j<s->I cb (o+i*s+j))
   (hc: ∀i j,i<xs.length->j<s->w.cell? ⟨cb,o+i*s+j,none⟩=some (g i j))
   (hv: ∀(i:Nat) (row:List AV) (j:Nat) (v:AV),xs[i]? =some row->row[j]? =some v->VR ι I w v (g i j))
   (h1: ∀row∈xs,∀v∈row,AV.one v=true)
   (bw:xs.length<=cap) (ht:Pv ι cb o s xs.length cap t):
   VR ι I w (.vs xs t) (.slice (some ⟨cb,o,none⟩) xs.length cap)
 |gr (t:aG) (ht:t= .ao\/t= .full):VR ι I w (.vs [] t) (.slice none 0 0)
 |gi (t:aG) (a:Addr) (cap:Nat) (ht:t= .ao\/(t= .full/\cap=0)):VR ι I w (.vs [] t) (.slice (some a) 0 cap)
 |bA:VR ι I w .bA (.slice none 0 0)
 |rs (b off len sz cb o room cap:Nat) (h:ι b=some (.cells cb o room)) (hlen:len<=cap) (bw:off+cap*sz<=room):
   VR ι I w (.rs b off len sz) (.slice (some ⟨cb,o+off,none⟩) len cap)
 |rk (b off len sz cap cb o room:Nat) (h:ι b=some (.cells cb o room)) (hlen:len<=cap) (bw:off+cap*sz<=room):
   VR ι I w (.rk b off len sz cap) (.slice (some ⟨cb,o+off,none⟩) len cap)
 |vz (a:Addr) (cap:Nat):VR ι I w .vz (.slice (some a) 0 cap)
 |pO:VR ι I w (.map none) (.map none)
 |map (b cb:Nat) (h:ι b=some (.map cb)):VR ι I w (.map (some b)) (.map (some cb))
 |fn (f:Nat) (fs cs:List AV) (eI bF:List Value) (hf:fs.length=eI.length) (hc:cs.length=bF.length)
   (Kq: ∀(i:Nat) (v:AV) (c:Value),fs[i]? =some v->eI[i]? =some c->VR ι I w v c)
   (gl: ∀(i:Nat) (v:AV) (c:Value),cs[i]? =some v->bF[i]? =some c->VR ι I w v c):
   VR ι I w (.fn f fs cs) (.func (.func f) eI.toArray bF.toArray)
 |jk:VR ι I w .jk .nilFunc
 |agg (cs:List AV) (bF:List Value) (hl:cs.length=bF.length) (hv: ∀(i:Nat) (v:AV) (c:Value),cs[i]? =some v->bF[i]? =some c->VR ι I w v c):
   VR ι I w (.agg cs) (.agg bF.toArray)
 |ay (cs:List AV) (bF:List Value) (hl:cs.length=bF.length) (hv: ∀(i:Nat) (v:AV) (c:Value),cs[i]? =some v->bF[i]? =some c->VR ι I w v c):
   VR ι I w (.ay cs) (.tuple bF.toArray)
 |fD (v:Value) (h:v.oneCell'=true):VR ι I w .fD v
def eM (ι:aF) (h:aa) (k j:Nat):Prop:= ∃b l x,ι b=some l/\h.get b=some x/\l.has k j
def m6 (es:Array MapEntry) (clock:Nat):Prop:=(∀e∈es.toList,e.born<clock)/\(es.toList.map (·.born)).Nodup
structure HR (ι:aF) (I:aP) (h:aa) (w:World):Prop where
 cE: ∀b l,ι b=some l->b<h.next
 inside: ∀b l,ι b=some l->l.block<w.heap.size
 cells: ∀b cs l,h.get b=some (.cells cs)->ι b=some l-> ∃cb o room,l= .cells cb o room/\cs.length<=room/\(∀v∈cs,v.one=true)/\
  (∀j,j<room-> ∃c,w.cell? ⟨cb,o+j,none⟩=some c/\w.frozen? ⟨cb,o+j,none⟩=false/\ ∀v,cs[j]? =some v->VR ι I w v c)
 maps: ∀b es l,h.get b=some (.map es)->ι b=some l-> ∃cb aV clock,l= .map cb/\w.heap[cb]? =some (.map aV clock)/\(es.length=aV.size/\m6 aV clock)/\
  (∀(i:Nat) (k v:AV) (e:MapEntry),es[i]? =some (k,v)->aV[i]? =some e->VR ι I w k e.key/\VR ι I w v e.val)
 fo: ∀b l,h.get b=some .tail->ι b=some l-> ∃cb lo hi,l= .tail cb lo hi/\
  ∀j,lo<=j->j<hi-> ∃c,w.cell? ⟨cb,j,none⟩=some c/\w.frozen? ⟨cb,j,none⟩=false
 dz: ∀b b' l l' x x' k j,b≠b'->ι b=some l->ι b'=some l'->h.get b=some x->h.get b'=some x'->l.has k j->l'.has k j->False
 bB: ∀b l x k j,ι b=some l->h.get b=some x->l.has k j-> ¬I k j
 dn: ∀k j,I k j->k<w.heap.size
 pl: ∀b cs cb o room,h.get b=some (.cells cs)->ι b=some (.cells cb o room)-> ∀n,w.frozen? ⟨cb,n,none⟩=false
structure Ext (N:Nat->Prop) (ι:aF) (I:aP) (h:aa) (w:World) (ι':aF) (I':aP) (h':aa) (w':World):Prop where
 eZ: ∀b,¬N b->ι' b=ι b
 bN: ∀b l,ι b=some l->ι' b=some l
 next:h.next<=h'.next
 bB: ∀k j,I k j->I' k j
 os:w'.os=w.os
 tape:w'.tape=w.tape
 output:w'.output=w.output
 size:w.heap.size<=w'.heap.size
 block: ∀k,k<w.heap.size->(∀j,¬eM ι h k j)->w'.heap[k]? =w.heap[k]?
 cell: ∀k j,k<w.heap.size-> ¬eM ι h k j->w'.cell? ⟨k,j,none⟩=w.cell? ⟨k,j,none⟩
 frozen: ∀k j,k<w.heap.size-> ¬eM ι h k j->w'.frozen? ⟨k,j,none⟩=w.frozen? ⟨k,j,none⟩
 own: ∀k j,eM ι' h' k j->eM ι h k j\/w.heap.size<=k
 gw: ∀k j,I' k j->I k j\/eM ι h k j\/w.heap.size<=k
 lost: ∀b,¬N b->ι b=none->h'.get b=h.get b
theorem VR.mono {ι ι':aF} {I I':aP} {w w':World} (hι: ∀b l,ι b=some l->ι' b=some l) (hI: ∀k j,I k j->I' k j)
 (hw: ∀k j,I k j->w'.cell? ⟨k,j,none⟩=w.cell? ⟨k,j,none⟩) {a:AV} {v:Value} (h:VR ι I w a v):VR ι' I' w' a v:=by
 induction h with
 |undef v=>exact .undef v
 |int k n=>exact .int k n
 |bool b=>exact .bool b
 |fU k b=>exact .fU k b
 |fX k a b=>exact .fX k a b
 |str s=>exact .str s
 |nil=>exact .nil
 |ptr b off cb o room h=>exact .ptr b off cb o room (hι _ _ h)
 |vp xs off cb o g h1 h2 _ c7 ih=>exact .vp xs off cb o g (fun j hj=>hI _ _ (h1 j hj)) (fun j hj=>by rw[hw _ _ (h1 j hj)];exact h2 j hj) ih c7
 |vs xs t cb o s cap g hs h1 h2 _ c7 bw ht ih=>
  refine .vs xs t cb o s cap g hs (fun i j hi hj=>hI _ _ (h1 i j hi hj)) (fun i j hi hj=>by rw[hw _ _ (h1 i j hi hj)];exact h2 i j hi hj) ih c7 bw ?_
  cases t with
  |ao=>trivial
  |full=>exact ht
  |own t=>exact⟨ht.1,hι _ _ ht.2⟩
 |gr t ht=>exact .gr t ht
 |gi t a cap ht=>exact .gi t a cap ht
 |bA=>exact .bA
 |rs b off len sz cb o room cap h h1 h2=>exact .rs b off len sz cb o room cap (hι _ _ h) h1 h2
 |rk b off len sz cap cb o room h h1 h2=>exact .rk b off len sz cap cb o room (hι _ _ h) h1 h2
 |vz a cap=>exact .vz a cap
 |pO=>exact .pO
 |map b cb h=>exact .map b cb (hι _ _ h)
 |fn f fs cs eI bF hf hc _ _ fQ jI=>exact .fn f fs cs eI bF hf hc fQ jI
 |jk=>exact .jk
 |agg cs bF hl _ ih=>exact .agg cs bF hl ih
 |ay cs bF hl _ ih=>exact .ay cs bF hl ih
 |fD v h=>exact .fD v h
theorem VR.one {ι:aF} {I:aP} {w:World} {a:AV} {v:Value} (h:VR ι I w a v) (h1:a.one=true):v.oneCell'=true:=by
 cases h<;>first|rfl|assumption|(simp[AV.one] at h1)
mutual
def AV.strip:AV->AV
 | .vs xs _=> .vs (AV.fZ xs) .ao
 | .agg xs=> .agg (AV.bH xs)
 | .ay xs=> .ay (AV.bH xs)
 |v=>v
def AV.bH:List AV->List AV
 |[]=>[]
 |x::xs=>x.strip::AV.bH xs
def AV.fZ:List (List AV)->List (List AV)
 |[]=>[]
 |x::xs=>AV.bH x::AV.fZ xs
end
theorem Bl: ∀{l:List AV},(AV.bH l).length=l.length
 |[]=>rfl
 |x::xs=>by simp[AV.bH,Bl (l:=xs)]
theorem Bh: ∀{l:List (List AV)},(AV.fZ l).length=l.length
 |[]=>rfl
 |x::xs=>by simp[AV.fZ,Bh (l:=xs)]
theorem yB: ∀{l:List AV} {i:Nat} {v:AV},(AV.bH l)[i]? =some v-> ∃u,l[i]? =some u/\v=u.strip
 |[],i,v,h=>by simp[AV.bH] at h
 |x::xs,i,v,h=>by
  cases i with
  |zero=>simp[AV.bH] at h;exact⟨x,rfl,h.symm⟩
  |succ i=>obtain⟨u,h1,h2⟩:=yB (l:=xs) (i:=i) (by simpa [AV.bH] using h);exact⟨u,by simpa using h1,h2⟩
theorem FT: ∀{l:List (List AV)} {i:Nat} {v:List AV},(AV.fZ l)[i]? =some v-> ∃u,l[i]? =some u/\v=AV.bH u
 |[],i,v,h=>by simp[AV.fZ] at h
 |x::xs,i,v,h=>by
  cases i with
  |zero=>simp[AV.fZ] at h;exact⟨x,rfl,h.symm⟩
  |succ i=>obtain⟨u,h1,h2⟩:=FT (l:=xs) (i:=i) (by simpa [AV.fZ] using h);exact⟨u,by simpa using h1,h2⟩
theorem AV.ajW {v:AV}:v.strip.one=v.one:=by cases v<;>simp[AV.strip,AV.one]
theorem VR.strip {ι:aF} {I:aP} {w:World} {a:AV} {v:Value} (h:VR ι I w a v):VR ι I w a.strip v:=by
 induction h with
 |vs xs t cb o s cap g hs hI hc hv h1 bw ht ih=>
  have:=VR.vs (ι:=ι) (I:=I) (w:=w) (AV.fZ xs) .ao cb o s cap g
   (fun i row hi=>by obtain⟨u,e1,rfl⟩:=FT hi;rw[Bl];exact hs i u e1)
   (fun i j hi hj=>hI i j (by rwa [Bh] at hi) hj)
   (fun i j hi hj=>hc i j (by rwa [Bh] at hi) hj)
   (fun i row j v hi hj=>by
     obtain⟨u,e1,rfl⟩:=FT hi
     obtain⟨x,e2,rfl⟩:=yB hj
     exact ih i u j x e1 e2)
   (fun row hr v cV=>by
     obtain⟨i,hi⟩:=List.mem_iff_getElem?.1 hr
     obtain⟨u,e1,rfl⟩:=FT hi
     obtain⟨j,hj⟩:=List.mem_iff_getElem?.1 cV
     obtain⟨x,e2,rfl⟩:=yB hj
     rw[AV.ajW]
     exact h1 u (List.mem_of_getElem? e1) x (List.mem_of_getElem? e2))
   (by rw[Bh];exact bw) trivial
  rw[Bh] at this
  exact this
 |gr t ht=>exact .gr _ (.inl rfl)
 |gi t a cap ht=>exact .gi _ _ _ (.inl rfl)
 |agg cs bF hl hv ih=>exact .agg _ _ (by rw[Bl];exact hl) (fun i v c h1 h2=>by obtain⟨u,e1,rfl⟩:=yB h1;exact ih i u c e1 h2)
 |ay cs bF hl hv ih=>exact .ay _ _ (by rw[Bl];exact hl) (fun i v c h1 h2=>by obtain⟨u,e1,rfl⟩:=yB h1;exact ih i u c e1 h2)
 |undef v=>exact .undef v
 |int k n=>exact .int k n
 |bool b=>exact .bool b
 |fU k b=>exact .fU k b
 |fX k a b=>exact .fX k a b
 |str s=>exact .str s
 |nil=>exact .nil
 |ptr b off cb o room h=>exact .ptr b off cb o room h
 |vp xs off cb o g hI hc hv h1 ih=>exact .vp xs off cb o g hI hc hv h1
 |bA=>exact .bA
 |rs b off len sz cb o room cap h h1 h2=>exact .rs b off len sz cb o room cap h h1 h2
 |rk b off len sz cap cb o room h h1 h2=>exact .rk b off len sz cap cb o room h h1 h2
 |vz a cap=>exact .vz a cap
 |pO=>exact .pO
 |map b cb h=>exact .map b cb h
 |fn f fs cs eI bF hf hc h1 h2 fQ jI=>exact .fn f fs cs eI bF hf hc h1 h2
 |jk=>exact .jk
 |fD v h=>exact .fD v h
theorem HR.ali {ι:aF} {I:aP} {h:aa} {w:World} (H:HR ι I h w) {k j:Nat} (hI:I k j): ¬eM ι h k j:=
 fun⟨_,l,_,hb,hg,hl⟩=>H.bB _ l _ k j hb hg hl hI
theorem Ext.vr {N:Nat->Prop} {ι ι':aF} {I I':aP} {h h':aa} {w w':World} (E:Ext N ι I h w ι' I' h' w') (H:HR ι I h w) {a:AV} {v:Value}
 (hv:VR ι I w a v):VR ι' I' w' a v:=
 hv.mono E.bN E.bB fun k j hI=>E.cell k j (H.dn k j hI) (H.ali hI)
theorem Ext.refl (N:Nat->Prop) (ι:aF) (I:aP) (h:aa) (w:World):Ext N ι I h w ι I h w where
 eZ _ _:=rfl
 bN _ _ h:=h
 next:=Nat.le_refl _
 bB _ _ h:=h
 os:=rfl
 tape:=rfl
 output:=rfl
 size:=Nat.le_refl _
 block _ _ _:=rfl
 cell _ _ _ _:=rfl
 frozen _ _ _ _:=rfl
 own _ _ h:= .inl h
 gw _ _ h:= .inl h
 lost _ _ _:=rfl
theorem Ext.trans {N N':Nat->Prop} {ι₁ ι₂ ι₃:aF} {I₁ I₂ I₃:aP} {h₁ h₂ h₃:aa} {w₁ w₂ w₃:World}
 (E:Ext N ι₁ I₁ h₁ w₁ ι₂ I₂ h₂ w₂) (F:Ext N' ι₂ I₂ h₂ w₂ ι₃ I₃ h₃ w₃) (hN: ∀b,N' b->N b):Ext N ι₁ I₁ h₁ w₁ ι₃ I₃ h₃ w₃ where
 eZ b hb:=(F.eZ b (fun h=>hb (hN b h))).trans (E.eZ b hb)
 bN b l h:=F.bN b l (E.bN b l h)
 next:=Nat.le_trans E.next F.next
 bB k j h:=F.bB k j (E.bB k j h)
 os:=F.os.trans E.os
 tape:=F.tape.trans E.tape
 output:=F.output.trans E.output
 size:=Nat.le_trans E.size F.size
 block k hk ho:=by
  rw[F.block k (Nat.lt_of_lt_of_le hk E.size) (fun j hj=>(E.own k j hj).elim (ho j) (fun h=>by omega)),E.block k hk ho]
 cell k j hk ho:=by
  rw[F.cell k j (Nat.lt_of_lt_of_le hk E.size) (fun hj=>(E.own k j hj).elim ho (fun h=>by omega)),E.cell k j hk ho]
 frozen k j hk ho:=by
  rw[F.frozen k j (Nat.lt_of_lt_of_le hk E.size) (fun hj=>(E.own k j hj).elim ho (fun h=>by omega)),E.frozen k j hk ho]
 own k j h:=by
  rcases F.own k j h with h|h
  ·exact E.own k j h
  ·exact .inr (Nat.le_trans E.size h)
 gw k j h:=by
  rcases F.gw k j h with h|h|h
  ·exact E.gw k j h
  ·rcases E.own k j h with h|h
   ·exact .inr (.inl h)
   ·exact .inr (.inr h)
  ·exact .inr (.inr (Nat.le_trans E.size h))
 lost b hb hi:=by rw[F.lost b (fun h=>hb (hN b h)) (by rw[E.eZ b hb,hi]),E.lost b hb hi]
theorem Ext.mono {N N':Nat->Prop} {ι ι':aF} {I I':aP} {h h':aa} {w w':World} (E:Ext N ι I h w ι' I' h' w') (hN: ∀b,N b->N' b):Ext N' ι I h w ι' I' h' w':=
 {E with eZ:=fun b hb=>E.eZ b (fun h=>hb (hN b h)),lost:=fun b hb=>E.lost b (fun h=>hb (hN b h))}
theorem aiz {p:Nat->AV->Value->Prop}: ∀(l:List AV),(∀j v,l[j]? =some v-> ∃c,p j v c)->
 ∃l':List Value,l.length=l'.length/\ ∀j v c,l[j]? =some v->l'[j]? =some c->p j v c:=by
 intro l
 induction l generalizing p with
 |nil=>intro _;exact⟨[],rfl,fun j v c h=>by simp at h⟩
 |cons a l ih=>
  intro h
  obtain⟨c,hc⟩:=h 0 a rfl
  obtain⟨l',hl,hp⟩:=ih (p:=fun j=>p (j+1)) (fun j v hv=>h (j+1) v (by simpa using hv))
  refine⟨c::l',by simp[hl],fun j v c' hv cQ=>?_⟩
  cases j with
  |zero=>simp at hv cQ;subst hv;subst cQ;exact hc
  |succ j=>exact hp j v c' (by simpa using hv) (by simpa using cQ)
end
section
open Go
inductive aq where
 |tmp (t:Nat)
 |const (v:AV)
 deriving Inhabited
abbrev Env:=Nat->AV
def aq.ev (ρ:Env):aq->AV
 | .tmp t=>ρ t
 | .const v=>v
inductive bd where
 |aj (x:aq)
 |pick (c a b:aq)
 |build (z:List AV) (parts:List (Nat×Nat×aq))
 |d8 (n:Nat) (z:List AV) (parts:List (Nat×aq))
 |load (ag:Bool) (sz:Nat) (x:aq)
 |aE (x:aq)
 |bin (tb:Bool) (op:BinOp) (x y:aq)
 |fA (kd:Nat) (neg:Bool) (x:aq)
 |Is (neg:Bool) (JE:List Nat) (x y:aq)
 |un (op:UnOp) (x:aq)
 |toInt (k:IntKind) (x:aq)
 |od (x:aq)
 |Gr (x:aq)
 |zA (off:Nat) (x:aq)
 |KG (ag:Bool) (sz off:Nat) (x:aq)
 |gO (sz:Nat) (x i:aq)
 |BW (sz len:Nat) (x i:aq)
 |JI (ag:Bool) (sz len:Nat) (x i:aq)
 |cA (sz:Nat) (x:aq) (lo hi mx:Option aq)
 |ext (i:Nat) (x:aq)
 |ix (x:aq)
 |G0 (x:aq)
 |JF (n:Nat)
 |lookup (z:AV) (ok:Bool) (m k:aq)
 |kc (f:Nat) (first ed:List aq)
 |kG (mx:Bool) (x:aq) (rest:List aq)
 |part (im:Bool) (x:aq)
 |BH (z:List AV) (bytes:Nat) (len cap:aq)
 |sX (x:aq)
 |yW (x i:aq)
 |oV (sz:Nat) (x y:aq)
 |JZ (x:aq)
 |EU (x:aq)
 |sj (x:aq)
 |stuck
 deriving Inhabited
inductive jO where
 |box (x:aq)
 |alloc (z:List AV)
 |vR (z:List AV) (bytes:Nat) (len cap:aq)
 |BN (n:Nat) (z:List AV) (parts:List (Nat×aq))
 |uz
 deriving Inhabited
inductive gn where
 |store (sz:Nat) (a v:aq)
 |append (bytes sz:Nat) (x y:aq)
 |jS (bytes sz:Nat) (x y:aq)
 |copy (sz:Nat) (x y:aq)
 |oh (bytes:Nat) (z:List AV) (x n:aq)
 |m9 (sz:Nat) (x y:aq)
 |oz (z:List AV) (x:aq)
 |mark (x:aq)
 |qS (m k v:aq)
 |sJ (m k:aq)
 deriving Inhabited
inductive bX where
 |p (o:bd)
 |a (o:jO)
 |e (o:gn)
 |call (f:Nat) (args:List aq)
 |dyn (x:aq) (args:List aq)
 deriving Inhabited
def df (cs:List AV) (off:Nat) (vs:List AV):List AV:=cs.take off++vs++cs.drop (off+vs.length)
def jY (ρ:Env) (cs:List AV):List (Nat×Nat×aq)->Option (List AV)
 |[]=>some cs
 |(off,sz,x)::rest=>
  let vs:=(x.ev ρ).cells
  if vs.length=sz/\off+sz<=cs.length/\vs.all AV.one then jY ρ (df cs off vs) rest else none
def iv (ρ:Env) (sz:Nat) (rows:List (List AV)):List (Nat×aq)->Option (List (List AV))
 |[]=>some rows
 |(i,x)::rest=>
  let vs:=(x.ev ρ).cells
  if vs.length=sz/\i<rows.length/\vs.all AV.one then iv ρ sz (rows.set i vs) rest else none
def cut (ag:Bool) (sz off:Nat) (cs:List AV):Option AV:=
 if ag then(if off+sz<=cs.length then some (.agg ((cs.drop off).take sz)) else none) else cs[off]?
def cellsOf (h:aa) (b:Nat):Option (List AV):=
 match h.get b with
 |some (.cells cs)=>some cs
 |_=>none
def j7 (ag:Bool) (sz:Nat) (h:aa):AV->Option AV
 | .ptr b off=>(cellsOf h b).bind (cut ag sz off)
 | .vp xs off=>cut ag sz off xs
 |_=>none
def notNil:AV->Option AV
 | .ptr b o=>some (.ptr b o)
 | .vp xs o=>some (.vp xs o)
 | .fn f a b=>some (.fn f a b)
 |_=>none
def oJ (op:BinOp) (k:IntKind) (x y:Int):Option Int:=
 let a:=BitVec.ofInt k.bits x
 let b:=BitVec.ofInt k.bits y
 match op with
 | .and=>some (k.wrap (a&&&b).toNat)
 | .or=>some (k.wrap (a|||b).toNat)
 | .xor=>some (k.wrap (a^^^b).toNat)
 | .andNot=>some (k.wrap (a&&& ~~~b).toNat)
 |_=>none
def kj (op:BinOp) (k:IntKind) (a b:Int):Option AV:=
 match op with
 | .add=>some (.int k (k.wrap (a+b)))
 | .sub=>some (.int k (k.wrap (a-b)))
 | .mul=>some (.int k (k.wrap (a*b)))
 | .quo=>if b=0 then none else some (.int k (k.wrap (a.tdiv b)))
 | .rem=>if b=0 then none else some (.int k (a.tmod b))
 | .eql=>some (.bool (a==b))
 | .neq=>some (.bool (a !=b))
 | .lss=>some (.bool (a<b))
 | .leq=>some (.bool (a<=b))
 | .gtr=>some (.bool (a>b))
 | .geq=>some (.bool (a>=b))
 |op=>(oJ op k a b).map (.int k)
def Jr (op:BinOp) (k:FloatKind) (x y:Nat):Option Bool:=
 let c:=k.format.order x y
 match op with
 | .eql=>some (c==some .eq)
 | .neq=>some (c !=some .eq)
 | .lss=>some (c==some .lt)
 | .leq=>some (c==some .lt||c==some .eq)
 | .gtr=>some (c==some .gt)
 | .geq=>some (c==some .gt||c==some .eq)
 |_=>none
def cw (tb:Bool) (op:BinOp):AV->AV->Option AV
 | .int k a, .int k' b=>
   match op with
   | .shl=>if b<0 then none else some (.int k (k.wrap (a*2^(min b.toNat k.bits))))
   | .shr=>if b<0 then none else some (.int k (a.fdiv (2^(min b.toNat k.bits))))
   |op=>if k=k' then kj op k a b else none
 | .bool a, .bool b=>
   match op with
   | .eql=>if tb then some (.bool (a==b)) else none
   | .neq=>if tb then some (.bool (!(a==b))) else none
   |_=>none
 | .fU k a, .fU k' b=>if k=k' then(Jr op k a b).map .bool else none
 | .fX k a b, .fX k' c d=>
   if k=k' then
    match op with
    | .eql=>some (.bool ((k.format.order a c==some .eq)&&(k.format.order b d==some .eq)))
    | .neq=>some (.bool (!((k.format.order a c==some .eq)&&(k.format.order b d==some .eq))))
    |_=>none
   else none
 | .str a, .str b=>
   match op with
   | .eql=>some (.bool (a.toList==b.toList))
   | .neq=>some (.bool (!(a.toList==b.toList)))
   |_=>none
 |_,_=>none
def il (kd:Nat):AV->Option Bool
 | .nil=>if kd=0 then some true else none
 | .ptr _ _=>if kd=0 then some false else none
 | .vp _ _=>if kd=0 then some false else none
 | .bA=>if kd=1 then some true else none
 | .rs _ _ _ _=>if kd=1 then some false else none
 | .rk _ _ _ _ _=>if kd=1 then some false else none
 | .vz=>if kd=1 then some false else none
 | .vs (_::_) _=>if kd=1 then some false else none
 | .jk=>if kd=2 then some true else none
 | .fn _ _ _=>if kd=2 then some false else none
 | .map none=>if kd=3 then some true else none
 | .map (some _)=>if kd=3 then some false else none
 |_=>none
def yS (xs ys:List AV):List Nat->Option Bool
 |[]=>some true
 |o::rest=>
  match xs[o]?,ys[o]? with
  |some (.int k a),some (.int k' b)=>if k=k' then(if a==b then yS xs ys rest else some false) else none
  |_,_=>none
def Bg (op:UnOp):AV->Option AV
 | .bool b=>match op with| .not=>some (.bool !b)|_=>none
 | .int k n=>
   match op with
   | .neg=>some (.int k (k.wrap (0-n)))
   | .xor=>(oJ .xor k (if k.signed then -1 else k.max) n).map (.int k)
   |_=>none
 |_=>none
def byteOf:List AV->Option UInt8
 |[.int .u8 n]=>some (UInt8.ofNat n.toNat)
 |_=>none
def rowsOf (cs:List AV) (off sz:Nat):Nat->List (List AV)
 |0=>[]
 |n+1=>(cs.drop off).take sz::rowsOf cs (off+sz) sz n
def dH (sz:Nat):List (List AV)->Bool
 |[]=>true
 |r::_=>r.length==sz
def cP (sz:Nat) (h:aa):AV->Option (List (List AV))
 | .vs xs _=>if dH sz xs then some xs else none
 | .bA=>some []
 | .vz=>some []
 | .rs b off len aN=>
   if aN=sz then
    match cellsOf h b with
    |some cs=>if off+len*sz<=cs.length then some (rowsOf cs off sz len) else none
    |none=>none
   else none
 | .rk b off len aN _=>
   if aN=sz then
    match cellsOf h b with
    |some cs=>if off+len*sz<=cs.length then some (rowsOf cs off sz len) else none
    |none=>none
   else none
 |_=>none
def oD (sz n:Nat) (h:aa):AV->Option (List (List AV))
 | .vs xs _=>if dH sz xs then some (xs.take n) else none
 | .rk b off len aN _=>
   if aN=sz/\n<=len then
    match cellsOf h b with
    |some cs=>if off+n*sz<=cs.length then some (rowsOf cs off sz n) else none
    |none=>none
   else none
 |_=>none
def pG:List (List AV)->Option (List UInt8)
 |[]=>some []
 |r::rs=>match byteOf r,pG rs with
  |some b,some bs=>some (b::bs)
  |_,_=>none
def cB (ρ:Env) (d:Nat):Option aq->Option Nat
 |none=>some d
 |some x=>match x.ev ρ with
  | .int _ i=>if 0<=i then some i.toNat else none
  |_=>none
def nX (t:aG) (len lo hi:Nat):aG:=
 match t with
 | .full=>if hi=len then .full else .ao
 | .own t=>if hi=len/\lo<hi then .own t else .ao
 | .ao=> .ao
def iM (ρ:Env) (sz:Nat) (x:AV) (lo hi mx:Option aq):Option AV:=
 match x with
 | .bA=>do
   let h <-cB ρ 0 hi
   let l <-cB ρ 0 lo
   let m <-cB ρ 0 mx
   if l=0/\h=0/\m=0/\(mx.isSome->hi.isSome) then some .bA else none
 | .vs xs t=>do
   let h <-cB ρ xs.length hi
   let l <-cB ρ 0 lo
   if l<=h/\h<=xs.length/\dH sz xs then
    match mx with
    |none=>some (.vs ((xs.drop l).take (h-l)) (nX t xs.length l h))
    |some _=>do
     let m <-cB ρ 0 mx
     if hi.isSome/\h<=m/\m<=xs.length then some (.vs ((xs.drop l).take (h-l)) (if m=h then .full else .ao)) else none
   else none
 | .rs b off len aN=>do
   let h <-cB ρ len hi
   let l <-cB ρ 0 lo
   if mx.isNone/\l<=h/\h<=len/\aN=sz then
    if l=h then(if lo.isNone then some (.rs b off 0 sz) else some (.vs [] .ao)) else some (.rs b (off+l*sz) (h-l) sz)
   else none
 | .rk b off len aN cap=>do
   let h <-cB ρ len hi
   let l <-cB ρ 0 lo
   let m <-cB ρ cap mx
   if l<=h/\h<=m/\m<=cap/\aN=sz/\(mx.isSome->hi.isSome) then
    if m=l then some (.vs [] .full) else some (.rk b (off+l*sz) (h-l) sz (m-l))
   else none
 |_=>none
def mf (k:AV):List (AV×AV)->Nat->Option (Option Nat)
 |[],_=>some none
 |(k',_)::es,i=>
  match k,k' with
  | .int a x, .int b y=>if a=b then(if x==y then some (some i) else mf k es (i+1)) else none
  |_,_=>none
def ui (k:AV) (es:List (AV×AV)):Option (Option AV):=(mf k es 0).map fun o=>o.bind fun i=>(es[i]?).map (·.2)
def qT (k v:AV) (es:List (AV×AV)):Option (List (AV×AV)):=
 (mf k es 0).map fun o=>match o with
   |none=>es++[(k,v)]
   |some i=>es.set i (k,v)
def qU (k:AV) (es:List (AV×AV)):Option (List (AV×AV)):=
 (mf k es 0).map fun o=>match o with
   |none=>es
   |some i=>es.eraseIdx i
def pK (mx:Bool):AV->AV->Option AV
 | .int k a, .int k' b=>if k=k' then some (.int k (if mx then(if b>a then b else a) else(if b<a then b else a))) else none
 | .fU k a, .fU k' b=>
   if k=k' then
    match k.format.order a b with
    |some .lt=>some (.fU k (if mx then b else a))
    |some .gt=>some (.fU k (if mx then a else b))
    |some .eq=>some (.fU k (if mx then(if(k.decode a).neg then b else a) else(if(k.decode a).neg then a else b)))
    |none=>none
   else none
 |_,_=>none
def oe (mx:Bool) (ρ:Env):AV->List aq->Option AV
 |x,[]=>some x
 |x,y::ys=>(pK mx x (y.ev ρ)).bind fun z=>oe mx ρ z ys
def gC:AV->Option Nat
 | .vs xs _=>some xs.length
 | .bA=>some 0
 | .rs _ _ len _=>some len
 | .rk _ _ len _ _=>some len
 | .vz=>some 0
 |_=>none
def va:AV->Option Nat
 | .bA=>some 0
 | .vs xs .full=>some xs.length
 | .rk _ _ _ _ cap=>some cap
 |_=>none
def uY (sz:Nat) (h:aa) (x y:AV):Option AV:=
 match x,y with
 | .vs (r::_) _, .rk b _ (_+1) aN _=>cond (r.length==sz&&aN==sz&&(cellsOf h b).isSome) (some (.bool false)) none
 |_,_=>none
def BI (x i:AV):Option AV:=
 match x,i with
 | .str s, .int _ i=>if 0<=i then(s[i.toNat]?).map fun b=> .int .u8 b.toNat else none
 |_,_=>none
def ll (bytes:Nat) (l c:AV):Option Nat:=
 match l,c with
 | .int .i64 a, .int .i64 b=>if 0<=a/\a=b/\a<2^40/\bytes*a<=2^40 then some a.toNat else none
 |_,_=>none
def BX (neg:Bool) (JE:List Nat) (x y:AV):Option AV:=
 match x,y with
 | .agg xs, .agg ys=>(yS xs ys JE).map fun b=> .bool (if neg then !b else b)
 |_,_=>none
def BO (k:IntKind) (x:AV):Option AV:=match x with| .int _ n=>some (.int k (k.wrap n))|_=>none
def Gc (x:AV):Option AV:=
 match x with
 | .str s=>if s.size<2^40 then some (.vs (s.data.toList.map fun b=>[.int .u8 b.toNat]) .ao) else none
 |_=>none
def yZ (off:Nat) (x:AV):Option AV:=match x with| .ptr b o=>some (.ptr b (o+off))| .vp xs o=>some (.vp xs (o+off))|_=>none
def Es (ag:Bool) (sz off:Nat) (x:AV):Option AV:=match x with| .agg cs=>cut ag sz off cs|_=>none
def pL (sz:Nat) (x i:AV):Option AV:=
 match i with
 | .int _ i=>
   if 0<=i then
    match x with
    | .vs xs _=>match xs[i.toNat]? with|some row=>if row.length=sz then some (.vp row 0) else none|none=>none
    | .rs b off len aN=>if aN=sz/\i<len then some (.ptr b (off+i.toNat*sz)) else none
    |_=>none
   else none
 |_=>none
def yR (sz len:Nat) (x i:AV):Option AV:=
 match i with
 | .int _ i=>
   if 0<=i/\i<len then
    match x with
    | .ptr b o=>some (.ptr b (o+i.toNat*sz))
    | .vp xs o=>some (.vp xs (o+i.toNat*sz))
    |_=>none
   else none
 |_=>none
def CQ (ag:Bool) (sz len:Nat) (x i:AV):Option AV:=
 match i,x with
 | .int _ i, .agg cs=>if 0<=i/\i<len then cut ag sz (i.toNat*sz) cs else none
 |_,_=>none
def Et (i:Nat) (x:AV):Option AV:=match x with| .ay vs=>vs[i]?|_=>none
def GO (x:AV):Option AV:=match x with| .str s=>some (.int .i64 s.size)|_=>none
def mY (z:AV) (ok:Bool) (h:aa) (m k:AV):Option AV:=
 let wrap (r:Option AV):AV:=match r with
  |some v=>if ok then .ay [v, .bool true] else v
  |none=>if ok then .ay [z, .bool false] else z
 match m,k with
 | .map none, .int _ _=>some (wrap none)
 | .map (some b), .int kd n=>
   match h.get b with
   |some (.map es)=>(ui (.int kd n) es).map wrap
   |_=>none
 |_,_=>none
def H7 (im:Bool) (x:AV):Option AV:=match x with| .fX k a b=>some (.fU k (if im then b else a))|_=>none
def H6 (c a b:AV):Option AV:=match c with| .bool t=>some (if t then a else b)|_=>none
def vZ (sz:Nat) (h:aa) (a v:AV):Option (AV×aa):=
 match a with
 | .ptr b off=>
   match cellsOf h b with
   |some cs=>if v.cells.length=sz/\off+sz<=cs.length/\v.cells.all AV.one then some (.undef,h.set b (some (.cells (df cs off v.cells)))) else none
   |none=>none
 |_=>none
def aY (o:bd) (ρ:Env) (h:aa):Option AV:=
 match o with
 | .aj x=>some (x.ev ρ)
 | .pick c a b=>H6 (c.ev ρ) (a.ev ρ) (b.ev ρ)
 | .build z parts=>(jY ρ z parts).map .agg
 | .d8 n z parts=>(iv ρ z.length (List.replicate n z) parts).map (.vs · .full)
 | .load ag sz x=>j7 ag sz h (x.ev ρ)
 | .aE x=>notNil (x.ev ρ)
 | .bin tb op x y=>cw tb op (x.ev ρ) (y.ev ρ)
 | .fA kd neg x=>(il kd (x.ev ρ)).map fun b=> .bool (if neg then !b else b)
 | .Is neg JE x y=>BX neg JE (x.ev ρ) (y.ev ρ)
 | .un op x=>Bg op (x.ev ρ)
 | .toInt k x=>BO k (x.ev ρ)
 | .od x=>((cP 1 h (x.ev ρ)).bind pG).map fun bs=> .str ⟨bs.toArray⟩
 | .Gr x=>Gc (x.ev ρ)
 | .zA off x=>yZ off (x.ev ρ)
 | .KG ag sz off x=>Es ag sz off (x.ev ρ)
 | .gO sz x i=>pL sz (x.ev ρ) (i.ev ρ)
 | .BW sz len x i=>yR sz len (x.ev ρ) (i.ev ρ)
 | .JI ag sz len x i=>CQ ag sz len (x.ev ρ) (i.ev ρ)
 | .cA sz x lo hi mx=>iM ρ sz (x.ev ρ) lo hi mx
 | .ext i x=>Et i (x.ev ρ)
 | .ix x=>(gC (x.ev ρ)).map fun(n:Nat)=>AV.int .i64 n
 | .G0 x=>GO (x.ev ρ)
 | .JF n=>some (.int .i64 n)
 | .lookup z ok m k=>mY z ok h (m.ev ρ) (k.ev ρ)
 | .kc f first ed=>some (.fn f (first.map (aq.ev ρ)) (ed.map (aq.ev ρ)))
 | .kG mx x rest=>oe mx ρ (x.ev ρ) rest
 | .part im x=>H7 im (x.ev ρ)
 | .BH z bytes l c=>(ll bytes (l.ev ρ) (c.ev ρ)).map fun n=> .vs (List.replicate n z) .full
 | .sX x=>(va (x.ev ρ)).map fun(n:Nat)=>AV.int .i64 n
 | .yW x i=>BI (x.ev ρ) (i.ev ρ)
 | .oV sz x y=>uY sz h (x.ev ρ) (y.ev ρ)
 | .JZ _=>none
 | .EU _=>none
 | .sj _=>none
 | .stuck=>none
def bd.key (o:bd) (ρ:Env):Option Nat:=
 match o with
 | .load _ _ x=>match x.ev ρ with| .ptr b _=>some b|_=>none
 | .od x=>match x.ev ρ with| .rs b _ _ _=>some b| .rk b _ _ _ _=>some b|_=>none
 | .lookup _ _ m _=>match m.ev ρ with| .map (some b)=>some b|_=>none
 | .oV _ _ y=>match y.ev ρ with| .rk b _ _ _ _=>some b|_=>none
 |_=>none
theorem ue (o:bd) (ρ:Env) (h h':aa) (hk: ∀b,o.key ρ=some b->h.get b=h'.get b):aY o ρ h=aY o ρ h':=by
 cases o<;>try rfl
 case load ag sz x=>
  simp only[aY,bd.key] at*
  cases hx:x.ev ρ<;>simp only[j7]
  rw[hx] at hk
  simp only[cellsOf,hk _ rfl]
 case od x=>
  simp only[aY,bd.key] at*
  cases hx:x.ev ρ<;>simp only[cP]<;>(rw[hx] at hk;simp only[cellsOf,hk _ rfl])
 case oV sz x y=>
  simp only[aY,bd.key] at*
  cases hy:y.ev ρ
  case rk b off len s' cap=>
   rw[hy] at hk
   have hb:=hk b rfl
   cases x.ev ρ<;>try rfl
   rename_i l _
   cases l<;>cases len<;>first|rfl|simp only[uY,cellsOf,hb]
  all_goals (cases x.ev ρ<;>first|rfl|(rename_i l _;cases l<;>rfl))
 case lookup z ok m k=>
  simp only[aY,bd.key] at*
  cases hx:m.ev ρ<;>try rfl
  rename_i b
  rw[hx] at hk
  cases b with
  |none=>cases k.ev ρ<;>rfl
  |some b=>have:=hk b rfl;cases k.ev ρ<;>simp only[mY,this]
def gP (o:jO) (ρ:Env) (id:Nat):Option (cF×AV):=
 match o with
 | .box x=>if(x.ev ρ).cells.all AV.one then some (.cells (x.ev ρ).cells, .ptr id 0) else none
 | .alloc z=>some (.cells z, .ptr id 0)
 | .vR z bytes l c=>(ll bytes (l.ev ρ) (c.ev ρ)).map fun n=>(.cells (List.replicate n z).flatten, .rs id 0 n z.length)
 | .BN n z parts=>(iv ρ z.length (List.replicate n z) parts).map fun rows=>(.cells rows.flatten, .rs id 0 n z.length)
 | .uz=>some (.map [], .map (some id))
def aa.at (h:aa) (id:Nat) (x:cF):aa:={get:=fun i=>if i=id then some x else h.get i,next:=max h.next (id+1)}
def bM (o:gn) (ρ:Env) (id:Nat) (h:aa):Option (AV×aa):=
 match o with
 | .store sz a v=>vZ sz h (a.ev ρ) (v.ev ρ)
 | .append bytes sz x y=>
   match cP sz h (y.ev ρ) with
   |none=>none
   |some ys=>
    match x.ev ρ with
    | .vs xs t=>
      if ys=[] then some (.vs xs t,h) else
      if dH sz xs/\(xs.length+ys.length)*bytes<2^40/\xs.length+ys.length<2^40 then
       match t with
       | .full=>some (.vs (xs++ys) (.own id),h.at id .tail)
       | .own t=>match h.get t with
         |some .tail=>some (.vs (xs++ys) (.own id),(h.set t none).at id .tail)
         |_=>none
       | .ao=>none
      else none
    | .bA=>
      if ys=[] then some (.bA,h) else
      if ys.length*bytes<2^40/\ys.length<2^40 then some (.vs ys (.own id),h.at id .tail) else none
    |_=>none
 | .jS bytes sz x y=>
   match cP sz h (y.ev ρ) with
   |none=>none
   |some ys=>
    match x.ev ρ with
    | .vs [] .full=>if ys=[] then some (.vs [] .full,h) else if ys.length*bytes<2^40/\ys.length<2^40 then some (.rs id 0 ys.length sz,h.at id (.cells ys.flatten)) else none
    | .bA=>if ys=[] then some (.bA,h) else if ys.length*bytes<2^40/\ys.length<2^40 then some (.rs id 0 ys.length sz,h.at id (.cells ys.flatten)) else none
    | .rs b off len aN=>
      if ys=[] then some (.rs b off len aN,h) else
      match cellsOf h b with
      |some cs=>
       if aN=sz/\off=0/\len*sz<=cs.length/\(len+ys.length)*bytes<2^40/\len+ys.length<2^40 then
        some (.rs id 0 (len+ys.length) sz,(h.set b none).at id (.cells (cs.take (len*sz)++ys.flatten)))
       else none
      |none=>none
    | .rk b off len aN cap=>
      match cellsOf h b with
      |some cs=>
       if aN=sz/\len+ys.length<=cap/\off+len*sz<=cs.length then
        some (.rk b off (len+ys.length) sz cap,h.set b (some (.cells (df cs (off+len*sz) ys.flatten))))
       else none
      |none=>none
    |_=>none
 | .oh bytes z x n=>
   match n.ev ρ with
   | .int _ m=>
     if 0<m/\m<2^40 then
      match x.ev ρ with
      | .bA=>if m.toNat*bytes<2^40 then some (.rs id 0 m.toNat z.length,h.at id (.cells (List.replicate m.toNat z).flatten)) else none
      | .rk b off len aN cap=>
        match cellsOf h b with
        |some cs=>
         if aN=z.length/\cap<len+m.toNat/\off+len*z.length<=cs.length/\(len+m.toNat)*bytes<2^40/\len+m.toNat<2^40 then
          some (.rs id 0 (len+m.toNat) z.length,h.at id (.cells (rowsOf cs off z.length len++List.replicate m.toNat z).flatten))
         else none
        |none=>none
      |_=>none
     else none
   |_=>none
 | .m9 sz x y=>
   match x.ev ρ,gC (y.ev ρ) with
   | .rk b off len aN _,some m=>
     match oD sz (min m len) h (y.ev ρ),cellsOf h b with
     |some ys,some cs=>
      if aN=sz/\off<=cs.length then
       some (.int .i64 (min m len:Nat),h.set b (some (.cells (df cs off ys.flatten))))
      else none
     |_,_=>none
   |_,_=>none
 | .mark x=>
   match x.ev ρ with
   | .rs b off len sz=>
     match cellsOf h b with
     |some cs=>if off+len*sz<=cs.length then some (.vs (rowsOf cs off sz len) .ao,h.set b none) else none
     |none=>none
   |_=>none
 | .oz z x=>
   match x.ev ρ with
   | .rk b off len aN _=>
     match cellsOf h b with
     |some cs=>if aN=z.length/\off+len*z.length<=cs.length then some (.ay [],h.set b (some (.cells (df cs off (List.replicate len z).flatten)))) else none
     |none=>none
   | .vs [] _=>some (.ay [],h)
   | .bA=>some (.ay [],h)
   |_=>none
 | .copy sz x y=>
   match x.ev ρ with
   | .rs b off len aN=>
     match cP sz h (y.ev ρ),cellsOf h b with
     |some ys,some cs=>
      let n:=min ys.length len
      if aN=sz/\off+len*sz<=cs.length then
       some (.int .i64 n,h.set b (some (.cells (df cs off (ys.take n).flatten))))
      else none
     |_,_=>none
   | .vs [] _=>match cP sz h (y.ev ρ) with|some _=>some (.int .i64 0,h)|none=>none
   | .bA=>match cP sz h (y.ev ρ) with|some _=>some (.int .i64 0,h)|none=>none
   |_=>none
 | .qS m k v=>
   match m.ev ρ,k.ev ρ with
   | .map (some b), .int kd n=>
     match h.get b with
     |some (.map es)=>(qT (.int kd n) (v.ev ρ).strip es).map fun aV=>(.undef,h.set b (some (.map aV)))
     |_=>none
   |_,_=>none
 | .sJ m k=>
   match m.ev ρ,k.ev ρ with
   | .map (some b), .int kd n=>
     match h.get b with
     |some (.map es)=>(qU (.int kd n) es).map fun aV=>(.ay [],h.set b (some (.map aV)))
     |_=>none
   |_,_=>none
end
section
open Go
section
variable {P:Program} {ι:aF} {I:aP} {h:aa} {w:World}
def eN (P:Program) (ι:aF) (I:aP) (h:aa) (w:World) (v:AV) (s:Sem Value):Prop:=
 ∃c w' I',s.run P w= .ok c w'/\VR ι I' w' v c/\HR ι I' h w'/\Ext (fun _=>False) ι I h w ι I' h w'
theorem eN.same (H:HR ι I h w) {v:AV} {s:Sem Value} {c:Value} (hr:s.run P w= .ok c w) (hv:VR ι I w v c):eN P ι I h w v s:=
 ⟨c,w,I,hr,hv,H, .refl _ _ _ _ _⟩
theorem cG {t:TypeId} {d:TypeDesc} (hu:P.underlying t=some d) (w:World):(underlying t).run P w= .ok d w:=run_underlying hu w
theorem l9 {t:TypeId} {sz:Nat} (hs:(P.info? t).map (·.size)=some sz) (w:World):(Go.sizeOf t).run P w= .ok sz w:=by
 cases hq:P.info? t with
 |none=>simp[hq] at hs
 |some i=>simp[hq] at hs;simp[Go.sizeOf,typeInfo,hq,hs]
theorem yP {t:TypeId} {d:TypeDesc} (hu:P.underlying t=some d) (w:World):(isAgg t).run P w= .ok d.isRow w:=by
 unfold isAgg
 rw[Sem.run_bind,run_underlying hu w]
 cases d<;>simp
def sS (ι:aF) (I:aP) (w:World) (cb o:Nat) (cs:List AV):Prop:=
 ∀j v,cs[j]? =some v-> ∃c,w.cell? ⟨cb,o+j,none⟩=some c/\VR ι I w v c
theorem HR.row (H:HR ι I h w) {b:Nat} {cs:List AV} {cb o room:Nat} (hg:h.get b=some (.cells cs)) (hb:ι b=some (.cells cb o room)):
 sS ι I w cb o cs/\cs.length<=room/\(∀v∈cs,v.one=true):=by
 obtain⟨gW,o',oF,hl,hle,h1,hc⟩:=H.cells b cs _ hg hb
 cases hl
 refine⟨fun j v hv=>?_,hle,h1⟩
 obtain⟨c,h1,_,h3⟩:=hc j (by have:=(List.getElem?_eq_some_iff.1 hv).1;omega)
 exact⟨c,h1,h3 v hv⟩
theorem sS.list {cb o:Nat} {cs:List AV} (hr:sS ι I w cb o cs): ∃l':List Value,cs.length=l'.length/\
 (∀(j:Nat) (c:Value),l'[j]? =some c->w.cell? ⟨cb,o+j,none⟩=some c)/\ ∀(j:Nat) (v:AV) (c:Value),cs[j]? =some v->l'[j]? =some c->VR ι I w v c:=by
 obtain⟨l',hl,hp⟩:=aiz cs hr
 refine⟨l',hl,fun j c hc=>?_,fun j v c hv hc=>(hp j v c hv hc).2⟩
 have hj:j<cs.length:=by have:=(List.getElem?_eq_some_iff.1 hc).1;omega
 exact(hp j _ c (List.getElem?_eq_getElem hj) hc).1
theorem sS.sub {cb o:Nat} {cs:List AV} (hr:sS ι I w cb o cs) (off sz:Nat):sS ι I w cb (o+off) ((cs.drop off).take sz):=by
 intro j v hv
 rw[List.getElem?_take] at hv
 split at hv
 ·rw[List.getElem?_drop] at hv
  obtain⟨c,h1,h2⟩:=hr (off+j) v hv
  exact⟨c,by rw[Nat.add_assoc];exact h1,h2⟩
 ·cases hv
theorem Yi (H:HR ι I h w) {t:TypeId} {d:TypeDesc} {sz:Nat} (hu:P.underlying t=some d) (hs:(P.info? t).map (·.size)=some sz)
 {cb o off:Nat} {cs:List AV} {v:AV} (hr:sS ι I w cb o cs) (hc:cut d.isRow sz off cs=some v):
 eN P ι I h w v (Instr.loadAt t (.pointer (some ⟨cb,o+off,none⟩))):=by
 cases hd:d.isRow with
 |true=>
  rw[hd] at hc
  simp only[cut,if_true] at hc
  split at hc
  ·rename_i hle
   cases hc
   obtain⟨l',hl,h1,h2⟩:=(hr.sub off sz).list
   have hlen:l'.length=sz:=by rw[<-hl];simp;omega
   have:=run_loadVar_mid (P:=P) w cb (o+off) t l' d h1 hu hd (by rw[hlen];exact hs)
   exact .same H (by simp[Instr.loadAt,Instr.sureAddr,this]) (.agg _ _ hl h2)
  ·cases hc
 |false=>
  rw[hd] at hc
  simp only[cut,Bool.false_eq_true,if_false] at hc
  obtain⟨c,h1,h2⟩:=hr off v hc
  exact .same H (by simp[Instr.loadAt,Instr.sureAddr,loadVar,yP hu,hd,run_load,h1]) h2
theorem alp (H:HR ι I h w) {t:TypeId} {d:TypeDesc} {sz:Nat} (hu:P.underlying t=some d) (hs:(P.info? t).map (·.size)=some sz)
 {a v:AV} {c:Value} (ha:VR ι I w a c) (hl:j7 d.isRow sz h a=some v):eN P ι I h w v (Instr.loadAt t c):=by
 cases ha<;>simp only[j7] at hl<;>try(cases hl;done)
 case ptr b off cb o room hb=>
  simp only[cellsOf] at hl
  split at hl
  ·rename_i cs hg
   exact Yi H hu hs (H.row (by simpa using hg) hb).1 hl
  ·cases hl
 case vp xs off cb o g hI hc hv h1=>
  refine Yi H hu hs (cs:=xs) (fun j v hj=>?_) hl
  have aC:=(List.getElem?_eq_some_iff.1 hj).1
  exact⟨g j,hc j aC,hv j v hj⟩
theorem akp (H:HR ι I h w) {s:TypeId} {fs:Array Field} {f:Nat} {fd:Field} {fsz:Nat} (hu:P.underlying s=some (.struct fs)) (hf:fs[f]? =some fd)
 (aO:(P.info? fd.type).map (·.size)=some fsz) (h0:fsz≠0) {x v:AV} {c:Value} (hx:VR ι I w x c)
 (hr:yZ fd.offset x=some v):
 eN P ι I h w v (Instr.fieldAt s c f):=by
 unfold yZ at hr
 cases hx<;>simp only[] at hr<;>try(cases hr;done)
 case ptr b off cb o room hb=>
  cases hr
  refine .same H (c:= .pointer (some ⟨cb,o+(off+fd.offset),none⟩)) ?_ (.ptr _ _ _ _ _ hb)
  simp[Instr.fieldAt,cG hu,hf,Instr.sureAddr,fieldPlace,l9 aO,h0,Addr.add_mid,Nat.add_assoc]
 case vp xs off cb o g hI hc hv h1=>
  cases hr
  refine .same H (c:= .pointer (some ⟨cb,o+(off+fd.offset),none⟩)) ?_ (.vp _ _ _ _ g hI hc hv h1)
  simp[Instr.fieldAt,cG hu,hf,Instr.sureAddr,fieldPlace,l9 aO,h0,Addr.add_mid,Nat.add_assoc]
theorem ajm (H:HR ι I h w) {t e:TypeId} {len sz:Nat} (hu:P.underlying t=some (.array len e)) (hs:(P.info? e).map (·.size)=some sz)
 {x i v:AV} {c ci:Value} (hx:VR ι I w x c) (hi:VR ι I w i ci)
 (hr:yR sz len x i=some v):eN P ι I h w v (Instr.indexAt t c ci):=by
 unfold yR at hr
 cases hi<;>simp only[] at hr<;>try(cases hr;done)
 case int k n=>
  split at hr
  ·rename_i hb
   cases hx<;>simp only[] at hr<;>try(cases hr;done)
   case ptr b off cb o room bE=>
    cases hr
    refine .same H (c:= .pointer (some ⟨cb,o+(off+n.toNat*sz),none⟩)) ?_ (.ptr _ _ _ _ _ bE)
    simp[Instr.indexAt,asIntOf,cG hu,Instr.sureAddr,hb,l9 hs,Addr.add_mid,Nat.add_assoc]
   case vp xs off cb o g hI hc hv h1=>
    cases hr
    refine .same H (c:= .pointer (some ⟨cb,o+(off+n.toNat*sz),none⟩)) ?_ (.vp _ _ _ _ g hI hc hv h1)
    simp[Instr.indexAt,asIntOf,cG hu,Instr.sureAddr,hb,l9 hs,Addr.add_mid,Nat.add_assoc]
  ·cases hr
theorem ajl (H:HR ι I h w) {t e:TypeId} {sz:Nat} (hu:P.underlying t=some (.slice e)) (hs:(P.info? e).map (·.size)=some sz)
 {x i v:AV} {c ci:Value} (hx:VR ι I w x c) (hi:VR ι I w i ci)
 (hr:pL sz x i=some v):eN P ι I h w v (Instr.indexAt t c ci):=by
 unfold pL at hr
 cases hi<;>simp only[] at hr<;>try(cases hr;done)
 case int k n=>
  split at hr
  ·rename_i h0
   cases hx<;>simp only[] at hr<;>try(cases hr;done)
   case vs xs t cb o s cap g cu hI hc hv h1 bw ht=>
    split at hr
    ·rename_i row Ay
     split at hr
     ·rename_i hlen
      cases hr
      have aC:=(List.getElem?_eq_some_iff.1 Ay).1
      have i9:s=sz:=by rw[<-cu _ _ Ay];exact hlen
      subst i9
      refine .same H (c:= .pointer (some ⟨cb,o+n.toNat*s+0,none⟩)) ?_ (.vp row 0 cb (o+n.toNat*s) (g n.toNat) (fun j hj=>hI _ _ aC (by omega)) (fun j hj=>hc _ _ aC (by omega)) (fun j v hj=>hv _ _ _ _ Ay hj) (h1 row (List.mem_of_getElem? Ay)))
      have hb:0<=n/\n<(xs.length:Int):=⟨h0,by omega⟩
      simp[Instr.indexAt,asIntOf,cG hu,hb,l9 hs,Addr.add_mid]
     ·cases hr
    ·cases hr
   case rs b off len aN cb o room cap hb hlen bw=>
    split at hr
    ·rename_i bE
     obtain⟨rfl,aC⟩:=bE
     cases hr
     refine .same H (c:= .pointer (some ⟨cb,o+(off+n.toNat*aN),none⟩)) ?_ (.ptr _ _ _ _ _ hb)
     simp[Instr.indexAt,asIntOf,cG hu,h0,aC,l9 hs,Addr.add_mid,Nat.add_assoc]
    ·cases hr
  ·cases hr
end
end
section
open Go
section
variable {P:Program} {ι:aF} {I:aP} {h:aa} {w:World}
def LR (ι:aF) (I:aP) (w:World) (l:List AV) (l':List Value):Prop:=
 l.length=l'.length/\ ∀(i:Nat) (v:AV) (c:Value),l[i]? =some v->l'[i]? =some c->VR ι I w v c
theorem LR.get {l:List AV} {l':List Value} (hl:LR ι I w l l') {i:Nat} {v:AV} (hv:l[i]? =some v): ∃c,l'[i]? =some c/\VR ι I w v c:=by
 have hi:=(List.getElem?_eq_some_iff.1 hv).1
 have aA:i<l'.length:=by rw[<-hl.1];exact hi
 exact⟨l'[i],List.getElem?_eq_getElem aA,hl.2 i v _ hv (List.getElem?_eq_getElem aA)⟩
theorem LR.nil:LR ι I w [] []:=⟨rfl,fun i v c h=>by simp at h⟩
theorem LR.cons {a:AV} {c:Value} {l:List AV} {l':List Value} (h:VR ι I w a c) (hl:LR ι I w l l'):LR ι I w (a::l) (c::l'):=by
 refine⟨by simp[hl.1],fun i v c' hv hc=>?_⟩
 cases i with
 |zero=>simp at hv hc;subst hv;subst hc;exact h
 |succ i=>exact hl.2 i v c' (by simpa using hv) (by simpa using hc)
theorem LR.take {l:List AV} {l':List Value} (hl:LR ι I w l l') (n:Nat):LR ι I w (l.take n) (l'.take n):=by
 refine⟨by simp[hl.1],fun i v c hv hc=>?_⟩
 rw[List.getElem?_take] at hv hc
 split at hv
 ·rename_i aC;rw[if_pos aC] at hc;exact hl.2 i v c hv hc
 ·cases hv
theorem LR.drop {l:List AV} {l':List Value} (hl:LR ι I w l l') (n:Nat):LR ι I w (l.drop n) (l'.drop n):=by
 refine⟨by simp[hl.1],fun i v c hv hc=>?_⟩
 rw[List.getElem?_drop] at hv hc
 exact hl.2 _ v c hv hc
theorem LR.append {l m:List AV} {l' m':List Value} (hl:LR ι I w l l') (hm:LR ι I w m m'):LR ι I w (l++m) (l'++m'):=by
 refine⟨by simp[hl.1,hm.1],fun i v c hv hc=>?_⟩
 rw[List.getElem?_append] at hv hc
 rw[<-hl.1] at hc
 split at hv
 ·rename_i aC;rw[if_pos aC] at hc;exact hl.2 i v c hv hc
 ·rename_i aC;rw[if_neg aC] at hc;exact hm.2 _ v c hv hc
theorem LR.mono {ι':aF} {I':aP} {w':World} {l:List AV} {l':List Value} (hl:LR ι I w l l')
 (h: ∀a v,VR ι I w a v->VR ι' I' w' a v):LR ι' I' w' l l':=⟨hl.1,fun i v c hv hc=>h _ _ (hl.2 i v c hv hc)⟩
theorem VR.cells {a:AV} {c:Value} (hv:VR ι I w a c) (hu:a≠ .undef):LR ι I w a.cells c.cells.toList:=by
 cases hv<;>first
  |exact(hu rfl).elim
  |(refine LR.cons ?_ LR.nil;constructor<;>assumption)
  |(rename_i cs bF hl hv;exact⟨by simpa [AV.cells,Value.cells] using hl,by simpa [AV.cells,Value.cells] using hv⟩)
  |(rename_i h1;cases c<;>first|exact LR.cons (.fD _ h1) LR.nil|(simp[Value.oneCell'] at h1))
def GV (pr:Bool):Value->Option AV
 | .int k n=>some (.int k n)
 | .bool b=>some (.bool b)
 | .float k b=>some (.fU k b)
 | .complex k a b=>some (.fX k a b)
 | .string s=>some (.str s)
 | .pointer none=>some .nil
 | .slice none 0 0=>some (if pr then .bA else .vs [] .full)
 | .map none=>some (.map none)
 | .nilFunc=>some .jk
 |_=>none
def ud (pr:Bool):List Value->Option (List AV)
 |[]=>some []
 |v::vs=>match GV pr v,ud pr vs with
  |some a,some l=>some (a::l)
  |_,_=>none
def BY (pr:Bool):Value->Option AV
 | .agg cs=>(ud pr cs.toList).map .agg
 |v=>GV pr v
theorem Wx {pr:Bool} {v:Value} {a:AV} (hc:GV pr v=some a):VR ι I w a v/\a.one=true:=by
 unfold GV at hc
 split at hc<;>first
  |(cases hc;done)
  |(cases hc;exact⟨by constructor,rfl⟩)
  |skip
 cases pr
 ·cases hc;exact⟨.gr _ (.inr rfl),rfl⟩
 ·cases hc;exact⟨.bA,rfl⟩
theorem qJ {pr:Bool}: ∀{vs:List Value} {l:List AV},ud pr vs=some l->LR ι I w l vs/\ ∀v∈l,v.one=true
 |[],l,hc=>by simp[ud] at hc;subst hc;exact⟨LR.nil,by simp⟩
 |v::vs,l,hc=>by
  simp only[ud] at hc
  split at hc
  ·rename_i a l' ha hl
   cases hc
   have h1:=Wx (ι:=ι) (I:=I) (w:=w) ha
   have h2:=qJ hl
   exact⟨LR.cons h1.1 h2.1,
    by intro x hx;rcases List.mem_cons.1 hx with rfl|hx;exact h1.2;exact h2.2 x hx⟩
  ·cases hc
end
end
section
open Go
section
variable {P:Program} {ι:aF} {I:aP} {h:aa} {w:World}
theorem LS {a:AV} (h:a.cells.all AV.one=true):a≠ .undef:=by
 rintro rfl;simp[AV.cells,AV.one] at h
theorem Yv (off:Nat): ∀(vs:List Value) (k:Nat) (cells:Array Value),
 ((vs.zipIdx k).foldl (fun cs (p:Value×Nat)=>cs.setIfInBounds (off+p.2) p.1) cells).size=cells.size/\
 ∀i:Nat,((vs.zipIdx k).foldl (fun cs (p:Value×Nat)=>cs.setIfInBounds (off+p.2) p.1) cells)[i]? =
  if off+k<=i/\i<off+k+vs.length/\i<cells.size then vs[i-(off+k)]? else cells[i]?
 |[],k,cells=>by simp;omega
 |v::vs,k,cells=>by
  have ih:=Yv off vs (k+1) (cells.setIfInBounds (off+k) v)
  simp only[List.zipIdx_cons,List.foldl_cons]
  refine⟨by rw[ih.1];simp,fun i=>?_⟩
  rw[ih.2 i]
  simp only[Array.size_setIfInBounds,List.length_cons,Array.getElem?_setIfInBounds]
  by_cases h1:off+(k+1)<=i/\i<off+(k+1)+vs.length/\i<cells.size
  ·rw[if_pos h1,if_pos (by omega)]
   rw[show i-(off+k)=(i-(off+(k+1)))+1 by omega,List.getElem?_cons_succ]
  ·rw[if_neg h1]
   by_cases h2:off+k=i
   ·subst h2
    by_cases h3:off+k<cells.size
    ·simp[h3]
    ·simp[h3]
   ·rw[if_neg h2]
    by_cases h4:off+k<=i/\i<off+k+(vs.length+1)/\i<cells.size
    ·omega
    ·rw[if_neg h4]
theorem ajY (cs:List AV) (off:Nat) (vs:List AV) (h:off+vs.length<=cs.length) (i:Nat):
 (df cs off vs)[i]? =if off<=i/\i<off+vs.length then vs[i-off]? else cs[i]?:=by
 unfold df
 rw[List.getElem?_append,List.getElem?_append]
 simp only[List.length_append,List.length_take,Nat.min_eq_left (show off<=cs.length by omega)]
 by_cases h1:i<off
 ·rw[if_pos (by omega),if_pos h1,List.getElem?_take,if_pos h1,if_neg (by omega)]
 ·by_cases h2:i<off+vs.length
  ·rw[if_pos h2,if_neg h1,if_pos (by omega)]
  ·rw[if_neg h2,if_neg (by omega),List.getElem?_drop]
   congr 1;omega
theorem KW (cs:List AV) (off:Nat) (vs:List AV) (h:off+vs.length<=cs.length):(df cs off vs).length=cs.length:=by
 unfold df;simp;omega
theorem Ln (cs:List AV) (off:Nat) (vs:List AV) (h:off<=cs.length) (i:Nat):
 (df cs off vs)[i]? =if off<=i/\i<off+vs.length then vs[i-off]? else cs[i]?:=by
 unfold df
 rw[List.getElem?_append,List.getElem?_append]
 simp only[List.length_append,List.length_take,Nat.min_eq_left h]
 by_cases h1:i<off
 ·rw[if_pos (by omega),if_pos h1,List.getElem?_take,if_pos h1,if_neg (by omega)]
 ·by_cases h2:i<off+vs.length
  ·rw[if_pos h2,if_neg h1,if_pos (by omega)]
  ·rw[if_neg h2,if_neg (by omega),List.getElem?_drop]
   congr 1;omega
theorem ahC (cs:List AV) (off:Nat) (vs:List AV) (h:off<=cs.length):(df cs off vs).length=max cs.length (off+vs.length):=by
 unfold df;simp;omega
def OR (ι:aF) (I:aP) (w:World) (ρ:Env) (x:aq) (c:Value):Prop:=VR ι I w (x.ev ρ) c
theorem Yx (place:Nat->Option (Nat×Nat)) {ρ:Env}: ∀(ps:List (Nat×Nat×aq)) (dJ:List (Nat×Value)) (cs:List AV) (cells:Array Value) (r:List AV),
 ps.length=dJ.length->(∀(i off sz j:Nat) (x:aq) (c:Value),ps[i]? =some (off,sz,x)->dJ[i]? =some (j,c)->place j=some (off,sz)/\OR ι I w ρ x c)->
 LR ι I w cs cells.toList->jY ρ cs ps=some r-> ∃G4,Instr.fill place cells dJ=some G4/\LR ι I w r G4.toList:=by
 intro ps
 induction ps with
 |nil=>
  intro dJ cs cells r hl _ hc hf
  cases dJ with
  |nil=>simp[jY] at hf;subst hf;exact⟨cells,rfl,hc⟩
  |cons _ _=>simp at hl
 |cons p ps ih=>
  intro dJ cs cells r hl hp hc hf
  cases dJ with
  |nil=>simp at hl
  |cons q dJ=>
   obtain⟨off,sz,x⟩:=p
   obtain⟨j,c⟩:=q
   obtain⟨ja,hx⟩:=hp 0 off sz j x c rfl rfl
   simp only[jY] at hf
   split at hf
   ·rename_i fR
    obtain⟨h1,h2,h3⟩:=fR
    have br:=VR.cells hx (LS h3)
    have aO:c.cells.size=sz:=by rw[<-h1,br.1];simp
    have di:cells.size=cs.length:=by rw[hc.1];simp
    have acB:=Yv off c.cells.toList 0 cells
    have at7:c.cells.zipIdx.foldl (fun cs (x:Value×Nat)=>cs.setIfInBounds (off+x.2) x.1) cells=(c.cells.toList.zipIdx 0).foldl (fun cs (x:Value×Nat)=>cs.setIfInBounds (off+x.2) x.1) cells:=by
     rw[<-Array.foldl_toList,Array.toList_zipIdx]
    have gh:LR ι I w (df cs off (x.ev ρ).cells) (c.cells.zipIdx.foldl (fun cs (x:Value×Nat)=>cs.setIfInBounds (off+x.2) x.1) cells).toList:=by
     rw[at7]
     refine⟨by rw[KW _ _ _ (by omega)];simp only[Array.length_toList];rw[acB.1,di],fun i v c' hv cQ=>?_⟩
     rw[ajY _ _ _ (by omega)] at hv
     rw[Array.getElem?_toList,acB.2 i] at cQ
     have hlen:c.cells.toList.length=(x.ev ρ).cells.length:=br.1.symm
     split at hv
     ·rename_i aB
      rw[if_pos (by simp only[Nat.add_zero];omega)] at cQ
      exact br.2 _ v c' hv (by simpa using cQ)
     ·rename_i aB
      rw[if_neg (by simp only[Nat.add_zero];omega)] at cQ
      exact hc.2 i v c' hv (by simpa using cQ)
    obtain⟨G4,he,hr⟩:=ih dJ _ _ r (by simpa using hl) (fun i off sz j x c hi hj=>hp (i+1) off sz j x c (by simpa using hi) (by simpa using hj)) gh hf
    refine⟨G4,?_,hr⟩
    unfold Instr.fill
    rw[ja]
    simp only[]
    rw[if_neg (by simp[aO];omega)]
    exact he
   ·cases hf
theorem akA (H:HR ι I h w) {t:TypeId} {z:Value} {za:List AV} {ρ:Env} {ps:List (Nat×Nat×aq)} {dJ:Array (Nat×Value)} {r:List AV}
 {place:Nat->Option (Nat×Nat)}
 (aoS: ∀cells,Instr.fill place z.cells dJ.toList=some cells->P.built t dJ.toList=some cells)
 (hz:LR ι I w za z.cells.toList) (hl:ps.length=dJ.size)
 (hp: ∀(i off sz j:Nat) (x:aq) (c:Value),ps[i]? =some (off,sz,x)->dJ[i]? =some (j,c)->place j=some (off,sz)/\OR ι I w ρ x c)
 (hf:jY ρ za ps=some r):eN P ι I h w (.agg r) (Instr.build t dJ):=by
 obtain⟨cells,hc,hr⟩:=Yx place ps dJ.toList za z.cells r (by simpa using hl) (fun i off sz j x c hi hj=>hp i off sz j x c hi (by simpa using hj)) hz hf
 refine .same H (run_build w t dJ cells (aoS _ hc)) ?_
 have:=VR.agg (ι:=ι) (I:=I) (w:=w) r cells.toList hr.1 hr.2
 simpa using this
end
end
section
open Go
section
variable {P:Program} {ι:aF} {I:aP} {h:aa} {w:World}
theorem HR.push (H:HR ι I h w) {w':World} {I':aP} (nq: ∀k,k<w.heap.size->w'.heap[k]? =w.heap[k]?) (uC:w.heap.size<=w'.heap.size)
 (jK:w'.os=w.os) (CS:w'.tape=w.tape) (oM:w'.output=w.output)
 (hI: ∀k j,I' k j->I k j\/(w.heap.size<=k/\k<w'.heap.size)) (hI2: ∀k j,I k j->I' k j):
 HR ι I' h w'/\Ext (fun _=>False) ι I h w ι I' h w':=by
 have br: ∀k j,k<w.heap.size->w'.cell? ⟨k,j,none⟩=w.cell? ⟨k,j,none⟩:=fun k j hk=>by simp[World.cell?,nq k hk]
 have mu: ∀k j,k<w.heap.size->w'.frozen? ⟨k,j,none⟩=w.frozen? ⟨k,j,none⟩:=fun k j hk=>by simp[World.frozen?,nq k hk]
 have E:Ext (fun _=>False) ι I h w ι I' h w':=
  {eZ:=fun _ _=>rfl,bN:=fun _ _ h=>h,next:=Nat.le_refl _,bB:=hI2,os:=jK,tape:=CS,output:=oM,size:=uC
   block:=fun k hk _=>nq k hk,cell:=fun k j hk _=>br k j hk,frozen:=fun k j hk _=>mu k j hk
   own:=fun _ _ h=> .inl h,gw:=fun k j h=>(hI k j h).imp id (fun h=> .inr h.1),lost:=fun _ _ _=>rfl}
 refine⟨?_,E⟩
 refine{cE:=H.cE,inside:=fun b l hb=>Nat.lt_of_lt_of_le (H.inside b l hb) uC,cells:=?_,maps:=?_,fo:=?_,dz:=H.dz,bB:=?_,dn:=?_
        pl:=fun b cs cb o room hg hb n=>by rw[mu cb n (H.inside b _ hb)];exact H.pl b cs cb o room hg hb n}
 ·intro b cs l hg hb
  obtain⟨cb,o,room,rfl,hle,h1,hc⟩:=H.cells b cs l hg hb
  have aB:cb<w.heap.size:=H.inside b _ hb
  refine⟨cb,o,room,rfl,hle,h1,fun j hj=>?_⟩
  obtain⟨c,bq,aU,dE⟩:=hc j hj
  exact⟨c,by rw[br _ _ aB];exact bq,by rw[mu _ _ aB];exact aU,fun v hv=>E.vr H (dE v hv)⟩
 ·intro b es l hg hb
  obtain⟨cb,aV,clock,rfl,hm,hl,hv⟩:=H.maps b es l hg hb
  refine⟨cb,aV,clock,rfl,by rw[nq cb (H.inside b _ hb)];exact hm,hl,fun i k v e h1 h2=>?_⟩
  obtain⟨a,c⟩:=hv i k v e h1 h2
  exact⟨E.vr H a,E.vr H c⟩
 ·intro b l hg hb
  obtain⟨cb,lo,hi,rfl,hc⟩:=H.fo b l hg hb
  have aB:cb<w.heap.size:=H.inside b _ hb
  refine⟨cb,lo,hi,rfl,fun j h1 h2=>?_⟩
  obtain⟨c,bq,aU⟩:=hc j h1 h2
  exact⟨c,by rw[br _ _ aB];exact bq,by rw[mu _ _ aB];exact aU⟩
 ·intro b l x k j hb hg hl hk
  rcases hI k j hk with hk|hk
  ·exact H.bB b l x k j hb hg hl hk
  ·have:=H.inside b l hb
   have:k=l.block:=by cases l<;>simp[Loc.has] at hl<;>simp[Loc.block,hl]
   omega
 ·intro k j hk
  rcases hI k j hk with hk|hk
  ·exact Nat.lt_of_lt_of_le (H.dn k j hk) uC
  ·exact hk.2
theorem flat_get {sz:Nat}: ∀(rows:List (List AV)),(∀r∈rows,r.length=sz)-> ∀(i j:Nat) (row:List AV),rows[i]? =some row->j<sz->
 rows.flatten[i*sz+j]? =row[j]?
 |[],_,i,j,row,h,_=>by simp at h
 |r::rows,hu,0,j,row,h,hj=>by
  simp at h;subst h
  have hr:=hu r (by simp)
  simp only[List.flatten_cons,Nat.zero_mul,Nat.zero_add]
  rw[List.getElem?_append_left (by omega)]
 |r::rows,hu,i+1,j,row,h,hj=>by
  have hr:=hu r (by simp)
  simp only[List.flatten_cons]
  rw[List.getElem?_append_right (by rw[hr,Nat.succ_mul];omega),hr,show(i+1)*sz+j-sz=i*sz+j by rw[Nat.succ_mul];omega]
  exact flat_get rows (fun r h=>hu r (List.mem_cons_of_mem _ h)) i j row (by simpa using h) hj
theorem mU {sz:Nat}: ∀(rows:List (List AV)),(∀r∈rows,r.length=sz)->rows.flatten.length=rows.length*sz
 |[],_=>by simp
 |r::rows,hu=>by
  rw[List.flatten_cons,List.length_append,mU rows (fun r h=>hu r (List.mem_cons_of_mem _ h)),hu r (by simp),List.length_cons,Nat.succ_mul];omega
theorem Gy {sz:Nat}: ∀(rows:List (List AV)),(∀r∈rows,r.length=sz)-> ∀(i:Nat) (vs:List AV),i<rows.length->vs.length=sz->
 (rows.set i vs).flatten=df rows.flatten (i*sz) vs
 |[],_,i,vs,hi,_=>by simp at hi
 |r::rows,hu,0,vs,_,hv=>by
  have hr:=hu r (by simp)
  simp only[List.set_cons_zero,List.flatten_cons,df,Nat.zero_mul,List.take_zero,List.nil_append,Nat.zero_add]
  congr 1
  rw[List.drop_append_of_le_length (by omega),List.drop_of_length_le (by omega),List.nil_append]
 |r::rows,hu,i+1,vs,hi,hv=>by
  have hr:=hu r (by simp)
  simp only[List.set_cons_succ,List.flatten_cons]
  rw[Gy rows (fun r h=>hu r (List.mem_cons_of_mem _ h)) i vs (by simpa using hi) hv]
  have e1:(i+1)*sz=r.length+i*sz:=by rw[hr,Nat.succ_mul];omega
  have e2:r.length+i*sz+vs.length=r.length+(i*sz+vs.length):=by omega
  simp only[df]
  rw[e1,e2]
  have t1:(r++rows.flatten).take (r.length+i*sz)=r++rows.flatten.take (i*sz):=by
   rw[List.take_append,List.take_of_length_le (by omega)];simp
  have t2:(r++rows.flatten).drop (r.length+(i*sz+vs.length))=rows.flatten.drop (i*sz+vs.length):=by
   rw[List.drop_append];simp
  rw[t1,t2]
  simp[List.append_assoc]
theorem VU {ρ:Env} {sz:Nat}: ∀(ps:List (Nat×aq)) (rows r:List (List AV)),(∀x∈rows,x.length=sz/\ ∀v∈x,v.one=true)->iv ρ sz rows ps=some r->
 (∀x∈r,x.length=sz/\ ∀v∈x,v.one=true)/\r.length=rows.length/\jY ρ rows.flatten (ps.map fun p=>(p.1*sz,sz,p.2))=some r.flatten
 |[],rows,r,hu,h=>by simp[iv] at h;subst h;exact⟨hu,rfl,by simp[jY]⟩
 |(i,x)::ps,rows,r,hu,h=>by
  simp only[iv] at h
  split at h
  ·rename_i hc
   obtain⟨h1,h2,h3⟩:=hc
   have ig: ∀y∈rows.set i (x.ev ρ).cells,y.length=sz/\ ∀v∈y,v.one=true:=by
    intro y hy
    rcases List.mem_or_eq_of_mem_set hy with hy|rfl
    ·exact hu y hy
    ·exact⟨h1,fun v hv=>(List.all_eq_true.1 h3) v hv⟩
   obtain⟨a,b,c⟩:=VU ps _ r ig h
   refine⟨a,by rw[b];simp,?_⟩
   simp only[List.map_cons,jY]
   have bP:=mU rows (fun r h=>(hu r h).1)
   have hle:i*sz+sz<=rows.flatten.length:=by
    rw[bP,<-Nat.succ_mul];exact Nat.mul_le_mul_right _ h2
   rw[if_pos ⟨h1,hle,h3⟩,<-Gy rows (fun r h=>(hu r h).1) i _ h2 h1]
   exact c
  ·cases h
theorem VF (za:List AV): ∀(n i:Nat),i<n*za.length->(List.replicate n za).flatten[i]? =za[i%za.length]?
 |0,i,h=>by simp at h
 |n+1,i,h=>by
  simp only[List.replicate_succ,List.flatten_cons]
  by_cases aC:i<za.length
  ·rw[List.getElem?_append_left aC,Nat.mod_eq_of_lt aC]
  ·have mr:i-za.length<n*za.length:=by rw[Nat.succ_mul] at h;omega
   rw[List.getElem?_append_right (by omega),VF za n _ mr]
   congr 1
   exact(Nat.mod_eq_sub_mod (by omega)).symm
theorem Bu {za:List AV} {z:Array Value} (hz:LR ι I w za z.toList) (n:Nat) (h0:za.length≠0\/n=0):
 LR ι I w (List.replicate n za).flatten (madeCells z (n*z.size)).toList:=by
 have hl:za.length=z.size:=by rw[hz.1];simp
 refine⟨by rw[mU (sz:=za.length) _ (fun r hr=>by rw[List.eq_of_mem_replicate hr])];simp[size_madeCells,hl],fun i v c hv hc=>?_⟩
 have hi:i<n*za.length:=by
  have:=(List.getElem?_eq_some_iff.1 hv).1
  rwa [mU (sz:=za.length) _ (fun r hr=>by rw[List.eq_of_mem_replicate hr]),List.length_replicate] at this
 rw[VF za n i hi] at hv
 have iy:0<za.length:=by
  rcases h0 with h|rfl
  ·omega
  ·simp at hi
 have hm:i%za.length<za.length:=Nat.mod_lt _ iy
 have aB:i<n*z.size:=by rw[<-hl];exact hi
 have:c=z[i%z.size]! :=by
  have h':(madeCells z (n*z.size))[i]? =some c:=by simpa using hc
  simp[madeCells,aB] at h'
  simpa using h'.symm
 subst this
 refine hz.2 (i%za.length) v _ hv ?_
 rw[hl] at hm ⊢
 simp[hm]
theorem Ma (H:HR ι I h w) {w':World} {e:TypeId} {fr:Nat×Nat} {arr:Array Value} (rq:w'.heap=w.heap.push (.cells arr e fr))
 (jK:w'.os=w.os) (CS:w'.tape=w.tape) (oM:w'.output=w.output)
 {rows:List (List AV)} {sz cap:Nat} (hu: ∀x∈rows,x.length=sz/\ ∀v∈x,v.one=true) {l:List Value}
 (hl:LR ι I w rows.flatten l) (rF: ∀(i:Nat) (c:Value),l[i]? =some c->arr[i]? =some c) (bw:rows.length<=cap) (t:aG) (ht:t= .ao\/(t= .full/\cap=rows.length)):
 ∃I',VR ι I' w' (.vs rows t) (.slice (some ⟨w.heap.size,0,none⟩) rows.length cap)/\HR ι I' h w'/\Ext (fun _=>False) ι I h w ι I' h w':=by
 have aO:w'.heap.size=w.heap.size+1:=by rw[rq];simp
 obtain⟨H',E⟩:=H.push (w':=w') (I':=fun k j=>I k j\/k=w.heap.size) (fun k hk=>by rw[rq,Array.getElem?_push,if_neg (by omega)]) (by omega) jK CS oM
  (fun k j hk=>hk.imp id (fun h=>by omega)) (fun k j hk=> .inl hk)
 refine⟨_,?_,H',E⟩
 have br: ∀j,w'.cell? ⟨w.heap.size,j,none⟩=arr[j]?:=fun j=>by simp[World.cell?,rq]
 have avt:=mU rows (fun r hr=>(hu r hr).1)
 have a9: ∀(i j:Nat) (row:List AV) (v:AV),rows[i]? =some row->row[j]? =some v-> ∃c,l[i*sz+j]? =some c/\VR ι I w v c:=by
  intro i j row v hi hj
  have hr:=(hu row (List.mem_of_getElem? hi)).1
  have dU:=(List.getElem?_eq_some_iff.1 hj).1
  have:=flat_get rows (fun r hr=>(hu r hr).1) i j row hi (by omega)
  exact hl.get (by rw[this];exact hj)
 refine .vs rows t w.heap.size 0 sz cap (fun i j=>l.getD (i*sz+j) undef) (fun i row hi=>(hu row (List.mem_of_getElem? hi)).1) (fun i j _ _=> .inr rfl) ?_ ?_ (fun row hr v hv=>(hu row hr).2 v hv) bw ?_
 ·intro i j hi hj
  have cu:=List.getElem?_eq_getElem hi
  have hr:=(hu rows[i] (List.getElem_mem hi)).1
  obtain⟨c,hc,_⟩:=a9 i j _ _ cu (List.getElem?_eq_getElem (by omega))
  rw[Nat.zero_add,br,rF _ _ hc]
  simp[List.getD,hc]
 ·intro i row j v hi hj
  obtain⟨c,hc,hv⟩:=a9 i j row v hi hj
  have:l.getD (i*sz+j) undef=c:=by simp[List.getD,hc]
  rw[this]
  exact E.vr H hv
 ·rcases ht with rfl|⟨rfl,hh⟩
  ·trivial
  ·exact hh
end
end
section
open Go
section
variable {P:Program} {ι:aF} {I:aP} {h:aa} {w:World}
theorem aih {ρ:Env} {sz:Nat} (ps:List (Nat×aq)) (dJ:List (Nat×Value)) (hl:ps.length=dJ.length)
 (hp: ∀(i j k:Nat) (x:aq) (c:Value),ps[i]? =some (j,x)->dJ[i]? =some (k,c)->j=k/\OR ι I w ρ x c):
 (ps.map fun p=>(p.1*sz,sz,p.2)).length=dJ.length/\
 ∀(i off aN j:Nat) (x:aq) (c:Value),(ps.map fun p=>(p.1*sz,sz,p.2))[i]? =some (off,aN,x)->dJ[i]? =some (j,c)->
  (some (j*sz,sz):Option (Nat×Nat))=some (off,aN)/\OR ι I w ρ x c:=by
 refine⟨by simpa using hl,fun i off aN j x c hi hj=>?_⟩
 rw[List.getElem?_map] at hi
 cases hq:ps[i]? with
 |none=>simp[hq] at hi
 |some q=>
  obtain⟨k,y⟩:=q
  simp[hq] at hi
  obtain⟨rfl,rfl,rfl⟩:=hi
  obtain⟨rfl,ho⟩:=hp i k j y c hq hj
  exact⟨rfl,ho⟩
theorem LR.one {za:List AV} {z:List Value} (h:LR ι I w za z) (n:Nat) (h1: ∀v∈za,v.one=true): ∀x∈List.replicate n za,x.length=za.length/\ ∀v∈x,v.one=true:=by
 intro x hx
 rw[List.eq_of_mem_replicate hx]
 exact⟨rfl,h1⟩
theorem V6 {za:List AV} {z:Value} {ρ:Env} {n:Nat} {ps:List (Nat×aq)} {dJ:Array (Nat×Value)} {rows:List (List AV)}
 (hz:LR ι I w za z.cells.toList) (h1: ∀v∈za,v.one=true) (h0:za.length≠0) (hl:ps.length=dJ.size)
 (hp: ∀(i j k:Nat) (x:aq) (c:Value),ps[i]? =some (j,x)->dJ[i]? =some (k,c)->j=k/\OR ι I w ρ x c)
 (hf:iv ρ za.length (List.replicate n za) ps=some rows):
 (∀x∈rows,x.length=za.length/\ ∀v∈x,v.one=true)/\rows.length=n/\
 ∃cells,Instr.fill (fun i=>some (i*za.length,za.length)) (madeCells z.cells (n*z.cells.size)) dJ.toList=some cells/\LR ι I w rows.flatten cells.toList:=by
 obtain⟨hu,hn,hA⟩:=VU ps _ rows (LR.one hz n h1) hf
 refine⟨hu,by simpa using hn,?_⟩
 obtain⟨a,b⟩:=aih (sz:=za.length) ps dJ.toList (by simpa using hl) (fun i j k x c hi hj=>hp i j k x c hi (by simpa using hj))
 exact Yx _ _ dJ.toList _ _ _ a b (Bu hz n (.inl h0)) hA
theorem WH (w:World) {t e:TypeId} {ie:TypeInfo} {z:Value} {len:Nat} {parts:Array (Nat×Value)} {cells:Array Value}
 (hu:P.underlying t=some (.slice e)) (cL:P.info? e=some ie) (hz:ie.zero=some z) (aO:ie.size=z.cells.size) (G2:len*ie.size<=2^24)
 (hc:Instr.fill (fun i=>some (i*ie.size,ie.size)) (madeCells z.cells (len*z.cells.size)) parts.toList=some cells):
 (Instr.buildSlice t len parts).run P w= .ok (.slice (some ⟨w.heap.size,0,none⟩) len len) (w.alloc (.cells cells e)):=by
 by_cases h0:len*ie.size=0
 ·have Vs:len*z.cells.size=0:=by rw[<-aO];exact h0
  rw[Vs] at hc
  have he:madeCells z.cells 0= #[]:=by simp[madeCells,Array.range_zero']
  rw[he] at hc
  simp[Instr.buildSlice,cG hu,Go.sizeOf,typeInfo,cL,h0,hc,newRow,Array.range_zero']
 ·exact run_buildSlice w t e len parts cells ie z hu cL hz (by omega) h0 (by rw[<-aO] at hc;exact hc)
theorem ajB (H:HR ι I h w) {t e:TypeId} {ie:TypeInfo} {z:Value} {za:List AV} {ρ:Env} {n:Nat} {ps:List (Nat×aq)} {dJ:Array (Nat×Value)} {rows:List (List AV)}
 (hu:P.underlying t=some (.slice e)) (cL:P.info? e=some ie) (tu:ie.zero=some z) (aO:ie.size=z.cells.size) (G2:n*ie.size<=2^24)
 (hz:LR ι I w za z.cells.toList) (h1: ∀v∈za,v.one=true) (h0:za.length≠0) (hl:ps.length=dJ.size)
 (hp: ∀(i j k:Nat) (x:aq) (c:Value),ps[i]? =some (j,x)->dJ[i]? =some (k,c)->j=k/\OR ι I w ρ x c)
 (hf:iv ρ za.length (List.replicate n za) ps=some rows):eN P ι I h w (.vs rows .full) (Instr.buildSlice t n dJ):=by
 obtain⟨ig,hn,cells,hc,dg⟩:=V6 hz h1 h0 hl hp hf
 have gT:za.length=z.cells.size:=by rw[hz.1];simp
 have hr:=WH (P:=P) w (parts:=dJ) (cells:=cells) hu cL tu aO G2 (by rw[aO,<-gT];rw[<-gT] at hc;exact hc)
 obtain⟨I',hv,H',E⟩:=Ma H (w':=w.alloc (.cells cells e)) (e:=e) (fr:=(0,0)) (arr:=cells) rfl rfl rfl rfl (cap:=n) ig dg (fun i c hc=>by simpa using hc) (by omega) .full (.inr ⟨rfl,hn.symm⟩)
 exact⟨_,_,I',hr,by rw[hn] at hv;exact hv,H',E⟩
theorem VY {bytes n:Nat} {l c:AV} (hm:ll bytes l c=some n):l= .int .i64 n/\c= .int .i64 n/\n<2^40/\bytes*n<=2^40:=by
 unfold ll at hm
 split at hm
 ·rename_i a b
  split at hm
  ·rename_i hc
   obtain⟨h1,rfl,h2,h3⟩:=hc
   cases hm
   have:((a.toNat:Nat):Int)=a:=Int.toNat_of_nonneg h1
   refine⟨by rw[this],by rw[this],by omega,?_⟩
   have:((bytes*a.toNat:Nat):Int)<=2^40:=by rw[Int.natCast_mul,this];exact h3
   exact_mod_cast this
  ·cases hm
 ·cases hm
theorem Wa (w:World) {t e:TypeId} {ie:TypeInfo} {z:Value} {n bytes:Nat}
 (hu:P.underlying t=some (.slice e)) (cL:P.info? e=some ie) (hz:ie.zero=some z) (aO:ie.size=z.cells.size) (hb:ie.bytes=bytes)
 (hn:n<2^40) (AO:bytes*n<=2^40):
 (Instr.makeSlice t (.int .i64 n) (.int .i64 n)).run P w= .ok (.slice (some ⟨w.heap.size,0,none⟩) n n) (w.alloc (.cells (madeCells z.cells (n*z.cells.size)) e)):=by
 have:=run_make (P:=P) w t e ie z hu cL hz .i64 .i64 n n (by omega) (by omega) (by
  rw[hb]
  have:((bytes*n:Nat):Int)<=281474976710656:=by omega
  rwa [Int.natCast_mul] at this) (by omega)
 simpa [aO] using this
theorem aik (H:HR ι I h w) {t e:TypeId} {ie:TypeInfo} {z:Value} {za:List AV} {n bytes:Nat} {l c:AV} {cl cc:Value}
 (hu:P.underlying t=some (.slice e)) (cL:P.info? e=some ie) (tu:ie.zero=some z) (aO:ie.size=z.cells.size) (hb:ie.bytes=bytes)
 (hz:LR ι I w za z.cells.toList) (h1: ∀v∈za,v.one=true) (h0:za.length≠0)
 (hl:VR ι I w l cl) (hc:VR ι I w c cc) (hm:ll bytes l c=some n):eN P ι I h w (.vs (List.replicate n za) .full) (Instr.makeSlice t cl cc):=by
 obtain⟨rfl,rfl,hn,AO⟩:=VY hm
 cases hl;cases hc
 have hr:=Wa (P:=P) w hu cL tu aO hb hn AO
 obtain⟨I',hv,H',E⟩:=Ma H (w':=w.alloc (.cells (madeCells z.cells (n*z.cells.size)) e)) (e:=e) (fr:=(0,0)) (arr:=madeCells z.cells (n*z.cells.size)) rfl rfl rfl rfl (cap:=n)
  (rows:=List.replicate n za) (sz:=za.length) (LR.one hz n h1) (Bu hz n (.inl h0)) (fun i c hc=>by simpa using hc) (by simp) .full (.inr ⟨rfl,by simp⟩)
 exact⟨_,_,I',hr,by simpa using hv,H',E⟩
theorem ai4 (H:HR ι I h w) {x v:AV} {c:Value} (hx:VR ι I w x c) (hn:notNil x=some v):
 c≠ .pointer none/\c≠ .nilIface/\c≠ .nilFunc/\(∀nm a b,c≠ .func (.method nm) a b)/\VR ι I w v c:=by
 cases hx<;>simp only[notNil] at hn<;>try(cases hn;done)
 case ptr b off cb o room hb=>cases hn;exact⟨by simp,by simp,by simp,by simp, .ptr _ _ _ _ _ hb⟩
 case vp xs off cb o g hI hc hv h1=>cases hn;exact⟨by simp,by simp,by simp,by simp, .vp _ _ _ _ g hI hc hv h1⟩
 case fn f fs cs eI bF hf hc Kq gl=>cases hn;exact⟨by simp,by simp,by simp,by simp, .fn f fs cs eI bF hf hc Kq gl⟩
theorem ak7 (op:BinOp) (k:IntKind) (a b:Int) (v:AV) (hs:op≠ .shl/\op≠ .shr) (hv:kj op k a b=some v) (t:TypeId):
 ∃c,(binOp op t (.int k a) (.int k b)).run P w= .ok c w/\VR ι I w v c:=by
 cases op<;>simp only[kj,oJ,Option.map_some,Option.map_none] at hv<;>try(cases hv;done)
 case quo=>split at hv;·cases hv
           ·rename_i hb;cases hv;exact⟨_,by simp[binOp,Op.intDiv,hb], .int _ _⟩
 case rem=>split at hv;·cases hv
           ·rename_i hb;cases hv;exact⟨_,by simp[binOp,Op.intDiv,hb], .int _ _⟩
 all_goals
  cases hv
  refine⟨_,by(simp only[binOp,ne_eq,not_true_eq_false,if_false];rfl),?_⟩
  constructor
theorem aj0 (op:BinOp) (k:FloatKind) (a b:Nat) (v:Bool) (hv:Jr op k a b=some v) (t:TypeId):
 (binOp op t (.float k a) (.float k b)).run P w= .ok (.bool v) w:=by
 cases op<;>simp only[Jr] at hv<;>first|(cases hv;done)|(cases hv;simp[binOp,Op.floatCmp])
theorem am5 (H:HR ι I h w) {tb:Bool} {op:BinOp} {x y v:AV} {cx cy:Value} (hx:VR ι I w x cx) (hy:VR ι I w y cy) (hv:cw tb op x y=some v) (t:TypeId)
 (ht:tb=true->P.underlying t=some .bool):eN P ι I h w v (binOp op t cx cy):=by
 cases hx<;>try(simp only[cw] at hv;cases hv;done)
 case int k a=>
  cases hy<;>try(simp only[cw] at hv;cases hv;done)
  rename_i k' b
  by_cases h1:op= .shl
  ·subst h1
   simp only[cw] at hv
   split at hv
   ·cases hv
   ·rename_i hb;cases hv;exact .same H (by simp[binOp,Op.shift,hb]) (.int _ _)
  ·by_cases h2:op= .shr
   ·subst h2
    simp only[cw] at hv
    split at hv
    ·cases hv
    ·rename_i hb;cases hv;exact .same H (by simp[binOp,Op.shift,hb]) (.int _ _)
   ·have:cw tb op (.int k a) (.int k' b)=if k=k' then kj op k a b else none:=by cases op<;>first|rfl|exact(h1 rfl).elim|exact(h2 rfl).elim
    rw[this] at hv
    split at hv
    ·rename_i hk;subst hk
     obtain⟨c,hr,hc⟩:=ak7 (P:=P) (ι:=ι) (I:=I) (w:=w) op k a b v ⟨h1,h2⟩ hv t
     exact .same H hr hc
    ·cases hv
 case bool a=>
  cases hy<;>try(simp only[cw] at hv;cases hv;done)
  rename_i b
  cases op<;>simp only[cw] at hv<;>try(cases hv;done)
  ·split at hv
   ·rename_i hb;cases hv;exact .same H (run_eql_bool w t a b (ht hb)) (.bool _)
   ·cases hv
  ·split at hv
   ·rename_i hb;cases hv;exact .same H (run_neq_bool w t a b (ht hb)) (.bool _)
   ·cases hv
 case fU k a=>
  cases hy<;>try(simp only[cw] at hv;cases hv;done)
  rename_i k' b
  simp only[cw] at hv
  split at hv
  ·rename_i hk;subst hk
   cases hq:Jr op k a b with
   |none=>simp[hq] at hv
   |some r=>simp[hq] at hv;subst hv;exact .same H (aj0 op k a b r hq t) (.bool _)
  ·cases hv
 case fX k a b=>
  cases hy<;>try(simp only[cw] at hv;cases hv;done)
  rename_i k' c d
  simp only[cw] at hv
  split at hv
  ·rename_i hk;subst hk
   cases op<;>simp only[] at hv<;>try(cases hv;done)
   ·cases hv;exact .same H (by simp[binOp,Op.complexOp,Op.Complex.cmp,Op.floatCmp,asBool]) (.bool _)
   ·cases hv;exact .same H (by simp[binOp,Op.complexOp,Op.Complex.cmp,Op.floatCmp,asBool]) (.bool _)
  ·cases hv
 case str a=>
  cases hy<;>try(simp only[cw] at hv;cases hv;done)
  rename_i b
  simp only[cw] at hv
  cases op<;>simp only[] at hv<;>try(cases hv;done)
  ·cases hv;exact .same H (by simp[binOp,Op.stringOp]) (.bool _)
  ·cases hv;exact .same H (by simp[binOp,Op.stringOp]) (.bool _)
end
end
section
open Go
section
variable {P:Program} {ι:aF} {I:aP} {h:aa} {w:World}
def BG:TypeDesc->Value->Option Nat
 | .pointer _, .pointer none=>some 0
 | .slice _, .slice none 0 0=>some 1
 | .func _ _ _, .nilFunc=>some 2
 | .map _ _, .map none=>some 3
 |_,_=>none
theorem alk {kd:Nat} {x:AV} {c:Value} {b:Bool} (hx:VR ι I w x c) (hb:il kd x=some b):
 (kd=0/\ ∃a,c= .pointer a/\b=a.isNone)\/(kd=1/\ ∃a l n,c= .slice a l n/\b=a.isNone)\/
 (kd=2/\((c= .nilFunc/\b=true)\/ ∃f u v,c= .func f u v/\b=false))\/(kd=3/\ ∃r,c= .map r/\b=r.isNone):=by
 cases hx
 case vs xs t cb o s cap g hs h1 h2 hv cU bw ht=>
  cases xs with
  |nil=>simp[il] at hb
  |cons x xs=>
   simp only[il] at hb
   split at hb
   ·cases hb;exact .inr (.inl ⟨by assumption,_,_,_,rfl,rfl⟩)
   ·cases hb
 all_goals simp only[il] at hb
 all_goals first
  |(cases hb;done)
  |(split at hb
    ·cases hb;first|exact .inl ⟨by assumption,_,rfl,rfl⟩|exact .inr (.inl ⟨by assumption,_,_,_,rfl,rfl⟩)|exact .inr (.inr (.inl ⟨by assumption, .inl ⟨rfl,rfl⟩⟩))|exact .inr (.inr (.inl ⟨by assumption, .inr ⟨_,_,_,rfl,rfl⟩⟩))|exact .inr (.inr (.inr ⟨by assumption,_,rfl,rfl⟩))
    ·cases hb)
theorem aks {t:TypeId} {d:TypeDesc} {nv:Value} {kd:Nat} (hu:P.underlying t=some d) (hk:BG d nv=some kd) {x:AV} {c:Value} {b:Bool}
 (hx:VR ι I w x c) (hb:il kd x=some b):(Op.equal t c nv).run P w= .ok b w/\
   ∀neg:Bool,(binOp (if neg then .neq else .eql) t c nv)=(do let r <-Op.equal t c nv;pure (.bool (if neg then !r else r))):=by
 suffices key:(∀n,(Op.equalIn (n+1) t c nv).run P w= .ok b w)/\ ∀neg:Bool,(binOp (if neg then .neq else .eql) t c nv)=(do let r <-Op.equal t c nv;pure (.bool (if neg then !r else r))) from⟨key.1 9999,key.2⟩
 unfold BG at hk
 rcases alk hx hb with⟨rfl,a,rfl,rfl⟩|⟨rfl,a,l,n,rfl,rfl⟩|⟨rfl,⟨rfl,rfl⟩|⟨f,u,v,rfl,rfl⟩⟩|⟨rfl,r,rfl,rfl⟩<;>
  (split at hk<;>first|(simp at hk;done)|skip)
 ·refine⟨fun n=>?_,fun neg=>by cases neg<;>cases a<;>rfl⟩
  cases a<;>simp[Op.equalIn,cG hu]
 ·refine⟨fun n=>?_,fun neg=>by cases neg<;>rfl⟩
  cases a<;>simp[Op.equalIn,cG hu]
 ·exact⟨fun n=>by simp[Op.equalIn,cG hu],fun neg=>by cases neg<;>rfl⟩
 ·exact⟨fun n=>by simp[Op.equalIn,cG hu],fun neg=>by cases neg<;>rfl⟩
 ·refine⟨fun n=>?_,fun neg=>by cases neg<;>rfl⟩
  cases r<;>simp[Op.equalIn,cG hu]
theorem akt (H:HR ι I h w) {t:TypeId} {d:TypeDesc} {nv:Value} {kd:Nat} (hu:P.underlying t=some d) (hk:BG d nv=some kd) (neg:Bool) {x v:AV} {c:Value}
 (hx:VR ι I w x c) (hv:((il kd x).map fun b=>AV.bool (if neg then !b else b))=some v):eN P ι I h w v (binOp (if neg then .neq else .eql) t c nv):=by
 cases hb:il kd x with
 |none=>simp[hb] at hv
 |some b=>
  simp[hb] at hv
  subst hv
  obtain⟨hr,hs⟩:=aks (P:=P) hu hk hx hb
  exact .same H (c:= .bool (if neg then !b else b)) (by rw[hs];simp[hr]) (.bool _)
theorem am6 (H:HR ι I h w) {op:UnOp} {x v:AV} {c:Value} (hx:VR ι I w x c) (hv:Bg op x=some v):eN P ι I h w v (Op.unary op c):=by
 cases hx<;>simp only[Bg] at hv<;>try(cases hv;done)
 case int k n=>
  cases op<;>simp only[oJ,Option.map_some] at hv<;>try(cases hv;done)
  all_goals (cases hv;exact .same H rfl (.int _ _))
 case bool b=>
  cases op<;>simp only[] at hv<;>try(cases hv;done)
  cases hv;exact .same H rfl (.bool _)
theorem ajS (H:HR ι I h w) {src dst:TypeId} {ds:TypeDesc} {k:IntKind} (hs:P.underlying src=some ds) (hd:P.underlying dst=some (.int k)) {x v:AV} {c:Value} (hx:VR ι I w x c)
 (hv:BO k x=some v):eN P ι I h w v (convert src dst c):=by
 unfold BO at hv
 cases hx<;>simp only[] at hv<;>try(cases hv;done)
 cases hv
 refine .same H (c:= .int k (k.wrap _)) ?_ (.int _ _)
 cases ds<;>simp[convert,cG hs,cG hd,Conv.intToInt]
theorem LR.cut {cs:List AV} {bF:List Value} (hl:LR ι I w cs bF) {ag:Bool} {sz off:Nat} {v:AV} (hc:cut ag sz off cs=some v):
 if ag then∃l',VR ι I w v (.agg l'.toArray)/\l'=(bF.drop off).take sz/\off+sz<=bF.length else∃c,bF[off]? =some c/\VR ι I w v c:=by
 unfold Am.cut at hc
 cases ag
 ·simp only[Bool.false_eq_true,if_false] at hc ⊢
  exact hl.get hc
 ·simp only[if_true] at hc ⊢
  split at hc
  ·rename_i hle
   cases hc
   have:=(hl.drop off).take sz
   exact⟨_, .agg _ _ this.1 this.2,rfl,by rw[<-hl.1];exact hle⟩
  ·cases hc
theorem X5 {t:TypeId} {d:TypeDesc} {sz:Nat} (hu:P.underlying t=some d) (hs:(P.info? t).map (·.size)=some sz) (w:World) {cs:List AV} {bF:List Value} (hl:LR ι I w cs bF)
 {off:Nat} {v:AV} (hc:cut d.isRow sz off cs=some v): ∃c,(part t bF.toArray off).run P w= .ok c w/\VR ι I w v c:=by
 have:=hl.cut hc
 cases hd:d.isRow with
 |true=>
  rw[hd] at this
  simp only[if_true] at this
  obtain⟨l',hv,rfl,hle⟩:=this
  refine⟨_,?_,hv⟩
  simp[part,yP hu,hd,l9 hs,List.drop_take]
 |false=>
  rw[hd] at this
  simp only[Bool.false_eq_true,if_false] at this
  obtain⟨c,iV,hv⟩:=this
  exact⟨c,by simp[part,yP hu,hd,iV],hv⟩
theorem amD (H:HR ι I h w) {s:TypeId} {fs:Array Field} {f:Nat} {fd:Field} {d:TypeDesc} {sz:Nat} (hu:P.underlying s=some (.struct fs)) (hf:fs[f]? =some fd)
 (hd:P.underlying fd.type=some d) (hs:(P.info? fd.type).map (·.size)=some sz) {x v:AV} {c:Value} (hx:VR ι I w x c)
 (hv:Es d.isRow sz fd.offset x=some v):eN P ι I h w v (Instr.field s c f):=by
 unfold Es at hv
 cases hx<;>simp only[] at hv<;>try(cases hv;done)
 rename_i cs bF hl gl
 obtain⟨r,hr,gF⟩:=X5 (P:=P) hd hs w (cs:=cs) (bF:=bF) ⟨hl,gl⟩ hv
 exact .same H (by simp[Instr.field,cG hu,hf,asAgg,hr]) gF
theorem alB (H:HR ι I h w) {t e:TypeId} {len sz:Nat} {d:TypeDesc} (hu:P.underlying t=some (.array len e)) (hd:P.underlying e=some d) (hs:(P.info? e).map (·.size)=some sz)
 {x i v:AV} {c ci:Value} (hx:VR ι I w x c) (hi:VR ι I w i ci)
 (hv:CQ d.isRow sz len x i=some v):eN P ι I h w v (Instr.index t c ci):=by
 unfold CQ at hv
 cases hi<;>try(simp only[] at hv;cases hv;done)
 cases hx<;>simp only[] at hv<;>try(cases hv;done)
 rename_i k n cs bF hl gl
 split at hv
 ·rename_i hb
  obtain⟨r,hr,gF⟩:=X5 (P:=P) hd hs w (cs:=cs) (bF:=bF) ⟨hl,gl⟩ hv
  exact .same H (by simp[Instr.index,asIntOf,cG hu,hb,l9 hs,hr]) gF
 ·cases hv
theorem amF (H:HR ι I h w) {x v:AV} {c:Value} {i:Nat} (hx:VR ι I w x c) (hv:Et i x=some v):eN P ι I h w v (Instr.extract c i):=by
 unfold Et at hv
 cases hx<;>simp only[] at hv<;>try(cases hv;done)
 rename_i cs bF hl gl
 obtain⟨r,hr,gF⟩:=LR.get (l':=bF) ⟨hl,gl⟩ hv
 exact .same H (by simp[Instr.extract,hr]) gF
theorem als (H:HR ι I h w) {t e:TypeId} (ts:Array TypeId) (ty:TypeId) (h0:ts[0]? =some t) (hu:P.underlying t=some (.slice e)) {x v:AV} {c:Value} (hx:VR ι I w x c)
 (hv:((gC x).map fun(n:Nat)=>AV.int .i64 n)=some v):eN P ι I h w v (Builtin.len_ ts ty #[c]):=by
 cases hx<;>simp only[gC,Option.map_some,Option.map_none] at hv<;>try(cases hv;done)
 all_goals (cases hv;exact .same H (by simp[Builtin.len_,h0,cG hu,goInt]) (.int _ _))
theorem ajd (H:HR ι I h w) {t:TypeId} (ts:Array TypeId) (ty:TypeId) (h0:ts[0]? =some t) (hu:P.underlying t=some .string) {x v:AV} {c:Value} (hx:VR ι I w x c)
 (hv:GO x=some v):eN P ι I h w v (Builtin.len_ ts ty #[c]):=by
 unfold GO at hv
 cases hx<;>simp only[] at hv<;>try(cases hv;done)
 cases hv;exact .same H (by simp[Builtin.len_,h0,cG hu,goInt]) (.int _ _)
theorem ai5 {mx:Bool} {x y v:AV} {cx cy:Value} (hx:VR ι I w x cx) (hy:VR ι I w y cy) (hv:pK mx x y=some v):
 ∃c,((if mx then Builtin.max2 else Builtin.min2) cx cy).run P w= .ok c w/\VR ι I w v c:=by
 cases hx<;>try(simp only[pK] at hv;cases hv;done)
 case int k a=>
  cases hy<;>simp only[pK] at hv<;>try(cases hv;done)
  split at hv
  ·rename_i hk;subst hk;cases hv
   cases mx<;>exact⟨_,rfl, .int _ _⟩
  ·cases hv
 case fU k a=>
  cases hy<;>simp only[pK] at hv<;>try(cases hv;done)
  rename_i k' b
  split at hv
  ·rename_i hk;subst hk
   cases mx<;>(cases ho:k.format.order a b with
    |none=>simp[ho] at hv
    |some o=>cases o<;>(simp[ho] at hv;subst hv;exact⟨_,by simp[Builtin.max2,Builtin.min2,ho], .fU _ _⟩))
  ·cases hv
end
end
section
open Go
section
variable {P:Program} {ι:aF} {I:aP} {h:aa} {w:World}
theorem yz (cs:List AV) (sz:Nat): ∀(n off:Nat),off+n*sz<=cs.length->(rowsOf cs off sz n).length=n/\(∀r∈rowsOf cs off sz n,r.length=sz/\ ∀v∈r,v∈cs)/\
 (rowsOf cs off sz n).flatten=(cs.drop off).take (n*sz)
 |0,off,h=>by simp[rowsOf]
 |n+1,off,h=>by
  have hh:off+sz+n*sz<=cs.length:=by rw[Nat.succ_mul] at h;omega
  obtain⟨h1,h2,h3⟩:=yz cs sz n (off+sz) hh
  refine⟨by simp[rowsOf,h1],fun r hr=>?_,?_⟩
  ·rcases List.mem_cons.1 hr with rfl|hr
   ·refine⟨?_,fun v hv=>List.mem_of_mem_drop (List.mem_of_mem_take hv)⟩
    simp;omega
   ·exact h2 r hr
  ·simp only[rowsOf,List.flatten_cons,h3]
   rw[Nat.succ_mul,Nat.add_comm (n*sz) sz,List.take_add,List.drop_drop]
theorem Ls {sz s:Nat} {xs:List (List AV)} (hs: ∀(i:Nat) (row:List AV),xs[i]? =some row->row.length=s) (h:dH sz xs=true): ∀r∈xs,r.length=sz:=by
 intro r hr
 obtain⟨i,hi,rfl⟩:=List.getElem_of_mem hr
 have h1:=hs i _ (List.getElem?_eq_getElem hi)
 cases xs with
 |nil=>simp at hi
 |cons x xs=>
  have h2:=hs 0 x rfl
  simp[dH] at h
  omega
structure Rd (ι:aF) (I:aP) (w:World) (sz:Nat) (rows:List (List AV)) (a:Option Addr) (l:List Value):Prop where
 lM: ∀r∈rows,r.length=sz/\ ∀v∈r,v.one=true
 lr:LR ι I w rows.flatten l
 cell: ∀ad,a=some ad-> ∀(j:Nat) (u:Value),l[j]? =some u->w.cell? (ad.add j)=some u
 none:a=none->rows=[]
theorem Rd.len {sz:Nat} {rows:List (List AV)} {a:Option Addr} {l:List Value} (hr:Rd ι I w sz rows a l):l.length=rows.length*sz:=by
 rw[<-hr.lr.1,mU rows (fun r h=>(hr.lM r h).1)]
theorem Rd.one {sz:Nat} {rows:List (List AV)} {a:Option Addr} {l:List Value} (hr:Rd ι I w sz rows a l): ∀u∈l,u.oneCell'=true:=by
 intro u hu
 obtain⟨i,hi,rfl⟩:=List.getElem_of_mem hu
 have aA:i<rows.flatten.length:=by rw[hr.lr.1];exact hi
 have hv:=hr.lr.2 i _ _ (List.getElem?_eq_getElem aA) (List.getElem?_eq_getElem hi)
 refine hv.one ?_
 obtain⟨r,UN,xT⟩:=List.mem_flatten.1 (List.getElem_mem aA)
 exact(hr.lM r UN).2 _ xT
theorem vO (H:HR ι I h w) {x:AV} {c:Value} {sz:Nat} {rows:List (List AV)} (hx:VR ι I w x c) (hr:cP sz h x=some rows):
 ∃a cap l,c= .slice a rows.length cap/\rows.length<=cap/\Rd ι I w sz rows a l:=by
 cases hx<;>simp only[cP] at hr<;>try(cases hr;done)
 case gr t ht=>
  simp at hr;obtain⟨_,rfl⟩:=hr
  exact⟨none,0,[],rfl,Nat.le_refl _,by simp,LR.nil,by simp,fun _=>rfl⟩
 case gi t a cap ht=>
  simp at hr;obtain⟨_,rfl⟩:=hr
  exact⟨some a,cap,[],rfl,Nat.zero_le _,by simp,LR.nil,fun ad vB=>by simp,fun h=>by cases h⟩
 case bA=>
  cases hr
  exact⟨none,0,[],rfl,Nat.le_refl _,by simp,LR.nil,by simp,fun _=>rfl⟩
 case vs xs t cb o s cap g hs hI hc hv h1 bw ht=>
  split at hr
  ·rename_i gD
   cases hr
   have Iq: ∀r∈rows,r.length=sz:=Ls hs gD
   have bP:=mU rows Iq
   refine⟨some ⟨cb,o,none⟩,cap,(List.range (rows.length*sz)).map fun j=>g (j/sz) (j%sz),rfl,bw,fun r hr=>⟨Iq r hr,h1 r hr⟩,?_,?_,by simp⟩
   ·refine⟨by simp[bP],fun j v c cV cQ=>?_⟩
    have hj:j<rows.length*sz:=by rw[<-bP];exact(List.getElem?_eq_some_iff.1 cV).1
    have iy:0<sz:=by
     rcases Nat.eq_zero_or_pos sz with h0|h0
     ·rw[h0] at hj;simp at hj
     ·exact h0
    have hd:j/sz<rows.length:=(Nat.div_lt_iff_lt_mul iy).2 hj
    have hm:j%sz<sz:=Nat.mod_lt _ iy
    have cu:=List.getElem?_eq_getElem hd
    have:=flat_get rows Iq (j/sz) (j%sz) _ cu hm
    rw[Nat.div_add_mod' j sz,cV] at this
    simp[hj] at cQ
    subst cQ
    exact hv _ _ _ _ cu this.symm
   ·intro ad vB
    cases vB
    intro j u hu
    rw[Addr.add_mid]
    have hj:j<rows.length*sz:=by have:=(List.getElem?_eq_some_iff.1 hu).1;simpa using this
    simp[hj] at hu
    subst hu
    have iy:0<sz:=by
     rcases Nat.eq_zero_or_pos sz with h0|h0
     ·rw[h0] at hj;simp at hj
     ·exact h0
    have hd:j/sz<rows.length:=(Nat.div_lt_iff_lt_mul iy).2 hj
    have hm:j%sz<sz:=Nat.mod_lt _ iy
    have i9:s=sz:=by rw[<-hs _ _ (List.getElem?_eq_getElem hd)];exact Iq _ (List.getElem_mem hd)
    subst i9
    have:=hc _ _ hd hm
    rwa [Nat.add_assoc,Nat.div_add_mod' j s] at this
  ·cases hr
 case vz a cap=>
  cases hr
  exact⟨some a,cap,[],rfl,Nat.zero_le _,⟨by simp,LR.nil,fun ad _ j u hu=>by simp at hu,fun h=>by cases h⟩⟩
 case rs b off len aN cb o room cap hb hlen bw=>
  split at hr
  ·rename_i hz
   subst hz
   cases hg:cellsOf h b with
   |none=>simp[hg] at hr
   |some cs=>
    simp only[hg] at hr
    split at hr
    ·rename_i hle
     cases hr
     obtain⟨h1,h2,h3⟩:=yz cs aN len off hle
     have cD:h.get b=some (.cells cs):=by
      unfold cellsOf at hg;split at hg
      ·rename_i bF hh;cases hg;exact hh
      ·cases hg
     obtain⟨cu,_,cU⟩:=H.row cD hb
     obtain⟨l,eo,eD,rX⟩:=(cu.sub off (len*aN)).list
     refine⟨some ⟨cb,o+off,none⟩,cap,l,by rw[h1],by rw[h1];exact hlen,fun r hr=>⟨(h2 r hr).1,fun v hv=>cU v ((h2 r hr).2 v hv)⟩,?_,?_,by simp⟩
     ·rw[h3];exact⟨eo,rX⟩
     ·intro ad vB
      cases vB
      intro j u hu
      rw[Addr.add_mid]
      exact eD j u hu
    ·cases hr
  ·cases hr
 case rk b off len aN cap cb o room hb hlen bw=>
  split at hr
  ·rename_i hz
   subst hz
   cases hg:cellsOf h b with
   |none=>simp[hg] at hr
   |some cs=>
    simp only[hg] at hr
    split at hr
    ·rename_i hle
     cases hr
     obtain⟨h1,h2,h3⟩:=yz cs aN len off hle
     have cD:h.get b=some (.cells cs):=by
      unfold cellsOf at hg;split at hg
      ·rename_i bF hh;cases hg;exact hh
      ·cases hg
     obtain⟨cu,_,cU⟩:=H.row cD hb
     obtain⟨l,eo,eD,rX⟩:=(cu.sub off (len*aN)).list
     refine⟨some ⟨cb,o+off,none⟩,cap,l,by rw[h1],by rw[h1];exact hlen,fun r hr=>⟨(h2 r hr).1,fun v hv=>cU v ((h2 r hr).2 v hv)⟩,?_,?_,by simp⟩
     ·rw[h3];exact⟨eo,rX⟩
     ·intro ad vB
      cases vB
      intro j u hu
      rw[Addr.add_mid]
      exact eD j u hu
    ·cases hr
  ·cases hr
theorem Rd.src {sz:Nat} {rows:List (List AV)} {a:Option Addr} {l:List Value} (hr:Rd ι I w sz rows a l) {tx e':TypeId} (hk:P.underlying tx=some (.slice e')) (cap:Nat):
 Src P sz tx (.slice a rows.length cap) rows.length l w:=by
 cases a with
 |none=>
  have:=hr.none rfl
  subst this
  have hl:l=[]:=by have:=hr.len;simp at this;exact this
  subst hl
  exact Src.ofNil w hk cap
 |some ad=>
  exact Src.ofSlice w hk _ _ _ _ hr.len (hr.cell ad rfl) hr.one
theorem yF {ρ:Env} {d n:Nat} {x:aq} {c:Value} (hx:OR ι I w ρ x c) (hb:cB ρ d (some x)=some n): ∃k,c= .int k n:=by
 unfold OR at hx
 simp only[cB] at hb
 cases kS:x.ev ρ<;>simp only[kS] at hb<;>try(cases hb;done)
 rename_i k i
 rw[kS] at hx
 split at hb
 ·rename_i h0
  cases hb
  cases hx
  exact⟨k,by rw[Int.toNat_of_nonneg h0]⟩
 ·cases hb
theorem sD (w:World) (k:IntKind) (n y:Nat) (code:BoundsCode) (h:n<=y):(Instr.sliceBound (.int k n) y code).run P w= .ok n w:=by
 simp[Instr.sliceBound,asIntOf,h]
def yu (ι:aF) (I:aP) (w:World) (ρ:Env):Option aq->Option Value->Prop
 |none,none=>True
 |some x,some c=>OR ι I w ρ x c
 |_,_=>False
theorem qL {ρ:Env} {lo hi mx:Option aq} {mL qz sl:Option Value} (gy:yu ι I w ρ lo mL) (kV:yu ι I w ρ hi qz) (mH:yu ι I w ρ mx sl)
 {len cap l hh m:Nat} (h1:cB ρ len hi=some hh) (h2:cB ρ 0 lo=some l) (h3:cB ρ cap mx=some m) (AD:l<=hh) (hlen:len<=cap)
 (Kp:hh<=m) (hm:m<=cap) (auw:mx.isSome->hi.isSome) (b:Bool):
 (Instr.sliceBounds b len cap mL qz sl).run P w= .ok (l,hh,m) w:=by
 unfold Instr.sliceBounds
 cases mx with
 |none=>
  cases sl with
  |some _=>exact mH.elim
  |none=>
   simp only[cB,Option.some.injEq] at h3
   subst h3
   cases hi with
   |none=>
    cases qz with
    |some _=>exact kV.elim
    |none=>
     simp only[cB,Option.some.injEq] at h1
     subst h1
     cases lo with
     |none=>
      cases mL with
      |some _=>exact gy.elim
      |none=>simp only[cB,Option.some.injEq] at h2;subst h2;simp
     |some x=>
      cases mL with
      |none=>exact gy.elim
      |some c=>
       obtain⟨k,rfl⟩:=yF gy h2
       simp[sD (P:=P) w k l _ _ AD]
   |some y=>
    cases qz with
    |none=>exact kV.elim
    |some cy=>
     obtain⟨ky,rfl⟩:=yF kV h1
     cases lo with
     |none=>
      cases mL with
      |some _=>exact gy.elim
      |none=>simp only[cB,Option.some.injEq] at h2;subst h2;simp[sD (P:=P) w ky hh _ _ Kp]
     |some x=>
      cases mL with
      |none=>exact gy.elim
      |some c=>
       obtain⟨k,rfl⟩:=yF gy h2
       simp[sD (P:=P) w k l _ _ AD,sD (P:=P) w ky hh _ _ Kp]
 |some z=>
  cases sl with
  |none=>exact mH.elim
  |some cz=>
   obtain⟨kz,rfl⟩:=yF mH h3
   cases hi with
   |none=>simp at auw
   |some y=>
    cases qz with
    |none=>exact kV.elim
    |some cy=>
     obtain⟨ky,rfl⟩:=yF kV h1
     cases lo with
     |none=>
      cases mL with
      |some _=>exact gy.elim
      |none=>simp only[cB,Option.some.injEq] at h2;subst h2;simp[sD (P:=P) w ky hh _ _ Kp,sD (P:=P) w kz m _ _ hm]
     |some x=>
      cases mL with
      |none=>exact gy.elim
      |some c=>
       obtain⟨k,rfl⟩:=yF gy h2
       simp[sD (P:=P) w k l _ _ AD,sD (P:=P) w ky hh _ _ Kp,sD (P:=P) w kz m _ _ hm]
theorem X4 {t':aG} {xs:List (List AV)} {cb o s sz l n xq:Nat} {g:Nat->Nat->Value}
 (hs: ∀(i:Nat) (row:List AV),xs[i]? =some row->row.length=s)
 (hI: ∀i j,i<xs.length->j<s->I cb (o+i*s+j))
 (hc: ∀i j,i<xs.length->j<s->w.cell? ⟨cb,o+i*s+j,none⟩=some (g i j))
 (hv: ∀(i:Nat) (row:List AV) (j:Nat) (v:AV),xs[i]? =some row->row[j]? =some v->VR ι I w v (g i j))
 (h1: ∀row∈xs,∀v∈row,AV.one v=true) (hk:dH sz xs=true) (hn:l+n<=xs.length) (bw:n<=xq) (o':Nat) (ho:n≠0->o'=o+l*sz)
 (ht:(n≠0->s=sz/\o'=o+l*s)->Pv ι cb o' s n xq t'):
 VR ι I w (.vs ((xs.drop l).take n) t') (.slice (some ⟨cb,o',none⟩) n xq):=by
 have hlen:((xs.drop l).take n).length=n:=by simp;omega
 have gD:=Ls hs hk
 have i9:n≠0->s=sz:=by
  intro h0
  have hl:l<xs.length:=by omega
  rw[<-hs l _ (List.getElem?_eq_getElem hl)]
  exact gD _ (List.getElem_mem hl)
 have a9: ∀(i:Nat) (row:List AV),((xs.drop l).take n)[i]? =some row->xs[l+i]? =some row/\i<n:=by
  intro i row hi
  rw[List.getElem?_take] at hi
  split at hi
  ·rename_i aC;rw[List.getElem?_drop] at hi;exact⟨hi,aC⟩
  ·cases hi
 have u1: ∀i j,i<n->o'+i*s+j=o+(l+i)*s+j:=by
  intro i j hi
  have h0:n≠0:=by omega
  rw[ho h0,<-i9 h0,Nat.add_mul];omega
 have key:=VR.vs (ι:=ι) (I:=I) (w:=w) ((xs.drop l).take n) t' cb o' s xq (fun i j=>g (l+i) j) (fun i row hi=>hs _ row (a9 i row hi).1)
  (fun i j hi hj=>by rw[hlen] at hi;rw[u1 i j hi];exact hI _ _ (by omega) hj)
  (fun i j hi hj=>by rw[hlen] at hi;rw[u1 i j hi];exact hc _ _ (by omega) hj)
  (fun i row j v hi hj=>hv _ row j v (a9 i row hi).1 hj)
  (fun row hr v cV=>h1 row (List.mem_of_mem_drop (List.mem_of_mem_take hr)) v cV) (by rw[hlen];exact bw)
  (by rw[hlen];exact ht (fun h0=>⟨i9 h0,by rw[ho h0,i9 h0]⟩))
 rw[hlen] at key
 exact key
theorem qP {t e:TypeId} {sz:Nat} (hu:P.underlying t=some (.slice e)) (aO:(P.info? e).map (·.size)=some sz) (w:World) {a:Option Addr} {len cap l hh m:Nat} {mL qz sl:Option Value}
 (hb:(Instr.sliceBounds true len cap mL qz sl).run P w= .ok (l,hh,m) w):
 (Instr.sliceAt t (.slice a len cap) mL qz sl).run P w= .ok (.slice (if m=l then a else a.map (·.add (l*sz))) (hh-l) (m-l)) w:=by
 simp[Instr.sliceAt,cG hu,Instr.slice,hb,l9 aO]
theorem ame (H:HR ι I h w) {t e:TypeId} {sz:Nat} (hu:P.underlying t=some (.slice e)) (aO:(P.info? e).map (·.size)=some sz) {ρ:Env} {lo hi mx:Option aq} {mL qz sl:Option Value}
 (gy:yu ι I w ρ lo mL) (kV:yu ι I w ρ hi qz) (mH:yu ι I w ρ mx sl) {x v:AV} {c:Value} (hx:VR ι I w x c) (hv:iM ρ sz x lo hi mx=some v):
 eN P ι I h w v (Instr.sliceAt t c mL qz sl):=by
 cases hx<;>try(simp only[iM] at hv;cases hv;done)
 case bA=>
  simp only[iM,Option.bind_eq_bind,Option.bind_eq_some_iff] at hv
  obtain⟨hh,h1,l,h2,m,h3,hv⟩:=hv
  split at hv
  ·rename_i hc
   obtain⟨rfl,rfl,rfl,Kj⟩:=hc
   cases hv
   cases mx with
   |none=>
    have hb:=qL (P:=P) gy kV mH h1 h2 (cap:=0) rfl (Nat.le_refl _) (Nat.le_refl _) (Nat.le_refl _) (Nat.le_refl _) (by simp) true
    exact .same H (qP hu aO w hb) .bA
   |some z=>
    have hb:=qL (P:=P) gy kV mH h1 h2 (cap:=0) h3 (Nat.le_refl _) (Nat.le_refl _) (Nat.le_refl _) (Nat.le_refl _) Kj true
    exact .same H (qP hu aO w hb) .bA
  ·cases hv
 case gr t' ht=>
  simp only[iM,Option.bind_eq_bind,Option.bind_eq_some_iff,List.length_nil] at hv
  obtain⟨hh,h1,l,h2,hv⟩:=hv
  split at hv
  ·rename_i hc
   obtain⟨bq,aU,-⟩:=hc
   have:hh=0:=by omega
   subst this
   have:l=0:=by omega
   subst this
   cases mx with
   |none=>
    cases hv
    have hb:=qL (P:=P) gy kV mH h1 h2 (cap:=0) rfl (Nat.le_refl _) (Nat.le_refl _) (Nat.le_refl _) (Nat.le_refl _) (by simp) true
    refine .same H (qP hu aO w hb) ?_
    simp
    refine .gr _ ?_
    rcases ht with rfl|rfl<;>simp[nX]
   |some z=>
    simp only[Option.bind_eq_some_iff] at hv
    obtain⟨m,h3,hv⟩:=hv
    split at hv
    ·rename_i hc
     obtain⟨aA,Fe,mI⟩:=hc
     have:m=0:=by omega
     subst this
     cases hv
     have hb:=qL (P:=P) gy kV mH h1 h2 (cap:=0) h3 (Nat.le_refl _) (Nat.le_refl _) (Nat.le_refl _) (Nat.le_refl _) (fun _=>aA) true
     refine .same H (qP hu aO w hb) ?_
     simp
     exact .gr _ (.inr rfl)
    ·cases hv
  ·cases hv
 case gi t' a cap ht=>
  simp only[iM,Option.bind_eq_bind,Option.bind_eq_some_iff,List.length_nil] at hv
  obtain⟨hh,h1,l,h2,hv⟩:=hv
  split at hv
  ·rename_i hc
   obtain⟨bq,aU,-⟩:=hc
   have:hh=0:=by omega
   subst this
   have:l=0:=by omega
   subst this
   have zz: ∀m,(if m=0 then some a else(some a).map (·.add (0*sz)))=some a:=by intro m;split<;>simp[Addr.add]
   cases mx with
   |none=>
    cases hv
    have hb:=qL (P:=P) gy kV mH h1 h2 (cap:=cap) rfl (Nat.le_refl _) (Nat.zero_le _) (Nat.zero_le _) (Nat.le_refl _) (by simp) true
    refine .same H (qP hu aO w hb) ?_
    rw[zz]
    simp
    refine .gi _ _ _ ?_
    rcases ht with rfl|⟨rfl,rfl⟩<;>simp[nX]
   |some z=>
    simp only[Option.bind_eq_some_iff] at hv
    obtain⟨m,h3,hv⟩:=hv
    split at hv
    ·rename_i hc
     obtain⟨aA,Fe,mI⟩:=hc
     have:m=0:=by omega
     subst this
     cases hv
     have mK:cB ρ cap (some z)=some 0:=h3
     have hb:=qL (P:=P) gy kV mH h1 h2 (cap:=cap) mK (Nat.le_refl _) (Nat.zero_le _) (Nat.le_refl _) (Nat.zero_le _) (fun _=>aA) true
     refine .same H (qP hu aO w hb) ?_
     rw[zz]
     simp
     exact .gi _ _ _ (.inr ⟨rfl,rfl⟩)
    ·cases hv
  ·cases hv
 case vs xs t' cb o s cap g hs hI hc cV cU bw ht=>
  simp only[iM,Option.bind_eq_bind,Option.bind_eq_some_iff] at hv
  obtain⟨hh,h1,l,h2,hv⟩:=hv
  split at hv
  ·rename_i fR
   obtain⟨bq,aU,hk⟩:=fR
   cases mx with
   |none=>
    cases hv
    have hb:=qL (P:=P) gy kV mH h1 h2 (cap:=cap) rfl bq bw (by omega) (Nat.le_refl _) (by simp) true
    refine .same H (qP hu aO w hb) ?_
    have zz:(if cap=l then some (⟨cb,o,none⟩:Addr) else(some (⟨cb,o,none⟩:Addr)).map (·.add (l*sz)))=some ⟨cb,if cap=l then o else o+l*sz,none⟩:=by
     split<;>simp[Addr.add_mid]
    rw[zz]
    refine X4 (l:=l) (n:=hh-l) (xq:=cap-l) hs hI hc cV cU hk (by omega) (by omega) _ (fun h0=>by rw[if_neg (by omega)]) (fun asz=>?_)
    cases t' with
    |ao=>trivial
    |full=>
     have di:cap=xs.length:=ht
     simp only[nX]
     by_cases iV:hh=xs.length
     ·rw[if_pos iV];show cap-l=hh-l;omega
     ·rw[if_neg iV];trivial
    |own k=>
     simp only[nX]
     by_cases iV:hh=xs.length/\l<hh
     ·rw[if_pos iV]
      obtain⟨h5,h6⟩:=asz (by omega)
      refine⟨by omega,?_⟩
      rw[h6,ht.2]
      congr 2
      ·rw[iV.1,Nat.sub_mul]
       have:=Nat.mul_le_mul_right s (show l<=xs.length by omega)
       omega
      ·rw[Nat.sub_mul]
       have:=Nat.mul_le_mul_right s (show l<=cap by omega)
       omega
     ·rw[if_neg iV];trivial
   |some z=>
    simp only[Option.bind_eq_some_iff] at hv
    obtain⟨m,h3,hv⟩:=hv
    split at hv
    ·rename_i fR
     obtain⟨aA,Fe,mI⟩:=fR
     cases hv
     have mK:cB ρ cap (some z)=some m:=h3
     have hb:=qL (P:=P) gy kV mH h1 h2 (cap:=cap) mK bq bw Fe (by omega) (fun _=>aA) true
     refine .same H (qP hu aO w hb) ?_
     have zz:(if m=l then some (⟨cb,o,none⟩:Addr) else(some (⟨cb,o,none⟩:Addr)).map (·.add (l*sz)))=some ⟨cb,if m=l then o else o+l*sz,none⟩:=by
      split<;>simp[Addr.add_mid]
     rw[zz]
     refine X4 (l:=l) (n:=hh-l) (xq:=m-l) hs hI hc cV cU hk (by omega) (by omega) _ (fun h0=>by rw[if_neg (by omega)]) (fun _=>?_)
     by_cases Kj:m=hh
     ·rw[if_pos Kj];show m-l=hh-l;omega
     ·rw[if_neg Kj];trivial
    ·cases hv
  ·cases hv
 case rs b off len aN cb o room cap bE hlen bw=>
  simp only[iM,Option.bind_eq_bind,Option.bind_eq_some_iff] at hv
  obtain⟨hh,h1,l,h2,hv⟩:=hv
  split at hv
  ·rename_i fR
   obtain⟨rW,bq,aU,rfl⟩:=fR
   cases mx with
   |some _=>simp at rW
   |none=>
    have hb:=qL (P:=P) gy kV mH h1 h2 (cap:=cap) rfl bq hlen (by omega) (Nat.le_refl _) (by simp) true
    refine .same H (qP hu aO w hb) ?_
    split at hv
    ·rename_i AD
     subst AD
     have:(if cap=l then some (⟨cb,o+off,none⟩:Addr) else(some (⟨cb,o+off,none⟩:Addr)).map (·.add (l*aN)))=some ⟨cb,if cap=l then o+off else o+off+l*aN,none⟩:=by
      split<;>simp[Addr.add_mid]
     rw[this,Nat.sub_self]
     cases lo with
     |some lo=>
      simp at hv
      subst hv
      exact .vs [] .ao cb _ 0 _ (fun _ _=>undef) (by simp) (by simp) (by simp) (by simp) (by simp) (by simp) trivial
     |none=>
      simp only[cB,Option.some.injEq] at h2
      subst h2
      simp at hv
      subst hv
      have e:(if cap=0 then o+off else o+off+0*aN)=o+off:=by split<;>simp
      rw[e]
      exact .rs b off 0 aN cb o room (cap-0) bE (Nat.zero_le _) (by simpa using bw)
    ·rename_i AD
     cases hv
     rw[if_neg (by omega)]
     simp only[Option.map_some,Addr.add_mid]
     rw[Nat.add_assoc]
     refine .rs b (off+l*aN) (hh-l) aN cb o room (cap-l) bE (by omega) ?_
     rw[Nat.sub_mul]
     have:=Nat.mul_le_mul_right aN (show l<=cap by omega)
     omega
  ·cases hv
 case rk b off len aN cap cb o room bE hlen bw=>
  simp only[iM,Option.bind_eq_bind,Option.bind_eq_some_iff] at hv
  obtain⟨hh,h1,l,h2,m,h3,hv⟩:=hv
  split at hv
  ·rename_i fR
   obtain⟨bq,aU,dE,rfl,tK⟩:=fR
   have hb:=qL (P:=P) gy kV mH h1 h2 (cap:=cap) h3 bq hlen aU dE tK true
   refine .same H (qP hu aO w hb) ?_
   by_cases tF:m=l
   ·rw[if_pos tF] at hv
    cases hv
    rw[if_pos tF,show hh-l=0 by omega,show m-l=0 by omega]
    exact .gi _ _ _ (.inr ⟨rfl,rfl⟩)
   ·rw[if_neg tF] at hv
    cases hv
    rw[if_neg tF]
    simp only[Option.map_some,Addr.add_mid]
    rw[Nat.add_assoc]
    refine .rk b (off+l*aN) (hh-l) aN (m-l) cb o room bE (by omega) ?_
    rw[Nat.sub_mul]
    have:=Nat.mul_le_mul_right aN (show l<=m by omega)
    have:=Nat.mul_le_mul_right aN (show m<=cap by omega)
    omega
  ·cases hv
end
end
section
open Go
section
variable {P:Program} {ι:aF} {I:aP} {h:aa} {w:World}
def ER (ι:aF) (I:aP) (w:World) (es:List (AV×AV)) (aV:List MapEntry):Prop:=
 es.length=aV.length/\ ∀(i:Nat) (k v:AV) (e:MapEntry),es[i]? =some (k,v)->aV[i]? =some e->VR ι I w k e.key/\VR ι I w v e.val
theorem ER.tail {p:AV×AV} {e:MapEntry} {es:List (AV×AV)} {aV:List MapEntry} (hr:ER ι I w (p::es) (e::aV)):ER ι I w es aV:=
 ⟨by simpa using hr.1,fun i k v e h1 h2=>hr.2 (i+1) k v e (by simpa using h1) (by simpa using h2)⟩
theorem Gz (kk:IntKind) {kd:IntKind} {n:Int}: ∀(es:List (AV×AV)) (aV:List MapEntry) (i:Nat) (r:Option Nat),ER ι I w es aV->mf (.int kd n) es i=some r->
 (r=none/\Instr.findNow (.int kk) (.int kd n) aV i=some none)\/
 ∃j e,r=some (i+j)/\aV[j]? =some e/\e.key= .int kd n/\Instr.findNow (.int kk) (.int kd n) aV i=some (some (i+j,e.val))
 |[],[],i,r,_,h=>by simp[mf] at h;subst h;exact .inl ⟨rfl,rfl⟩
 |[],_::_,i,r,hr,_=>by simp[ER] at hr
 |_::_,[],i,r,hr,_=>by simp[ER] at hr
 |(k',v)::es,e::aV,i,r,hr,h=>by
  have hk:=(hr.2 0 k' v e rfl rfl).1
  simp only[mf] at h
  cases ph:k'<;>simp only[ph] at h<;>try(cases h;done)
  rename_i kd' n'
  subst ph
  split at h
  ·rename_i AF
   subst AF
   have x7:e.key= .int kd n':=by
    generalize he:e.key=ek at hk
    cases hk
    rfl
   split at h
   ·rename_i heq
    cases h
    have:n=n':=by simpa using heq
    subst this
    refine .inr ⟨0,e,rfl,rfl,x7,?_⟩
    simp[Instr.findNow,x7,Instr.sameNow]
   ·rename_i aM
    have En:(n==n')=false:=by simpa using aM
    rcases Gz kk es aV (i+1) r hr.tail h with⟨rfl,hf⟩|⟨j,e',rfl,dN,ph,hf⟩
    ·refine .inl ⟨rfl,?_⟩
     simp[Instr.findNow,x7,Instr.sameNow,En,hf]
    ·refine .inr ⟨j+1,e',by congr 1;omega,by simpa using dN,ph,?_⟩
     simp[Instr.findNow,x7,Instr.sameNow,En,hf];omega
  ·cases h
theorem run_checkKey (w:World) {key:TypeId} {kk:IntKind} (hk:P.underlying key=some (.int kk)) (b:Bool) (k:IntKind) (n:Int):
 (Instr.checkKey b 10000 key (.int k n)).run P w= .ok () w:=by
 suffices at0: ∀m,(Instr.checkKey b (m+1) key (.int k n)).run P w= .ok () w from at0 9999
 intro m
 simp[Instr.checkKey,cG hk]
theorem run_findKey (w:World) {key:TypeId} {kk:IntKind} (hk:P.underlying key=some (.int kk)) {k:Value} {es:List MapEntry} {r:Option (Nat×Value)}
 (hf:Instr.findNow (.int kk) k es 0=some r):(Instr.findKey key k es).run P w= .ok r w:=by
 simp[Instr.findKey,cG hk,hf]
theorem yC (w:World) {cb:Nat} {es:Array MapEntry} {clock:Nat} (hm:w.heap[cb]? =some (.map es clock)):(getObj cb).run P w= .ok (.map es clock) w:=by
 simp[getObj,Sem.run,hm]
theorem HR.map (H:HR ι I h w) {b cb:Nat} {es:List (AV×AV)} (hg:h.get b=some (.map es)) (hb:ι b=some (.map cb)):
 ∃aV clock,w.heap[cb]? =some (.map aV clock)/\ER ι I w es aV.toList/\m6 aV clock:=by
 obtain⟨gW,aV,clock,hl,hm,hlen,hv⟩:=H.maps b es _ hg hb
 cases hl
 exact⟨aV,clock,hm,⟨by simpa using hlen.1,fun i k v e h1 h2=>hv i k v e h1 (by simpa using h2)⟩,hlen.2⟩
theorem Gs {e:TypeId} {ie:TypeInfo} {z:Value} (cL:P.info? e=some ie) (hz:ie.zero=some z) (w:World):(zeroValue e).run P w= .ok z w:=by
 simp[zeroValue,typeInfo,cL,hz]
theorem LR.two {a b:AV} {c d:Value} (h1:VR ι I w a c) (h2:VR ι I w b d):VR ι I w (.ay [a,b]) (.tuple #[c,d]):=
 .ay [a,b] [c,d] rfl (LR.cons h1 (LR.cons h2 LR.nil)).2
theorem ai9 (H:HR ι I h w) {t key e:TypeId} {kk:IntKind} {ie:TypeInfo} {z:Value} {za:AV} (hu:P.underlying t=some (.map key e)) (hk:P.underlying key=some (.int kk))
 (cL:P.info? e=some ie) (hz:ie.zero=some z) (ef:VR ι I w za z) (ok:Bool) {m k v:AV} {cm ck:Value} (hm:VR ι I w m cm) (AE:VR ι I w k ck)
 (hv:mY za ok h m k=some v):eN P ι I h w v (Instr.lookup t cm ck ok):=by
 unfold mY at hv
 have Im: ∀w',w'=w->(∃c,(Instr.lookup t (.map none) ck ok).run P w'= .ok c w'/\True)\/True:=fun _ _=> .inr trivial
 cases hm<;>try(simp only[] at hv;cases hv;done)
 case pO=>
  cases AE<;>simp only[] at hv<;>try(cases hv;done)
  rename_i kd n
  cases hv
  refine .same H (c:=if ok then .tuple #[z, .bool false] else z) ?_ ?_
  ·simp[Instr.lookup,cG hu,run_checkKey w hk,run_findKey w hk (show Instr.findNow (.int kk) (.int kd n) [] 0=some none from rfl),Gs cL hz]
  ·cases ok
   ·exact ef
   ·exact LR.two ef (.bool false)
 case map b cb hb=>
  cases AE<;>simp only[] at hv<;>try(cases hv;done)
  rename_i kd n
  split at hv
  ·rename_i es hg
   obtain⟨aV,clock,gV,gH,-⟩:=H.map hg hb
   cases hl:ui (.int kd n) es with
   |none=>simp[hl] at hv
   |some r=>
    simp[hl] at hv
    unfold ui at hl
    cases hf:mf (.int kd n) es 0 with
    |none=>simp[hf] at hl
    |some o=>
     simp[hf] at hl
     rcases Gz kk es aV.toList 0 o gH hf with⟨rfl,iU⟩|⟨j,sj,rfl,xh,iO,iU⟩
     ·simp at hl
      subst hl
      simp at hv
      subst hv
      refine .same H (c:=if ok then .tuple #[z, .bool false] else z) ?_ ?_
      ·simp[Instr.lookup,cG hu,yC w gV,run_checkKey w hk,run_findKey w hk iU,Gs cL hz]
      ·cases ok
       ·exact ef
       ·exact LR.two ef (.bool false)
     ·have hj:j<es.length:=by rw[gH.1];exact(List.getElem?_eq_some_iff.1 xh).1
      have Kr:=List.getElem?_eq_getElem hj
      simp[Kr] at hl
      subst hl
      simp at hv
      subst hv
      have gF:=(gH.2 j es[j].1 es[j].2 sj (by rw[Kr]) xh).2
      refine .same H (c:=if ok then .tuple #[sj.val, .bool true] else sj.val) ?_ ?_
      ·simp[Instr.lookup,cG hu,yC w gV,run_checkKey w hk,run_findKey w hk iU]
      ·cases ok
       ·exact gF
       ·exact LR.two gF (.bool true)
  ·cases hv
end
end
section
open Go
section
variable {P:Program} {ι:aF} {I:aP} {h:aa} {w:World}
def yJ (P:Program):List Field->Option (List Nat)
 |[]=>some []
 |f::fs=>match P.underlying f.type,yJ P fs with
  |some (.int _),some os=>if f.name≠ "_" then some (f.offset::os) else none
  |_,_=>none
theorem V1 (d:Nat) {xs ys:List AV} {rN At:List Value} (hx:LR ι I w xs rN) (hy:LR ι I w ys At): ∀(fs:List Field) (os:List Nat) (b:Bool),yJ P fs=some os->
 yS xs ys os=some b->(Op.eqFields (d+1) rN.toArray At.toArray fs).run P w= .ok b w
 |[],os,b,hf,he=>by
  simp[yJ] at hf;subst hf;simp[yS] at he;subst he;simp[Op.eqFields]
 |f::fs,os,b,hf,he=>by
  simp only[yJ] at hf
  split at hf
  ·rename_i k os' hu jK
   split at hf
   ·rename_i ast
    cases hf
    simp only[yS] at he
    split at he
    ·rename_i k1 a1 k2 b1 h1 h2
     obtain⟨c1,bq,vn⟩:=hx.get h1
     obtain⟨c2,aU,jq⟩:=hy.get h2
     cases vn;cases jq
     split at he
     ·rename_i hk
      subst hk
      have tD:(part f.type rN.toArray f.offset).run P w= .ok (.int k1 a1) w:=by simp[part,yP hu,bq]
      have Fb:(part f.type At.toArray f.offset).run P w= .ok (.int k1 b1) w:=by simp[part,yP hu,aU]
      have heq:=run_equalIn_int (P:=P) w d f.type k1 k a1 b1 hu
      simp only[Op.eqFields,Sem.run_bind,Sem.run_ite,ast,ne_eq,not_false_eq_true,if_true,tD,Fb,heq,Result.andThen_ok]
      split at he
      ·rename_i Ve
       rw[Ve]
       simpa using V1 d hx hy fs os' b jK he
      ·rename_i Ve
       cases he
       have:(a1==b1)=false:=by simpa using Ve
       rw[this]
       simp
     ·cases he
    ·cases he
   ·cases hf
  ·cases hf
theorem aku (H:HR ι I h w) {t:TypeId} {fs:Array Field} {os:List Nat} (hu:P.underlying t=some (.struct fs)) (hs:P.stoodInHeld t=false) (hf:yJ P fs.toList=some os) (neg:Bool)
 {x y v:AV} {cx cy:Value} (hx:VR ι I w x cx) (hy:VR ι I w y cy)
 (hv:BX neg os x y=some v):
 eN P ι I h w v (binOp (if neg then .neq else .eql) t cx cy):=by
 unfold BX at hv
 cases hx<;>try(simp only[] at hv;cases hv;done)
 cases hy<;>simp only[] at hv<;>try(cases hv;done)
 rename_i xs rN hlx hvx ys At Kk hvy
 cases he:yS xs ys os with
 |none=>simp[he] at hv
 |some b=>
  simp[he] at hv
  subst hv
  have AK:P.fieldsOf t=fs:=by simp[Program.fieldsOf,hu]
  have hr:(Op.equal t (.agg rN.toArray) (.agg At.toArray)).run P w= .ok b w:=by
   have h1:=run_equalIn_struct (P:=P) w 9999 t rN.toArray At.toArray (by rw[AK];exact hu) hs
   have h2:=V1 (P:=P) 9998 (xs:=xs) (ys:=ys) ⟨hlx,hvx⟩ ⟨Kk,hvy⟩ fs.toList os b hf he
   rw[AK] at h1
   exact h1.trans h2
  exact .same H (c:= .bool (if neg then !b else b)) (by cases neg<;>simp[binOp,hr]) (.bool _)
theorem WV (w:World) (f:Value->ByteArray->Sem (ForInStep ByteArray)) (hf: ∀n s,f (.int .u8 n) s=pure (ForInStep.yield (s.push (UInt8.ofNat n.toNat)))): ∀(rows:List (List AV)) (l:List Value) (bs:List UInt8) (s:ByteArray),(∀r∈rows,r.length=1)->LR ι I w rows.flatten l->pG rows=some bs->
 (forIn (m:=Sem) l s f).run P w= .ok ⟨s.data++bs.toArray⟩ w
 |[],l,bs,s,_,hl,hb=>by
  simp[pG] at hb;subst hb
  have:l=[]:=by have:=hl.1;simp at this;exact List.eq_nil_of_length_eq_zero this.symm
  subst this
  simp
 |r::rows,l,bs,s,hu,hl,hb=>by
  have hr:=hu r (by simp)
  simp only[pG] at hb
  split at hb
  ·rename_i b bs' h1 h2
   cases hb
   obtain⟨a,rfl⟩: ∃a,r=[a]:=by
    match r,hr with
    |[a],_=>exact⟨a,rfl⟩
   cases l with
   |nil=>have:=hl.1;simp at this
   |cons c l=>
    have hv:VR ι I w a c:=hl.2 0 a c rfl rfl
    have bn:LR ι I w rows.flatten l:=⟨by have:=hl.1;simpa using this,fun i v c h1 h2=>hl.2 (i+1) v c (by simpa using h1) (by simpa using h2)⟩
    simp only[byteOf] at h1
    split at h1
    ·rename_i n heq
     cases heq
     cases h1
     cases hv
     have ih:=WV w f hf rows l bs' (s.push (UInt8.ofNat n.toNat)) (fun r h=>hu r (List.mem_cons_of_mem _ h)) bn h2
     simp only[List.forIn_cons,hf,Sem.run_bind,Sem.run_pure,Result.andThen_ok]
     rw[ih]
     congr 1
     simp[ByteArray.push]
    ·cases h1
  ·cases hb
end
end
section
open Go
section
variable {P:Program} {ι:aF} {I:aP} {h:aa} {w:World}
theorem ahZ (H:HR ι I h w) {src dst e:TypeId} (hs:P.underlying src=some (.slice e)) (he:P.underlying e=some (.int .u8)) (hd:P.underlying dst=some .string)
 {x v:AV} {c:Value} (hx:VR ι I w x c) (hv:(((cP 1 h x).bind pG).map fun bs=>AV.str ⟨bs.toArray⟩)=some v):eN P ι I h w v (convert src dst c):=by
 cases hr:cP 1 h x with
 |none=>simp[hr] at hv
 |some rows=>
  cases hb:pG rows with
  |none=>simp[hr,hb] at hv
  |some bs=>
   simp[hr,hb] at hv
   subst hv
   obtain⟨a,cap,l,rfl,hle,R⟩:=vO H hx hr
   refine .same H (c:= .string ⟨bs.toArray⟩) ?_ (.str _)
   cases a with
   |none=>
    have:=R.none rfl
    subst this
    simp[pG] at hb
    subst hb
    simp[convert,cG hs,cG hd,cG he,Conv.bytesToString]
    rfl
   |some ad=>
    have hc:=R.cell ad rfl
    have hl:l.length=rows.length:=by rw[R.len];simp
    have asu:(loadCells ad rows.length).run P w= .ok l.toArray w:=by
     rw[<-hl]
     exact run_loadCells_list (P:=P) w ad l (fun j u hu=>hc j u hu)
    simp only[convert,Sem.run_bind,cG hs,cG hd,cG he,Result.andThen_ok,Conv.bytesToString,asu]
    rw[<-Array.forIn_toList]
    rw[WV (P:=P) w _ (fun _ _=>rfl) rows l bs ByteArray.empty (fun r hr=>(R.lM r hr).1) R.lr hb]
    have e:(ByteArray.empty.data++bs.toArray)=bs.toArray:=by
     show(#[]:Array UInt8)++bs.toArray=bs.toArray
     simp
    rw[e]
    rfl
theorem ahJ (H:HR ι I h w) {src dst e:TypeId} (hs:P.underlying src=some .string) (hd:P.underlying dst=some (.slice e)) (he:P.underlying e=some (.int .u8))
 {x v:AV} {c:Value} (hx:VR ι I w x c)
 (hv:Gc x=some v):eN P ι I h w v (convert src dst c):=by
 unfold Gc at hv
 cases hx<;>simp only[] at hv<;>try(cases hv;done)
 rename_i s
 split at hv
 ·rename_i aO
  cases hv
  have bP:(s.data.toList.map fun b=>[AV.int .u8 b.toNat]).flatten=s.data.toList.map fun b=>AV.int .u8 b.toNat:=by
   induction s.data.toList with
   |nil=>rfl
   |cons a l ih=>simp[ih]
  have dg:LR ι I w (s.data.toList.map fun b=>[AV.int .u8 b.toNat]).flatten (s.data.toList.map fun b=>Value.int .u8 b.toNat):=by
   rw[bP]
   refine⟨by simp,fun i v c h1 h2=>?_⟩
   simp only[List.getElem?_map,Option.map_eq_some_iff] at h1 h2
   obtain⟨a,ha,rfl⟩:=h1
   obtain⟨b,hb,rfl⟩:=h2
   rw[ha] at hb
   cases hb
   exact .int _ _
  have hlen:(s.data.toList.map fun b=>[AV.int .u8 b.toNat]).length=s.size:=by rw[List.length_map,Array.length_toList];rfl
  let q:=Question.appendCap s.size 0 e
  let cap:=q.cut (w.tape w.drawn q)
  have bw:s.size<=cap:=by show s.size<=s.size+_;omega
  let arr:Array Value:=(s.data.map fun b=>Value.int .u8 b.toNat)++Array.replicate (cap-s.size) (Value.int .u8 0)
  let w1:World:={w with drawn:=w.drawn+1,heap:=w.heap.push (.cells arr e)}
  let w2:World:=w1.freeze {block:=w.heap.size,off:=arr.size} 1
  have avC:w1.heap.size=w.heap.size+1:=by simp[w1]
  have bT:(convert src dst (.string s)).run P w= .ok (.slice (some ⟨w.heap.size,0,none⟩) s.size cap) w2:=by
   have Ax:w1.shape? w.heap.size=some (e,arr.size):=by simp[World.shape?,w1]
   simp only[convert,Sem.run_bind,cG hs,cG hd,cG he,Result.andThen_ok,Conv.stringToBytes,run_choose,Question.forced,Bool.false_eq_true,if_false,newRow,run_newObj,Sem.run_pure,markStringish,run_shape]
   have:({heap:=w.heap.push (.cells arr e),tape:=w.tape,drawn:=w.drawn+1,os:=w.os,output:=w.output}:World).shape? w.heap.size=some (e,arr.size):=Ax
   have E8:({heap:=w.heap.push (.cells arr e),tape:=w.tape,drawn:=w.drawn+1,os:=w.os,output:=w.output}:World).shape? w.heap.size=some (e,arr.size):=Ax
   show((Sem.run P (match({heap:=w.heap.push (.cells arr e),tape:=w.tape,drawn:=w.drawn+1,os:=w.os,output:=w.output}:World).shape? w.heap.size with|some (fst,n)=>freeze {block:=w.heap.size,off:=n} 1|x=>pure ()) w1).andThen fun a w'=>Result.ok (Value.slice (some {block:=w.heap.size,off:=0}) s.size cap) w')=_
   rw[E8]
   rfl
  have rq:w2.heap=w.heap.push (.cells arr e (arr.size,arr.size+1)):=by
   apply Array.ext
   ·simp[w2,World.freeze,w1]
   ·intro i h1 h2
    by_cases hi:i=w.heap.size
    ·subst hi
     simp[w2,World.freeze,w1,Array.getElem_modify]
    ·have aA:i<w.heap.size:=by simp at h2;omega
     simp[w2,World.freeze,w1,Array.getElem_modify,Ne.symm hi,Array.getElem_push,aA]
  have hf: ∀(f:World->World),True:=fun _=>trivial
  obtain⟨I',gF,H',E⟩:=Ma H (w':=w2) (e:=e) (fr:=(arr.size,arr.size+1)) (arr:=arr) rq (by simp[w2,World.freeze,w1]) (by simp[w2,World.freeze,w1]) (by simp[w2,World.freeze,w1])
   (rows:=s.data.toList.map fun b=>[AV.int .u8 b.toNat]) (sz:=1) (cap:=cap) (by
     intro x hx
     obtain⟨b,_,rfl⟩:=List.mem_map.1 hx
     exact⟨rfl,by simp[AV.one]⟩) dg (by
     intro i c hc
     have hi:i<s.data.size:=by have:=(List.getElem?_eq_some_iff.1 hc).1;simpa using this
     simp only[arr]
     rw[Array.getElem?_append_left (by simpa using hi)]
     simpa using hc) (by rw[hlen];exact bw) .ao (.inl rfl)
  rw[hlen] at gF
  exact⟨_,_,I',bT,gF,H',E⟩
 ·cases hv
theorem X9 (H:HR ι I h w) {im:Bool} {x v:AV} {c:Value} (hx:VR ι I w x c) (ts:Array TypeId) (ty:TypeId)
 (hv:H7 im x=some v):eN P ι I h w v (if im then Builtin.imag_ ts ty #[c] else Builtin.real_ ts ty #[c]):=by
 unfold H7 at hv
 cases hx<;>simp only[] at hv<;>try(cases hv;done)
 cases hv
 cases im
 ·exact .same H rfl (.fU _ _)
 ·exact .same H rfl (.fU _ _)
theorem Lc {mx:Bool} {ρ:Env}: ∀(ys:List aq) (FB:List Value) (x v:AV) (cx:Value),ys.length=FB.length->(∀(i:Nat) (y:aq) (c:Value),ys[i]? =some y->FB[i]? =some c->OR ι I w ρ y c)->
 VR ι I w x cx->oe mx ρ x ys=some v-> ∃c,(FB.foldlM (if mx then Builtin.max2 else Builtin.min2) cx).run P w= .ok c w/\VR ι I w v c
 |[],[],x,v,cx,_,_,hx,hv=>by simp[oe] at hv;subst hv;exact⟨cx,by simp,hx⟩
 |[],_::_,_,_,_,hl,_,_,_=>by simp at hl
 |_::_,[],_,_,_,hl,_,_,_=>by simp at hl
 |y::ys,cy::FB,x,v,cx,hl,ho,hx,hv=>by
  simp only[oe] at hv
  cases hm:pK mx x (y.ev ρ) with
  |none=>simp[hm] at hv
  |some z=>
   simp[hm] at hv
   obtain⟨c,hc,hvc⟩:=ai5 (P:=P) hx (ho 0 y cy rfl rfl) hm
   obtain⟨c',cQ,at8⟩:=Lc ys FB z v c (by simpa using hl) (fun i y c h1 h2=>ho (i+1) y c (by simpa using h1) (by simpa using h2)) hvc hv
   refine⟨c',?_,at8⟩
   rw[List.foldlM_cons,Sem.run_bind,hc]
   exact cQ
end
end
section
open Go
section
variable {P:Program} {ι:aF} {I:aP} {h:aa} {w:World}
def aF.set (ι:aF) (id:Nat) (l:Loc):aF:=fun b=>if b=id then some l else ι b
theorem aF.gq (ι:aF) (id:Nat) (l:Loc):ι.set id l id=some l:=by simp[aF.set]
theorem aF.fk (ι:aF) {id b:Nat} (l:Loc) (hb:b≠id):ι.set id l b=ι b:=by simp[aF.set,hb]
theorem Loc.vM {l:Loc} {k j:Nat} (h:l.has k j):k=l.block:=by
 cases l<;>simp[Loc.has] at h<;>simp[Loc.block,h]
theorem BT (H:HR ι I h w) {w':World} {e:TypeId} {arr:Array Value} (rq:w'.heap=w.heap.push (.cells arr e))
 (jK:w'.os=w.os) (CS:w'.tape=w.tape) (oM:w'.output=w.output) {id:Nat} (aJ:ι id=none) {cs:List AV} (cU: ∀v∈cs,v.one=true) (hle:cs.length<=arr.size)
 (hl: ∀(j:Nat) (v:AV) (c:Value),cs[j]? =some v->arr[j]? =some c->VR ι I w v c):
 HR (ι.set id (.cells w.heap.size 0 arr.size)) I (h.at id (.cells cs)) w'/\Ext (· =id) ι I h w (ι.set id (.cells w.heap.size 0 arr.size)) I (h.at id (.cells cs)) w':=by
 have aO:w'.heap.size=w.heap.size+1:=by rw[rq];simp
 have nq: ∀k,k<w.heap.size->w'.heap[k]? =w.heap[k]?:=fun k hk=>by rw[rq,Array.getElem?_push,if_neg (by omega)]
 have br: ∀k j,k<w.heap.size->w'.cell? ⟨k,j,none⟩=w.cell? ⟨k,j,none⟩:=fun k j hk=>by simp[World.cell?,nq k hk]
 have mu: ∀k j,k<w.heap.size->w'.frozen? ⟨k,j,none⟩=w.frozen? ⟨k,j,none⟩:=fun k j hk=>by simp[World.frozen?,nq k hk]
 have gh: ∀j,w'.cell? ⟨w.heap.size,j,none⟩=arr[j]?:=fun j=>by simp[World.cell?,rq]
 have acA: ∀j,w'.frozen? ⟨w.heap.size,j,none⟩=false:=fun j=>by simp[World.frozen?,rq]
 have a9: ∀b,b≠id->(h.at id (.cells cs)).get b=h.get b:=fun b hb=>by simp[aa.at,hb]
 have ur:(h.at id (.cells cs)).get id=some (.cells cs):=by simp[aa.at]
 have CV: ∀b l,ι b=some l->b≠id:=fun b l hb he=>by rw[he,aJ] at hb;cases hb
 have E:Ext (· =id) ι I h w (ι.set id (.cells w.heap.size 0 arr.size)) I (h.at id (.cells cs)) w':=
  {eZ:=fun b hb=>aF.fk _ _ hb,bN:=fun b l hb=>by rw[aF.fk _ _ (CV b l hb)];exact hb,next:=by simp[aa.at];omega,bB:=fun _ _ h=>h
   os:=jK,tape:=CS,output:=oM,size:=by omega,block:=fun k hk _=>nq k hk,cell:=fun k j hk _=>br k j hk,frozen:=fun k j hk _=>mu k j hk
   own:=by
    rintro k j ⟨b,l,x,hb,hg,bn⟩
    by_cases cp:b=id
    ·subst cp
     rw[aF.gq] at hb
     cases hb
     exact .inr (by have:k=w.heap.size:=bn;omega)
    ·rw[aF.fk _ _ cp] at hb
     rw[a9 b cp] at hg
     exact .inl ⟨b,l,x,hb,hg,bn⟩
   gw:=fun _ _ h=> .inl h,lost:=fun b hb _=>a9 b hb}
 refine⟨?_,E⟩
 have jh: ∀b l,(ι.set id (.cells w.heap.size 0 arr.size)) b=some l->(b=id/\l= .cells w.heap.size 0 arr.size)\/(b≠id/\ι b=some l):=by
  intro b l hb
  by_cases cp:b=id
  ·subst cp;rw[aF.gq] at hb;cases hb;exact .inl ⟨rfl,rfl⟩
  ·rw[aF.fk _ _ cp] at hb;exact .inr ⟨cp,hb⟩
 refine{cE:=?_,inside:=?_,cells:=?_,maps:=?_,fo:=?_,dz:=?_,bB:=?_,dn:=fun k j hk=>by have:=H.dn k j hk;omega,pl:=?_}
 ·intro b l hb
  rcases jh b l hb with⟨rfl,_⟩|⟨_,hb⟩
  ·simp[aa.at];omega
  ·have:=H.cE b l hb;simp[aa.at];omega
 ·intro b l hb
  rcases jh b l hb with⟨rfl,rfl⟩|⟨_,hb⟩
  ·simp[Loc.block];omega
  ·have:=H.inside b l hb;omega
 ·intro b bF l hg hb
  rcases jh b l hb with⟨rfl,rfl⟩|⟨cp,hb⟩
  ·rw[ur] at hg
   cases hg
   refine⟨_,_,_,rfl,hle,cU,fun j hj=>⟨arr[j],by rw[Nat.zero_add,gh];exact Array.getElem?_eq_getElem hj,acA _,fun v hv=>?_⟩⟩
   exact E.vr H (hl j v _ hv (Array.getElem?_eq_getElem hj))
  ·rw[a9 b cp] at hg
   obtain⟨cb,o,room,rfl,rE,h1,hc⟩:=H.cells b bF l hg hb
   have aB:cb<w.heap.size:=H.inside b _ hb
   refine⟨cb,o,room,rfl,rE,h1,fun j hj=>?_⟩
   obtain⟨c,bq,aU,dE⟩:=hc j hj
   exact⟨c,by rw[br _ _ aB];exact bq,by rw[mu _ _ aB];exact aU,fun v hv=>E.vr H (dE v hv)⟩
 ·intro b es l hg hb
  rcases jh b l hb with⟨rfl,rfl⟩|⟨cp,hb⟩
  ·rw[ur] at hg;cases hg
  ·rw[a9 b cp] at hg
   obtain⟨cb,aV,clock,rfl,hm,bn,hv⟩:=H.maps b es l hg hb
   refine⟨cb,aV,clock,rfl,by rw[nq cb (H.inside b _ hb)];exact hm,bn,fun i k v e h1 h2=>?_⟩
   obtain⟨a,c⟩:=hv i k v e h1 h2
   exact⟨E.vr H a,E.vr H c⟩
 ·intro b l hg hb
  rcases jh b l hb with⟨rfl,rfl⟩|⟨cp,hb⟩
  ·rw[ur] at hg;cases hg
  ·rw[a9 b cp] at hg
   obtain⟨cb,lo,hi,rfl,hc⟩:=H.fo b l hg hb
   have aB:cb<w.heap.size:=H.inside b _ hb
   refine⟨cb,lo,hi,rfl,fun j h1 h2=>?_⟩
   obtain⟨c,bq,aU⟩:=hc j h1 h2
   exact⟨c,by rw[br _ _ aB];exact bq,by rw[mu _ _ aB];exact aU⟩
 ·intro b b' l l' x x' k j aM hb bE hg cD eo eD
  rcases jh b l hb with⟨rfl,rfl⟩|⟨cp,b9⟩<;>rcases jh b' l' bE with⟨rfl,rfl⟩|⟨JP,Er⟩
  ·exact aM rfl
  ·have:=H.inside b' l' Er
   have:=Loc.vM eD
   have:k=w.heap.size:=eo
   omega
  ·have:=H.inside b l b9
   have:=Loc.vM eo
   have:k=w.heap.size:=eD
   omega
  ·rw[a9 b cp] at hg
   rw[a9 b' JP] at cD
   exact H.dz b b' l l' x x' k j aM b9 Er hg cD eo eD
 ·intro b l x k j hb hg bn hI
  rcases jh b l hb with⟨rfl,rfl⟩|⟨cp,hb⟩
  ·have:=H.dn k j hI
   have:k=w.heap.size:=bn
   omega
  ·rw[a9 b cp] at hg
   exact H.bB b l x k j hb hg bn hI
 ·intro b bF cb o room hg hb n
  rcases jh b _ hb with⟨rfl,hl⟩|⟨cp,hb⟩
  ·cases hl
   exact acA n
  ·rw[a9 b cp] at hg
   rw[mu cb n (H.inside b _ hb)]
   exact H.pl b bF cb o room hg hb n
def fu (P:Program) (ι:aF) (I:aP) (h:aa) (w:World) (id:Nat) (v:AV) (h':aa) (s:Sem Value):Prop:=
 ∃c w' ι' I',s.run P w= .ok c w'/\VR ι' I' w' v c/\HR ι' I' h' w'/\Ext (· =id) ι I h w ι' I' h' w'
theorem am2 (H:HR ι I h w) {id:Nat} (aJ:ι id=none) {x:AV} {c:Value} (hx:VR ι I w x c) (h1:x.cells.all AV.one=true) (e:TypeId):
 fu P ι I h w id (.ptr id 0) (h.at id (.cells x.cells)) (Instr.box e c):=by
 have hc:=VR.cells hx (LS h1)
 obtain⟨H',E⟩:=BT H (w':=w.alloc (.cells c.cells e)) (arr:=c.cells) rfl rfl rfl rfl aJ (fun v hv=>(List.all_eq_true.1 h1) v hv) (by rw[hc.1];simp)
  (fun j v c' hv cQ=>hc.2 j v c' hv (by simpa using cQ))
 exact⟨.pointer (some ⟨w.heap.size,0,none⟩),_,_,_,rfl, .ptr _ _ _ _ _ (aF.gq _ _ _),H',E⟩
theorem akH (H:HR ι I h w) {id:Nat} (aJ:ι id=none) {e:TypeId} {ie:TypeInfo} {z:Value} {za:List AV} (cL:P.info? e=some ie) (hz:ie.zero=some z)
 (ef:LR ι I w za z.cells.toList) (h1: ∀v∈za,v.one=true):fu P ι I h w id (.ptr id 0) (h.at id (.cells za)) (Instr.alloc e true (.tuple #[])):=by
 obtain⟨H',E⟩:=BT H (w':=w.alloc (.cells z.cells e)) (arr:=z.cells) rfl rfl rfl rfl aJ h1 (by rw[ef.1];simp) (fun j v c' hv cQ=>ef.2 j v c' hv (by simpa using cQ))
 exact⟨.pointer (some ⟨w.heap.size,0,none⟩),_,_,_,by simp[Instr.alloc,Gs cL hz,newVar,newRow], .ptr _ _ _ _ _ (aF.gq _ _ _),H',E⟩
theorem ahP (H:HR ι I h w) {id:Nat} (aJ:ι id=none) {t e:TypeId} {ie:TypeInfo} {z:Value} {za:List AV} {n bytes:Nat} {l c:AV} {cl cc:Value}
 (hu:P.underlying t=some (.slice e)) (cL:P.info? e=some ie) (tu:ie.zero=some z) (aO:ie.size=z.cells.size) (hb:ie.bytes=bytes)
 (hz:LR ι I w za z.cells.toList) (h1: ∀v∈za,v.one=true) (h0:za.length≠0)
 (hl:VR ι I w l cl) (hc:VR ι I w c cc) (hm:ll bytes l c=some n):
 fu P ι I h w id (.rs id 0 n za.length) (h.at id (.cells (List.replicate n za).flatten)) (Instr.makeSlice t cl cc):=by
 obtain⟨rfl,rfl,hn,AO⟩:=VY hm
 cases hl;cases hc
 have hr:=Wa (P:=P) w hu cL tu aO hb hn AO
 have gT:=Bu hz n (.inl h0)
 have rQ:za.length=z.cells.size:=by rw[hz.1];simp
 obtain⟨H',E⟩:=BT H (w':=w.alloc (.cells (madeCells z.cells (n*z.cells.size)) e)) (arr:=madeCells z.cells (n*z.cells.size)) rfl rfl rfl rfl aJ (cs:=(List.replicate n za).flatten)
  (fun v hv=>by
    obtain⟨r,hr,hv⟩:=List.mem_flatten.1 hv
    rw[List.eq_of_mem_replicate hr] at hv
    exact h1 v hv) (by rw[gT.1];simp) (fun j v c' hv cQ=>gT.2 j v c' hv (by simpa using cQ))
 refine⟨_,_,_,_,hr,?_,H',E⟩
 refine .rs id 0 n za.length w.heap.size 0 _ n (aF.gq _ _ _) (Nat.le_refl _) ?_
 rw[size_madeCells,rQ];omega
theorem aiE (H:HR ι I h w) {id:Nat} (aJ:ι id=none) {t e:TypeId} {ie:TypeInfo} {z:Value} {za:List AV} {ρ:Env} {n:Nat} {ps:List (Nat×aq)} {dJ:Array (Nat×Value)} {rows:List (List AV)}
 (hu:P.underlying t=some (.slice e)) (cL:P.info? e=some ie) (tu:ie.zero=some z) (aO:ie.size=z.cells.size) (G2:n*ie.size<=2^24)
 (hz:LR ι I w za z.cells.toList) (h1: ∀v∈za,v.one=true) (h0:za.length≠0) (hl:ps.length=dJ.size)
 (hp: ∀(i j k:Nat) (x:aq) (c:Value),ps[i]? =some (j,x)->dJ[i]? =some (k,c)->j=k/\OR ι I w ρ x c)
 (hf:iv ρ za.length (List.replicate n za) ps=some rows):fu P ι I h w id (.rs id 0 n za.length) (h.at id (.cells rows.flatten)) (Instr.buildSlice t n dJ):=by
 obtain⟨ig,hn,cells,hc,dg⟩:=V6 hz h1 h0 hl hp hf
 have gT:za.length=z.cells.size:=by rw[hz.1];simp
 have hr:=WH (P:=P) w (parts:=dJ) (cells:=cells) hu cL tu aO G2 (by rw[aO,<-gT];rw[<-gT] at hc;exact hc)
 obtain⟨H',E⟩:=BT H (w':=w.alloc (.cells cells e)) (arr:=cells) rfl rfl rfl rfl aJ (cs:=rows.flatten)
  (fun v hv=>by
    obtain⟨r,hr,hv⟩:=List.mem_flatten.1 hv
    exact(ig r hr).2 v hv) (by rw[dg.1];simp) (fun j v c' hv cQ=>dg.2 j v c' hv (by simpa using cQ))
 refine⟨_,_,_,_,hr,?_,H',E⟩
 refine .rs id 0 n za.length w.heap.size 0 _ n (aF.gq _ _ _) (Nat.le_refl _) ?_
 have:=dg.1
 rw[mU rows (fun r h=>(ig r h).1),hn] at this
 simp at this
 omega
end
end
section
open Go
section
variable {P:Program} {ι:aF} {I:aP} {h:aa} {w:World}
structure xE (R:Nat->Nat->Prop) (w w':World):Prop where
 os:w'.os=w.os
 tape:w'.tape=w.tape
 output:w'.output=w.output
 size:w.heap.size<=w'.heap.size
 block: ∀k,k<w.heap.size->(∀j,¬R k j)->w'.heap[k]? =w.heap[k]?
 cell: ∀k j,k<w.heap.size-> ¬R k j->w'.cell? ⟨k,j,none⟩=w.cell? ⟨k,j,none⟩
 frozen: ∀k j,k<w.heap.size-> ¬R k j->w'.frozen? ⟨k,j,none⟩=w.frozen? ⟨k,j,none⟩
structure fj (R:Nat->Nat->Prop) (w w':World):Prop where
 os:w'.os=w.os
 tape:w'.tape=w.tape
 output:w'.output=w.output
 size:w.heap.size<=w'.heap.size
 block: ∀k,k<w.heap.size->(∀j,¬R k j)->w'.heap[k]? =w.heap[k]?
 cell: ∀k j,k<w.heap.size-> ¬R k j->w'.cell? ⟨k,j,none⟩=w.cell? ⟨k,j,none⟩
 frozen: ∀k j,k<w.heap.size->w'.frozen? ⟨k,j,none⟩=w.frozen? ⟨k,j,none⟩
theorem fj.D9 {R:Nat->Nat->Prop} {w w':World} (W:fj R w w'):xE R w w':=
 ⟨W.os,W.tape,W.output,W.size,W.block,W.cell,fun k j hk _=>W.frozen k j hk⟩
theorem fj.trans {R R':Nat->Nat->Prop} {w₁ w₂ w₃:World} (A:fj R w₁ w₂) (B:fj R' w₂ w₃) (hR: ∀k j,k<w₁.heap.size->R' k j->R k j):fj R w₁ w₃ where
 os:=B.os.trans A.os
 tape:=B.tape.trans A.tape
 output:=B.output.trans A.output
 size:=Nat.le_trans A.size B.size
 block k hk hr:=(B.block k (Nat.lt_of_lt_of_le hk A.size) (fun j hj=>hr j (hR k j hk hj))).trans (A.block k hk hr)
 cell k j hk hr:=(B.cell k j (Nat.lt_of_lt_of_le hk A.size) (fun hj=>hr (hR k j hk hj))).trans (A.cell k j hk hr)
 frozen k j hk:=(B.frozen k j (Nat.lt_of_lt_of_le hk A.size)).trans (A.frozen k j hk)
theorem VP (cb:Nat): ∀(vs:List Value) (o:Nat) (w:World) (k:Nat),k≠cb->(w.setCells cb o vs).heap[k]? =w.heap[k]?
 |[],_,_,_,_=>rfl
 |v::vs,o,w,k,hk=>by
  rw[World.setCells,VP cb vs (o+1) _ k hk,heap_setCell_other _ _ _ _ hk]
theorem VM (cb:Nat): ∀(vs:List Value) (o:Nat) (w:World),(w.setCells cb o vs).heap.size=w.heap.size/\(w.setCells cb o vs).os=w.os/\(w.setCells cb o vs).tape=w.tape/\(w.setCells cb o vs).output=w.output
 |[],_,_=>⟨rfl,rfl,rfl,rfl⟩
 |v::vs,o,w=>by
  obtain⟨a,b,c,d⟩:=VM cb vs (o+1) (w.setCell ⟨cb,o,none⟩ v)
  exact⟨by rw[World.setCells,a];simp[World.setCell],by rw[World.setCells,b];rfl,by rw[World.setCells,c];rfl,by rw[World.setCells,d];rfl⟩
theorem fj.setCells (w:World) (cb o:Nat) (vs:List Value):fj (fun k j=>k=cb/\o<=j/\j<o+vs.length) w (w.setCells cb o vs):=by
 obtain⟨a,b,c,d⟩:=VM cb vs o w
 refine{os:=b,tape:=c,output:=d,size:=by omega,block:=fun k hk hr=>?_,cell:=fun k j hk hr=>?_,frozen:=fun k j hk=>World.frozen?_setCells cb vs o w _}
 ·by_cases rZ:k=cb
  ·subst rZ
   cases vs with
   |nil=>rfl
   |cons v vs=>exact(hr o ⟨rfl,Nat.le_refl _,by simp⟩).elim
  ·exact VP cb vs o w k rZ
 ·exact World.cell?_setCells_out cb vs o w _ (fun h1 _=>by
   by_cases hj:j<o
   ·exact .inl hj
   ·refine .inr (Nat.le_of_not_lt fun h2=>hr ⟨h1,by omega,h2⟩))
theorem fj.push (w:World) (o:Obj):fj (fun _ _=>False) w (w.alloc o):=by
 have nq: ∀k,k<w.heap.size->(w.alloc o).heap[k]? =w.heap[k]?:=fun k hk=>by
  show(w.heap.push o)[k]? =_
  rw[Array.getElem?_push,if_neg (by omega)]
 exact{os:=rfl,tape:=rfl,output:=rfl,size:=by simp,block:=fun k hk _=>nq k hk
       cell:=fun k j hk _=>by simp[World.cell?,nq k hk],frozen:=fun k j hk=>by simp[World.frozen?,nq k hk]}
theorem fj.drew (w:World):fj (fun _ _=>False) w w.drew:=
 {os:=rfl,tape:=rfl,output:=rfl,size:=Nat.le_refl _,block:=fun _ _ _=>rfl,cell:=fun _ _ _ _=>rfl,frozen:=fun _ _ _=>rfl}
theorem HR.agF (H:HR ι I h w) {w':World} {R:Nat->Nat->Prop} (W:xE R w w') {h':aa} (fy:h.next<=h'.next) (da: ∀b x,h'.get b=some x->h.get b=some x)
 (hR: ∀b l x k j,ι b=some l->h'.get b=some x->l.has k j-> ¬R k j) (hI: ∀k j,R k j-> ¬I k j):HR ι I h' w':=by
 have cI: ∀a v,VR ι I w a v->VR ι I w' a v:=fun a v hv=>hv.mono (fun _ _ h=>h) (fun _ _ h=>h) (fun k j hk=>W.cell k j (H.dn k j hk) (fun hr=>hI k j hr hk))
 refine{cE:=fun b l hb=>Nat.lt_of_lt_of_le (H.cE b l hb) fy,inside:=fun b l hb=>Nat.lt_of_lt_of_le (H.inside b l hb) W.size,cells:=?_,maps:=?_,fo:=?_
        dz:=fun b b' l l' x x' k j aM hb bE hg cD=>H.dz b b' l l' x x' k j aM hb bE (da _ _ hg) (da _ _ cD)
        bB:=fun b l x k j hb hg=>H.bB b l x k j hb (da _ _ hg),dn:=fun k j hk=>Nat.lt_of_lt_of_le (H.dn k j hk) W.size
        pl:=fun b cs cb o room hg hb n=>by rw[W.frozen cb n (H.inside b _ hb) (hR b _ _ cb n hb hg rfl)];exact H.pl b cs cb o room (da _ _ hg) hb n}
 ·intro b cs l hg hb
  obtain⟨cb,o,room,rfl,hle,h1,hc⟩:=H.cells b cs l (da _ _ hg) hb
  have aB:cb<w.heap.size:=H.inside b _ hb
  refine⟨cb,o,room,rfl,hle,h1,fun j hj=>?_⟩
  obtain⟨c,bq,aU,dE⟩:=hc j hj
  have hnr:=hR b _ _ cb (o+j) hb hg rfl
  exact⟨c,by rw[W.cell _ _ aB hnr];exact bq,by rw[W.frozen _ _ aB hnr];exact aU,fun v hv=>cI _ _ (dE v hv)⟩
 ·intro b es l hg hb
  obtain⟨cb,aV,clock,rfl,hm,bn,hv⟩:=H.maps b es l (da _ _ hg) hb
  have aB:cb<w.heap.size:=H.inside b _ hb
  refine⟨cb,aV,clock,rfl,by rw[W.block cb aB (fun j=>hR b _ _ cb j hb hg rfl)];exact hm,bn,fun i k v e h1 h2=>?_⟩
  obtain⟨a,c⟩:=hv i k v e h1 h2
  exact⟨cI _ _ a,cI _ _ c⟩
 ·intro b l hg hb
  obtain⟨cb,lo,hi,rfl,hc⟩:=H.fo b l (da _ _ hg) hb
  have aB:cb<w.heap.size:=H.inside b _ hb
  refine⟨cb,lo,hi,rfl,fun j h1 h2=>?_⟩
  obtain⟨c,bq,aU⟩:=hc j h1 h2
  exact⟨c,by rw[W.cell _ _ aB (hR b _ _ cb j hb hg ⟨rfl,h1,h2⟩)];exact bq,by rw[W.frozen _ _ aB (hR b _ _ cb j hb hg ⟨rfl,h1,h2⟩)];exact aU⟩
theorem HR.vk (H:HR ι I h w) {w':World} {R:Nat->Nat->Prop} (W:fj R w w') {h':aa} (fy:h.next<=h'.next) (da: ∀b x,h'.get b=some x->h.get b=some x)
 (hR: ∀b l x k j,ι b=some l->h'.get b=some x->l.has k j-> ¬R k j) (hI: ∀k j,R k j-> ¬I k j):HR ι I h' w':=
 H.agF W.D9 fy da hR hI
theorem HR.Me (H:HR ι I h w) {J:aP} (hJ: ∀k j,J k j->k<w.heap.size/\ ¬eM ι h k j):HR ι (fun k j=>I k j\/J k j) h w:=by
 have cI: ∀a v,VR ι I w a v->VR ι (fun k j=>I k j\/J k j) w a v:=fun a v hv=>hv.mono (fun _ _ h=>h) (fun _ _ h=> .inl h) (fun k j hk=>rfl)
 refine{cE:=H.cE,inside:=H.inside,cells:=?_,maps:=?_,fo:=H.fo,dz:=H.dz,bB:=?_,dn:=?_,pl:=H.pl}
 ·intro b cs l hg hb
  obtain⟨cb,o,room,rfl,hle,h1,hc⟩:=H.cells b cs l hg hb
  refine⟨cb,o,room,rfl,hle,h1,fun j hj=>?_⟩
  obtain⟨c,bq,aU,dE⟩:=hc j hj
  exact⟨c,bq,aU,fun v hv=>cI _ _ (dE v hv)⟩
 ·intro b es l hg hb
  obtain⟨cb,aV,clock,rfl,hm,bn,hv⟩:=H.maps b es l hg hb
  exact⟨cb,aV,clock,rfl,hm,bn,fun i k v e h1 h2=>⟨cI _ _ (hv i k v e h1 h2).1,cI _ _ (hv i k v e h1 h2).2⟩⟩
 ·intro b l x k j hb hg hl hk
  rcases hk with hk|hk
  ·exact H.bB b l x k j hb hg hl hk
  ·exact(hJ k j hk).2 ⟨b,l,x,hb,hg,hl⟩
 ·intro k j hk
  rcases hk with hk|hk
  ·exact H.dn k j hk
  ·exact(hJ k j hk).1
def Fits (ι:aF) (I:aP) (w:World):Loc->cF->Prop
 | .cells cb o room, .cells cs=>cs.length<=room/\(∀v∈cs,v.one=true)/\
    (∀j,j<room-> ∃c,w.cell? ⟨cb,o+j,none⟩=some c/\w.frozen? ⟨cb,o+j,none⟩=false/\ ∀v,cs[j]? =some v->VR ι I w v c)/\ ∀n,w.frozen? ⟨cb,n,none⟩=false
 | .map cb, .map es=> ∃aV clock,w.heap[cb]? =some (.map aV clock)/\ER ι I w es aV.toList/\m6 aV clock
 | .tail cb lo hi, .tail=> ∀j,lo<=j->j<hi-> ∃c,w.cell? ⟨cb,j,none⟩=some c/\w.frozen? ⟨cb,j,none⟩=false
 |_,_=>False
theorem HR.wN (H:HR ι I h w) {id:Nat} {l:Loc} {x:cF} (aJ: ∀l',ι id=some l'->l'=l) (aB:l.block<w.heap.size) (ke:Fits ι I w l x)
 (uE: ∀k j,l.has k j-> ¬eM ι h k j/\ ¬I k j):HR (ι.set id l) I (h.at id x) w:=by
 have a9: ∀b,b≠id->(h.at id x).get b=h.get b:=fun b hb=>by simp[aa.at,hb]
 have ur:(h.at id x).get id=some x:=by simp[aa.at]
 have jh: ∀b l',(ι.set id l) b=some l'->(b=id/\l'=l)\/(b≠id/\ι b=some l'):=by
  intro b l' hb
  by_cases cp:b=id
  ·subst cp;rw[aF.gq] at hb;cases hb;exact .inl ⟨rfl,rfl⟩
  ·rw[aF.fk _ _ cp] at hb;exact .inr ⟨cp,hb⟩
 have cI: ∀a v,VR ι I w a v->VR (ι.set id l) I w a v:=fun a v hv=>hv.mono (fun b l' hb=>by
  by_cases he:b=id
  ·subst he;rw[aF.gq,aJ _ hb]
  ·rw[aF.fk _ _ he];exact hb) (fun _ _ h=>h) (fun k j hk=>rfl)
 refine{cE:=?_,inside:=?_,cells:=?_,maps:=?_,fo:=?_,dz:=?_,bB:=?_,dn:=H.dn,pl:=?_}
 ·intro b l' hb
  rcases jh b l' hb with⟨rfl,_⟩|⟨_,hb⟩
  ·simp[aa.at];omega
  ·have:=H.cE b l' hb;simp[aa.at];omega
 ·intro b l' hb
  rcases jh b l' hb with⟨rfl,rfl⟩|⟨_,hb⟩
  ·exact aB
  ·exact H.inside b l' hb
 ·intro b cs l' hg hb
  rcases jh b l' hb with⟨rfl,rfl⟩|⟨cp,hb⟩
  ·rw[ur] at hg
   cases hg
   cases l' with
   |cells cb o room=>
    obtain⟨h1,h2,h3,-⟩:=ke
    refine⟨cb,o,room,rfl,h1,h2,fun j hj=>?_⟩
    obtain⟨c,bq,aU,dE⟩:=h3 j hj
    exact⟨c,bq,aU,fun v hv=>cI _ _ (dE v hv)⟩
   |map _=>exact ke.elim
   |tail _ _ _=>exact ke.elim
  ·rw[a9 b cp] at hg
   obtain⟨cb,o,room,rfl,rE,h1,hc⟩:=H.cells b cs l' hg hb
   refine⟨cb,o,room,rfl,rE,h1,fun j hj=>?_⟩
   obtain⟨c,bq,aU,dE⟩:=hc j hj
   exact⟨c,bq,aU,fun v hv=>cI _ _ (dE v hv)⟩
 ·intro b es l' hg hb
  rcases jh b l' hb with⟨rfl,rfl⟩|⟨cp,hb⟩
  ·rw[ur] at hg
   cases hg
   cases l' with
   |map cb=>
    obtain⟨aV,clock,hm,gH,dD⟩:=ke
    exact⟨cb,aV,clock,rfl,hm,⟨by simpa using gH.1,dD⟩,fun i k v e h1 h2=>by
     have:=gH.2 i k v e h1 (by simpa using h2)
     exact⟨cI _ _ this.1,cI _ _ this.2⟩⟩
   |cells _ _ _=>exact ke.elim
   |tail _ _ _=>exact ke.elim
  ·rw[a9 b cp] at hg
   obtain⟨cb,aV,clock,rfl,hm,bn,hv⟩:=H.maps b es l' hg hb
   exact⟨cb,aV,clock,rfl,hm,bn,fun i k v e h1 h2=>⟨cI _ _ (hv i k v e h1 h2).1,cI _ _ (hv i k v e h1 h2).2⟩⟩
 ·intro b l' hg hb
  rcases jh b l' hb with⟨rfl,rfl⟩|⟨cp,hb⟩
  ·rw[ur] at hg
   cases hg
   cases l' with
   |tail cb lo hi=>exact⟨cb,lo,hi,rfl,ke⟩
   |cells _ _ _=>exact ke.elim
   |map _=>exact ke.elim
  ·rw[a9 b cp] at hg
   exact H.fo b l' hg hb
 ·intro b b' l1 l2 x1 x2 k j aM hb bE hg cD eo eD
  rcases jh b l1 hb with⟨rfl,rfl⟩|⟨cp,b9⟩<;>rcases jh b' l2 bE with⟨rfl,rfl⟩|⟨JP,Er⟩
  ·exact aM rfl
  ·rw[a9 b' JP] at cD
   exact(uE k j eo).1 ⟨b',l2,x2,Er,cD,eD⟩
  ·rw[a9 b cp] at hg
   exact(uE k j eD).1 ⟨b,l1,x1,b9,hg,eo⟩
  ·rw[a9 b cp] at hg
   rw[a9 b' JP] at cD
   exact H.dz b b' l1 l2 x1 x2 k j aM b9 Er hg cD eo eD
 ·intro b l1 x1 k j hb hg hl hI
  rcases jh b l1 hb with⟨rfl,rfl⟩|⟨cp,b9⟩
  ·exact(uE k j hl).2 hI
  ·rw[a9 b cp] at hg
   exact H.bB b l1 x1 k j b9 hg hl hI
 ·intro b cs cb o room hg hb n
  rcases jh b _ hb with⟨rfl,hl⟩|⟨cp,b9⟩
  ·rw[ur] at hg
   cases hg
   subst hl
   exact ke.2.2.2 n
  ·rw[a9 b cp] at hg
   exact H.pl b cs cb o room hg b9 n
theorem Ext.of0 {N:Nat->Prop} {ι':aF} {I':aP} {h':aa} {w':World} {R:Nat->Nat->Prop} (W:xE R w w') (hR: ∀k j,k<w.heap.size->R k j->eM ι h k j)
 (gY: ∀b,¬N b->ι' b=ι b) (CV: ∀b l,ι b=some l->ι' b=some l) (fy:h.next<=h'.next) (To: ∀k j,I k j->I' k j)
 (i4: ∀k j,eM ι' h' k j->eM ι h k j\/w.heap.size<=k) (PJ: ∀k j,I' k j->I k j\/eM ι h k j\/w.heap.size<=k)
 (CW: ∀b,¬N b->ι b=none->h'.get b=h.get b):Ext N ι I h w ι' I' h' w':=
 {eZ:=gY,bN:=CV,next:=fy,bB:=To,os:=W.os,tape:=W.tape,output:=W.output,size:=W.size
  block:=fun k hk ho=>W.block k hk (fun j hj=>ho j (hR k j hk hj)),cell:=fun k j hk ho=>W.cell k j hk (fun hj=>ho (hR k j hk hj)),frozen:=fun k j hk ho=>W.frozen k j hk (fun hj=>ho (hR k j hk hj))
  own:=i4,gw:=PJ,lost:=CW}
theorem Ext.of {N:Nat->Prop} {ι':aF} {I':aP} {h':aa} {w':World} {R:Nat->Nat->Prop} (W:fj R w w') (hR: ∀k j,k<w.heap.size->R k j->eM ι h k j)
 (gY: ∀b,¬N b->ι' b=ι b) (CV: ∀b l,ι b=some l->ι' b=some l) (fy:h.next<=h'.next) (To: ∀k j,I k j->I' k j)
 (i4: ∀k j,eM ι' h' k j->eM ι h k j\/w.heap.size<=k) (PJ: ∀k j,I' k j->I k j\/eM ι h k j\/w.heap.size<=k)
 (CW: ∀b,¬N b->ι b=none->h'.get b=h.get b):Ext N ι I h w ι' I' h' w':=
 Ext.of0 W.D9 hR gY CV fy To i4 PJ CW
end
end
section
open Go
section
variable {P:Program} {ι:aF} {I:aP} {h:aa} {w:World}
theorem aa.amI (h:aa) {b:Nat} (hb:b<h.next) (x:cF):(h.set b none).at b x=h.set b (some x):=by
 unfold aa.at aa.set
 congr 1
 ·funext i;by_cases hi:i=b<;>simp[hi]
 ·simp;omega
theorem aF.ank {ι:aF} {b:Nat} {l:Loc} (hb:ι b=some l):ι.set b l=ι:=by
 funext i
 by_cases hi:i=b
 ·subst hi;rw[aF.gq,hb]
 ·rw[aF.fk _ _ hi]
theorem iL {h:aa} {b i:Nat} {x:cF} (hg:(h.set b none).get i=some x):i≠b/\h.get i=some x:=by
 simp only[aa.set] at hg
 split at hg
 ·cases hg
 ·exact⟨by assumption,hg⟩
theorem HR.bL (H:HR ι I h w) {w':World} {R:Nat->Nat->Prop} (W:fj R w w') {b:Nat} {l:Loc} {x x':cF} (hb:ι b=some l) (hg:h.get b=some x)
 (hR: ∀k j,R k j->l.has k j) (ke:HR ι I (h.set b none) w'->Fits ι I w' l x'):
 HR ι I (h.set b (some x')) w'/\Ext (fun _=>False) ι I h w ι I (h.set b (some x')) w':=by
 have H1:HR ι I (h.set b none) w':=H.vk W (Nat.le_refl _) (fun i y hi=>(iL hi).2)
  (fun i l' y k j hi dZ hl hr=>(H.dz i b l' l y x k j (iL dZ).1 hi hb (iL dZ).2 hg hl (hR k j hr)).elim)
  (fun k j hr=>H.bB b l x k j hb hg (hR k j hr))
 have H2:=H1.wN (id:=b) (l:=l) (x:=x') (fun l' bn=>by rw[hb] at bn;cases bn;rfl) (Nat.lt_of_lt_of_le (H.inside b l hb) W.size) (ke H1)
  (fun k j hl=>⟨fun⟨i,l',y,hi,dZ,iT⟩=>H.dz i b l' l y x k j (iL dZ).1 hi hb (iL dZ).2 hg iT hl,H.bB b l x k j hb hg hl⟩)
 rw[aF.ank hb,aa.amI h (H.cE b l hb)] at H2
 refine⟨H2,Ext.of W (fun k j _ hr=>⟨b,l,x,hb,hg,hR k j hr⟩) (fun _ _=>rfl) (fun _ _ h=>h) (Nat.le_refl _) (fun _ _ h=>h) ?_ (fun _ _ h=> .inl h) ?_⟩
 ·rintro k j ⟨i,l',y,hi,dZ,hl⟩
  by_cases qx:i=b
  ·subst qx
   rw[hb] at hi;cases hi
   exact .inl ⟨i,_,x,hb,hg,hl⟩
  ·exact .inl ⟨i,l',y,hi,by simpa [aa.set,qx] using dZ,hl⟩
 ·intro i _ hi
  have:i≠b:=fun he=>by rw[he,hb] at hi;cases hi
  simp[aa.set,this]
theorem HR.GY (H:HR ι I h w) {b cb o room off:Nat} {cs vs:List AV} {mo:List Value} (hb:ι b=some (.cells cb o room)) (hg:h.get b=some (.cells cs))
 (hle:off<=cs.length) (i5:off+vs.length<=room) (hv:LR ι I w vs mo) (cU: ∀v∈vs,v.one=true):
 HR ι I (h.set b (some (.cells (df cs off vs)))) (w.setCells cb (o+off) mo)/\
 Ext (fun _=>False) ι I h w ι I (h.set b (some (.cells (df cs off vs)))) (w.setCells cb (o+off) mo):=by
 obtain⟨_,_,_,hl,eY,h1,hc⟩:=H.cells b cs _ hg hb
 cases hl
 have hvl:=hv.1
 refine H.bL (fj.setCells w cb (o+off) mo) hb hg (fun k j ⟨h1,h2,h3⟩=>h1) (fun H1=>?_)
 have cI: ∀a c,VR ι I w a c->VR ι I (w.setCells cb (o+off) mo) a c:=fun a c sg=>sg.mono (fun _ _ h=>h) (fun _ _ h=>h) (fun k j hk=>
  (fj.setCells w cb (o+off) mo).cell k j (H.dn k j hk) (fun⟨e1,e2,e3⟩=>H.bB b _ _ k j hb hg e1 hk))
 refine⟨by rw[ahC _ _ _ hle];omega,?_,fun j hj=>?_,fun n=>by rw[World.frozen?_setCells];exact H.pl b cs cb o room hg hb n⟩
 ·intro v cV
  obtain⟨i,hi,rfl⟩:=List.getElem_of_mem cV
  have a9:=Ln cs off vs hle i
  rw[List.getElem?_eq_getElem hi] at a9
  split at a9
  ·exact cU _ (List.mem_of_getElem? a9.symm)
  ·exact h1 _ (List.mem_of_getElem? a9.symm)
 ·obtain⟨c,bq,aU,dE⟩:=hc j hj
  by_cases aB:off<=j/\j<off+mo.length
  ·have hex: ∀i,i<mo.length->(w.cell? ⟨cb,o+off+i,none⟩).isSome=true:=fun i hi=>by
    obtain⟨c',cQ,_⟩:=hc (off+i) (by omega)
    rw[Nat.add_assoc,cQ];rfl
   have:=World.cell?_setCells_in cb mo (o+off) w hex (j-off) (by omega)
   rw[show o+off+(j-off)=o+j by omega] at this
   refine⟨_,this,by rw[World.frozen?_setCells];exact aU,fun v cV=>?_⟩
   rw[Ln _ _ _ hle,if_pos (by omega)] at cV
   exact cI _ _ (hv.2 _ v _ cV (List.getElem?_eq_getElem (by omega)))
  ·refine⟨c,?_,by rw[World.frozen?_setCells];exact aU,fun v cV=>?_⟩
   ·rw[World.cell?_setCells_out cb mo (o+off) w _ (fun _ _=>by simp;omega)]
    exact bq
   ·rw[Ln _ _ _ hle,if_neg (by omega)] at cV
    exact cI _ _ (dE v cV)
theorem HR.write (H:HR ι I h w) {b cb o room off:Nat} {cs vs:List AV} {mo:List Value} (hb:ι b=some (.cells cb o room)) (hg:h.get b=some (.cells cs))
 (hle:off+vs.length<=cs.length) (hv:LR ι I w vs mo) (cU: ∀v∈vs,v.one=true):
 HR ι I (h.set b (some (.cells (df cs off vs)))) (w.setCells cb (o+off) mo)/\
 Ext (fun _=>False) ι I h w ι I (h.set b (some (.cells (df cs off vs)))) (w.setCells cb (o+off) mo):=by
 obtain⟨_,_,_,hl,eY,-,-⟩:=H.cells b cs _ hg hb
 cases hl
 exact H.GY hb hg (by omega) (by omega) hv cU
theorem qK {b:Nat} {cs:List AV} (hg:cellsOf h b=some cs):h.get b=some (.cells cs):=by
 unfold cellsOf at hg
 split at hg
 ·rename_i bF hh;cases hg;exact hh
 ·cases hg
theorem ajX (H:HR ι I h w) {t:TypeId} {sz:Nat} (hs:(P.info? t).map (·.size)=some sz) {a v:AV} {ca cv:Value} (ha:VR ι I w a ca) (hv:VR ι I w v cv) {h':aa} {r:AV}
 (he:vZ sz h a v=some (r,h')):
 r= .undef/\ ∃w',(Instr.storeAt t ca cv).run P w= .ok () w'/\HR ι I h' w'/\Ext (fun _=>False) ι I h w ι I h' w':=by
 unfold vZ at he
 cases ha<;>simp only[] at he<;>try(cases he;done)
 rename_i b off cb o room hb
 split at he
 ·rename_i cs hg
  split at he
  ·rename_i fR
   obtain⟨h1,h2,h3⟩:=fR
   cases he
   have cD:=qK hg
   have hc:=VR.cells hv (LS h3)
   obtain⟨_,_,_,hl,eY,_,br⟩:=H.cells b cs _ cD hb
   cases hl
   have cU: ∀u∈cv.cells.toList,u.oneCell'=true:=by
    intro u hu
    obtain⟨i,hi,rfl⟩:=List.getElem_of_mem hu
    have aA:i<v.cells.length:=by rw[hc.1];exact hi
    exact(hc.2 i _ _ (List.getElem?_eq_getElem aA) (List.getElem?_eq_getElem hi)).one ((List.all_eq_true.1 h3) _ (List.getElem_mem aA))
   have hlen:cv.cells.toList.length=sz:=by rw[<-h1,hc.1]
   have bT:=run_storeCells_cells (P:=P) cb (o+off) cv.cells.toList 0 w
    (fun j hj=>by obtain⟨c,cQ,_⟩:=br (off+j) (by omega);simp only[Nat.add_zero];rw[Nat.add_assoc,cQ];rfl)
    (fun j hj=>by obtain⟨c,_,cQ,_⟩:=br (off+j) (by omega);simp only[Nat.add_zero];rw[Nat.add_assoc];exact cQ) cU
   obtain⟨H',E⟩:=H.write (off:=off) hb cD (by omega) hc (fun u hu=>(List.all_eq_true.1 h3) u hu)
   refine⟨rfl,w.setCells cb (o+off) cv.cells.toList,?_,H',E⟩
   have aO:cv.cells.size=sz:=by simpa using hlen
   simp only[Nat.add_zero] at bT
   simp[Instr.storeAt,Instr.sureAddr,storeVar,l9 hs,aO,bT]
  ·cases he
 ·cases he
end
end
section
open Go
section
variable {P:Program} {ι:aF} {I:aP} {h:aa} {w:World}
theorem fj.refl (w:World):fj (fun _ _=>False) w w:=
 {os:=rfl,tape:=rfl,output:=rfl,size:=Nat.le_refl _,block:=fun _ _ _=>rfl,cell:=fun _ _ _ _=>rfl,frozen:=fun _ _ _=>rfl}
theorem HR.drop (H:HR ι I h w) {b:Nat} {l:Loc} (hb:ι b=some l):HR ι I (h.set b none) w/\Ext (fun _=>False) ι I h w ι I (h.set b none) w:=by
 refine⟨H.vk (fj.refl w) (Nat.le_refl _) (fun i y hi=>(iL hi).2) (fun _ _ _ _ _ _ _ _ h=>h) (fun _ _ h=>h.elim),?_⟩
 refine Ext.of (fj.refl w) (fun _ _ _ h=>h.elim) (fun _ _=>rfl) (fun _ _ h=>h) (Nat.le_refl _) (fun _ _ h=>h) ?_ (fun _ _ h=> .inl h) ?_
 ·rintro k j ⟨i,l',y,hi,hg,hl⟩
  exact .inl ⟨i,l',y,hi,(iL hg).2,hl⟩
 ·intro i _ hi
  have:i≠b:=fun he=>by rw[he,hb] at hi;cases hi
  simp[aa.set,this]
theorem Ys {Ta cap bytes:Nat} (hg:cap<Ta) (hb:Ta*bytes<2^40):Builtin.nextslicecap Ta cap*bytes<=281474976710656:=by
 have h1:=nextslicecap_le hg
 have h2:=Nat.mul_le_mul_right bytes h1
 rw[Nat.mul_assoc] at h2
 omega
structure td (P:Program) (t tx e:TypeId) (sz bytes:Nat):Prop where
 ht:P.underlying t=some (.slice e)
 tA:P.underlying tx=some (.slice e)
 info: ∃ie z,P.info? e=some ie/\ie.zero=some z/\ie.size=sz/\ie.bytes=bytes/\z.cells.size=sz
 pos:sz≠0
theorem X8 {sz:Nat} {rows:List (List AV)} {a:Option Addr} {l:List Value} (R:Rd ι I w sz rows a l) (cap:Nat) (w':World)
 (hw: ∀a,w'.cell? a=w.cell? a):(Builtin.firstCells sz rows.length (.slice a rows.length cap)).run P w'= .ok l.toArray w':=by
 cases a with
 |none=>
  have:=R.none rfl
  subst this
  have:l=[]:=by have:=R.len;simpa using this
  subst this
  exact run_firstCells_none w' sz 0 _ cap
 |some ad=>
  exact run_firstCells_some w' sz _ _ _ _ l R.len (fun j v hv=>by rw[hw];exact R.cell ad rfl j v hv)
theorem Yr (H:HR ι I h w) {id:Nat} (aJ:ι id=none) {t tx ty e:TypeId} {sz bytes:Nat} (T:td P t tx e sz bytes) {xs ys:List (List AV)} {a b:Option Addr} {lx ly:List Value} {cap cJ:Nat}
 (Rx:Rd ι I w sz xs a lx) (Ry:Rd ι I w sz ys b ly) (hg:cap<xs.length+ys.length) (hb:(xs.length+ys.length)*bytes<2^40) (hn:xs.length+ys.length<2^40):
 ∃(c:Nat) (w':World),(Builtin.append_ #[t,tx] ty #[.slice a xs.length cap, .slice b ys.length cJ]).run P w= .ok (.slice (some ⟨w.heap.size,0,none⟩) (xs.length+ys.length) c) w'/\
  xs.length+ys.length<=c/\w'.heap.size=w.heap.size+1/\fj (fun _ _=>False) w w'/\(∀j,w'.frozen? ⟨w.heap.size,j,none⟩=false)/\
  (∀j,j<c*sz-> ∃u,w'.cell? ⟨w.heap.size,j,none⟩=some u)/\(∀(j:Nat) (u:Value),(lx++ly)[j]? =some u->w'.cell? ⟨w.heap.size,j,none⟩=some u):=by
 obtain⟨ie,z,cL,hz,aO,yX,rQ⟩:=T.info
 have hold:=X8 (P:=P) Rx cap w.drew (fun _=>rfl)
 have qa:=Ry.src (P:=P) T.tA cJ
 rw[<-aO] at hold qa
 have ke:=Ys hg hb
 rw[<-yX] at ke
 have bT:=run_append_grow_src (P:=P) w t tx ty e ie z T.ht cL hz a xs.length cap lx hold (.slice b ys.length cJ) ys.length ly qa hg (by omega) ke
 have AI:=grownCap_ge w (xs.length+ys.length) cap e
 refine⟨_,_,bT,AI,by simp,(fj.drew w).trans (fj.push _ _) (fun _ _ _ h=>h),?_,?_,?_⟩
 ·intro j;exact World.frozen?_alloc_new (w:=w.drew) _ _ j
 ·intro j hj
  have uC:((lx++ly).toArray++Builtin.zeroCells z.cells (grownCap w (xs.length+ys.length) cap e-(xs.length+ys.length))).size=grownCap w (xs.length+ys.length) cap e*sz:=by
   rw[Array.size_append,size_zeroCells,rQ]
   simp only[List.size_toArray,List.length_append,Rx.len,Ry.len]
   rw[<-Nat.add_mul,<-Nat.add_mul]
   congr 1;omega
  exact⟨_,(World.cell?_alloc_new (w:=w.drew) _ _ j).trans (Array.getElem?_eq_getElem (by rw[uC];exact hj))⟩
 ·intro j u hu
  refine(World.cell?_alloc_new (w:=w.drew) _ _ j).trans ?_
  rw[Array.getElem?_append_left (by have:=(List.getElem?_eq_some_iff.1 hu).1;simpa using this)]
  simpa using hu
theorem Rd.append {sz:Nat} {xs ys:List (List AV)} {a b:Option Addr} {lx ly:List Value} (Rx:Rd ι I w sz xs a lx) (Ry:Rd ι I w sz ys b ly):
 (∀r∈xs++ys,r.length=sz/\ ∀v∈r,v.one=true)/\LR ι I w (xs++ys).flatten (lx++ly):=by
 refine⟨fun r hr=>?_,?_⟩
 ·rcases List.mem_append.1 hr with h|h
  ·exact Rx.lM r h
  ·exact Ry.lM r h
 ·rw[List.flatten_append]
  exact Rx.lr.append Ry.lr
theorem Zu {ι':aF} {I':aP} {w':World} {rows:List (List AV)} {l:List Value} {sz cb o cap:Nat} {t:aG} (hu: ∀r∈rows,r.length=sz/\ ∀v∈r,v.one=true) (hl:LR ι' I' w' rows.flatten l)
 (hc: ∀(j:Nat) (u:Value),l[j]? =some u->w'.cell? ⟨cb,o+j,none⟩=some u) (hI: ∀j,j<rows.length*sz->I' cb (o+j)) (bw:rows.length<=cap)
 (ht:Pv ι' cb o sz rows.length cap t):VR ι' I' w' (.vs rows t) (.slice (some ⟨cb,o,none⟩) rows.length cap):=by
 have bP:=mU rows (fun r hr=>(hu r hr).1)
 have kU:l.length=rows.length*sz:=by rw[<-hl.1,bP]
 have agY: ∀i j,i<rows.length->j<sz->i*sz+j<rows.length*sz:=fun i j hi hj=>by
  have:=Nat.mul_le_mul_right sz (show i+1<=rows.length by omega)
  rw[Nat.succ_mul] at this;omega
 refine .vs rows t cb o sz cap (fun i j=>l.getD (i*sz+j) undef) (fun i row hi=>(hu row (List.mem_of_getElem? hi)).1) (fun i j hi hj=>?_) (fun i j hi hj=>?_) (fun i row j v hi hj=>?_) (fun row hr=>(hu row hr).2) bw ht
 ·rw[Nat.add_assoc];exact hI _ (agY i j hi hj)
 ·have aC:=agY i j hi hj
  rw[Nat.add_assoc]
  refine hc _ _ ?_
  rw[<-kU] at aC
  simp[List.getD,List.getElem?_eq_getElem aC]
 ·have aA:=(List.getElem?_eq_some_iff.1 hi).1
  have jr:=(List.getElem?_eq_some_iff.1 hj).1
  have hr:=(hu row (List.mem_of_getElem? hi)).1
  have:=flat_get rows (fun r hr=>(hu r hr).1) i j row hi (by omega)
  rw[hj] at this
  obtain⟨c,bq,aU⟩:=hl.get this
  have e:l.getD (i*sz+j) undef=c:=by simp[List.getD,bq]
  rw[e];exact aU
theorem Bk (H:HR ι I h w) {id:Nat} (aJ:ι id=none) {t tx ty e:TypeId} {sz bytes:Nat} (T:td P t tx e sz bytes) {xs ys:List (List AV)} {a b:Option Addr} {lx ly:List Value} {cap cJ:Nat}
 (Rx:Rd ι I w sz xs a lx) (Ry:Rd ι I w sz ys b ly) (hg:cap<xs.length+ys.length) (hb:(xs.length+ys.length)*bytes<2^40) (hn:xs.length+ys.length<2^40) (hy:ys≠[]):
 fu P ι I h w id (.vs (xs++ys) (.own id)) (h.at id .tail) (Builtin.append_ #[t,tx] ty #[.slice a xs.length cap, .slice b ys.length cJ]):=by
 obtain⟨c,w',bT,hc,aO,W,mu,hex,br⟩:=Yr H aJ T Rx Ry hg hb hn (cJ:=cJ) (ty:=ty)
 obtain⟨hu,hl⟩:=Rx.append Ry
 have iy:0<xs.length+ys.length:=by
  have:=List.length_pos_iff.2 hy;omega
 have hlen:(xs++ys).length=xs.length+ys.length:=by simp
 let J:aP:=fun k j=>k=w.heap.size/\j<(xs.length+ys.length)*sz
 let l0:Loc:= .tail w.heap.size ((xs.length+ys.length)*sz) (c*sz)
 have i4: ∀k j,eM ι h k j->k<w.heap.size:=fun k j ⟨i,l,x,hi,_,hl⟩=>by rw[Loc.vM hl];exact H.inside i l hi
 have H1:HR ι I h w':=H.vk W (Nat.le_refl _) (fun _ _ h=>h) (fun _ _ _ _ _ _ _ _ h=>h) (fun _ _ h=>h.elim)
 have H2:HR ι (fun k j=>I k j\/J k j) h w':=H1.Me (fun k j hj=>⟨by rw[hj.1];omega,fun ho=>by have:=i4 k j ho;have:=hj.1;omega⟩)
 have H3:=H2.wN (id:=id) (l:=l0) (x:= .tail) (fun l' bn=>by rw[aJ] at bn;cases bn) (by simp[l0,Loc.block];omega)
  (fun j h1 h2=>by obtain⟨u,hu⟩:=hex j h2;exact⟨u,hu,mu j⟩)
  (fun k j hl=>⟨fun ho=>by have:=i4 k j ho;have:=hl.1;omega,fun hI=>by
    rcases hI with hI|hI
    ·have:=H.dn k j hI;have:=hl.1;omega
    ·have:=hI.2;have:=hl.2.1;omega⟩)
 have cI: ∀a v,VR ι I w a v->VR (ι.set id l0) (fun k j=>I k j\/J k j) w' a v:=fun a v hv=>hv.mono
  (fun b l hb=>by rw[aF.fk _ _ (fun he=>by rw[he,aJ] at hb;cases hb)];exact hb) (fun _ _ h=> .inl h) (fun k j hk=>W.cell k j (H.dn k j hk) (fun h=>h))
 refine⟨_,w',_,_,bT,?_,H3,?_⟩
 ·rw[<-hlen]
  refine Zu (sz:=sz) (l:=lx++ly) hu (hl.mono cI) (fun j u ig=>by rw[Nat.zero_add];exact br j u ig) (fun j hj=> .inr ⟨rfl,by rw[Nat.zero_add];rw[hlen] at hj;exact hj⟩) (by rw[hlen];exact hc) ?_
  rw[hlen]
  refine⟨iy,?_⟩
  rw[aF.gq]
  simp[l0]
 ·refine Ext.of W (fun _ _ _ h=>h.elim) (fun b hb=>aF.fk _ _ hb) (fun b l hb=>by rw[aF.fk _ _ (fun he=>by rw[he,aJ] at hb;cases hb)];exact hb) (by simp[aa.at];omega) (fun _ _ h=> .inl h) ?_ ?_ (fun b hb _=>by simp[aa.at,hb])
  ·rintro k j ⟨i,l,x,hi,dZ,hl⟩
   by_cases ij:i=id
   ·subst ij;rw[aF.gq] at hi;cases hi;exact .inr (by have:=hl.1;omega)
   ·rw[aF.fk _ _ ij] at hi
    exact .inl ⟨i,l,x,hi,by simpa [aa.at,ij] using dZ,hl⟩
  ·intro k j hk
   rcases hk with hk|hk
   ·exact .inl hk
   ·exact .inr (.inr (by have:=hk.1;omega))
end
end
section
open Go
section
variable {P:Program} {ι:aF} {I:aP} {h:aa} {w:World}
theorem fu.YT {id:Nat} {v:AV} {h':aa} {s:Sem Value} {b:Nat} {l:Loc} (H:HR ι I h w) (hb:ι b=some l) (hs:fu P ι I (h.set b none) w id v h' s) (avH:ι id=none):
 fu P ι I h w id v h' s:=by
 obtain⟨c,w',ι',I',hr,hv,H',E⟩:=hs
 obtain⟨H1,E1⟩:=H.drop hb
 exact⟨c,w',ι',I',hr,hv,H',(E1.mono (fun _ h=>h.elim)).trans E (fun _ h=>h)⟩
theorem aiG (H:HR ι I h w) {id:Nat} (aJ:ι id=none) {t tx ty e:TypeId} {sz bytes:Nat} (T:td P t tx e sz bytes) {xs ys:List (List AV)} {b:Option Addr} {lx ly:List Value} {cb o cap cJ t0:Nat}
 (Rx:Rd ι I w sz xs (some ⟨cb,o,none⟩) lx) (Ry:Rd ι I w sz ys b ly) (hI: ∀j,j<xs.length*sz->I cb (o+j)) (ht:ι t0=some (.tail cb (o+xs.length*sz) (o+cap*sz))) (hg:h.get t0=some .tail)
 (eY:xs.length+ys.length<=cap) (hx:0<xs.length):
 fu P ι I h w id (.vs (xs++ys) (.own id)) ((h.set t0 none).at id .tail) (Builtin.append_ #[t,tx] ty #[.slice (some ⟨cb,o,none⟩) xs.length cap, .slice b ys.length cJ]):=by
 obtain⟨ie,z,cL,hz,aO,yX,rQ⟩:=T.info
 have qa:=Ry.src (P:=P) T.tA cJ
 rw[<-aO] at qa
 have hmul:xs.length*sz+ys.length*sz<=cap*sz:=by rw[<-Nat.add_mul];exact Nat.mul_le_mul_right _ eY
 have Kk:=Ry.len
 have hlx:=Rx.len
 obtain⟨gW,lo',aA,bn,Ij⟩:=H.fo t0 _ hg ht
 cases bn
 have bT:=run_append_room_src (P:=P) w t tx ty e ie T.ht cL cb o xs.length cap (.slice b ys.length cJ) ys.length ly qa eY
  (fun j hj=>by rw[aO];obtain⟨u,hu,_⟩:=Ij (o+xs.length*sz+j) (by omega) (by omega);rw[hu];rfl)
  (fun j hj=>by rw[aO];obtain⟨u,_,hu⟩:=Ij (o+xs.length*sz+j) (by omega) (by omega);exact hu)
 rw[aO] at bT
 have W:=fj.setCells w cb (o+xs.length*sz) ly
 have hR: ∀k j,(k=cb/\o+xs.length*sz<=j/\j<o+xs.length*sz+ly.length)->(Loc.tail cb (o+xs.length*sz) (o+cap*sz)).has k j:=fun k j ⟨h1,h2,h3⟩=>⟨h1,h2,by omega⟩
 have oM: ∀k j,(Loc.tail cb (o+xs.length*sz) (o+cap*sz)).has k j-> ¬eM ι (h.set t0 none) k j:=fun k j hl ⟨i,l,x,hi,dZ,iT⟩=>
  H.dz i t0 l _ x .tail k j (iL dZ).1 hi ht (iL dZ).2 hg iT hl
 have xW: ∀k j,(Loc.tail cb (o+xs.length*sz) (o+cap*sz)).has k j-> ¬I k j:=fun k j hl=>H.bB t0 _ .tail k j ht hg hl
 have aB:cb<w.heap.size:=H.inside t0 _ ht
 have H1:HR ι I (h.set t0 none) (w.setCells cb (o+xs.length*sz) ly):=H.vk W (Nat.le_refl _) (fun i y hi=>(iL hi).2)
  (fun i l y k j hi dZ hl hr=>oM k j (hR k j hr) ⟨i,l,y,hi,dZ,hl⟩) (fun k j hr=>xW k j (hR k j hr))
 let J:aP:=fun k j=>k=cb/\o+xs.length*sz<=j/\j<o+(xs.length+ys.length)*sz
 have hJ: ∀k j,J k j->(Loc.tail cb (o+xs.length*sz) (o+cap*sz)).has k j:=fun k j ⟨h1,h2,h3⟩=>⟨h1,h2,by rw[Nat.add_mul] at h3;omega⟩
 have H2:=H1.Me (J:=J) (fun k j hj=>⟨by rw[hj.1];exact Nat.lt_of_lt_of_le aB W.size,oM k j (hJ k j hj)⟩)
 let l0:Loc:= .tail cb (o+(xs.length+ys.length)*sz) (o+cap*sz)
 have xX: ∀k j,l0.has k j->(Loc.tail cb (o+xs.length*sz) (o+cap*sz)).has k j:=fun k j ⟨h1,h2,h3⟩=>⟨h1,by rw[Nat.add_mul] at h2;omega,h3⟩
 have H3:=H2.wN (id:=id) (l:=l0) (x:= .tail) (fun l' bn=>by rw[aJ] at bn;cases bn) (Nat.lt_of_lt_of_le aB W.size)
  (fun j h1 h2=>by
    have c7:o+xs.length*sz+ly.length<=j:=by rw[Nat.add_mul] at h1;omega
    obtain⟨u,hu,hf⟩:=Ij j (by omega) h2
    exact⟨u,by rw[W.cell _ _ aB (fun hr=>by have:=hr.2.2;omega)];exact hu,by rw[W.frozen _ _ aB];exact hf⟩)
  (fun k j hl=>⟨oM k j (xX k j hl),fun nO=>by
    rcases nO with nO|nO
    ·exact xW k j (xX k j hl) nO
    ·have:=nO.2.2;have:=hl.2.1;omega⟩)
 have cI: ∀a v,VR ι I w a v->VR (ι.set id l0) (fun k j=>I k j\/J k j) (w.setCells cb (o+xs.length*sz) ly) a v:=fun a v hv=>hv.mono
  (fun b l hb=>by rw[aF.fk _ _ (fun he=>by rw[he,aJ] at hb;cases hb)];exact hb) (fun _ _ h=> .inl h) (fun k j hk=>W.cell k j (H.dn k j hk) (fun hr=>xW k j (hR k j hr) hk))
 obtain⟨hu,hl⟩:=Rx.append Ry
 have hlen:(xs++ys).length=xs.length+ys.length:=by simp
 refine⟨_,_,_,_,bT,?_,H3,?_⟩
 ·rw[<-hlen]
  refine Zu (sz:=sz) (l:=lx++ly) hu (hl.mono cI) (fun j u ig=>?_) (fun j hj=>?_) (by rw[hlen];exact eY) ?_
  ·by_cases hj:j<lx.length
   ·rw[List.getElem?_append_left hj] at ig
    have hc:=Rx.cell _ rfl j u ig
    rw[Addr.add_mid] at hc
    rw[W.cell _ _ aB (fun hr=>by have:=hr.2.1;omega)]
    exact hc
   ·rw[List.getElem?_append_right (by omega)] at ig
    have dU:=(List.getElem?_eq_some_iff.1 ig).1
    have:=World.cell?_setCells_in cb ly (o+xs.length*sz) w (fun i hi=>by
     obtain⟨u',ig,_⟩:=Ij (o+xs.length*sz+i) (by omega) (by omega);rw[ig];rfl) (j-lx.length) dU
    rw[show o+xs.length*sz+(j-lx.length)=o+j by omega] at this
    rw[this,<-ig,List.getElem?_eq_getElem dU]
  ·rw[hlen,Nat.add_mul] at hj
   by_cases sd:j<xs.length*sz
   ·exact .inl (hI j sd)
   ·exact .inr ⟨rfl,by omega,by rw[Nat.add_mul];omega⟩
  ·rw[hlen]
   exact⟨by omega,by rw[aF.gq]⟩
 ·refine Ext.of W (fun k j _ hr=>⟨t0,_, .tail,ht,hg,hR k j hr⟩) (fun b hb=>aF.fk _ _ hb) (fun b l hb=>by rw[aF.fk _ _ (fun he=>by rw[he,aJ] at hb;cases hb)];exact hb)
   (by simp[aa.at,aa.set];omega) (fun _ _ h=> .inl h) ?_ ?_ ?_
  ·rintro k j ⟨i,l,x,hi,dZ,iT⟩
   by_cases ij:i=id
   ·subst ij;rw[aF.gq] at hi;cases hi;exact .inl ⟨t0,_, .tail,ht,hg,xX k j iT⟩
   ·rw[aF.fk _ _ ij] at hi
    have Ep:(h.set t0 none).get i=some x:=by simpa [aa.at,ij] using dZ
    exact .inl ⟨i,l,x,hi,(iL Ep).2,iT⟩
  ·intro k j hk
   rcases hk with hk|hk
   ·exact .inl hk
   ·exact .inr (.inl ⟨t0,_, .tail,ht,hg,hJ k j hk⟩)
  ·intro i hi u2
   have:i≠t0:=fun he=>by rw[he,ht] at u2;cases u2
   simp[aa.at,aa.set,hi,this]
theorem ajD (H:HR ι I h w) {id:Nat} (aJ:ι id=none) {t tx ty e:TypeId} {sz bytes:Nat} (T:td P t tx e sz bytes) {x y v:AV} {cx cy:Value} (hx:VR ι I w x cx) (hy:VR ι I w y cy) {ρ:Env} {ox oy:aq} (bk:ox.ev ρ=x) (iG:oy.ev ρ=y)
 {h':aa} (he:bM (.append bytes sz ox oy) ρ id h=some (v,h')):fu P ι I h w id v h' (Builtin.append_ #[t,tx] ty #[cx,cy]):=by
 simp only[bM,bk,iG] at he
 cases kA:cP sz h y with
 |none=>simp[kA] at he
 |some ys=>
  simp only[kA] at he
  obtain⟨b,cJ,ly,rfl,agT,Ry⟩:=vO H hy kA
  obtain⟨ie,z,cL,hz,aO,yX,rQ⟩:=T.info
  have qM: ∀(a:Option Addr) (n cap:Nat),n<=cap->ys=[]->(Builtin.append_ #[t,tx] ty #[.slice a n cap, .slice b ys.length cJ]).run P w= .ok (.slice a n cap) w:=by
   intro a n cap hle h0
   subst h0
   have hs:=Ry.src (P:=P) T.tA cJ
   have:ly=[]:=by have:=Ry.len;simpa using this
   subst this
   rw[<-aO] at hs
   exact run_append_nothing w t tx ty e ie T.ht cL a n cap hle _ hs
  have ir: ∀(c:Value) (v:AV),VR ι I w v c->(Builtin.append_ #[t,tx] ty #[c, .slice b ys.length cJ]).run P w= .ok c w->fu P ι I h w id v h (Builtin.append_ #[t,tx] ty #[c, .slice b ys.length cJ]):=
   fun c v hv hr=>⟨c,w,ι,I,hr,hv,H,Ext.refl _ _ _ _ _⟩
  cases hx<;>(try simp only[] at he)<;>try(cases he;done)
  case bA=>
   by_cases h0:ys=[]
   ·rw[if_pos h0] at he
    cases he
    exact ir _ _ .bA (qM none 0 0 (Nat.le_refl _) h0)
   ·rw[if_neg h0] at he
    split at he
    ·rename_i hc
     cases he
     have Rx:Rd ι I w sz [] none []:=⟨by simp,LR.nil,by simp,fun _=>rfl⟩
     have:=Bk H aJ T Rx Ry (cap:=0) (cJ:=cJ) (ty:=ty) (by have:=List.length_pos_iff.2 h0;simp;omega) (by simpa using hc.1) (by simpa using hc.2) h0
     simpa using this
    ·cases he
  case gr t' ht=>
   by_cases h0:ys=[]
   ·rw[if_pos h0] at he
    cases he
    exact ir _ _ (.gr _ ht) (qM none 0 0 (Nat.le_refl _) h0)
   ·rw[if_neg h0] at he
    split at he
    ·rename_i hc
     rcases ht with rfl|rfl
     ·simp at he
     ·cases he
      have Rx:Rd ι I w sz [] none []:=⟨by simp,LR.nil,by simp,fun _=>rfl⟩
      have:=Bk H aJ T Rx Ry (cap:=0) (cJ:=cJ) (ty:=ty) (by have:=List.length_pos_iff.2 h0;simp;omega) (by simpa using hc.2.1) (by simpa using hc.2.2) h0
      simpa using this
    ·cases he
  case gi t' a cap ht=>
   by_cases h0:ys=[]
   ·rw[if_pos h0] at he
    cases he
    exact ir _ _ (.gi _ _ _ ht) (qM _ 0 cap (Nat.zero_le _) h0)
   ·rw[if_neg h0] at he
    split at he
    ·rename_i hc
     rcases ht with rfl|⟨rfl,rfl⟩
     ·simp at he
     ·cases he
      have Rx:Rd ι I w sz [] (some a) []:=⟨by simp,LR.nil,fun ad _ j u hu=>by simp at hu,fun h=>by cases h⟩
      have:=Bk H aJ T Rx Ry (cap:=0) (cJ:=cJ) (ty:=ty) (by have:=List.length_pos_iff.2 h0;simp;omega) (by simpa using hc.2.1) (by simpa using hc.2.2) h0
      simpa using this
    ·cases he
  case vs xs t' cb o s cap g hs hI hc cV cU bw ht=>
   by_cases h0:ys=[]
   ·rw[if_pos h0] at he
    cases he
    exact ir _ _ (.vs xs t' cb o s cap g hs hI hc cV cU bw ht) (qM _ _ _ bw h0)
   ·rw[if_neg h0] at he
    split at he
    ·rename_i fR
     obtain⟨hk,ew,b9⟩:=fR
     obtain⟨a',xq,lx,heq,_,Rx⟩:=vO H (.vs xs t' cb o s cap g hs hI hc cV cU bw ht) (show cP sz h (.vs xs t')=some xs by simp[cP,hk])
     cases heq
     have avp:=List.length_pos_iff.2 h0
     cases t' with
     |ao=>simp at he
     |full=>
      cases he
      have di:cap=xs.length:=ht
      exact Bk H aJ T Rx Ry (cap:=cap) (by omega) ew b9 h0
     |own t0=>
      simp only[] at he
      cases hg:h.get t0 with
      |none=>simp[hg] at he
      |some x=>
       cases x with
       |cells cs=>simp[hg] at he
       |map es=>simp[hg] at he
       |tail=>
        simp only[hg] at he
        cases he
        obtain⟨PF,xe⟩:=ht
        have i9:s=sz:=by
         rw[<-hs 0 _ (List.getElem?_eq_getElem PF)]
         exact Ls hs hk _ (List.getElem_mem PF)
        subst i9
        by_cases eY:xs.length+ys.length<=cap
        ·refine aiG H aJ T Rx Ry (fun j hj=>?_) xe hg eY PF
         have iy:0<s:=Nat.pos_of_ne_zero T.pos
         have:=hI (j/s) (j%s) ((Nat.div_lt_iff_lt_mul iy).2 hj) (Nat.mod_lt _ iy)
         rwa [Nat.add_assoc,Nat.div_add_mod' j s] at this
        ·obtain⟨H1,E1⟩:=H.drop xe
         exact fu.YT H xe (Bk H1 aJ T Rx Ry (cap:=cap) (by omega) ew b9 h0) aJ
    ·cases he
end
end
section
open Go
section
variable {P:Program} {ι:aF} {I:aP} {h:aa} {w:World}
theorem V7 (H:HR ι I h w) {id:Nat} (aJ:ι id=none) {t tx ty e:TypeId} {sz bytes:Nat} (T:td P t tx e sz bytes) {xs ys:List (List AV)} {a b:Option Addr} {lx ly:List Value} {cap cJ:Nat}
 (Rx:Rd ι I w sz xs a lx) (Ry:Rd ι I w sz ys b ly) (hg:cap<xs.length+ys.length) (hb:(xs.length+ys.length)*bytes<2^40) (hn:xs.length+ys.length<2^40):
 fu P ι I h w id (.rs id 0 (xs.length+ys.length) sz) (h.at id (.cells (xs++ys).flatten)) (Builtin.append_ #[t,tx] ty #[.slice a xs.length cap, .slice b ys.length cJ]):=by
 obtain⟨c,w',bT,hc,aO,W,mu,hex,br⟩:=Yr H aJ T Rx Ry hg hb hn (cJ:=cJ) (ty:=ty)
 obtain⟨hu,hl⟩:=Rx.append Ry
 have i4: ∀k j,eM ι h k j->k<w.heap.size:=fun k j ⟨i,l,x,hi,_,hl⟩=>by rw[Loc.vM hl];exact H.inside i l hi
 have H1:HR ι I h w':=H.vk W (Nat.le_refl _) (fun _ _ h=>h) (fun _ _ _ _ _ _ _ _ h=>h) (fun _ _ h=>h.elim)
 have cI: ∀a v,VR ι I w a v->VR ι I w' a v:=fun a v hv=>hv.mono (fun _ _ h=>h) (fun _ _ h=>h) (fun k j hk=>W.cell k j (H.dn k j hk) (fun h=>h))
 have bP:=mU (xs++ys) (fun r hr=>(hu r hr).1)
 let l0:Loc:= .cells w.heap.size 0 (c*sz)
 have H3:=H1.wN (id:=id) (l:=l0) (x:= .cells (xs++ys).flatten) (fun l' bn=>by rw[aJ] at bn;cases bn) (by simp[l0,Loc.block];omega)
  ⟨by rw[bP];simp only[List.length_append];exact Nat.mul_le_mul_right _ hc,fun v hv=>by
    obtain⟨r,hr,hv⟩:=List.mem_flatten.1 hv
    exact(hu r hr).2 v hv,fun j hj=>by
    obtain⟨u,ig⟩:=hex j hj
    refine⟨u,by rw[Nat.zero_add];exact ig,by rw[Nat.zero_add];exact mu j,fun v hv=>?_⟩
    obtain⟨c',bq,aU⟩:=hl.get hv
    have:=br j c' bq
    rw[ig] at this
    cases this
    exact cI _ _ aU,mu⟩
  (fun k j hl=>⟨fun ho=>by have:=i4 k j ho;have:k=w.heap.size:=hl;omega,fun hI=>by have:=H.dn k j hI;have:k=w.heap.size:=hl;omega⟩)
 refine⟨_,w',_,_,bT,?_,H3,?_⟩
 ·exact .rs id 0 _ sz w.heap.size 0 (c*sz) c (by rw[aF.gq]) hc (by omega)
 ·refine Ext.of W (fun _ _ _ h=>h.elim) (fun b hb=>aF.fk _ _ hb) (fun b l hb=>by rw[aF.fk _ _ (fun he=>by rw[he,aJ] at hb;cases hb)];exact hb) (by simp[aa.at];omega) (fun _ _ h=>h) ?_ (fun _ _ h=> .inl h) (fun b hb _=>by simp[aa.at,hb])
  rintro k j ⟨i,l,x,hi,dZ,hl⟩
  by_cases ij:i=id
  ·subst ij;rw[aF.gq] at hi;cases hi;exact .inr (by have:k=w.heap.size:=hl;omega)
  ·rw[aF.fk _ _ ij] at hi
   exact .inl ⟨i,l,x,hi,by simpa [aa.at,ij] using dZ,hl⟩
theorem ah0 (H:HR ι I h w) {id:Nat} (aJ:ι id=none) {t tx ty e:TypeId} {sz bytes:Nat} (T:td P t tx e sz bytes) {cs:List AV} {ys:List (List AV)} {b:Option Addr} {ly:List Value} {cb o room len cap cJ t0:Nat}
 (Ry:Rd ι I w sz ys b ly) (ht:ι t0=some (.cells cb o room)) (hg:h.get t0=some (.cells cs)) (eP:cs.length=len*sz)
 (eY:len+ys.length<=cap) (bw:cap*sz<=room):
 fu P ι I h w id (.rs id 0 (len+ys.length) sz) ((h.set t0 none).at id (.cells (cs++ys.flatten))) (Builtin.append_ #[t,tx] ty #[.slice (some ⟨cb,o,none⟩) len cap, .slice b ys.length cJ]):=by
 obtain⟨ie,z,cL,hz,aO,yX,rQ⟩:=T.info
 have qa:=Ry.src (P:=P) T.tA cJ
 rw[<-aO] at qa
 have hmul:len*sz+ys.length*sz<=cap*sz:=by rw[<-Nat.add_mul];exact Nat.mul_le_mul_right _ eY
 have Kk:=Ry.len
 obtain⟨gW,o',oF,bn,rE,acz,br⟩:=H.cells t0 cs _ hg ht
 cases bn
 have bT:=run_append_room_src (P:=P) w t tx ty e ie T.ht cL cb o len cap (.slice b ys.length cJ) ys.length ly qa eY
  (fun j hj=>by rw[aO];obtain⟨u,hu,_⟩:=br (len*sz+j) (by omega);rw[Nat.add_assoc,hu];rfl)
  (fun j hj=>by rw[aO];obtain⟨u,_,hu,_⟩:=br (len*sz+j) (by omega);rw[Nat.add_assoc];exact hu)
 rw[aO] at bT
 have W:=fj.setCells w cb (o+len*sz) ly
 have hR: ∀k j,(k=cb/\o+len*sz<=j/\j<o+len*sz+ly.length)->(Loc.cells cb o room).has k j:=fun k j ⟨h1,h2,h3⟩=>h1
 have oM: ∀k j,(Loc.cells cb o room).has k j-> ¬eM ι (h.set t0 none) k j:=fun k j hl ⟨i,l,x,hi,dZ,iT⟩=>
  H.dz i t0 l _ x _ k j (iL dZ).1 hi ht (iL dZ).2 hg iT hl
 have xW: ∀k j,(Loc.cells cb o room).has k j-> ¬I k j:=fun k j hl=>H.bB t0 _ _ k j ht hg hl
 have aB:cb<w.heap.size:=H.inside t0 _ ht
 have H1:HR ι I (h.set t0 none) (w.setCells cb (o+len*sz) ly):=H.vk W (Nat.le_refl _) (fun i y hi=>(iL hi).2)
  (fun i l y k j hi dZ hl hr=>oM k j (hR k j hr) ⟨i,l,y,hi,dZ,hl⟩) (fun k j hr=>xW k j (hR k j hr))
 have cI: ∀a v,VR ι I w a v->VR ι I (w.setCells cb (o+len*sz) ly) a v:=fun a v hv=>hv.mono (fun _ _ h=>h) (fun _ _ h=>h)
  (fun k j hk=>W.cell k j (H.dn k j hk) (fun hr=>xW k j (hR k j hr) hk))
 have rR:ys.flatten.length=ys.length*sz:=mU ys (fun r hr=>(Ry.lM r hr).1)
 have H3:=H1.wN (id:=id) (l:= .cells cb o room) (x:= .cells (cs++ys.flatten)) (fun l' bn=>by rw[aJ] at bn;cases bn) (Nat.lt_of_lt_of_le aB W.size)
  ⟨by rw[List.length_append,rR];omega,fun v hv=>by
    rcases List.mem_append.1 hv with hv|hv
    ·exact acz v hv
    ·obtain⟨r,hr,hv⟩:=List.mem_flatten.1 hv
     exact(Ry.lM r hr).2 v hv,fun j hj=>by
    obtain⟨c,bq,aU,dE⟩:=br j hj
    by_cases hjr:len*sz<=j/\j<len*sz+ly.length
    ·have:=World.cell?_setCells_in cb ly (o+len*sz) w (fun i hi=>by
      obtain⟨u',ig,_⟩:=br (len*sz+i) (by omega);rw[Nat.add_assoc,ig];rfl) (j-len*sz) (by omega)
     rw[show o+len*sz+(j-len*sz)=o+j by omega] at this
     refine⟨_,this,by rw[W.frozen _ _ aB];exact aU,fun v hv=>?_⟩
     rw[List.getElem?_append_right (by omega),eP] at hv
     obtain⟨c',e1,e2⟩:=Ry.lr.get hv
     rw[List.getElem?_eq_getElem (by omega)] at e1
     cases e1
     exact cI _ _ e2
    ·refine⟨c,by rw[W.cell _ _ aB (fun hr=>hjr ⟨by have:=hr.2.1;omega,by have:=hr.2.2;omega⟩)];exact bq,by rw[W.frozen _ _ aB];exact aU,fun v hv=>?_⟩
     have dU:=(List.getElem?_eq_some_iff.1 hv).1
     rw[List.length_append,rR] at dU
     rw[List.getElem?_append_left (by omega)] at hv
     exact cI _ _ (dE v hv),fun n=>by rw[W.frozen _ _ aB];exact H.pl t0 cs cb o room hg ht n⟩
  (fun k j hl=>⟨oM k j hl,xW k j hl⟩)
 refine⟨_,_,_,_,bT,?_,H3,?_⟩
 ·have:=VR.rs (ι:=ι.set id (.cells cb o room)) (I:=I) (w:=w.setCells cb (o+len*sz) ly) id 0 (len+ys.length) sz cb o room cap (by rw[aF.gq]) eY (by omega)
  simpa using this
 ·refine Ext.of W (fun k j _ hr=>⟨t0,_,_,ht,hg,hR k j hr⟩) (fun b hb=>aF.fk _ _ hb) (fun b l hb=>by rw[aF.fk _ _ (fun he=>by rw[he,aJ] at hb;cases hb)];exact hb)
   (by simp[aa.at,aa.set];omega) (fun _ _ h=>h) ?_ (fun _ _ h=> .inl h) ?_
  ·rintro k j ⟨i,l,x,hi,dZ,iT⟩
   by_cases ij:i=id
   ·subst ij;rw[aF.gq] at hi;cases hi;exact .inl ⟨t0,_,_,ht,hg,iT⟩
   ·rw[aF.fk _ _ ij] at hi
    have Ep:(h.set t0 none).get i=some x:=by simpa [aa.at,ij] using dZ
    exact .inl ⟨i,l,x,hi,(iL Ep).2,iT⟩
  ·intro i hi u2
   have:i≠t0:=fun he=>by rw[he,ht] at u2;cases u2
   simp[aa.at,aa.set,hi,this]
theorem LM {len sz cb o off:Nat} {cs:List AV} (hr:sS ι I w cb o cs) (h1: ∀v∈cs,v.one=true) (hl:off+len*sz<=cs.length):
 ∃l,Rd ι I w sz (rowsOf cs off sz len) (some ⟨cb,o+off,none⟩) l/\(rowsOf cs off sz len).length=len/\(rowsOf cs off sz len).flatten=(cs.drop off).take (len*sz):=by
 obtain⟨e1,e2,e3⟩:=yz cs sz len off hl
 obtain⟨l,eo,eD,rX⟩:=(hr.sub off (len*sz)).list
 refine⟨l,⟨fun r hr=>⟨(e2 r hr).1,fun v hv=>h1 v ((e2 r hr).2 v hv)⟩,by rw[e3];exact⟨eo,rX⟩,fun ad vB=>by cases vB;intro j u hu;rw[Addr.add_mid];exact eD j u hu,fun h=>by cases h⟩,e1,e3⟩
theorem HR.aqK (H:HR ι I h w) {b cb o room:Nat} {cs:List AV} (hb:ι b=some (.cells cb o room)) (hg:h.get b=some (.cells cs)) (k:Nat):
 HR ι I (h.set b (some (.cells (cs.take k)))) w/\Ext (fun _=>False) ι I h w ι I (h.set b (some (.cells (cs.take k)))) w:=by
 have W:fj (fun _ _=>False) w w:={os:=rfl,tape:=rfl,output:=rfl,size:=Nat.le_refl _,block:=fun _ _ _=>rfl,cell:=fun _ _ _ _=>rfl,frozen:=fun _ _ _=>rfl}
 obtain⟨_,_,_,hl,eY,h1,hc⟩:=H.cells b cs _ hg hb
 cases hl
 refine H.bL W hb hg (fun _ _ h=>h.elim) (fun _=>⟨by simp;omega,fun v hv=>h1 v (List.mem_of_mem_take hv),fun j hj=>?_,H.pl b cs cb o room hg hb⟩)
 obtain⟨c,e1,e2,e3⟩:=hc j hj
 refine⟨c,e1,e2,fun v hv=>e3 v ?_⟩
 rw[List.getElem?_take] at hv
 split at hv
 ·exact hv
 ·cases hv
theorem set_set (h:aa) (b:Nat) (x y:Option cF):(h.set b x).set b y=h.set b y:=by
 unfold aa.set
 congr 1
 funext i
 by_cases hi:i=b<;>simp[hi]
theorem ajE (H:HR ι I h w) (id:Nat) {t tx ty e:TypeId} {sz bytes:Nat} (T:td P t tx e sz bytes) {cs:List AV} {ys:List (List AV)} {b:Option Addr} {ly:List Value} {cb o room len cap cJ b0 off:Nat}
 (Ry:Rd ι I w sz ys b ly) (hb:ι b0=some (.cells cb o room)) (hg:h.get b0=some (.cells cs)) (hle:off+len*sz<=cs.length)
 (eY:len+ys.length<=cap) (bw:off+cap*sz<=room):
 fu P ι I h w id (.rk b0 off (len+ys.length) sz cap) (h.set b0 (some (.cells (df cs (off+len*sz) ys.flatten)))) (Builtin.append_ #[t,tx] ty #[.slice (some ⟨cb,o+off,none⟩) len cap, .slice b ys.length cJ]):=by
 obtain⟨ie,z,cL,hz,aO,yX,rQ⟩:=T.info
 have qa:=Ry.src (P:=P) T.tA cJ
 rw[<-aO] at qa
 have hmul:len*sz+ys.length*sz<=cap*sz:=by rw[<-Nat.add_mul];exact Nat.mul_le_mul_right _ eY
 have Kk:=Ry.len
 obtain⟨gW,o',oF,bn,rE,acz,br⟩:=H.cells b0 cs _ hg hb
 cases bn
 have bT:=run_append_room_src (P:=P) w t tx ty e ie T.ht cL cb (o+off) len cap (.slice b ys.length cJ) ys.length ly qa eY
  (fun j hj=>by rw[aO];obtain⟨u,hu,_⟩:=br (off+len*sz+j) (by omega);rw[show o+off+len*sz+j=o+(off+len*sz+j) by omega,hu];rfl)
  (fun j hj=>by rw[aO];obtain⟨u,_,hu,_⟩:=br (off+len*sz+j) (by omega);rw[show o+off+len*sz+j=o+(off+len*sz+j) by omega];exact hu)
 rw[aO] at bT
 have rR:ys.flatten.length=ys.length*sz:=mU ys (fun r hr=>(Ry.lM r hr).1)
 obtain⟨H',E⟩:=H.GY (off:=off+len*sz) hb hg hle (by rw[rR];omega) Ry.lr (fun u hu=>by
  obtain⟨r,hr,hv⟩:=List.mem_flatten.1 hu
  exact(Ry.lM r hr).2 u hv)
 rw[show o+(off+len*sz)=o+off+len*sz by omega] at H' E
 exact⟨_,_,ι,I,bT, .rk b0 off _ sz cap cb o room hb eY bw,H',E.mono (fun _ h=>h.elim)⟩
theorem aiI (H:HR ι I h w) {id:Nat} (aJ:ι id=none) {t tx ty e:TypeId} {sz bytes:Nat} (T:td P t tx e sz bytes) {x y v:AV} {cx cy:Value} (hx:VR ι I w x cx) (hy:VR ι I w y cy) {ρ:Env} {ox oy:aq} (bk:ox.ev ρ=x) (iG:oy.ev ρ=y)
 {h':aa} (he:bM (.jS bytes sz ox oy) ρ id h=some (v,h')):fu P ι I h w id v h' (Builtin.append_ #[t,tx] ty #[cx,cy]):=by
 simp only[bM,bk,iG] at he
 cases kA:cP sz h y with
 |none=>simp[kA] at he
 |some ys=>
  simp only[kA] at he
  obtain⟨b,cJ,ly,rfl,agT,Ry⟩:=vO H hy kA
  obtain⟨ie,z,cL,hz,aO,yX,rQ⟩:=T.info
  have Rn:Rd ι I w sz [] none []:=⟨by simp,LR.nil,by simp,fun _=>rfl⟩
  have qM: ∀(a:Option Addr) (n cap:Nat),n<=cap->ys=[]->(Builtin.append_ #[t,tx] ty #[.slice a n cap, .slice b ys.length cJ]).run P w= .ok (.slice a n cap) w:=by
   intro a n cap hle h0
   subst h0
   have hs:=Ry.src (P:=P) T.tA cJ
   have:ly=[]:=by have:=Ry.len;simpa using this
   subst this
   rw[<-aO] at hs
   exact run_append_nothing w t tx ty e ie T.ht cL a n cap hle _ hs
  have ir: ∀(c:Value) (v:AV),VR ι I w v c->(Builtin.append_ #[t,tx] ty #[c, .slice b ys.length cJ]).run P w= .ok c w->fu P ι I h w id v h (Builtin.append_ #[t,tx] ty #[c, .slice b ys.length cJ]):=
   fun c v hv hr=>⟨c,w,ι,I,hr,hv,H,Ext.refl _ _ _ _ _⟩
  have gh: ∀(a:Option Addr),Rd ι I w sz [] a []-> ¬ys=[]->ys.length*bytes<2^40/\ys.length<2^40->fu P ι I h w id (.rs id 0 ys.length sz) (h.at id (.cells ys.flatten)) (Builtin.append_ #[t,tx] ty #[.slice a 0 0, .slice b ys.length cJ]):=by
   intro a Rx h0 hc
   have:=V7 H aJ T Rx Ry (cap:=0) (cJ:=cJ) (ty:=ty) (by have:=List.length_pos_iff.2 h0;simp;omega) (by simpa using hc.1) (by simpa using hc.2)
   simpa using this
  cases hx<;>(try simp only[] at he)<;>try(cases he;done)
  case bA=>
   split at he
   ·rename_i h0
    cases he
    exact ir _ _ .bA (qM none 0 0 (Nat.le_refl _) h0)
   ·rename_i h0
    split at he
    ·rename_i hc
     cases he
     exact gh none Rn h0 hc
    ·cases he
  case gr t' ht=>
   rcases ht with rfl|rfl
   ·simp at he
   ·simp only[] at he
    split at he
    ·rename_i h0
     cases he
     exact ir _ _ (.gr _ (.inr rfl)) (qM none 0 0 (Nat.le_refl _) h0)
    ·rename_i h0
     split at he
     ·rename_i hc
      cases he
      exact gh none Rn h0 hc
     ·cases he
  case gi t' a cap ht=>
   rcases ht with rfl|⟨rfl,rfl⟩
   ·simp at he
   ·simp only[] at he
    split at he
    ·rename_i h0
     cases he
     exact ir _ _ (.gi _ _ _ (.inr ⟨rfl,rfl⟩)) (qM _ 0 0 (Nat.le_refl _) h0)
    ·rename_i h0
     split at he
     ·rename_i hc
      cases he
      exact gh (some a) ⟨by simp,LR.nil,fun ad _ j u hu=>by simp at hu,fun _=>rfl⟩ h0 hc
     ·cases he
  case vs xs t' cb o s cap g hs hI hc cV cU bw ht=>
   cases xs with
   |cons a b=>simp at he
   |nil=>
    cases t' with
    |ao=>simp at he
    |own t0=>simp at he
    |full=>
     (try simp only[] at he)
     have asB:cap=0:=ht
     subst asB
     split at he
     ·rename_i h0
      cases he
      exact ir _ _ (.vs [] .full cb o s 0 g hs hI hc cV cU bw ht) (qM _ 0 0 (Nat.le_refl _) h0)
     ·rename_i h0
      split at he
      ·rename_i cQ
       cases he
       exact gh (some ⟨cb,o,none⟩) ⟨by simp,LR.nil,fun ad _ j u hu=>by simp at hu,fun _=>rfl⟩ h0 cQ
      ·cases he
  case rs b' off len aN cb o room cap bE hlen bw=>
   split at he
   ·rename_i h0
    cases he
    exact ir _ _ (.rs b' off len aN cb o room cap bE hlen bw) (qM _ len cap hlen h0)
   ·rename_i aM
    split at he
    ·rename_i cs hg
     split at he
     ·rename_i hc
      obtain⟨rfl,rfl,eP,ew,b9⟩:=hc
      cases he
      have cD:=qK hg
      obtain⟨cu,avh,cU⟩:=H.row cD bE
      by_cases eY:len+ys.length<=cap
      ·obtain⟨H1,E1⟩:=H.aqK bE cD (len*aN)
       have cC:(h.set b' (some (.cells (cs.take (len*aN))))).get b'=some (.cells (cs.take (len*aN))):=by simp[aa.set]
       obtain⟨c,w',ι',I',h1,h2,h3,h4⟩:=ah0 H1 aJ T Ry (ty:=ty) (cJ:=cJ) bE cC (by rw[List.length_take];exact Nat.min_eq_left eP) eY (by simpa using bw)
       rw[set_set] at h3 h4
       exact⟨c,w',ι',I',h1,h2,h3,(E1.mono (fun _ h=>h.elim)).trans h4 (fun _ h=>h)⟩
      ·obtain⟨H1,E1⟩:=H.drop bE
       obtain⟨l,Rx,e1,e2⟩:=LM (off:=0) (sz:=aN) (len:=len) cu cU (by simpa using eP)
       have:=V7 H1 aJ T Rx Ry (cap:=cap) (cJ:=cJ) (ty:=ty) (by rw[e1];omega) (by rw[e1];exact ew) (by rw[e1];exact b9)
       rw[e1,List.flatten_append,e2,List.drop_zero] at this
       exact fu.YT H bE this aJ
     ·cases he
    ·cases he
  case rk b' off len aN cap cb o room bE hlen bw=>
   split at he
   ·rename_i cs hg
    split at he
    ·rename_i hc
     obtain⟨rfl,eY,eP⟩:=hc
     cases he
     exact ajE H id T Ry bE (qK hg) eP eY bw
    ·cases he
   ·cases he
theorem LG {sz:Nat}: ∀(zs:List (List AV)) (n:Nat),(∀r∈zs,r.length=sz)->(zs.take n).flatten=zs.flatten.take (n*sz)
 |[],n,_=>by simp
 |z::zs,0,_=>by simp
 |z::zs,n+1,hz=>by
  have h0:=hz z (by simp)
  have e:(n+1)*sz=z.length+n*sz:=by rw[h0,Nat.succ_mul];omega
  have e2:z.take (z.length+n*sz)=z:=List.take_of_length_le (by omega)
  rw[List.take_succ_cons,List.flatten_cons,List.flatten_cons,LG zs n (fun r hr=>hz r (List.mem_cons_of_mem _ hr)),e,List.take_append,e2]
  simp
theorem alU (H:HR ι I h w) {t tx ty e:TypeId} {sz:Nat} (ht:P.underlying t=some (.slice e)) (hs:(P.info? e).map (·.size)=some sz) (id:Nat) {x y v:AV} {cx cy:Value} (hx:VR ι I w x cx) (hy:VR ι I w y cy) {ρ:Env} {ox oy:aq} (bk:ox.ev ρ=x) (iG:oy.ev ρ=y)
 {h':aa} (he:bM (.copy sz ox oy) ρ id h=some (v,h')) (tA: ∃e',P.underlying tx=some (.slice e')) (rR: ∃a n c,cy= .slice a n c):fu P ι I h w id v h' (Builtin.copy_ #[t,tx] ty #[cx,cy]):=by
 simp only[bM,bk,iG] at he
 have hzero: ∀a n c,(Builtin.copy_ #[t,tx] ty #[.slice a 0 n,c]).run P w= .ok (.int .i64 0) w\/ ¬(∃x y z,c= .slice x y z):=by
  intro a n c
  by_cases hc: ∃x y z,c= .slice x y z
  ·obtain⟨x,y,z,rfl⟩:=hc
   refine .inl ?_
   cases x<;>cases a<;>simp[Builtin.copy_,cG ht,l9 hs,Builtin.lenOf,Builtin.firstCells,loadCells,loadCellsFrom,storeCells,goInt]
  ·exact .inr hc
 cases hx<;>(try simp only[] at he)<;>try(cases he;done)
 case bA=>
  split at he<;>cases he
  rcases hzero none 0 cy with h|h
  ·exact⟨_,w,ι,I,h, .int _ _,H,Ext.refl _ _ _ _ _⟩
  ·exact(h rR).elim
 case gr t' UK=>
  split at he<;>cases he
  rcases hzero none 0 cy with h|h
  ·exact⟨_,w,ι,I,h, .int _ _,H,Ext.refl _ _ _ _ _⟩
  ·exact(h rR).elim
 case gi t' a cap UK=>
  split at he<;>cases he
  rcases hzero (some a) cap cy with h|h
  ·exact⟨_,w,ι,I,h, .int _ _,H,Ext.refl _ _ _ _ _⟩
  ·exact(h rR).elim
 case vs xs t' cb o s cap g iF hI hc cV cU bw UK=>
  cases xs with
  |cons a b=>simp at he
  |nil=>
   simp only[] at he
   split at he<;>cases he
   rcases hzero (some ⟨cb,o,none⟩) cap cy with h|h
   ·exact⟨_,w,ι,I,h, .int _ _,H,Ext.refl _ _ _ _ _⟩
   ·exact(h rR).elim
 case rs b off len aN cb o room cap hb hlen bw=>
  cases kA:cP sz h y with
  |none=>simp[kA] at he
  |some ys=>
   cases jM:cellsOf h b with
   |none=>simp[kA,jM] at he
   |some cs=>
    simp only[kA,jM] at he
    split at he
    ·rename_i hc
     obtain⟨rfl,hle⟩:=hc
     cases he
     have hg:=qK jM
     obtain⟨a,cJ,ly,rfl,agT,Ry⟩:=vO H hy kA
     obtain⟨_,_,_,hl,eY,_,br⟩:=H.cells b cs _ hg hb
     cases hl
     have da:(ys.take (min ys.length len)).flatten=ys.flatten.take (min ys.length len*aN):=by
      exact LG ys _ (fun r hr=>(Ry.lM r hr).1)
     have dg:LR ι I w (ys.take (min ys.length len)).flatten (ly.take (min ys.length len*aN)):=by rw[da];exact Ry.lr.take _
     have CX:(ly.take (min ys.length len*aN)).length=min ys.length len*aN:=by
      rw[List.length_take,Ry.len];exact Nat.min_eq_left (Nat.mul_le_mul_right _ (Nat.min_le_left _ _))
     have rW:min ys.length len*aN<=len*aN:=Nat.mul_le_mul_right _ (Nat.min_le_right _ _)
     have cU: ∀u∈(ly.take (min ys.length len*aN)),u.oneCell'=true:=fun u hu=>Ry.one u (List.mem_of_mem_take hu)
     have MA:(Builtin.firstCells aN (min ys.length len) (.slice a ys.length cJ)).run P w= .ok (ly.take (min ys.length len*aN)).toArray w:=by
      cases a with
      |none=>
       have:=Ry.none rfl
       subst this
       have:ly=[]:=by have:=Ry.len;simpa using this
       subst this
       simpa using run_firstCells_none (P:=P) w aN 0 0 cJ
      |some ad=>
       have iV:=Ry.cell ad rfl
       refine run_firstCells_some w aN _ _ _ _ _ CX (fun j u hu=>?_)
       rw[List.getElem?_take] at hu
       split at hu
       ·exact iV j u hu
       ·cases hu
     have dD:=run_storeCells_cells (P:=P) cb (o+off) (ly.take (min ys.length len*aN)) 0 w
      (fun j hj=>by simp only[Nat.add_zero];obtain⟨c,cQ,_⟩:=br (off+j) (by omega);rw[Nat.add_assoc,cQ];rfl)
      (fun j hj=>by simp only[Nat.add_zero];obtain⟨c,_,cQ,_⟩:=br (off+j) (by omega);rw[Nat.add_assoc];exact cQ) cU
     simp only[Nat.add_zero] at dD
     obtain⟨H',E⟩:=H.write (off:=off) hb hg (by rw[dg.1,CX];omega) dg (fun u hu=>by
      obtain⟨r,hr,hv⟩:=List.mem_flatten.1 hu
      exact(Ry.lM r (List.mem_of_mem_take hr)).2 u hv)
     refine⟨_,_,ι,I,?_, .int _ _,H',E.mono (fun _ h=>h.elim)⟩
     have Tl:Nat.min ys.length len=min ys.length len:=rfl
     simp[Builtin.copy_,cG ht,l9 hs,Builtin.lenOf,Tl,MA,dD,goInt]
    ·cases he
end
end
section
open Go
section
variable {P:Program} {ι:aF} {I:aP} {h:aa} {w:World}
theorem aj9 (H:HR ι I h w) {id:Nat} (aJ:ι id=none) (t:TypeId):fu P ι I h w id (.map (some id)) (h.at id (.map [])) (Instr.makeMap t none):=by
 have W:=fj.push w (.map #[] 0)
 have i4: ∀k j,eM ι h k j->k<w.heap.size:=fun k j ⟨i,l,x,hi,_,hl⟩=>by rw[Loc.vM hl];exact H.inside i l hi
 have H1:HR ι I h (w.alloc (.map #[] 0)):=H.vk W (Nat.le_refl _) (fun _ _ h=>h) (fun _ _ _ _ _ _ _ _ h=>h) (fun _ _ h=>h.elim)
 have H3:=H1.wN (id:=id) (l:= .map w.heap.size) (x:= .map []) (fun l' bn=>by rw[aJ] at bn;cases bn) (by simp[Loc.block])
  ⟨#[],0,heap_alloc_new w _,⟨rfl,fun i k v e h=>by simp at h⟩,⟨fun e he=>by simp at he,by simp⟩⟩
  (fun k j hl=>⟨fun ho=>by have:=i4 k j ho;have:=(show k=w.heap.size from hl);omega,fun hI=>by have:=H.dn k j hI;have:=(show k=w.heap.size from hl);omega⟩)
 refine⟨.map (some w.heap.size),_,_,_,rfl, .map id w.heap.size (by rw[aF.gq]),H3,?_⟩
 refine Ext.of W (fun _ _ _ h=>h.elim) (fun b hb=>aF.fk _ _ hb) (fun b l hb=>by rw[aF.fk _ _ (fun he=>by rw[he,aJ] at hb;cases hb)];exact hb) (by simp[aa.at];omega) (fun _ _ h=>h) ?_ (fun _ _ h=> .inl h) (fun b hb _=>by simp[aa.at,hb])
 rintro k j ⟨i,l,x,hi,dZ,hl⟩
 by_cases ij:i=id
 ·subst ij;rw[aF.gq] at hi;cases hi;exact .inr (by have:=(show k=w.heap.size from hl);omega)
 ·rw[aF.fk _ _ ij] at hi
  exact .inl ⟨i,l,x,hi,by simpa [aa.at,ij] using dZ,hl⟩
theorem fj.anl (w:World) {cb:Nat} {es:Array MapEntry} {clock:Nat} (hm:w.heap[cb]? =some (.map es clock)) (aV:Array MapEntry) (pS:Nat):
 fj (fun k _=>k=cb) w {w with heap:=w.heap.setIfInBounds cb (.map aV pS)}:=by
 have Mz: ∀k,k≠cb->(w.heap.setIfInBounds cb (.map aV pS))[k]? =w.heap[k]?:=fun k hk=>Array.getElem?_setIfInBounds_ne (Ne.symm hk)
 have aC:cb<w.heap.size:=(Array.getElem?_eq_some_iff.1 hm).1
 have Il:(w.heap.setIfInBounds cb (.map aV pS))[cb]? =some (.map aV pS):=by simp[aC]
 refine{os:=rfl,tape:=rfl,output:=rfl,size:=by simp,block:=fun k hk hr=>Mz k (fun he=>hr 0 he),cell:=fun k j hk hr=>?_,frozen:=fun k j hk=>?_}
 ·simp[World.cell?,Mz k hr]
 ·by_cases rZ:k=cb
  ·subst rZ;simp only[World.frozen?,Il,hm]
  ·simp[World.frozen?,Mz k rZ]
theorem FY (w:World) {cb:Nat} {es:Array MapEntry} {clock:Nat} (hm:w.heap[cb]? =some (.map es clock)) (o:Obj):
 (setObj cb o).run P w= .ok () {w with heap:=w.heap.setIfInBounds cb o}:=by
 simp[setObj,Sem.run,hm]
theorem GF (H:HR ι I h w) {b cb:Nat} {es:List (AV×AV)} {aV:Array MapEntry} {clock:Nat} (hb:ι b=some (.map cb)) (hg:h.get b=some (.map es)) (hm:w.heap[cb]? =some (.map aV clock))
 {fs:List (AV×AV)} {eI:Array MapEntry} (pS:Nat) (gH:ER ι I w fs eI.toList) (dD:m6 eI pS):
 HR ι I (h.set b (some (.map fs))) {w with heap:=w.heap.setIfInBounds cb (.map eI pS)}/\
 Ext (fun _=>False) ι I h w ι I (h.set b (some (.map fs))) {w with heap:=w.heap.setIfInBounds cb (.map eI pS)}:=by
 have W:=fj.anl w hm eI pS
 refine H.bL W hb hg (fun k j hk=>hk) (fun H1=>?_)
 have aC:cb<w.heap.size:=(Array.getElem?_eq_some_iff.1 hm).1
 have cI: ∀a c,VR ι I w a c->VR ι I {w with heap:=w.heap.setIfInBounds cb (.map eI pS)} a c:=fun a c sg=>sg.mono (fun _ _ h=>h) (fun _ _ h=>h) (fun k j hk=>
  W.cell k j (H.dn k j hk) (fun rZ=>H.bB b _ _ k j hb hg rZ hk))
 exact⟨eI,pS,by simp[aC],⟨gH.1,fun i k v e h1 h2=>⟨cI _ _ (gH.2 i k v e h1 h2).1,cI _ _ (gH.2 i k v e h1 h2).2⟩⟩,dD⟩
theorem m6.push {es:Array MapEntry} {clock:Nat} (hs:m6 es clock) {k v:Value}:m6 (es.push {key:=k,val:=v,born:=clock}) (clock+1):=by
 refine⟨fun e he=>?_,?_⟩
 ·simp only[Array.toList_push,List.mem_append,List.mem_singleton] at he
  rcases he with he|rfl
  ·exact Nat.lt_succ_of_lt (hs.1 e he)
  ·exact Nat.lt_succ_self _
 ·simp only[Array.toList_push,List.map_append,List.map_cons,List.map_nil]
  refine List.nodup_append.2 ⟨hs.2,by simp,fun a ha b hb=>?_⟩
  simp only[List.mem_singleton] at hb
  obtain⟨e,he,rfl⟩:=List.mem_map.1 ha
  have:=hs.1 e he
  omega
theorem VH {f:MapEntry->MapEntry} (hf: ∀e,(f e).born=e.born): ∀(l:List MapEntry) (j:Nat),(l.modify j f).map (·.born)=l.map (·.born)
 |[],j=>by simp
 |e::l,0=>by simp[hf]
 |e::l,j+1=>by simp[VH hf l j]
theorem m6.modify {es:Array MapEntry} {clock j:Nat} (hs:m6 es clock) {f:MapEntry->MapEntry} (hf: ∀e,(f e).born=e.born):m6 (es.modify j f) clock:=by
 have hb:(es.modify j f).toList.map (·.born)=es.toList.map (·.born):=by rw[Array.toList_modify];exact VH hf _ _
 refine⟨fun e he=>?_,by rw[hb];exact hs.2⟩
 have:e.born∈(es.modify j f).toList.map (·.born):=List.mem_map.2 ⟨e,he,rfl⟩
 rw[hb] at this
 obtain⟨e',dN,h⟩:=List.mem_map.1 this
 rw[<-h];exact hs.1 e' dN
theorem m6.erase {es:Array MapEntry} {clock j:Nat} (hs:m6 es clock):m6 (es.eraseIdxIfInBounds j) clock:=by
 have da:(es.eraseIdxIfInBounds j).toList.Sublist es.toList:=by rw[Array.toList_eraseIdxIfInBounds];exact List.eraseIdx_sublist _ _
 exact⟨fun e he=>hs.1 e (da.subset he),(da.map _).nodup hs.2⟩
theorem ahL (w:World) (k:IntKind) (n:Int):(Instr.keyThatStays (.int k n) (.int k n)).run P w= .ok (.int k n) w:=by
 simp[Instr.keyThatStays,Instr.sameBits]
theorem ai6 (H:HR ι I h w) (id:Nat) {t key e:TypeId} {kk:IntKind} (hu:P.underlying t=some (.map key e)) (hk:P.underlying key=some (.int kk)) {m k v r:AV} {cm ck cv:Value}
 (hm:VR ι I w m cm) (AE:VR ι I w k ck) (hv:VR ι I w v cv) {ρ:Env} {om ok ov:aq} (c5:om.ev ρ=m) (bc:ok.ev ρ=k) (tE:ov.ev ρ=v) {h':aa} (he:bM (.qS om ok ov) ρ id h=some (r,h')):
 r= .undef/\ ∃w',(Instr.mapUpdate t cm ck cv).run P w= .ok () w'/\HR ι I h' w'/\Ext (fun _=>False) ι I h w ι I h' w':=by
 simp only[bM,c5,bc,tE] at he
 replace hv:=hv.strip
 generalize v.strip=v at*
 cases hm<;>(try simp only[] at he)<;>try(cases he;done)
 rename_i b cb hb
 cases AE<;>(try simp only[] at he)<;>try(cases he;done)
 rename_i kd n
 split at he
 ·rename_i es hg
  obtain⟨aV,clock,gV,gH,dD⟩:=H.map hg hb
  cases iS:qT (.int kd n) v es with
  |none=>simp[iS] at he
  |some fs=>
   simp[iS] at he
   obtain⟨rfl,rfl⟩:=he
   unfold qT at iS
   cases hf:mf (.int kd n) es 0 with
   |none=>simp[hf] at iS
   |some o=>
    simp only[hf,Option.map_some,Option.some.injEq] at iS
    rcases Gz kk es aV.toList 0 o gH hf with⟨rfl,iU⟩|⟨j,sj,rfl,xh,iO,iU⟩
    ·simp only[] at iS
     subst iS
     obtain⟨H',E⟩:=GF H hb hg gV (fs:=es++[(.int kd n,v)]) (eI:=aV.push {key:= .int kd n,val:=cv,born:=clock}) (clock+1) (by
      refine⟨by simp[gH.1],fun i k1 v1 e1 h1 h2=>?_⟩
      simp only[Array.toList_push] at h2
      rw[List.getElem?_append] at h1 h2
      rw[<-gH.1] at h2
      split at h1
      ·rename_i aC;rw[if_pos aC] at h2;exact gH.2 i k1 v1 e1 h1 h2
      ·rename_i aC
       rw[if_neg aC] at h2
       have h0:i-es.length=0:=by have:=(List.getElem?_eq_some_iff.1 h1).1;simpa using this
       rw[h0] at h1 h2
       simp at h1 h2
       obtain⟨rfl,rfl⟩:=h1
       subst h2
       exact⟨.int _ _,hv⟩) dD.push
     refine⟨rfl,_,?_,H',E⟩
     simp[Instr.mapUpdate,cG hu,yC w gV,run_checkKey w hk,run_findKey w hk iU,FY w gV]
    ·simp only[Nat.zero_add] at iS iU
     subst iS
     have hj:j<aV.size:=by have:=(List.getElem?_eq_some_iff.1 xh).1;simpa using this
     have acC:aV[j]? =some sj:=by simpa using xh
     obtain⟨H',E⟩:=GF H hb hg gV (fs:=es.set j (.int kd n,v)) (eI:=aV.modify j fun e=>{e with key:= .int kd n,val:=cv}) clock (by
      refine⟨by simp[gH.1],fun i k1 v1 e1 h1 h2=>?_⟩
      simp only[Array.getElem?_toList,Array.getElem?_modify] at h2
      rw[List.getElem?_set] at h1
      by_cases nL:j=i
      ·subst nL
       rw[if_pos rfl] at h1
       have dU:j<es.length:=by rw[gH.1];simpa using hj
       rw[if_pos dU] at h1
       rw[if_pos rfl] at h2
       simp at h1
       obtain⟨rfl,rfl⟩:=h1
       rw[acC] at h2
       simp at h2
       subst h2
       exact⟨.int _ _,hv⟩
      ·rw[if_neg nL] at h1 h2
       exact gH.2 i k1 v1 e1 h1 (by simpa using h2)) (dD.modify (fun _=>rfl))
     refine⟨rfl,_,?_,H',E⟩
     simp[Instr.mapUpdate,cG hu,yC w gV,run_checkKey w hk,run_findKey w hk iU,acC,iO,ahL,FY w gV]
 ·cases he
theorem ai7 (H:HR ι I h w) (id:Nat) {t tx ty key e:TypeId} {kk:IntKind} (hu:P.underlying t=some (.map key e)) (hk:P.underlying key=some (.int kk)) {m k r:AV} {cm ck:Value}
 (hm:VR ι I w m cm) (AE:VR ι I w k ck) {ρ:Env} {om ok:aq} (c5:om.ev ρ=m) (bc:ok.ev ρ=k) {h':aa} (he:bM (.sJ om ok) ρ id h=some (r,h')):
 fu P ι I h w id r h' (Builtin.delete_ #[t,tx] ty #[cm,ck]):=by
 simp only[bM,c5,bc] at he
 cases hm<;>(try simp only[] at he)<;>try(cases he;done)
 rename_i b cb hb
 cases AE<;>(try simp only[] at he)<;>try(cases he;done)
 rename_i kd n
 split at he
 ·rename_i es hg
  obtain⟨aV,clock,gV,gH,dD⟩:=H.map hg hb
  cases iS:qU (.int kd n) es with
  |none=>simp[iS] at he
  |some fs=>
   simp[iS] at he
   obtain⟨rfl,rfl⟩:=he
   unfold qU at iS
   cases hf:mf (.int kd n) es 0 with
   |none=>simp[hf] at iS
   |some o=>
    simp only[hf,Option.map_some,Option.some.injEq] at iS
    have Em:VR ι I w (.ay []) (.tuple #[]):= .ay [] [] rfl (fun i v c h=>by simp at h)
    rcases Gz kk es aV.toList 0 o gH hf with⟨rfl,iU⟩|⟨j,sj,rfl,xh,iO,iU⟩
    ·simp only[] at iS
     subst iS
     obtain⟨H',E⟩:=GF H hb hg gV (fs:=es) (eI:=aV) clock gH dD
     refine⟨_,_,ι,I,?_,E.vr H Em,H',E.mono (fun _ h=>h.elim)⟩
     simp[Builtin.delete_,cG hu,yC w gV,run_checkKey w hk,run_findKey w hk iU,FY w gV]
    ·simp only[Nat.zero_add] at iS iU
     subst iS
     obtain⟨H',E⟩:=GF H hb hg gV (fs:=es.eraseIdx j) (eI:=aV.eraseIdxIfInBounds j) clock (by
      have hj:j<aV.size:=by have:=(List.getElem?_eq_some_iff.1 xh).1;simpa using this
      have dU:j<es.length:=by rw[gH.1];simpa using hj
      have hl:=gH.1
      refine⟨by simp[List.length_eraseIdx,hj,dU,hl],fun i k1 v1 e1 h1 h2=>?_⟩
      rw[List.getElem?_eraseIdx] at h1
      simp only[Array.toList_eraseIdxIfInBounds,List.getElem?_eraseIdx] at h2
      split at h1
      ·rename_i aC;rw[if_pos aC] at h2;exact gH.2 i k1 v1 e1 h1 h2
      ·rename_i aC;rw[if_neg aC] at h2;exact gH.2 _ k1 v1 e1 h1 h2) dD.erase
     refine⟨_,_,ι,I,?_,E.vr H Em,H',E.mono (fun _ h=>h.elim)⟩
     simp[Builtin.delete_,cG hu,yC w gV,run_checkKey w hk,run_findKey w hk iU,FY w gV]
 ·cases he
end
end
section
open Go
section
variable {P:Program} {ι:aF} {I:aP} {h:aa} {w:World}
theorem amN (H:HR ι I h w) {t e ty:TypeId} (hu:P.underlying t=some (.slice e)) {x:AV} {c:Value} (hx:VR ι I w x c) {n:Nat} (hn:va x=some n):
 eN P ι I h w (.int .i64 n) (Builtin.cap_ #[t] ty #[c]):=by
 have run: ∀a l k,(Builtin.cap_ #[t] ty #[.slice a l k]).run P w= .ok (.int .i64 k) w:=fun a l k=>by
  simp[Builtin.cap_,cG hu,goInt]
 unfold va at hn
 cases hx<;>(try simp only[] at hn)<;>try(cases hn;done)
 case bA=>cases hn;exact .same H (run _ _ _) (.int _ _)
 case gr t' ht=>
  rcases ht with rfl|rfl
  ·cases hn
  ·cases hn;exact .same H (run _ _ _) (.int _ _)
 case gi t' a cap ht=>
  rcases ht with rfl|⟨rfl,rfl⟩
  ·cases hn
  ·cases hn;exact .same H (run _ _ _) (.int _ _)
 case vs xs t' cb o s cap g hs hI hc hv h1 bw ht=>
  cases t' with
  |ao=>cases hn
  |own t=>cases hn
  |full=>
   cases hn
   have:cap=xs.length:=ht
   subst this
   exact .same H (run _ _ _) (.int _ _)
 case rk b off len sz cap cb o room hb hlen bw=>
  cases hn
  exact .same H (run _ _ _) (.int _ _)
theorem ajk (H:HR ι I h w) {t:TypeId} (hu:P.underlying t=some .string) {x i v:AV} {c ci:Value} (hx:VR ι I w x c) (hi:VR ι I w i ci) (hv:BI x i=some v):
 eN P ι I h w v (Instr.index t c ci):=by
 unfold BI at hv
 cases hx<;>(try simp only[] at hv)<;>try(cases hv;done)
 rename_i s
 cases hi<;>(try simp only[] at hv)<;>try(cases hv;done)
 rename_i k n
 split at hv
 ·rename_i h0
  cases hb:s[n.toNat]? with
  |none=>simp[hb] at hv
  |some b=>
   simp[hb] at hv
   subst hv
   refine .same H (c:= .int .u8 b.toNat) ?_ (.int _ _)
   simp[Instr.index,asIntOf,cG hu,h0,hb]
 ·cases hv
theorem aoU (H:HR ι I h w) {y:AV} {cy:Value} (hy:VR ι I w y cy) {sz n m:Nat} {ys:List (List AV)} (hr:oD sz n h y=some ys) (hm:gC y=some m) (mG:n<=m):
 ∃a cap l,cy= .slice a m cap/\ys.length=n/\(∀r∈ys,r.length=sz/\ ∀v∈r,v.one=true)/\LR ι I w ys.flatten l/\l.length=n*sz/\(Builtin.firstCells sz n (.slice a m cap)).run P w= .ok l.toArray w:=by
 unfold oD at hr
 have Ud: ∀xs t,y= .vs xs t-> ∃a cap l,cy= .slice a m cap/\ys.length=n/\(∀r∈ys,r.length=sz/\ ∀v∈r,v.one=true)/\LR ι I w ys.flatten l/\l.length=n*sz/\(Builtin.firstCells sz n (.slice a m cap)).run P w= .ok l.toArray w:=by
  rintro xs t rfl
  simp only[] at hr
  split at hr
  ·rename_i hk
   cases hr
   simp only[gC,Option.some.injEq] at hm
   subst hm
   obtain⟨a,cap,l,rfl,hle,R⟩:=vO H hy (show cP sz h (.vs xs t)=some xs by simp[cP,hk])
   have da:(xs.take n).flatten=xs.flatten.take (n*sz):=LG xs _ (fun r hr=>(R.lM r hr).1)
   have CX:(l.take (n*sz)).length=n*sz:=by rw[List.length_take,R.len];exact Nat.min_eq_left (Nat.mul_le_mul_right _ mG)
   refine⟨a,cap,l.take (n*sz),rfl,by simp;omega,fun r hr=>R.lM r (List.mem_of_mem_take hr),by rw[da];exact R.lr.take _,CX,?_⟩
   cases a with
   |none=>
    have:=R.none rfl
    subst this
    have xX:l=[]:=by have:=R.len;simpa using this
    subst xX
    have UW:n=0:=by simpa using mG
    subst UW
    simpa using run_firstCells_none (P:=P) w sz 0 0 cap
   |some ad=>
    refine run_firstCells_some w sz _ _ _ _ _ CX (fun j u hu=>?_)
    rw[List.getElem?_take] at hu
    split at hu
    ·exact R.cell ad rfl j u hu
    ·cases hu
  ·cases hr
 cases hy<;>(try simp only[] at hr)<;>try(cases hr;done)
 case vs xs t _ _ _ _ _ _ _ _ _ _ _ _=>exact Ud xs t rfl
 case gr t _=>exact Ud [] t rfl
 case gi t _ _ _=>exact Ud [] t rfl
 case rk b off len aN cap cb o room hb hlen bw=>
  split at hr
  ·rename_i hc
   obtain⟨rfl,hn⟩:=hc
   cases hg:cellsOf h b with
   |none=>simp[hg] at hr
   |some cs=>
    simp only[hg] at hr
    split at hr
    ·rename_i hle
     cases hr
     simp only[gC,Option.some.injEq] at hm
     subst hm
     obtain⟨cu,_,cU⟩:=H.row (qK hg) hb
     obtain⟨l,R,e1,e2⟩:=LM (len:=n) cu cU hle
     refine⟨_,cap,l,rfl,e1,R.lM,R.lr,by rw[R.len,e1],?_⟩
     exact run_firstCells_some w aN _ _ _ _ _ (by rw[R.len,e1]) (fun j u hu=>R.cell _ rfl j u hu)
    ·cases hr
  ·cases hr
theorem aky (H:HR ι I h w) {t tx ty e:TypeId} {sz:Nat} (ht:P.underlying t=some (.slice e)) (hs:(P.info? e).map (·.size)=some sz) (id:Nat) {x y v:AV} {cx cy:Value} (hx:VR ι I w x cx) (hy:VR ι I w y cy) {ρ:Env} {ox oy:aq} (bk:ox.ev ρ=x) (iG:oy.ev ρ=y)
 {h':aa} (he:bM (.m9 sz ox oy) ρ id h=some (v,h')):fu P ι I h w id v h' (Builtin.copy_ #[t,tx] ty #[cx,cy]):=by
 simp only[bM,bk,iG] at he
 cases hx<;>(try simp only[] at he)<;>try(cases he;done)
 case rk b off len aN cap cb o room hb hlen bw=>
  cases hm:gC y with
  |none=>simp[hm] at he
  |some m=>
   simp only[hm] at he
   cases kA:oD sz (min m len) h y with
   |none=>simp[kA] at he
   |some ys=>
    cases jM:cellsOf h b with
    |none=>simp[kA,jM] at he
    |some cs=>
     simp only[kA,jM] at he
     split at he
     ·rename_i hc
      obtain⟨rfl,hle⟩:=hc
      cases he
      have hg:=qK jM
      obtain⟨a,cJ,l,rfl,rR,agP,dg,kU,MA⟩:=aoU (P:=P) H hy kA hm (Nat.min_le_left _ _)
      obtain⟨_,_,_,hl,eY,_,br⟩:=H.cells b cs _ hg hb
      cases hl
      have rW:min m len*aN<=cap*aN:=Nat.mul_le_mul_right _ (Nat.le_trans (Nat.min_le_right _ _) hlen)
      have cU: ∀u∈l,u.oneCell'=true:=by
       intro u hu
       obtain⟨i,hi,rfl⟩:=List.getElem_of_mem hu
       have aA:i<ys.flatten.length:=by rw[dg.1];exact hi
       refine(dg.2 i _ _ (List.getElem?_eq_getElem aA) (List.getElem?_eq_getElem hi)).one ?_
       obtain⟨r,hr,hv⟩:=List.mem_flatten.1 (List.getElem_mem aA)
       exact(agP r hr).2 _ hv
      have dD:=run_storeCells_cells (P:=P) cb (o+off) l 0 w
       (fun j hj=>by simp only[Nat.add_zero];obtain⟨c,cQ,_⟩:=br (off+j) (by omega);rw[Nat.add_assoc,cQ];rfl)
       (fun j hj=>by simp only[Nat.add_zero];obtain⟨c,_,cQ,_⟩:=br (off+j) (by omega);rw[Nat.add_assoc];exact cQ) cU
      simp only[Nat.add_zero] at dD
      obtain⟨H',E⟩:=H.GY (off:=off) hb hg hle (by rw[dg.1,kU];omega) dg (fun u hu=>by
       obtain⟨r,hr,hv⟩:=List.mem_flatten.1 hu
       exact(agP r hr).2 u hv)
      refine⟨_,_,ι,I,?_, .int _ _,H',E.mono (fun _ h=>h.elim)⟩
      have Tl:Nat.min m len=min m len:=rfl
      simp[Builtin.copy_,cG ht,l9 hs,Builtin.lenOf,Tl,MA,dD,goInt]
     ·cases he
theorem aju (H:HR ι I h w) {t ty e:TypeId} {ie:TypeInfo} {z:Value} {za:List AV} (ht:P.underlying t=some (.slice e)) (cL:P.info? e=some ie) (hz:ie.zero=some z) (ef:LR ι I w za z.cells.toList) (h1: ∀v∈za,v.one=true) (h0:za.length≠0)
 (id:Nat) {x v:AV} {cx:Value} (hx:VR ι I w x cx) {ρ:Env} {ox:aq} (bk:ox.ev ρ=x)
 {h':aa} (he:bM (.oz za ox) ρ id h=some (v,h')):fu P ι I h w id v h' (Builtin.clear_ #[t] ty #[cx]):=by
 have Em: ∀w:World,VR ι I w (.ay []) (.tuple #[]):=fun w=> .ay [] [] rfl (fun i v c h=>by simp at h)
 have zero: ∀a cap,(Builtin.clear_ #[t] ty #[.slice a 0 cap]).run P w= .ok (.tuple #[]) w:=fun a cap=>by
  cases a<;>simp[Builtin.clear_,cG ht]
 have H4: ∀a cap,fu P ι I h w id (.ay []) h (Builtin.clear_ #[t] ty #[.slice a 0 cap]):=fun a cap=>⟨_,w,ι,I,zero a cap,Em w,H,Ext.refl _ _ _ _ _⟩
 simp only[bM,bk] at he
 cases hx<;>(try simp only[] at he)<;>try(cases he;done)
 case bA=>cases he;exact H4 _ _
 case gr=>cases he;exact H4 _ _
 case gi=>cases he;exact H4 _ _
 case vs xs t' cb o s cap g hs hI hc cV cU bw UK=>
  cases xs with
  |cons a b=>cases he
  |nil=>cases he;exact H4 _ _
 case rk b off len aN cap cb o room hb hlen bw=>
  cases jM:cellsOf h b with
  |none=>simp[jM] at he
  |some cs=>
   simp only[jM] at he
   split at he
   ·rename_i hc
    obtain⟨rfl,hle⟩:=hc
    cases he
    have hg:=qK jM
    obtain⟨_,_,_,hl,eY,_,br⟩:=H.cells b cs _ hg hb
    cases hl
    have gT:=Bu ef len (.inl h0)
    have aO:za.length=z.cells.size:=by rw[ef.1];simp
    have bP:(List.replicate len za).flatten.length=len*za.length:=by
     rw[mU (sz:=za.length) _ (fun r hr=>by rw[List.eq_of_mem_replicate hr])];simp
    have hu1: ∀u∈(List.replicate len za).flatten,u.one=true:=fun u hu=>by
     obtain⟨r,hr,hv⟩:=List.mem_flatten.1 hu
     rw[List.eq_of_mem_replicate hr] at hv
     exact h1 u hv
    obtain⟨l,agU⟩: ∃l,l=(madeCells z.cells (len*z.cells.size)).toList:=⟨_,rfl⟩
    rw[<-agU] at gT
    have kU:l.length=len*za.length:=by rw[<-gT.1,bP]
    have cU: ∀u∈l,u.oneCell'=true:=by
     intro u hu
     obtain⟨i,hi,rfl⟩:=List.getElem_of_mem hu
     have aA:i<(List.replicate len za).flatten.length:=by rw[gT.1];exact hi
     exact(gT.2 i _ _ (List.getElem?_eq_getElem aA) (List.getElem?_eq_getElem hi)).one (hu1 _ (List.getElem_mem aA))
    have dD:=run_storeCells_cells (P:=P) cb (o+off) l 0 w
     (fun j hj=>by simp only[Nat.add_zero];obtain⟨c,cQ,_⟩:=br (off+j) (by omega);rw[Nat.add_assoc,cQ];rfl)
     (fun j hj=>by simp only[Nat.add_zero];obtain⟨c,_,cQ,_⟩:=br (off+j) (by omega);rw[Nat.add_assoc];exact cQ) cU
    simp only[Nat.add_zero] at dD
    obtain⟨H',E⟩:=H.GY (off:=off) hb hg (by omega) (by rw[bP];omega) gT hu1
    refine⟨_,_,ι,I,?_,Em _,H',E.mono (fun _ h=>h.elim)⟩
    cases len with
    |zero=>
     have:l=[]:=by simpa using kU
     subst this
     exact zero _ _
    |succ n=>
     have hzc:(Builtin.zeroCells z.cells (n+1)).toList=l:=agU.symm
     simp[Builtin.clear_,cG ht,Gs cL hz,hzc,dD]
   ·cases he
theorem amh (H:HR ι I h w) {t rt e:TypeId} {sz:Nat} (ht:P.underlying t=some (.slice e)) (hs:(P.info? e).map (·.size)=some sz) {x y v:AV} {cx cy:Value} (hx:VR ι I w x cx) (hy:VR ι I w y cy) (hv:uY sz h x y=some v) {t2:TypeId}:
 eN P ι I h w v (Extern.SlicesOverlaps.overlaps #[t,t2] #[rt] #[cx,cy]):=by
 unfold uY at hv
 cases hx<;>(try simp only[] at hv)<;>try(cases hv;done)
 case vs xs t' ca oa s TG g cu hI hc hvv h1 bw tB=>
  cases xs with
  |nil=>cases hv
  |cons r xs=>
   cases hy<;>(try simp only[] at hv)<;>try(cases hv;done)
   case rk b off len aN JR cb ob room hb hlen avv=>
    cases len with
    |zero=>cases hv
    |succ len=>
     simp only[] at hv
     cases hq:(r.length==sz&&aN==sz&&(cellsOf h b).isSome) with
     |false=>rw[hq] at hv;cases hv
     |true=>
      rw[hq] at hv
      cases hv
      simp only[Bool.and_eq_true,beq_iff_eq] at hq
      obtain⟨⟨gG,rfl⟩,eP⟩:=hq
      obtain⟨cs,eP⟩:=Option.isSome_iff_exists.1 eP
      have hg:=qK eP
      have tC:s=aN:=by rw[<-cu 0 r rfl];exact gG
      subst tC
      refine .same H (c:= .bool false) ?_ (.bool _)
      obtain⟨_,_,_,hl,eY,_,br⟩:=H.cells b cs _ hg hb
      cases hl
      have ja:=H.pl b cs cb ob room hg hb
      have e1:=fun w'=>cG ht w'
      have e2:=fun w'=>l9 (P:=P) hs w'
      by_cases tC:s=0
      ·subst tC
       delta Extern.SlicesOverlaps.overlaps
       delta Extern.SlicesOverlaps.overlaps.match_4
       dsimp only[]
       rw[dif_pos (show(#[Value.slice (some ⟨ca,oa,none⟩) (r::xs).length TG,Value.slice (some ⟨cb,ob+off,none⟩) (len+1) JR]:Array Value).size=2 from rfl)]
       delta Extern.SlicesOverlaps.overlaps._sparseCasesOn_4
       delta Array.getLit
       simp only[List.getElem_toArray,List.getElem_cons_zero,List.getElem_cons_succ]
       simp[e1,e2]
      have hmul:(len+1)*s<=JR*s:=Nat.mul_le_mul_right _ hlen
      have iy:0<(len+1)*s:=Nat.mul_pos (by omega) (by omega)
      have avr:0<(xs.length+1)*s:=Nat.mul_pos (by omega) (by omega)
      by_cases kC:ca=cb
      ·subst kC
       have xj: ∀j,oa<=j->j<oa+(xs.length+1)*s->ob+off<=j->j<ob+off+(len+1)*s->False:=fun j q1 q2 q3 q4=>by
        have hd:=(Nat.div_lt_iff_lt_mul (k:=s) (x:=j-oa) (y:=xs.length+1) (by omega)).2 (by omega)
        have nO:=hI ((j-oa)/s) ((j-oa)%s) (by simpa using hd) (Nat.mod_lt _ (by omega))
        rw[Nat.add_assoc,Nat.div_add_mod' (j-oa) s,show oa+(j-oa)=j by omega] at nO
        exact H.bB b _ _ ca j hb hg rfl nO
       have key: ¬(oa<ob+off+(len+1)*s/\ob+off<oa+(xs.length+1)*s):=fun⟨q1,q2⟩=>
        xj (max oa (ob+off)) (by omega) (by omega) (by omega) (by omega)
       delta Extern.SlicesOverlaps.overlaps
       delta Extern.SlicesOverlaps.overlaps.match_4
       dsimp only[]
       rw[dif_pos (show(#[Value.slice (some ⟨ca,oa,none⟩) (r::xs).length TG,Value.slice (some ⟨ca,ob+off,none⟩) (len+1) JR]:Array Value).size=2 from rfl)]
       delta Extern.SlicesOverlaps.overlaps._sparseCasesOn_4
       delta Array.getLit
       simp only[List.getElem_toArray,List.getElem_cons_zero,List.getElem_cons_succ]
       simp[e1,e2,tC]
       omega
      ·have ca0:w.cell? ⟨ca,oa,none⟩=some (g 0 0):=by simpa using hc 0 0 (by simp) (by omega)
       obtain⟨cb0,auD,-⟩:=br off (by omega)
       have shp: ∀(k o:Nat) (c:Value),w.cell? ⟨k,o,none⟩=some c-> ∃el n,w.shape? k=some (el,n+1):=fun k o c hk=>by
        unfold World.cell? at hk
        unfold World.shape?
        split at hk
        ·rename_i cells el fr hh
         simp at hk
         have:=(Array.getElem?_eq_some_iff.1 hk).1
         simp only[] at hh
         rw[hh]
         exact⟨el,cells.size-1,by simp;omega⟩
        ·cases hk
       obtain⟨ea,na,sa⟩:=shp _ _ _ ca0
       obtain⟨eb,nb,sb⟩:=shp _ _ _ auD
       have hfb:w.frozen? ⟨cb,ob+off,none⟩=false:=ja _
       have iU:w.frozen? ⟨cb,nb+1,none⟩=false:=ja _
       delta Extern.SlicesOverlaps.overlaps
       delta Extern.SlicesOverlaps.overlaps.match_4
       dsimp only[]
       rw[dif_pos (show(#[Value.slice (some ⟨ca,oa,none⟩) (r::xs).length TG,Value.slice (some ⟨cb,ob+off,none⟩) (len+1) JR]:Array Value).size=2 from rfl)]
       delta Extern.SlicesOverlaps.overlaps._sparseCasesOn_4
       delta Array.getLit
       simp only[List.getElem_toArray,List.getElem_cons_zero,List.getElem_cons_succ]
       simp[e1,e2,tC,kC,frozen,noView,viewAt,mayBeOne,stringish,shape,Sem.run,sa,sb,hfb,iU]
theorem WA (H:HR ι I h w) {id:Nat} (aJ:ι id=none) {t tn ty e:TypeId} {ie:TypeInfo} {z:Value} {za:List AV} {kn kq:IntKind} (ht:P.underlying t=some (.slice e)) (E6:P.underlying tn=some (.int kn)) (cL:P.info? e=some ie) (hz:ie.zero=some z)
 (aO:ie.size=z.cells.size) (ef:LR ι I w za z.cells.toList) (h1: ∀v∈za,v.one=true) (h0:za.length≠0) {xs:List (List AV)} {a:Option Addr} {lx:List Value} {cap m:Nat}
 (Rx:Rd ι I w za.length xs a lx) (hm:0<m) (hg:cap<xs.length+m) (hb:(xs.length+m)*ie.bytes<2^40) (hn:xs.length+m<2^40):
 fu P ι I h w id (.rs id 0 (xs.length+m) za.length) (h.at id (.cells (xs++List.replicate m za).flatten)) (Builtin.append_ #[t,tn] ty #[.slice a xs.length cap, .int kq m]):=by
 have gT:za.length=z.cells.size:=by rw[ef.1];simp
 have hold:=X8 (P:=P) Rx cap w.drew (fun _=>rfl)
 rw[gT,<-aO] at hold
 have ke:=Ys hg hb
 have hmb:m*ie.bytes<=(xs.length+m)*ie.bytes:=Nat.mul_le_mul_right _ (by omega)
 have bT:=Go.Lib.run_append_grow_zeros (P:=P) (ty:=ty) w t tn e ie z kq kn ht E6 cL hz a xs.length cap lx hold m hm (by omega) hg (by omega) (by omega) ke
 have AI:=grownCap_ge w (xs.length+m) cap e
 have hzm:=Bu ef m (.inl h0)
 have hmc:madeCells z.cells (m*z.cells.size)=Builtin.zeroCells z.cells m:=rfl
 rw[hmc] at hzm
 generalize grownCap w (xs.length+m) cap e=c at*
 have uC:(lx.toArray++Builtin.zeroCells z.cells m++Builtin.zeroCells z.cells (c-(xs.length+m))).size=c*za.length:=by
  rw[Array.size_append,Array.size_append,size_zeroCells,size_zeroCells,<-gT]
  simp only[List.size_toArray,Rx.len]
  rw[<-Nat.add_mul,<-Nat.add_mul]
  congr 1;omega
 have dg:LR ι I w (xs++List.replicate m za).flatten (lx++(Builtin.zeroCells z.cells m).toList):=by
  rw[List.flatten_append];exact Rx.lr.append hzm
 obtain⟨H',E⟩:=BT H (w':=w.drew.alloc (.cells (lx.toArray++Builtin.zeroCells z.cells m++Builtin.zeroCells z.cells (c-(xs.length+m))) e)) rfl rfl rfl rfl aJ (cs:=(xs++List.replicate m za).flatten)
  (fun v hv=>by
    obtain⟨r,hr,hv⟩:=List.mem_flatten.1 hv
    rcases List.mem_append.1 hr with hr|hr
    ·exact(Rx.lM r hr).2 v hv
    ·rw[List.eq_of_mem_replicate hr] at hv;exact h1 v hv)
  (by
    have ku:(Builtin.zeroCells z.cells m).toList.length=m*za.length:=by rw[Array.length_toList,size_zeroCells,<-gT]
    rw[dg.1,uC,List.length_append,Rx.len,ku,<-Nat.add_mul]
    exact Nat.mul_le_mul_right _ AI)
  (fun j v u hv hu=>by
    have hj:=(List.getElem?_eq_some_iff.1 hv).1
    rw[dg.1] at hj
    refine dg.2 j v u hv ?_
    rw[Array.getElem?_append_left (by simp at hj ⊢;omega)] at hu
    rw[<-hu,<-Array.getElem?_toList]
    simp)
 refine⟨_,_,_,_,bT,?_,H',E⟩
 exact .rs id 0 _ za.length w.heap.size 0 _ c (aF.gq _ _ _) AI (by rw[uC];omega)
theorem aiH (H:HR ι I h w) {id:Nat} (aJ:ι id=none) {t tn ty e:TypeId} {ie:TypeInfo} {z:Value} {za:List AV} {kn:IntKind} (ht:P.underlying t=some (.slice e)) (E6:P.underlying tn=some (.int kn)) (cL:P.info? e=some ie) (hz:ie.zero=some z)
 (aO:ie.size=z.cells.size) (ef:LR ι I w za z.cells.toList) (h1: ∀v∈za,v.one=true) (h0:za.length≠0) {x n v:AV} {cx cn:Value} (hx:VR ι I w x cx) (hn:VR ι I w n cn) {ρ:Env} {ox on:aq} (bk:ox.ev ρ=x) (qu:on.ev ρ=n)
 {h':aa} (he:bM (.oh ie.bytes za ox on) ρ id h=some (v,h')):fu P ι I h w id v h' (Builtin.append_ #[t,tn] ty #[cx,cn]):=by
 simp only[bM,bk,qu] at he
 cases hn<;>(try simp only[] at he)<;>try(cases he;done)
 rename_i kq m
 split at he
 ·rename_i hm
  obtain⟨k,rfl⟩: ∃k:Nat,m=k:=⟨m.toNat,by omega⟩
  simp only[Int.toNat_natCast] at he
  cases hx<;>(try simp only[] at he)<;>try(cases he;done)
  case bA=>
   split at he
   ·rename_i hb
    cases he
    have Rn:Rd ι I w za.length [] none []:=⟨by simp,LR.nil,by simp,fun _=>rfl⟩
    have:=WA (P:=P) (ty:=ty) (kq:=kq) (cap:=0) (m:=k) H aJ ht E6 cL hz aO ef h1 h0 Rn (by omega) (by simp;omega) (by simpa using hb) (by simp;omega)
    simpa using this
   ·cases he
  case rk b off len aN cap cb o room hb hlen bw=>
   split at he
   ·rename_i cs hg
    split at he
    ·rename_i hc
     obtain⟨rfl,cC,hle,ew,b9⟩:=hc
     cases he
     obtain⟨cu,_,cU⟩:=H.row (qK hg) hb
     obtain⟨l,R,e1,e2⟩:=LM (len:=len) cu cU hle
     have:=WA (P:=P) (ty:=ty) (kq:=kq) (cap:=cap) (m:=k) H aJ ht E6 cL hz aO ef h1 h0 R (by omega) (by rw[e1];omega) (by rw[e1];exact ew) (by rw[e1];exact b9)
     rw[e1] at this
     exact this
    ·cases he
   ·cases he
 ·cases he
end
end
section
open Go
section
variable {P:Program}
mutual
def AV.fv (b:Nat) (cs:List AV):AV->AV
 | .rs b' off len sz=>if b'=b then(if off+len*sz<=cs.length then .vs (rowsOf cs off sz len) .ao else .undef) else .rs b' off len sz
 | .rk b' off len sz cap=>if b'=b then .undef else .rk b' off len sz cap
 | .agg xs=> .agg (AV.qd b cs xs)
 | .ay xs=> .ay (AV.qd b cs xs)
 |v=>v
def AV.qd (b:Nat) (cs:List AV):List AV->List AV
 |[]=>[]
 |x::xs=>AV.fv b cs x::AV.qd b cs xs
end
theorem BC {b:Nat} {cs:List AV}: ∀{l:List AV},(AV.qd b cs l).length=l.length
 |[]=>rfl
 |x::xs=>by simp[AV.qd,BC (l:=xs)]
theorem BD {b:Nat} {cs:List AV}: ∀{l:List AV} {i:Nat} {v:AV},(AV.qd b cs l)[i]? =some v-> ∃u,l[i]? =some u/\v=AV.fv b cs u
 |[],i,v,h=>by simp[AV.qd] at h
 |x::xs,i,v,h=>by
  cases i with
  |zero=>simp[AV.qd] at h;exact⟨x,rfl,h.symm⟩
  |succ i=>obtain⟨u,h1,h2⟩:=BD (l:=xs) (i:=i) (by simpa [AV.qd] using h);exact⟨u,by simpa using h1,h2⟩
section
variable {ι:aF} {I:aP} {h:aa} {w:World} {b cb o room:Nat} {cs:List AV}
def xp (I:aP) (cb o n:Nat):aP:=fun k j=>I k j\/(k=cb/\o<=j/\j<o+n)
theorem VR.fv (H:HR ι I h w) (hg:h.get b=some (.cells cs)) (hb:ι b=some (.cells cb o room)) {a:AV} {v:Value} (hv:VR ι I w a v):VR ι (xp I cb o room) w (AV.fv b cs a) v:=by
 obtain⟨cu,eY,cU⟩:=H.row hg hb
 have cI: ∀a v,VR ι I w a v->VR ι (xp I cb o room) w a v:=fun a v h=>h.mono (fun _ _ h=>h) (fun _ _ h=> .inl h) (fun _ _ _=>rfl)
 induction hv with
 |rk b' off len sz cap gW o' oF h1 h2 h3=>
  unfold AV.fv
  by_cases kW:b'=b
  ·rw[if_pos kW];exact .undef _
  ·rw[if_neg kW];exact .rk b' off len sz cap gW o' oF h1 h2 h3
 |rs b' off len sz gW o' oF cap h1 h2 h3=>
  unfold AV.fv
  by_cases kW:b'=b
  ·subst kW
   rw[hb] at h1;cases h1
   rw[if_pos rfl]
   split
   ·rename_i hle
    obtain⟨e1,e2,e3⟩:=yz cs sz len off hle
    rcases Nat.eq_zero_or_pos len with h0|h0
    ·subst h0
     exact .gi _ _ _ (.inl rfl)
    rcases Nat.eq_zero_or_pos sz with hz|hz
    ·subst hz
     have:=VR.vs (ι:=ι) (I:=xp I cb o room) (w:=w) (rowsOf cs off 0 len) .ao cb (o+off) 0 cap (fun _ _=>Go.undef) (fun i row hi=>(e2 row (List.mem_of_getElem? hi)).1) (fun i j _ hj=>by omega) (fun i j _ hj=>by omega)
      (fun i row j v hi hj=>by
        have:=(e2 row (List.mem_of_getElem? hi)).1
        have:=(List.getElem?_eq_some_iff.1 hj).1;omega)
      (fun row hr v hv=>by have:=(e2 row hr).1;have:=List.length_eq_zero_iff.1 this;subst this;simp at hv) (by rw[e1];exact h2) trivial
     rw[e1] at this
     exact this
    have bP: ∀i j,i<len->j<sz->off+i*sz+j<cs.length:=fun i j hi hj=>by
     have:i*sz+j<len*sz:=by
      have:=Nat.mul_le_mul_right sz (show i+1<=len by omega)
      rw[Nat.succ_mul] at this
      omega
     omega
    have br: ∀i j,i<len->j<sz-> ∃u,w.cell? ⟨cb,o+off+i*sz+j,none⟩=some u/\ ∀v,cs[off+i*sz+j]? =some v->VR ι I w v u:=fun i j hi hj=>by
     have aC:=bP i j hi hj
     obtain⟨u,h5,h6⟩:=cu (off+i*sz+j) _ (List.getElem?_eq_getElem aC)
     refine⟨u,by rw[show o+off+i*sz+j=o+(off+i*sz+j) by omega];exact h5,fun v hv=>?_⟩
     rw[List.getElem?_eq_getElem aC] at hv
     cases hv
     exact h6
    have a9: ∀(i j:Nat) (row:List AV) (v:AV),(rowsOf cs off sz len)[i]? =some row->row[j]? =some v->cs[off+i*sz+j]? =some v:=fun i j row v hi hj=>by
     have hr:=(e2 row (List.mem_of_getElem? hi)).1
     have jr:j<sz:=by have:=(List.getElem?_eq_some_iff.1 hj).1;omega
     have:=flat_get (rowsOf cs off sz len) (fun r hr=>(e2 r hr).1) i j row hi jr
     rw[hj,e3,List.getElem?_take_of_lt (by
      have:=bP i j (by have:=(List.getElem?_eq_some_iff.1 hi).1;omega) jr
      have h7:=(List.getElem?_eq_some_iff.1 hi).1
      have:=Nat.mul_le_mul_right sz (show i+1<=len by omega)
      rw[Nat.succ_mul] at this
      omega),List.getElem?_drop] at this
     rw[<-this];congr 1;omega
    have:=VR.vs (ι:=ι) (I:=xp I cb o room) (w:=w) (rowsOf cs off sz len) .ao cb (o+off) sz cap (fun i j=>(w.cell? ⟨cb,o+off+i*sz+j,none⟩).getD Go.undef)
     (fun i row hi=>(e2 row (List.mem_of_getElem? hi)).1)
     (fun i j hi hj=> .inr ⟨rfl,by omega,by rw[e1] at hi;have:=bP i j hi hj;omega⟩)
     (fun i j hi hj=>by rw[e1] at hi;obtain⟨u,h5,_⟩:=br i j hi hj;simp[h5])
     (fun i row j v hi hj=>by
       have aA:i<len:=by have:=(List.getElem?_eq_some_iff.1 hi).1;omega
       have jr:j<sz:=by have:=(e2 row (List.mem_of_getElem? hi)).1;have:=(List.getElem?_eq_some_iff.1 hj).1;omega
       obtain⟨u,h5,h6⟩:=br i j aA jr
       simp only[h5,Option.getD_some]
       exact cI _ _ (h6 v (a9 i j row v hi hj)))
     (fun row hr v hv=>cU v ((e2 row hr).2 v hv)) (by rw[e1];exact h2) trivial
    rw[e1] at this
    exact this
   ·exact .undef _
  ·rw[if_neg kW]
   exact .rs b' off len sz gW o' oF cap h1 h2 h3
 |agg xs rN hl hv ih=>exact .agg _ _ (by rw[BC];exact hl) (fun i v c h1 h2=>by obtain⟨u,e1,rfl⟩:=BD h1;exact ih i u c e1 h2)
 |ay xs rN hl hv ih=>exact .ay _ _ (by rw[BC];exact hl) (fun i v c h1 h2=>by obtain⟨u,e1,rfl⟩:=BD h1;exact ih i u c e1 h2)
 |vs xs t gW o' s cap g hs hI hc hv h1 bw ht ih=>exact cI _ _ (.vs xs t gW o' s cap g hs hI hc hv h1 bw ht)
 |gr t ht=>exact .gr t ht
 |gi t a cap ht=>exact .gi t a cap ht
 |undef v=>exact .undef v
 |int k n=>exact .int k n
 |bool b=>exact .bool b
 |fU k b=>exact .fU k b
 |fX k a b=>exact .fX k a b
 |str s=>exact .str s
 |nil=>exact .nil
 |ptr b off cb o room h=>exact .ptr b off cb o room h
 |vp xs off gW o' g hI hc hv h1 ih=>exact cI _ _ (.vp xs off gW o' g hI hc hv h1)
 |bA=>exact .bA
 |vz a cap=>exact .vz a cap
 |pO=>exact .pO
 |map b cb h=>exact .map b cb h
 |fn f fs cs eI bF hf hc h1 h2 fQ jI=>exact cI _ _ (.fn f fs cs eI bF hf hc h1 h2)
 |jk=>exact .jk
 |fD v h=>exact .fD v h
end
theorem Wz (w:World) (a:Addr) (n:Nat) (c:Addr):(w.freeze a n).cell? c=w.cell? c:=by
 unfold World.freeze
 split
 ·rfl
 ·simp only[World.cell?,Array.getElem?_modify]
  by_cases hc:a.block=c.block
  ·rw[if_pos hc]
   cases hk:w.heap[c.block]? with
   |none=>simp
   |some o=>cases o<;>simp
  ·rw[if_neg hc]
theorem xE.freeze (w:World) (cb n:Nat):xE (fun k _=>k=cb) w (w.freeze ⟨cb,n,none⟩ 1):=by
 have hb: ∀k,k≠cb->(w.freeze ⟨cb,n,none⟩ 1).heap[k]? =w.heap[k]?:=fun k hk=>by
  unfold World.freeze
  simp only[Nat.one_ne_zero,if_false,Array.getElem?_modify]
  rw[if_neg (fun h=>hk h.symm)]
 refine{os:=rfl,tape:=rfl,output:=rfl,size:=by simp[World.freeze],block:=fun k _ hr=>hb k (hr 0),cell:=fun k j _ _=>Wz _ _ _ _,frozen:=fun k j _ hr=>?_}
 simp only[World.frozen?,hb k hr]
theorem alm {ι:aF} {I:aP} {h:aa} {w:World} (H:HR ι I h w) {src e:TypeId} (hu:P.underlying src=some (.slice e)) (he8:P.underlying e=some (.int .u8))
 (id:Nat) {x v:AV} {cx:Value} (hx:VR ι I w x cx) {ρ:Env} {ox:aq} (bk:ox.ev ρ=x)
 {h':aa} (he:bM (.mark ox) ρ id h=some (v,h')):fu P ι I h w id v h' (convert src src cx):=by
 simp only[bM,bk] at he
 have UG:=hx
 cases hx<;>(try simp only[] at he)<;>try(cases he;done)
 rename_i b off len sz cb o room cap hb hlen bw
 cases jM:cellsOf h b with
 |none=>simp[jM] at he
 |some cs=>
  simp only[jM] at he
  split at he
  ·rename_i hle
   cases he
   have hg:=qK jM
   have hv:=VR.fv H hg hb UG
   have auA:AV.fv b cs (.rs b off len sz)= .vs (rowsOf cs off sz len) .ao:=by
    unfold AV.fv;rw[if_pos rfl,if_pos hle]
   rw[auA] at hv
   have main: ∀w',xE (fun k _=>k=cb) w w'->(∀c,w'.cell? c=w.cell? c)->(convert src src (.slice (some ⟨cb,o+off,none⟩) len cap)).run P w= .ok (.slice (some ⟨cb,o+off,none⟩) len cap) w'->
    fu P ι I h w id (.vs (rowsOf cs off sz len) .ao) (h.set b none) (convert src src (.slice (some ⟨cb,o+off,none⟩) len cap)):=by
    intro w' W br bT
    have H1:HR ι I (h.set b none) w':=H.agF W (Nat.le_refl _) (fun i y hi=>(iL hi).2)
     (fun i l' y k j hi dZ hl hr=>(H.dz i b l' (.cells cb o room) y _ k j (iL dZ).1 hi hb (iL dZ).2 hg hl hr).elim)
     (fun k j hr=>H.bB b _ _ k j hb hg hr)
    have H2:=H1.Me (J:=fun k j=>k=cb/\o<=j/\j<o+room) (fun k j ⟨h1,h2,h3⟩=>⟨by rw[h1];exact Nat.lt_of_lt_of_le (H.inside b _ hb) W.size,fun⟨i,l',y,hi,dZ,hl⟩=>
     H.dz i b l' (.cells cb o room) y _ k j (iL dZ).1 hi hb (iL dZ).2 hg hl h1⟩)
    refine⟨_,w',ι,xp I cb o room,bT,hv.mono (fun _ _ h=>h) (fun _ _ h=>h) (fun k j _=>br _),H2,?_⟩
    refine Ext.of0 W (fun k j _ hr=>⟨b,_,_,hb,hg,hr⟩) (fun _ _=>rfl) (fun _ _ h=>h) (Nat.le_refl _) (fun _ _ h=> .inl h) ?_ ?_ ?_
    ·rintro k j ⟨i,l',y,hi,dZ,hl⟩
     exact .inl ⟨i,l',y,hi,(iL dZ).2,hl⟩
    ·rintro k j (hk|⟨h1,_,_⟩)
     ·exact .inl hk
     ·exact .inr (.inl ⟨b,_,_,hb,hg,h1⟩)
    ·intro i _ hi
     have:i≠b:=fun he=>by rw[he,hb] at hi;cases hi
     simp[aa.set,this]
   cases hs:w.shape? cb with
   |none=>
    refine main w {os:=rfl,tape:=rfl,output:=rfl,size:=Nat.le_refl _,block:=fun _ _ _=>rfl,cell:=fun _ _ _ _=>rfl,frozen:=fun _ _ _ _=>rfl} (fun _=>rfl) ?_
    have Ax:Sem.run P (Sem.shape cb Sem.pure) w= .ok (w.shape? cb) w:=rfl
    simp[convert,cG hu,cG he8,markStringish,shape,Ax,hs,Result.andThen]
   |some q=>
    obtain⟨el,n⟩:=q
    refine main _ (xE.freeze w cb n) (fun _=>Wz _ _ _ _) ?_
    have Ax:Sem.run P (Sem.shape cb Sem.pure) w= .ok (w.shape? cb) w:=rfl
    have fh:Sem.run P (Sem.freeze ⟨cb,n,none⟩ 1 (Sem.pure ())) w= .ok () (w.freeze ⟨cb,n,none⟩ 1):=rfl
    simp[convert,cG hu,cG he8,markStringish,shape,freeze,Ax,hs,fh,Result.andThen]
  ·cases he
end
end
section
open Go
structure RO where
 dst:Option Nat
 guard:Option (Nat×Bool)
 op:bX
 deriving Inhabited
structure Mode where
 pr:Bool
 refs:List Nat
section
variable (P:Program) (md:Mode)
def bj (pr:Bool):Operand->Option aq
 | .tmp t=>some (.tmp t)
 | .const v=>(BY pr v).map .const
 | .func f=>some (.const (.fn f [] []))
 | .global _=>none
def ml (pr:Bool):List Operand->Option (List aq)
 |[]=>some []
 |x::xs=>match bj pr x,ml pr xs with
  |some a,some l=>some (a::l)
  |_,_=>none
def Af (pr:Bool):Option Operand->Option (Option aq)
 |none=>some none
 |some x=>(bj pr x).map some
def nj (t:TypeId):Option Nat:=(P.info? t).map (·.size)
def zeroOf (t:TypeId):Option (List AV):=
 match P.info? t with
 |some i=>match i.zero with
  |some z=>if i.size=z.cells.size then ud md.pr z.cells.toList else none
  |none=>none
 |none=>none
def B3 (sI:List (Nat×Nat)):List (Nat×Operand)->Option (List (Nat×Nat×aq))
 |[]=>some []
 |(i,x)::ps=>match sI[i]?,bj md.pr x,B3 sI ps with
  |some (off,sz),some o,some l=>some ((off,sz,o)::l)
  |_,_,_=>none
def C2:List (Nat×Operand)->Option (List (Nat×aq))
 |[]=>some []
 |(i,x)::ps=>match bj md.pr x,C2 ps with
  |some o,some l=>some ((i,o)::l)
  |_,_=>none
def isRef (d:Option Nat):Bool:=match d with|some d=>md.refs.contains d|none=>false
def LU:Operand->Option Value
 | .const v=>match v with
   | .pointer none=>some v
   | .slice none 0 0=>some v
   | .nilFunc=>some v
   | .map none=>some v
   |_=>none
 |_=>none
def H9:BinOp->Option Bool
 | .eql=>some false
 | .neq=>some true
 |_=>none
def TI (op:BinOp) (t:TypeId) (x y:Operand):Option bd:=do
 let d <-P.underlying t
 let a <-bj md.pr x
 match LU y with
 |some nv=>
  let kd <-BG d nv
  let neg <-H9 op
  some (.fA kd neg a)
 |none=>
  let b <-bj md.pr y
  match d with
  | .bool=>some (.bin true op a b)
  | .int _| .float _| .complex _| .string=>some (.bin false op a b)
  | .struct fs=>
    let neg <-H9 op
    let os <-yJ P fs.toList
    if P.stoodInHeld t=false/\P.eqGuardType P.depth t=false then some (.Is neg os a b) else none
  |_=>none
def vS (dst:Option Nat) (b:Builtin) (args:List Operand) (ts:List TypeId):Option bX:=
 match b,args,ts with
 | .len,[x],[t]=>do
   let a <-bj md.pr x
   match<-P.underlying t with
   | .slice _=>some (.p (.ix a))
   | .string=>some (.p (.G0 a))
   | .array n _=>some (.p (.JF n))
   |_=>none
 | .append,[x,y],[t,tx]=>do
   let a <-bj md.pr x
   let c <-bj md.pr y
   match<-P.underlying t,<-P.underlying tx with
   | .slice e, .slice e'=>
     let i <-P.info? e
     let z <-i.zero
     if e=e'/\z.cells.size=i.size/\i.size≠0 then
      some (.e (if isRef md dst then .jS i.bytes i.size a c else .append i.bytes i.size a c))
     else none
   |_,_=>none
 | .copy,[x,y],[t,tx]=>do
   let a <-bj md.pr x
   let c <-bj md.pr y
   match<-P.underlying t,<-P.underlying tx with
   | .slice e, .slice _=>some (.e (.copy (<-nj P e) a c))
   |_,_=>none
 | .delete,[m,k],[t,_]=>do
   let a <-bj md.pr m
   let c <-bj md.pr k
   match<-P.underlying t with
   | .map key _=>
     match<-P.underlying key with
     | .int _=>some (.e (.sJ a c))
     |_=>none
   |_=>none
 | .min,x::rest,_=>do some (.p (.kG false (<-bj md.pr x) (<-ml md.pr rest)))
 | .max,x::rest,_=>do some (.p (.kG true (<-bj md.pr x) (<-ml md.pr rest)))
 | .real,[x],_=>do some (.p (.part false (<-bj md.pr x)))
 | .imag,[x],_=>do some (.p (.part true (<-bj md.pr x)))
 |_,_,_=>none
def cf (f:Nat):Bool:=
 match P.funcs[f]? with
 |some fn=>fn.name != "runtime.NumGoroutine" &&fn.body.isSome
 |none=>false
def rG (dst:Option Nat) (op:Op):Option bX:=
 match op with
 | .move x| .assign x=>do some (.p (.aj (<-bj md.pr x)))
 | .pick c a b=>do some (.p (.pick (<-bj md.pr c) (<-bj md.pr a) (<-bj md.pr b)))
 | .alloc e=>do some (.a (.alloc (<-zeroOf P md e)))
 | .box _ x=>do some (.a (.box (<-bj md.pr x)))
 | .build t parts=>do
   let z <-zeroOf P md t
   match<-P.underlying t with
   | .struct fs=>
     let sI <-fs.toList.mapM (fun f=>(P.info? f.type).map fun i=>(f.offset,i.size))
     some (.p (.build z (<-B3 md sI parts.toList)))
   |_=>none
 | .buildSlice t n parts=>do
   match<-P.underlying t with
   | .slice e=>
     let z <-zeroOf P md e
     let ps <-C2 md parts.toList
     if z.length≠0/\n*z.length<=2^24 then
      some (if isRef md dst then .a (.BN n z ps) else .p (.d8 n z ps))
     else none
   |_=>none
 | .load t a=>do
   let d <-P.underlying t
   some (.p (.load d.isRow (<-nj P t) (<-bj md.pr a)))
 | .store t a v=>do some (.e (.store (<-nj P t) (<-bj md.pr a) (<-bj md.pr v)))
 | .nilCheck x=>do some (.p (.aE (<-bj md.pr x)))
 | .binOp op t x y _=>do some (.p (<-TI P md op t x y))
 | .unOp op _ x=>do some (.p (.un op (<-bj md.pr x)))
 | .convert src dst x=>do
   let a <-bj md.pr x
   match<-P.underlying src,<-P.underlying dst with
   |_, .int k=>some (.p (.toInt k a))
   | .slice e, .string=>
     match<-P.underlying e with
     | .int .u8=>some (.p (.od a))
     |_=>none
   | .string, .slice e=>
     match<-P.underlying e with
     | .int .u8=>some (.p (.Gr a))
     |_=>none
   | .slice e, .slice _=>
     match<-P.underlying e with
     | .int .u8=>if src=dst then some (.e (.mark a)) else none
     |_=>none
   |_,_=>none
 | .makeFunc (.func f) first captured=>do some (.p (.kc f (<-ml md.pr first.toList) (<-ml md.pr captured.toList)))
 | .makeMap _ none=>some (.a .uz)
 | .makeSlice t l c=>do
   match<-P.underlying t with
   | .slice e=>
     let z <-zeroOf P md e
     let i <-P.info? e
     if z.length≠0 then
      let a <-bj md.pr l
      let b <-bj md.pr c
      some (if isRef md dst then .a (.vR z i.bytes a b) else .p (.BH z i.bytes a b))
     else none
   |_=>none
 | .slice t x lo hi mx=>do
   match<-P.underlying t with
   | .slice e=>some (.p (.cA (<-nj P e) (<-bj md.pr x) (<-Af md.pr lo) (<-Af md.pr hi) (<-Af md.pr mx)))
   |_=>none
 | .fieldAddr s x f=>do
   match<-P.underlying s with
   | .struct fs=>
     let fd <-fs[f]?
     let sz <-nj P fd.type
     if sz≠0 then some (.p (.zA fd.offset (<-bj md.pr x))) else none
   |_=>none
 | .field s x f=>do
   match<-P.underlying s with
   | .struct fs=>
     let fd <-fs[f]?
     let d <-P.underlying fd.type
     some (.p (.KG d.isRow (<-nj P fd.type) fd.offset (<-bj md.pr x)))
   |_=>none
 | .indexAddr t x i=>do
   match<-P.underlying t with
   | .slice e=>some (.p (.gO (<-nj P e) (<-bj md.pr x) (<-bj md.pr i)))
   | .array n e=>some (.p (.BW (<-nj P e) n (<-bj md.pr x) (<-bj md.pr i)))
   |_=>none
 | .index t x i=>do
   match<-P.underlying t with
   | .array n e=>
     let d <-P.underlying e
     some (.p (.JI d.isRow (<-nj P e) n (<-bj md.pr x) (<-bj md.pr i)))
   |_=>none
 | .lookup t m k ok=>do
   match<-P.underlying t with
   | .map key e=>
     match<-P.underlying key with
     | .int _=>
       let i <-P.info? e
       let z <-i.zero
       some (.p (.lookup (<-BY md.pr z) ok (<-bj md.pr m) (<-bj md.pr k)))
     |_=>none
   |_=>none
 | .mapUpdate t m k v=>do
   match<-P.underlying t with
   | .map key _=>
     match<-P.underlying key with
     | .int _=>some (.e (.qS (<-bj md.pr m) (<-bj md.pr k) (<-bj md.pr v)))
     |_=>none
   |_=>none
 | .extract x i=>do some (.p (.ext i (<-bj md.pr x)))
 | .call c=>do
   match c.callee with
   | .value (.func f)=>if cf P f then some (.call f (<-ml md.pr c.args.toList)) else none
   | .value x=>some (.dyn (<-bj md.pr x) (<-ml md.pr c.args.toList))
   | .builtin b=>vS P md dst b c.args.toList c.argTypes.toList
   |_=>none
 |_=>none
def cK (dst:Option Nat) (b:Builtin) (args:List Operand) (ts:List TypeId):Option bX:=
 match b,args,ts with
 | .append,[x,y],[t,tx]=>do
   let a <-bj md.pr x
   let c <-bj md.pr y
   match<-P.underlying t,<-P.underlying tx with
   | .slice e, .int _=>
     let za <-zeroOf P md e
     let i <-P.info? e
     if za.length≠0 then some (.e (.oh i.bytes za a c)) else none
   |_,_=>none
 | .cap,[x],[t]=>do
   let a <-bj md.pr x
   match<-P.underlying t with
   | .slice _=>some (.p (.sX a))
   |_=>none
 | .clear,[x],[t]=>do
   let a <-bj md.pr x
   match<-P.underlying t with
   | .slice e=>
     let za <-zeroOf P md e
     if za.length≠0 then some (.e (.oz za a)) else none
   |_=>none
 | .copy,[x,y],[t,_]=>
   if isRef md dst then do
    let a <-bj md.pr x
    let c <-bj md.pr y
    match<-P.underlying t with
    | .slice e=>some (.e (.m9 (<-nj P e) a c))
    |_=>none
   else none
 |_,_,_=>none
def PE (f:Nat):Option TypeId:=
 match P.funcs[f]? with
 |some fn=>
  match fn.params.toList,fn.resultTypes.toList with
  |[t,_],[_]=>if fn.name != "runtime.NumGoroutine" &&fn.body.isNone&&fn.origin== "slices.overlaps" &&(Extern.allGenericRows.lookup fn.name).isNone&&(Extern.allTypedRows.lookup fn.name).isNone&&(Extern.allRows.lookup fn.name).isNone&&(Extern.allNextRows.lookup fn.name).isNone then some t else none
  |_,_=>none
 |none=>none
def cX (dst:Option Nat) (op:Op):Option bX:=
 match op with
 | .index t x i=>do
   match<-P.underlying t with
   | .string=>some (.p (.yW (<-bj md.pr x) (<-bj md.pr i)))
   |_=>none
 | .range t x=>do
   match<-P.underlying t with
   | .map _ _=>some (.p (.JZ (<-bj md.pr x)))
   |_=>none
 | .next x s=>if s then none else(bj md.pr x).map fun x=> .p (.EU x)
 | .entry x=>(bj md.pr x).map fun x=> .p (.sj x)
 | .call c=>
   match c.callee with
   | .value (.func f)=>
     match PE P f,c.args.toList with
     |some t,[x,y]=>do
      match<-P.underlying t with
      | .slice e=>some (.p (.oV (<-nj P e) (<-bj md.pr x) (<-bj md.pr y)))
      |_=>none
     |_,_=>none
   | .builtin b=>cK P md dst b c.args.toList c.argTypes.toList
   |_=>none
 |_=>none
def so (dst:Option Nat) (op:Op):Option bX:=
 match cX P md dst op with
 |some r=>some r
 |none=>match rG P md dst op with
  |some r=>some r
  |none=>some (.p .stuck)
end
inductive aZ where
 |skip
 |af (ops:List RO)
 |ba (ops:List RO) (un:List (List Nat))
 |seq (a b:aZ)
 |w7 (a b:aZ)
 |cond (c:aq) (t e:aZ)
 |block (id:Nat) (c:aZ)
 |loop (c:aZ)
 |exit (id:Nat)
 |scope (c:aZ)
 |inScope (body cur:aZ)
 |label (l:Nat)
 |goto (l:Nat)
 |ret
 deriving Inhabited
inductive fN where
 |tmp (t:Nat)
 |cell (t:Nat) (ag:Bool) (sz:Nat)
 deriving Inhabited
structure az where
 code:aZ
 ntmps:Nat
 results:List fN
 deriving Inhabited
end
section
open Go
def bX.cq:bX->Bool
 | .e _| .call _ _| .dyn _ _=>true
 |_=>false
def bd.reads:bd->Bool
 | .load _ _ _| .od _| .lookup _ _ _ _| .oV _ _ _=>true
 |_=>false
def bX.reads:bX->Bool
 | .p o=>o.reads
 |_=>false
def f0:List Oper->List (List Nat)->List (List Nat)
 |[],acc=>acc
 |o::os,acc=>f0 os (acc++[(o.after.toList.filter fun e=>Region.binds .any e).flatMap fun e=>e.on::acc.getD e.on []])
def aq.slot:aq->List Nat
 | .tmp t=>[t]
 | .const _=>[]
def BR:Option aq->List aq
 |some x=>[x]
 |none=>[]
def bd.dX:bd->List aq
 | .aj x| .load _ _ x| .aE x| .fA _ _ x| .un _ x| .toInt _ x| .od x| .Gr x| .zA _ x| .KG _ _ _ x| .ext _ x| .ix x| .G0 x| .part _ x| .sX x| .JZ x| .EU x| .sj x=>[x]
 | .pick c a b=>[c,a,b]
 | .build _ ps=>ps.map fun p=>p.2.2
 | .d8 _ _ ps=>ps.map fun p=>p.2
 | .bin _ _ x y| .Is _ _ x y| .gO _ x y| .BW _ _ x y| .JI _ _ _ x y| .lookup _ _ x y| .BH _ _ x y| .yW x y| .oV _ x y=>[x,y]
 | .cA _ x lo hi mx=>x::(BR lo++BR hi++BR mx)
 | .JF _| .stuck=>[]
 | .kc _ a b=>a++b
 | .kG _ x r=>x::r
def jO.dX:jO->List aq
 | .box x=>[x]
 | .alloc _| .uz=>[]
 | .vR _ _ x y=>[x,y]
 | .BN _ _ ps=>ps.map fun p=>p.2
def gn.dX:gn->List aq
 | .store _ x y| .append _ _ x y| .jS _ _ x y| .copy _ x y| .sJ x y| .oh _ _ x y| .m9 _ x y=>[x,y]
 | .oz _ x| .mark x=>[x]
 | .qS x y z=>[x,y,z]
def bX.dX:bX->List aq
 | .p o=>o.dX
 | .a o=>o.dX
 | .e o=>o.dX
 | .call _ as=>as
 | .dyn x as=>x::as
def RO.sM (o:RO):List Nat:=o.op.dX.flatMap aq.slot++(match o.guard with|some (g,_)=>[g]|none=>[])
def ka (pl:List (List Nat)) (i j:Nat):Bool:=(pl.getD j []).contains i
def bd.pR:bd->Bool
 | .load _ _ (.const _)| .od (.const _)| .lookup _ _ (.const _) _| .oV _ _ (.const _)=>false
 |_=>true
def bX.pR:bX->Bool
 | .p o=>o.pR
 |_=>true
def BU (acc:List Nat):List Edge->Nat
 |[]=>0
 |e::es=>(2^e.on|||acc.getD e.on 0)|||BU acc es
def qR:List Oper->List Nat->List Nat
 |[],acc=>acc
 |o::os,acc=>qR os (acc++[BU acc (o.after.toList.filter fun e=>Region.binds .any e)])
def zt (al:List RO) (ms:List Nat):List ((RO×Nat)×Nat):=(al.zip ms).zipIdx
def EN (ops:Array Oper) (al:List RO):Bool:=
 let ms:=qR ops.toList []
 let rs:=zt al ms
 (ms.length==al.length)&&
 (rs.all fun p=>rs.all fun q=>p.1.1.dst.isNone||p.1.1.dst !=q.1.1.dst||p.2==q.2)&&
 (ops.toList.zipIdx.all fun(o,i)=>o.after.toList.all fun e=>!Region.binds .any e||decide (e.on<i))&&
 (rs.all fun p=>p.1.1.sM.all fun t=>rs.all fun q=>p.2==q.2||q.1.1.dst !=some t||(if q.2<p.2 then p.1.2.testBit q.2 else q.1.2.testBit p.2))&&
 (rs.all fun p=>!p.1.1.op.cq||rs.all fun q=>!q.1.1.op.cq||!decide (q.2<p.2)||p.1.2.testBit q.2)&&
 (al.all fun o=>o.op.pR)
def xG (ops:Array Oper) (al:List RO):List (List Nat):=
 let rs:=zt al (qR ops.toList [])
 rs.map fun p=>if p.1.1.op.reads||p.1.1.op.cq then
  (rs.filter fun q=>decide (q.2<p.2)&&((p.1.1.op.reads&&q.1.1.op.cq)||(p.1.1.op.cq&&q.1.1.op.reads))&&!p.1.2.testBit q.2).map (·.2) else []
def MF (ops:Array Oper):Option (Nat×Bool)->Option (Option (Nat×Bool))
 |none=>some none
 |some (j,z5)=>((ops[j]?).bind (·.dst)).map fun d=>some (d,z5)
def acN (n:Nat):Option Nat->Bool
 |some d=>decide (d<n)
 |none=>true
section
variable (P:Program) (md:Mode)
def tQ (n:Nat) (ops:Array Oper) (o:Oper):Option RO:=
 (so P md o.dst o.op).bind fun op=>(MF ops o.guard).bind fun g=>if acN n o.dst then some {dst:=o.dst,guard:=g,op} else none
def sY (n:Nat) (ops:Array Oper):List Oper->Option (List RO)
 |[]=>some []
 |o::os=>match tQ P md n ops o,sY n ops os with
  |some a,some l=>some (a::l)
  |_,_=>none
def aZ.z7:aZ->Bool
 | .af al=>al.any fun o=>match o.op with| .p (.JZ _)=>true|_=>false
 |_=>false
def eh (n:Nat):Code->Option aZ
 | .skip=>some .skip
 | .region _ ops false=>(sY P md n ops ops.toList).map .af
 | .region _ ops true=>do
   let al <-sY P md n ops ops.toList
   if EN ops al then some (.ba al (xG ops al)) else none
 | .seq a b=>do
   let x <-eh n a
   let y <-eh n b
   some (if x.z7 then .w7 x y else .seq x y)
 | .cond c t e=>do some (.cond (<-bj md.pr c) (<-eh n t) (<-eh n e))
 | .block id c=>do some (.block id (<-eh n c))
 | .loop c=>do some (.loop (<-eh n c))
 | .exit id=>some (.exit id)
 | .scope c=>do some (.scope (<-eh n c))
 | .label l=>some (.label l)
 | .goto l=>some (.goto l)
 | .ret=>some .ret
 |_=>none
def TH:ResultVar->Option fN
 | .tmp t=>some (.tmp t)
 | .cell t ty=>do
   let d <-P.underlying ty
   some (.cell t d.isRow (<-nj P ty))
def yN:List ResultVar->Option (List fN)
 |[]=>some []
 |x::xs=>match TH P x,yN xs with
  |some a,some l=>some (a::l)
  |_,_=>none
def aD (fn:Func):Option az:=do
 let c <-fn.body
 let code <-eh P md fn.ntmps c
 let rs <-yN P fn.results.toList
 some {code,ntmps:=fn.ntmps,results:=rs}
end
inductive aQ where
 |normal
 |exit (id:Nat)
 |goto (l:Nat)
 |ret
 deriving DecidableEq,Inhabited
def put (ρ:Env) (d:Option Nat) (v:AV):Env:=
 match d with
 |some d=>fun i=>if i=d then v else ρ i
 |none=>ρ
def fY:aZ->Nat->Option aZ
 | .seq a b,l=>
   match fY a l with
   |some rest=>some (.seq rest b)
   |none=>fY b l
 | .w7 _ b,l=>fY b l
 | .label l',l=>if l'==l then some .skip else none
 |_,_=>none
end
section
open Go
section
variable {P:Program} {md:Mode} {ι:aF} {I:aP} {h:aa} {w:World}
structure AR (ι:aF) (I:aP) (w:World) (n:Nat) (ρ:Env) (a:Act):Prop where
 defers:a.defers=[]
 size:a.tmps.size=n
 get: ∀t,VR ι I w (ρ t) (a.tmps.getD t Go.undef)
theorem AR.mono {n:Nat} {ρ:Env} {a:Act} (A:AR ι I w n ρ a) {ι':aF} {I':aP} {w':World} (hm: ∀x v,VR ι I w x v->VR ι' I' w' x v):AR ι' I' w' n ρ a:=
 ⟨A.defers,A.size,fun t=>hm _ _ (A.get t)⟩
theorem W5 {pr:Bool} {v:Value} {x:AV} (hc:BY pr v=some x):VR ι I w x v:=by
 unfold BY at hc
 split at hc
 ·rename_i cs
  cases hq:ud pr cs.toList with
  |none=>simp[hq] at hc
  |some l=>
   simp[hq] at hc
   subst hc
   have:=qJ (ι:=ι) (I:=I) (w:=w) hq
   have h2:=VR.agg (ι:=ι) (I:=I) (w:=w) l cs.toList this.1.1 this.1.2
   simpa using h2
 ·exact(Wx hc).1
theorem bJ {n:Nat} {ρ:Env} {a:Act} (A:AR ι I w n ρ a) {pr:Bool} {x:Operand} {o:aq} (hc:bj pr x=some o):OR ι I w ρ o (a.eval x):=by
 cases x with
 |tmp t=>simp[bj] at hc;subst hc;exact A.get t
 |const v=>
  simp only[bj] at hc
  cases hq:BY pr v with
  |none=>simp[hq] at hc
  |some y=>simp[hq] at hc;subst hc;exact W5 hq
 |func f=>
  simp[bj] at hc;subst hc
  exact .fn f [] [] [] [] rfl rfl (fun i v c h=>by simp at h) (fun i v c h=>by simp at h)
 |global g=>simp[bj] at hc
theorem vN {n:Nat} {ρ:Env} {a:Act} (A:AR ι I w n ρ a) {pr:Bool}: ∀{xs:List Operand} {os:List aq},ml pr xs=some os->LR ι I w (os.map (aq.ev ρ)) (xs.map a.eval)
 |[],os,hc=>by simp[ml] at hc;subst hc;exact LR.nil
 |x::xs,os,hc=>by
  simp only[ml] at hc
  split at hc
  ·rename_i o l h1 h2
   cases hc
   exact LR.cons (bJ A h1) (vN A h2)
  ·cases hc
theorem L5 {n:Nat} {ρ:Env} {a:Act} (A:AR ι I w n ρ a) {pr:Bool} {x:Option Operand} {o:Option aq} (hc:Af pr x=some o):yu ι I w ρ o (x.map a.eval):=by
 cases x with
 |none=>simp[Af] at hc;subst hc;trivial
 |some x=>
  simp only[Af] at hc
  cases hq:bj pr x with
  |none=>simp[hq] at hc
  |some y=>simp[hq] at hc;subst hc;exact bJ A hq
def NP (P:Program) (ι:aF) (I:aP) (h:aa) (w:World) (v:AV) (s:Sem Next):Prop:=
 ∃c w' I',s.run P w= .ok (.value c) w'/\VR ι I' w' v c/\HR ι I' h w'/\Ext (fun _=>False) ι I h w ι I' h w'
theorem eN.next {v:AV} {s:Sem Value} (hs:eN P ι I h w v s):NP P ι I h w v (do pure (.value (<-s))):=by
 obtain⟨c,w',I',hr,hv,H,E⟩:=hs
 exact⟨c,w',I',by simp[hr],hv,H,E⟩
def NE (P:Program) (ι:aF) (I:aP) (h:aa) (w:World) (id:Nat) (v:AV) (h':aa) (s:Sem Next):Prop:=
 ∃x c w' ι' I',s.run P w= .ok x w'/\(x= .value c\/(x= .skip/\v= .undef))/\VR ι' I' w' v c/\HR ι' I' h' w'/\Ext (· =id) ι I h w ι' I' h' w'
theorem fu.next {id:Nat} {v:AV} {h':aa} {s:Sem Value} (hs:fu P ι I h w id v h' s):NE P ι I h w id v h' (do pure (.value (<-s))):=by
 obtain⟨c,w',ι',I',hr,hv,H,E⟩:=hs
 exact⟨_,c,w',ι',I',by simp[hr], .inl rfl,hv,H,E⟩
theorem t7 {t:TypeId} {za:List AV} (hz:zeroOf P md t=some za): ∃i z,P.info? t=some i/\i.zero=some z/\i.size=z.cells.size/\ud md.pr z.cells.toList=some za:=by
 unfold zeroOf at hz
 split at hz
 ·rename_i i hi
  split at hz
  ·rename_i z tu
   split at hz
   ·rename_i aO
    exact⟨i,z,hi,tu,aO,hz⟩
   ·cases hz
  ·cases hz
 ·cases hz
theorem W6 {n:Nat} {ρ:Env} {a:Act} (A:AR ι I w n ρ a) {sI:List (Nat×Nat)}: ∀{ps:List (Nat×Operand)} {l:List (Nat×Nat×aq)},B3 md sI ps=some l->
 l.length=ps.length/\ ∀(i off sz j:Nat) (x:aq) (c:Value),l[i]? =some (off,sz,x)->(ps.map fun p=>(p.1,a.eval p.2))[i]? =some (j,c)->sI[j]? =some (off,sz)/\OR ι I w ρ x c
 |[],l,hc=>by simp[B3] at hc;subst hc;exact⟨rfl,fun i off sz j x c h=>by simp at h⟩
 |(k,y)::ps,l,hc=>by
  simp only[B3] at hc
  split at hc
  ·rename_i off sz o l' h1 h2 h3
   cases hc
   obtain⟨e1,e2⟩:=W6 A h3
   refine⟨by simp[e1],fun i atJ aN j x c hi hj=>?_⟩
   cases i with
   |zero=>
    simp at hi hj
    obtain⟨rfl,rfl,rfl⟩:=hi
    obtain⟨rfl,rfl⟩:=hj
    exact⟨h1,bJ A h2⟩
   |succ i=>exact e2 i atJ aN j x c (by simpa using hi) (by simpa using hj)
  ·cases hc
theorem LI {n:Nat} {ρ:Env} {a:Act} (A:AR ι I w n ρ a): ∀{ps:List (Nat×Operand)} {l:List (Nat×aq)},C2 md ps=some l->
 l.length=ps.length/\ ∀(i j k:Nat) (x:aq) (c:Value),l[i]? =some (j,x)->(ps.map fun p=>(p.1,a.eval p.2))[i]? =some (k,c)->j=k/\OR ι I w ρ x c
 |[],l,hc=>by simp[C2] at hc;subst hc;exact⟨rfl,fun i j k x c h=>by simp at h⟩
 |(m,y)::ps,l,hc=>by
  simp only[C2] at hc
  split at hc
  ·rename_i o l' h1 h2
   cases hc
   obtain⟨e1,e2⟩:=LI A h2
   refine⟨by simp[e1],fun i j k x c hi hj=>?_⟩
   cases i with
   |zero=>
    simp at hi hj
    obtain⟨rfl,rfl⟩:=hi
    obtain⟨rfl,rfl⟩:=hj
    exact⟨rfl,bJ A h1⟩
   |succ i=>exact e2 i j k x c (by simpa using hi) (by simpa using hj)
  ·cases hc
theorem ahD {y:Operand} {nv:Value} (h:LU y=some nv):y= .const nv:=by
 unfold LU at h
 split at h
 ·split at h<;>first|(cases h;rfl)|(cases h)
 ·cases h
theorem Wv (op:BinOp) (t:TypeId) (x y:Operand) (a b:Value) (w:World) (hb:b≠ .nilIface/\ ∀cs,b≠ .agg cs):(eqGuard op t x y a b).run P w= .ok () w:=by
 cases op<;>first
  |rfl
  |(cases a<;>cases b<;>first|rfl|(exact(hb.1 rfl).elim)|(exact(hb.2 _ rfl).elim))
theorem alY (H:HR ι I h w) {n:Nat} {ρ:Env} {a:Act} (A:AR ι I w n ρ a) {op:BinOp} {t:TypeId} {x y:Operand} {q:bd} {v:AV} (hc:TI P md op t x y=some q) (hv:aY q ρ h=some v):
 NP P ι I h w v (do pure (.value (<-(do eqGuard op t x y (a.eval x) (a.eval y);binOp op t (a.eval x) (a.eval y))))):=by
 simp only[TI,Option.bind_eq_bind,Option.bind_eq_some_iff] at hc
 obtain⟨d,hd,o,ho,hc⟩:=hc
 have xQ:=bJ A ho
 have fin: ∀{s:Sem Value},eN P ι I h w v s->(eqGuard op t x y (a.eval x) (a.eval y)).run P w= .ok () w->s=binOp op t (a.eval x) (a.eval y)->
  NP P ι I h w v (do pure (.value (<-(do eqGuard op t x y (a.eval x) (a.eval y);binOp op t (a.eval x) (a.eval y))))):=by
  intro s hs hg he
  obtain⟨c,w',I',hr,cV,H',E⟩:=hs
  rw[he] at hr
  exact⟨c,w',I',by simp[hg,hr],cV,H',E⟩
 split at hc
 ·rename_i nv hnv
  simp only[Option.bind_eq_some_iff] at hc
  obtain⟨kd,AF,neg,xd,hc⟩:=hc
  cases hc
  have hy:=ahD hnv
  subst hy
  have bO:op=(if neg then .neq else .eql):=by
   unfold H9 at xd
   split at xd<;>cases xd<;>rfl
  have rD:nv≠ .nilIface/\ ∀cs,nv≠ .agg cs:=by
   unfold BG at AF
   split at AF<;>first|(cases AF;done)|exact⟨by simp,by simp⟩
  refine fin (akt (P:=P) H hd AF neg xQ hv) (Wv op t x (.const nv) (a.eval x) nv w rD) ?_
  rw[bO];rfl
 ·rename_i hnv
  simp only[Option.bind_eq_some_iff] at hc
  obtain⟨o2,rV,hc⟩:=hc
  have xO:=bJ A rV
  have plain: ∀tb,(tb=true->P.underlying t=some .bool)->q= .bin tb op o o2->NP P ι I h w v (do pure (.value (<-(do eqGuard op t x y (a.eval x) (a.eval y);binOp op t (a.eval x) (a.eval y))))):=by
   intro tb E7 hq
   subst hq
   simp only[aY] at hv
   refine fin (am5 (P:=P) H xQ xO hv t E7) (Wv op t x y _ _ w ?_) rfl
   have:(o2.ev ρ)≠ .undef/\(∀cs,o2.ev ρ≠ .agg cs)/\(o2.ev ρ)≠ .fD:=by
    refine⟨?_,?_,?_⟩
    ·intro he;rw[he] at hv;cases ej:o.ev ρ<;>simp[cw,ej] at hv
    ·intro cs he;rw[he] at hv;cases ej:o.ev ρ<;>simp[cw,ej] at hv
    ·intro he;rw[he] at hv;cases ej:o.ev ρ<;>simp[cw,ej] at hv
   have xP:VR ι I w (o2.ev ρ) (a.eval y):=xO
   generalize o2.ev ρ=z at this xP
   generalize a.eval y=c at xP
   cases xP<;>first|(exact(this.1 rfl).elim)|(exact(this.2.1 _ rfl).elim)|(exact(this.2.2 rfl).elim)|(exact⟨by simp,by simp⟩)
  split at hc
  ·cases hc;exact plain true (fun _=>hd) rfl
  ·cases hc;exact plain false (fun h=>by cases h) rfl
  ·cases hc;exact plain false (fun h=>by cases h) rfl
  ·cases hc;exact plain false (fun h=>by cases h) rfl
  ·cases hc;exact plain false (fun h=>by cases h) rfl
  ·rename_i fs
   simp only[Option.bind_eq_some_iff] at hc
   obtain⟨neg,xd,os,jK,hc⟩:=hc
   split at hc
   ·rename_i dD
    cases hc
    have bO:op=(if neg then .neq else .eql):=by
     unfold H9 at xd
     split at xd<;>cases xd<;>rfl
    simp only[aY] at hv
    have hs:=aku (P:=P) H hd dD.1 jK neg xQ xO hv
    refine fin hs ?_ (by rw[bO])
    have aoQ: ∃cs bF,a.eval x= .agg cs/\a.eval y= .agg bF:=by
     have ny:VR ι I w (o.ev ρ) (a.eval x):=xQ
     have xP:VR ι I w (o2.ev ρ) (a.eval y):=xO
     unfold BX at hv
     split at hv
     ·rename_i xs ys e1 e2
      rw[e1] at ny
      rw[e2] at xP
      generalize a.eval x=c1 at ny
      generalize a.eval y=c2 at xP
      cases ny;cases xP
      exact⟨_,_,rfl,rfl⟩
     ·cases hv
    obtain⟨cs,bF,e1,e2⟩:=aoQ
    rw[e1,e2]
    unfold eqGuard
    rw[bO]
    cases neg<;>simp[dD.2]
   ·cases hc
  ·cases hc
end
end
section
open Go
section
variable {P:Program} {md:Mode} {ι:aF} {I:aP} {h:aa} {w:World}
theorem ajz (H:HR ι I h w) {n:Nat} {ρ:Env} {a:Act} (A:AR ι I w n ρ a) {dst:Option Nat} {b:Builtin} {args:Array Operand} {ts:Array TypeId} {ty:TypeId} {q:bd} {v:AV}
 (hc:vS P md dst b args.toList ts.toList=some (.p q)) (hv:aY q ρ h=some v) (cs:Array Bool):NP P ι I h w v (builtin b ts ty cs (args.map a.eval)):=by
 obtain⟨args⟩:=args
 obtain⟨ts⟩:=ts
 simp only[List.map_toArray] at*
 unfold vS at hc
 split at hc
 ·rename_i x t
  simp only[Option.bind_eq_bind,Option.bind_eq_some_iff] at hc
  obtain⟨o,ho,d,hd,hc⟩:=hc
  have xQ:=bJ A ho
  split at hc
  ·cases hc;simp only[aY] at hv;exact(als (P:=P) H #[t] ty rfl hd xQ hv).next
  ·cases hc;simp only[aY] at hv;exact(ajd (P:=P) H #[t] ty rfl hd xQ hv).next
  ·cases hc
   simp only[aY] at hv
   cases hv
   exact(eN.same (P:=P) H (c:= .int .i64 _) (by simp[Builtin.len_,cG hd,goInt]) (.int _ _)).next
  ·cases hc
 ·simp only[Option.bind_eq_bind,Option.bind_eq_some_iff] at hc
  obtain⟨o,ho,o2,rV,d,hd,d2,vy,hc⟩:=hc
  split at hc
  ·simp only[Option.bind_eq_some_iff] at hc
   obtain⟨i,hi,z,hz,hc⟩:=hc
   split at hc
   ·split at hc<;>cases hc
   ·cases hc
  ·cases hc
 ·simp only[Option.bind_eq_bind,Option.bind_eq_some_iff] at hc
  obtain⟨o,ho,o2,rV,d,hd,d2,vy,hc⟩:=hc
  split at hc
  ·simp only[Option.bind_eq_some_iff] at hc
   obtain⟨sz,aO,hc⟩:=hc
   cases hc
  ·cases hc
 ·simp only[Option.bind_eq_bind,Option.bind_eq_some_iff] at hc
  obtain⟨o,ho,o2,rV,d,hd,hc⟩:=hc
  split at hc
  ·simp only[Option.bind_eq_some_iff] at hc
   obtain⟨dk,dq,hc⟩:=hc
   split at hc<;>cases hc
  ·cases hc
 ·rename_i x rest
  simp only[Option.bind_eq_bind,Option.bind_eq_some_iff] at hc
  obtain⟨o,ho,os,jK,hc⟩:=hc
  cases hc
  have hl:=vN A jK
  obtain⟨c,hr,gl⟩:=Lc (P:=P) os (rest.map a.eval) _ _ _ (by have:=hl.1;simpa using this) (fun i y c h1 h2=>hl.2 i _ c (by rw[List.getElem?_map,h1];rfl) h2) (bJ A ho) hv
  exact(eN.same (P:=P) (s:=Builtin.min_ _ ty _) H (by simp only[Builtin.min_,List.map_cons];exact hr) gl).next
 ·rename_i x rest
  simp only[Option.bind_eq_bind,Option.bind_eq_some_iff] at hc
  obtain⟨o,ho,os,jK,hc⟩:=hc
  cases hc
  have hl:=vN A jK
  obtain⟨c,hr,gl⟩:=Lc (P:=P) os (rest.map a.eval) _ _ _ (by have:=hl.1;simpa using this) (fun i y c h1 h2=>hl.2 i _ c (by rw[List.getElem?_map,h1];rfl) h2) (bJ A ho) hv
  exact(eN.same (P:=P) (s:=Builtin.max_ _ ty _) H (by simp only[Builtin.max_,List.map_cons];exact hr) gl).next
 ·rename_i x
  simp only[Option.bind_eq_bind,Option.bind_eq_some_iff] at hc
  obtain⟨o,ho,hc⟩:=hc
  cases hc
  exact(X9 (P:=P) H (im:=false) (bJ A ho) ⟨ts⟩ ty hv).next
 ·rename_i x
  simp only[Option.bind_eq_bind,Option.bind_eq_some_iff] at hc
  obtain⟨o,ho,hc⟩:=hc
  cases hc
  exact(X9 (P:=P) H (im:=true) (bJ A ho) ⟨ts⟩ ty hv).next
 ·cases hc
theorem ao9 (H:HR ι I h w) {n:Nat} {ρ:Env} {a:Act} (A:AR ι I w n ρ a) {o:Oper} {q:bd} {v:AV} (hc:rG P md o.dst o.op=some (.p q)) (hv:aY q ρ h=some v):
 NP P ι I h w v (execOp a.eval o):=by
 obtain⟨dst,op,ty,pos,after,guard⟩:=o
 simp only at hc
 unfold rG at hc
 split at hc
 case h_1 x=>
  simp only[Option.bind_eq_bind,Option.bind_eq_some_iff] at hc
  obtain⟨o,ho,hc⟩:=hc
  cases hc;cases hv
  exact⟨_,w,I,rfl,bJ A ho,H, .refl _ _ _ _ _⟩
 case h_2 x=>
  simp only[Option.bind_eq_bind,Option.bind_eq_some_iff] at hc
  obtain⟨o,ho,hc⟩:=hc
  cases hc;cases hv
  exact⟨_,w,I,rfl,bJ A ho,H, .refl _ _ _ _ _⟩
 case h_3 c x y=>
  simp only[Option.bind_eq_bind,Option.bind_eq_some_iff] at hc
  obtain⟨oc,Fc,ox,bk,oy,iG,hc⟩:=hc
  cases hc
  simp only[aY] at hv
  have gl:VR ι I w (oc.ev ρ) (a.eval c):=bJ A Fc
  unfold H6 at hv
  split at hv
  ·rename_i t ht
   rw[ht] at gl
   cases hv
   generalize hec:a.eval c=cc at gl
   cases gl
   refine⟨if t then a.eval x else a.eval y,w,I,?_,?_,H, .refl _ _ _ _ _⟩
   ·simp[execOp,hec,asBool]
   ·cases t
    ·exact bJ A iG
    ·exact bJ A bk
  ·cases hv
 case h_4 e=>simp only[Option.bind_eq_bind,Option.bind_eq_some_iff] at hc;obtain⟨_,_,hc⟩:=hc;cases hc
 case h_5 e x=>simp only[Option.bind_eq_bind,Option.bind_eq_some_iff] at hc;obtain⟨_,_,hc⟩:=hc;cases hc
 case h_6 t parts=>
  simp only[Option.bind_eq_bind,Option.bind_eq_some_iff] at hc
  obtain⟨za,ef,d,hd,hc⟩:=hc
  split at hc
  ·rename_i fs
   simp only[Option.bind_eq_some_iff] at hc
   obtain⟨sI,hp,ps,nF,hc⟩:=hc
   cases hc
   simp only[aY] at hv
   cases hf:jY ρ za ps with
   |none=>simp[hf] at hv
   |some r=>
    simp[hf] at hv
    subst hv
    obtain⟨i,z,hi,hz,aO,di⟩:=t7 ef
    obtain⟨e1,e2⟩:=W6 A nF
    refine(akA (P:=P) H (t:=t) (z:=z) (za:=za) (ps:=ps) (dJ:=parts.map fun(p:Nat×Operand)=>(p.1,a.eval p.2)) (place:=(sI.toArray[·]?)) ?_ (qJ di).1 (by simpa using e1) ?_ hf).next
    ·intro cells lu
     unfold Program.built
     simp only[hi,hd,hz,hp]
     exact lu
    ·intro i' off sz j x c h1 h2
     obtain⟨h3,h4⟩:=e2 i' off sz j x c h1 (by simpa using h2)
     exact⟨by simpa using h3,h4⟩
  ·cases hc
 case h_7 t n parts=>
  simp only[Option.bind_eq_bind,Option.bind_eq_some_iff] at hc
  obtain⟨d,hd,hc⟩:=hc
  split at hc
  ·rename_i e
   simp only[Option.bind_eq_some_iff] at hc
   obtain⟨za,ef,ps,nF,hc⟩:=hc
   split at hc
   ·rename_i fR
    split at hc
    ·cases hc
    ·cases hc
     simp only[aY] at hv
     cases hf:iv ρ za.length (List.replicate n za) ps with
     |none=>simp[hf] at hv
     |some rows=>
      simp[hf] at hv
      subst hv
      obtain⟨i,z,hi,hz,aO,di⟩:=t7 ef
      obtain⟨e1,e2⟩:=LI A nF
      have dg:=qJ (ι:=ι) (I:=I) (w:=w) di
      have gT:za.length=i.size:=by rw[aO,dg.1.1];simp
      exact(ajB (P:=P) H hd hi hz aO (by rw[<-gT];exact fR.2) dg.1 dg.2 fR.1 (dJ:=parts.map fun(p:Nat×Operand)=>(p.1,a.eval p.2)) (by simpa using e1)
       (fun i' j k x c h1 h2=>e2 i' j k x c h1 (by simpa using h2)) hf).next
   ·cases hc
  ·cases hc
 case h_8 t x=>
  simp only[Option.bind_eq_bind,Option.bind_eq_some_iff] at hc
  obtain⟨d,hd,sz,aO,ox,bk,hc⟩:=hc
  cases hc
  exact(alp (P:=P) H hd aO (bJ A bk) hv).next
 case h_9 t x y=>simp only[Option.bind_eq_bind,Option.bind_eq_some_iff] at hc;obtain⟨_,_,_,_,_,_,hc⟩:=hc;cases hc
 case h_10 x=>
  simp only[Option.bind_eq_bind,Option.bind_eq_some_iff] at hc
  obtain⟨ox,bk,hc⟩:=hc
  cases hc
  obtain⟨h1,h2,h3,h4,h5⟩:=ai4 H (bJ A bk) hv
  refine⟨a.eval x,w,I,?_,h5,H, .refl _ _ _ _ _⟩
  simp only[execOp]
  generalize a.eval x=c at h1 h2 h3 h4 ⊢
  rfl
 case h_11 op t x y _=>
  simp only[Option.bind_eq_bind,Option.bind_eq_some_iff] at hc
  obtain⟨q',nD,hc⟩:=hc
  cases hc
  exact alY H A nD hv
 case h_12 op _ x=>
  simp only[Option.bind_eq_bind,Option.bind_eq_some_iff] at hc
  obtain⟨ox,bk,hc⟩:=hc
  cases hc
  exact(am6 (P:=P) H (bJ A bk) hv).next
 case h_13 src TB x=>
  simp only[Option.bind_eq_bind,Option.bind_eq_some_iff] at hc
  obtain⟨ox,bk,ds,vx,dd,pk,hc⟩:=hc
  split at hc
  ·cases hc
   exact(ajS (P:=P) H vx pk (bJ A bk) hv).next
  ·simp only[Option.bind_eq_some_iff] at hc
   obtain⟨de,lY,hc⟩:=hc
   split at hc
   ·cases hc;exact(ahZ (P:=P) H vx lY pk (bJ A bk) hv).next
   ·cases hc
  ·simp only[Option.bind_eq_some_iff] at hc
   obtain⟨de,lY,hc⟩:=hc
   split at hc
   ·cases hc;exact(ahJ (P:=P) H vx pk lY (bJ A bk) hv).next
   ·cases hc
  ·simp only[Option.bind_eq_some_iff] at hc
   obtain⟨de,lY,hc⟩:=hc
   split at hc
   ·split at hc<;>cases hc
   ·cases hc
  ·cases hc
 case h_14 f first captured=>
  simp only[Option.bind_eq_bind,Option.bind_eq_some_iff] at hc
  obtain⟨os,jK,cs,eP,hc⟩:=hc
  cases hc;cases hv
  have h1:=vN A jK
  have h2:=vN A eP
  refine⟨_,w,I,rfl,?_,H, .refl _ _ _ _ _⟩
  have:=VR.fn (ι:=ι) (I:=I) (w:=w) f _ _ _ _ h1.1 h2.1 h1.2 h2.2
  have e1:(first.toList.map a.eval).toArray=first.map a.eval:=by apply Array.ext';simp
  have e2:(captured.toList.map a.eval).toArray=captured.map a.eval:=by apply Array.ext';simp
  rw[e1,e2] at this
  exact this
 case h_15 t=>cases hc
 case h_16 t l c=>
  simp only[Option.bind_eq_bind,Option.bind_eq_some_iff] at hc
  obtain⟨d,hd,hc⟩:=hc
  split at hc
  ·rename_i e
   simp only[Option.bind_eq_some_iff] at hc
   obtain⟨za,ef,i,hi,hc⟩:=hc
   split at hc
   ·rename_i fR
    simp only[Option.bind_eq_some_iff] at hc
    obtain⟨ol,UQ,oc,Fc,hc⟩:=hc
    split at hc
    ·cases hc
    ·cases hc
     simp only[aY] at hv
     cases hm:ll i.bytes (ol.ev ρ) (oc.ev ρ) with
     |none=>simp[hm] at hv
     |some k=>
      simp[hm] at hv
      subst hv
      obtain⟨i',z,aA,hz,aO,di⟩:=t7 ef
      rw[hi] at aA
      cases aA
      have dg:=qJ (ι:=ι) (I:=I) (w:=w) di
      exact(aik (P:=P) H hd hi hz aO rfl dg.1 dg.2 fR (bJ A UQ) (bJ A Fc) hm).next
   ·cases hc
  ·cases hc
 case h_17 t x lo hi mx=>
  simp only[Option.bind_eq_bind,Option.bind_eq_some_iff] at hc
  obtain⟨d,hd,hc⟩:=hc
  split at hc
  ·rename_i e
   simp only[Option.bind_eq_some_iff] at hc
   obtain⟨sz,aO,ox,bk,olo,auj,ohi,aum,omx,aui,hc⟩:=hc
   cases hc
   exact(ame (P:=P) H hd aO (L5 A auj) (L5 A aum) (L5 A aui) (bJ A bk) hv).next
  ·cases hc
 case h_18 s x f=>
  simp only[Option.bind_eq_bind,Option.bind_eq_some_iff] at hc
  obtain⟨d,hd,hc⟩:=hc
  split at hc
  ·simp only[Option.bind_eq_some_iff] at hc
   obtain⟨fd,U6,sz,aO,hc⟩:=hc
   split at hc
   ·rename_i h0
    simp only[Option.bind_eq_some_iff] at hc
    obtain⟨ox,bk,hc⟩:=hc
    cases hc
    exact(akp (P:=P) H hd U6 aO h0 (bJ A bk) hv).next
   ·cases hc
  ·cases hc
 case h_19 s x f=>
  simp only[Option.bind_eq_bind,Option.bind_eq_some_iff] at hc
  obtain⟨d,hd,hc⟩:=hc
  split at hc
  ·simp only[Option.bind_eq_some_iff] at hc
   obtain⟨fd,U6,dd,pk,sz,aO,ox,bk,hc⟩:=hc
   cases hc
   exact(amD (P:=P) H hd U6 pk aO (bJ A bk) hv).next
  ·cases hc
 case h_20 t x i=>
  simp only[Option.bind_eq_bind,Option.bind_eq_some_iff] at hc
  obtain⟨d,hd,hc⟩:=hc
  split at hc
  ·simp only[Option.bind_eq_some_iff] at hc
   obtain⟨sz,aO,ox,bk,oi,mE,hc⟩:=hc
   cases hc
   exact(ajl (P:=P) H hd aO (bJ A bk) (bJ A mE) hv).next
  ·simp only[Option.bind_eq_some_iff] at hc
   obtain⟨sz,aO,ox,bk,oi,mE,hc⟩:=hc
   cases hc
   exact(ajm (P:=P) H hd aO (bJ A bk) (bJ A mE) hv).next
  ·cases hc
 case h_21 t x i=>
  simp only[Option.bind_eq_bind,Option.bind_eq_some_iff] at hc
  obtain⟨d,hd,hc⟩:=hc
  split at hc
  ·simp only[Option.bind_eq_some_iff] at hc
   obtain⟨dd,pk,sz,aO,ox,bk,oi,mE,hc⟩:=hc
   cases hc
   exact(alB (P:=P) H hd pk aO (bJ A bk) (bJ A mE) hv).next
  ·cases hc
 case h_22 t m k ok=>
  simp only[Option.bind_eq_bind,Option.bind_eq_some_iff] at hc
  obtain⟨d,hd,hc⟩:=hc
  split at hc
  ·simp only[Option.bind_eq_some_iff] at hc
   obtain⟨dk,dq,hc⟩:=hc
   split at hc
   ·simp only[Option.bind_eq_some_iff] at hc
    obtain⟨i,hi,z,hz,za,ef,om,c5,ok',aul,hc⟩:=hc
    cases hc
    exact(ai9 (P:=P) H hd dq hi hz (W5 ef) ok (bJ A c5) (bJ A aul) hv).next
   ·cases hc
  ·cases hc
 case h_23 t m k x=>
  simp only[Option.bind_eq_bind,Option.bind_eq_some_iff] at hc
  obtain⟨d,hd,hc⟩:=hc
  split at hc
  ·simp only[Option.bind_eq_some_iff] at hc
   obtain⟨dk,dq,hc⟩:=hc
   split at hc
   ·simp only[Option.bind_eq_some_iff] at hc
    obtain⟨_,_,_,_,_,_,hc⟩:=hc
    cases hc
   ·cases hc
  ·cases hc
 case h_24 x i=>
  simp only[Option.bind_eq_bind,Option.bind_eq_some_iff] at hc
  obtain⟨ox,bk,hc⟩:=hc
  cases hc
  exact(amF (P:=P) H (bJ A bk) hv).next
 case h_25 c=>
  split at hc
  ·split at hc
   ·simp only[Option.bind_eq_bind,Option.bind_eq_some_iff] at hc;obtain⟨_,_,hc⟩:=hc;cases hc
   ·cases hc
  ·simp only[Option.bind_eq_bind,Option.bind_eq_some_iff] at hc;obtain⟨_,_,_,_,hc⟩:=hc;cases hc
  ·rename_i b hb
   obtain⟨c1,v1,I1,hr,CT⟩:=ajz H A hc hv (c.args.map fun| .const _=>true|_=>false)
   refine⟨c1,v1,I1,?_,CT⟩
   simp only[execOp,resolve,hb,Sem.run_bind,Sem.run_pure,Result.andThen_ok,invoke]
   exact hr
  ·cases hc
 case h_26=>cases hc
theorem Gq {dst:Option Nat} {op:Op} {r:bX} (hc:so P md dst op=some r):cX P md dst op=some r\/rG P md dst op=some r\/r= .p .stuck:=by
 unfold so at hc
 split at hc
 ·rename_i r' h;cases hc;exact .inl h
 ·split at hc
  ·rename_i r' h;cases hc;exact .inr (.inl h)
  ·cases hc;exact .inr (.inr rfl)
theorem GB {dst:Option Nat} {b:Builtin} {args:List Operand} {ts:List TypeId} {r:bX} (hc:cK P md dst b args ts=some r):
 (∃x y t tx a c e k za i,b= .append/\args=[x,y]/\ts=[t,tx]/\bj md.pr x=some a/\bj md.pr y=some c/\P.underlying t=some (.slice e)/\P.underlying tx=some (.int k)/\zeroOf P md e=some za/\P.info? e=some i/\za.length≠0/\r= .e (.oh i.bytes za a c))\/
 (∃x t a e,b= .cap/\args=[x]/\ts=[t]/\bj md.pr x=some a/\P.underlying t=some (.slice e)/\r= .p (.sX a))\/
 (∃x t a e za,b= .clear/\args=[x]/\ts=[t]/\bj md.pr x=some a/\P.underlying t=some (.slice e)/\zeroOf P md e=some za/\za.length≠0/\r= .e (.oz za a))\/
 (∃x y t tx a c e sz,b= .copy/\args=[x,y]/\ts=[t,tx]/\bj md.pr x=some a/\bj md.pr y=some c/\P.underlying t=some (.slice e)/\nj P e=some sz/\r= .e (.m9 sz a c)):=by
 unfold cK at hc
 split at hc
 ·rename_i x y t tx
  simp only[Option.bind_eq_bind,Option.bind_eq_some_iff] at hc
  obtain⟨a,ha,c,iV,d,hd,d2,vy,hc⟩:=hc
  split at hc
  ·rename_i e k
   simp only[Option.bind_eq_some_iff] at hc
   obtain⟨za,ef,i,hi,hc⟩:=hc
   split at hc
   ·rename_i h0
    cases hc
    exact .inl ⟨x,y,t,tx,a,c,e,k,za,i,rfl,rfl,rfl,ha,iV,hd,vy,ef,hi,h0,rfl⟩
   ·cases hc
  ·cases hc
 ·rename_i x t
  simp only[Option.bind_eq_bind,Option.bind_eq_some_iff] at hc
  obtain⟨a,ha,d,hd,hc⟩:=hc
  split at hc
  ·rename_i e
   cases hc
   exact .inr (.inl ⟨x,t,a,e,rfl,rfl,rfl,ha,hd,rfl⟩)
  ·cases hc
 ·rename_i x t
  simp only[Option.bind_eq_bind,Option.bind_eq_some_iff] at hc
  obtain⟨a,ha,d,hd,hc⟩:=hc
  split at hc
  ·rename_i e
   simp only[Option.bind_eq_some_iff] at hc
   obtain⟨za,ef,hc⟩:=hc
   split at hc
   ·rename_i h0
    cases hc
    exact .inr (.inr (.inl ⟨x,t,a,e,za,rfl,rfl,rfl,ha,hd,ef,h0,rfl⟩))
   ·cases hc
  ·cases hc
 ·rename_i x y t tx
  split at hc
  ·simp only[Option.bind_eq_bind,Option.bind_eq_some_iff] at hc
   obtain⟨a,ha,c,iV,d,hd,hc⟩:=hc
   split at hc
   ·rename_i e
    simp only[Option.bind_eq_some_iff] at hc
    obtain⟨sz,aO,hc⟩:=hc
    cases hc
    exact .inr (.inr (.inr ⟨x,y,t,tx,a,c,e,sz,rfl,rfl,rfl,ha,iV,hd,aO,rfl⟩))
   ·cases hc
  ·cases hc
 ·cases hc
theorem aki {f:Nat} {t:TypeId} (hf:PE P f=some t) (args:Array Value) (w:World):
 ∃t2 rt,(callFunc f args).run P w=((Extern.SlicesOverlaps.overlaps #[t,t2] #[rt] args).run P w).andThen fun v w'=> .ok (.value v) w':=by
 unfold PE at hf
 split at hf
 ·rename_i fn iU
  split at hf
  ·rename_i t' t2 rt hp hr
   split at hf
   ·rename_i fR
    rw[Option.some.injEq] at hf
    subst hf
    simp only[Bool.and_eq_true,bne_iff_ne,ne_eq,beq_iff_eq,Option.isNone_iff_eq_none] at fR
    obtain⟨⟨⟨⟨⟨⟨h1,h2⟩,h3⟩,h4⟩,h5⟩,h6⟩,h7⟩:=fR
    have ep:fn.params= #[t',t2]:=by apply Array.ext';simpa using hp
    have er:fn.resultTypes= #[rt]:=by apply Array.ext';simpa using hr
    have g1:Extern.allGenericRows.lookup "slices.overlaps" =none:=by kernel_rfl
    have g2:Extern.allTypedRows.lookup "slices.overlaps" =some Extern.SlicesOverlaps.overlaps:=by kernel_rfl
    have g3:Extern.allNextRows.lookup "slices.overlaps" =none:=by kernel_rfl
    have e1:Extern.findNext fn=none:=by simp[Extern.findNext,h3,h7,g3]
    have e2:Extern.find fn=some (Extern.SlicesOverlaps.overlaps #[t',t2] #[rt]):=by simp[Extern.find,h3,h4,h5,h6,g1,g2,ep,er]
    exact⟨t2,rt,run_callFunc_extern iU (by simpa using h1) (by simp[h2]) e1 e2 args w⟩
   ·cases hf
  ·cases hf
 ·cases hf
theorem asQ (H:HR ι I h w) {n:Nat} {ρ:Env} {a:Act} (A:AR ι I w n ρ a) {o:Oper} {q:bd} {v:AV} (hc:so P md o.dst o.op=some (.p q)) (hv:aY q ρ h=some v):
 NP P ι I h w v (execOp a.eval o):=by
 replace hc:=Gq hc
 rcases hc with hc|hc|hc
 ·obtain⟨dst,op,ty,pos,after,guard⟩:=o
  simp only at hc
  unfold cX at hc
  split at hc
  ·rename_i t x i
   simp only[Option.bind_eq_bind,Option.bind_eq_some_iff] at hc
   obtain⟨d,hd,hc⟩:=hc
   split at hc
   ·simp only[Option.bind_eq_some_iff] at hc
    obtain⟨ox,bk,oi,mE,hc⟩:=hc
    cases hc
    exact(ajk (P:=P) H hd (bJ A bk) (bJ A mE) hv).next
   ·cases hc
  ·simp only[Option.bind_eq_bind,Option.bind_eq_some_iff] at hc
   obtain⟨d,hd,hc⟩:=hc
   split at hc
   ·simp only[Option.bind_eq_some_iff] at hc
    obtain⟨ox,bk,hc⟩:=hc
    cases hc
    simp only[aY] at hv
    cases hv
   ·cases hc
  ·split at hc
   ·cases hc
   ·simp only[Option.map_eq_some_iff] at hc
    obtain⟨ox,bk,hc⟩:=hc
    cases hc
    simp only[aY] at hv
    cases hv
  ·simp only[Option.map_eq_some_iff] at hc
   obtain⟨ox,bk,hc⟩:=hc
   cases hc
   simp only[aY] at hv
   cases hv
  ·rename_i c
   split at hc
   ·rename_i f hf
    split at hc
    ·rename_i t x y ht eL
     simp only[Option.bind_eq_bind,Option.bind_eq_some_iff] at hc
     obtain⟨d,hd,hc⟩:=hc
     split at hc
     ·simp only[Option.bind_eq_some_iff] at hc
      obtain⟨sz,aO,ox,bk,oy,iG,hc⟩:=hc
      cases hc
      obtain⟨t2,rt,bT⟩:=aki (P:=P) ht #[a.eval x,a.eval y] w
      obtain⟨c1,w1,I1,hr,gl,H1,E1⟩:=amh (P:=P) (t2:=t2) (rt:=rt) H hd aO (bJ A bk) (bJ A iG) hv
      refine⟨c1,w1,I1,?_,gl,H1,E1⟩
      have ea:c.args= #[x,y]:=by apply Array.ext';simpa using eL
      simp only[execOp,resolve,hf,Act.eval,Deferred.ofValue,Sem.run_bind,Sem.run_pure,Result.andThen_ok,invoke,ea]
      simp only[List.map_toArray,List.map_cons,List.map_nil]
      have:=bT
      rw[hr] at this
      simpa using this
     ·cases hc
    ·cases hc
   ·rename_i b hb
    rcases GB hc with⟨_,_,_,_,_,_,_,_,_,_,_,_,_,_,_,_,_,_,_,_,h⟩|⟨x,t,o,e,rfl,eL,qo,ho,ht,h⟩|⟨_,_,_,_,_,_,_,_,_,_,_,_,h⟩|⟨_,_,_,_,_,_,_,_,_,_,_,_,_,_,_,h⟩
    ·cases h
    ·cases h
     simp only[aY] at hv
     cases bw:va (o.ev ρ) with
     |none=>simp[bw] at hv
     |some k=>
      simp[bw] at hv
      subst hv
      obtain⟨c1,w1,I1,hr,gl,H1,E1⟩:=amN (P:=P) (ty:=ty) H ht (bJ A ho) bw
      refine⟨c1,w1,I1,?_,gl,H1,E1⟩
      have ea:c.args= #[x]:=by apply Array.ext';simpa using eL
      have et:c.argTypes= #[t]:=by apply Array.ext';simpa using qo
      simp only[execOp,resolve,hb,Sem.run_bind,Sem.run_pure,Result.andThen_ok,invoke,ea,et,List.map_toArray,List.map_cons,List.map_nil,builtin]
      simp[hr]
    ·cases h
    ·cases h
   ·cases hc
  ·cases hc
 ·exact ao9 H A hc hv
 ·cases hc;cases hv
end
end
section
open Go
section
variable {P:Program} {md:Mode} {ι:aF} {I:aP} {h:aa} {w:World}
theorem apb (H:HR ι I h w) {n:Nat} {ρ:Env} {a:Act} (A:AR ι I w n ρ a) {o:Oper} {q:jO} {id:Nat} (aJ:ι id=none) {b:cF} {v:AV} (hc:rG P md o.dst o.op=some (.a q)) (hv:gP q ρ id=some (b,v)):
 NE P ι I h w id v (h.at id b) (execOp a.eval o):=by
 obtain⟨dst,op,ty,pos,after,guard⟩:=o
 simp only at hc
 unfold rG at hc
 split at hc
 case h_4 e=>
  simp only[Option.bind_eq_bind,Option.bind_eq_some_iff] at hc
  obtain⟨za,ef,hc⟩:=hc
  cases hc
  simp only[gP,Option.some.injEq,Prod.mk.injEq] at hv
  obtain⟨rfl,rfl⟩:=hv
  obtain⟨i,z,hi,hz,aO,di⟩:=t7 ef
  have dg:=qJ (ι:=ι) (I:=I) (w:=w) di
  exact(akH (P:=P) H aJ hi hz dg.1 dg.2).next
 case h_5 e x=>
  simp only[Option.bind_eq_bind,Option.bind_eq_some_iff] at hc
  obtain⟨ox,bk,hc⟩:=hc
  cases hc
  simp only[gP] at hv
  split at hv
  ·rename_i gD
   simp only[Option.some.injEq,Prod.mk.injEq] at hv
   obtain⟨rfl,rfl⟩:=hv
   exact(am2 (P:=P) H aJ (bJ A bk) gD e).next
  ·cases hv
 case h_7 t n parts=>
  simp only[Option.bind_eq_bind,Option.bind_eq_some_iff] at hc
  obtain⟨d,hd,hc⟩:=hc
  split at hc
  ·rename_i e
   simp only[Option.bind_eq_some_iff] at hc
   obtain⟨za,ef,ps,nF,hc⟩:=hc
   split at hc
   ·rename_i fR
    split at hc
    ·cases hc
     simp only[gP] at hv
     cases hf:iv ρ za.length (List.replicate n za) ps with
     |none=>simp[hf] at hv
     |some rows=>
      simp[hf] at hv
      obtain⟨rfl,rfl⟩:=hv
      obtain⟨i,z,hi,hz,aO,di⟩:=t7 ef
      obtain⟨e1,e2⟩:=LI A nF
      have dg:=qJ (ι:=ι) (I:=I) (w:=w) di
      have gT:za.length=i.size:=by rw[aO,dg.1.1];simp
      exact(aiE (P:=P) H aJ hd hi hz aO (by rw[<-gT];exact fR.2) dg.1 dg.2 fR.1 (dJ:=parts.map fun(p:Nat×Operand)=>(p.1,a.eval p.2)) (by simpa using e1)
       (fun i' j k x c h1 h2=>e2 i' j k x c h1 (by simpa using h2)) hf).next
    ·cases hc
   ·cases hc
  ·cases hc
 case h_13 src TB x=>
  simp only[Option.bind_eq_bind,Option.bind_eq_some_iff] at hc
  obtain⟨ox,bk,ds,vx,dd,pk,hc⟩:=hc
  split at hc
  ·cases hc
  ·simp only[Option.bind_eq_some_iff] at hc
   obtain⟨de,lY,hc⟩:=hc
   split at hc<;>cases hc
  ·simp only[Option.bind_eq_some_iff] at hc
   obtain⟨de,lY,hc⟩:=hc
   split at hc<;>cases hc
  ·simp only[Option.bind_eq_some_iff] at hc
   obtain⟨de,lY,hc⟩:=hc
   split at hc
   ·split at hc
    ·cases hc
    ·cases hc
   ·cases hc
  ·cases hc
 case h_15 t=>
  cases hc
  simp only[gP,Option.some.injEq,Prod.mk.injEq] at hv
  obtain⟨rfl,rfl⟩:=hv
  exact(aj9 (P:=P) H aJ t).next
 case h_16 t l c=>
  simp only[Option.bind_eq_bind,Option.bind_eq_some_iff] at hc
  obtain⟨d,hd,hc⟩:=hc
  split at hc
  ·rename_i e
   simp only[Option.bind_eq_some_iff] at hc
   obtain⟨za,ef,i,hi,hc⟩:=hc
   split at hc
   ·rename_i fR
    simp only[Option.bind_eq_some_iff] at hc
    obtain⟨ol,UQ,oc,Fc,hc⟩:=hc
    split at hc
    ·cases hc
     simp only[gP] at hv
     cases hm:ll i.bytes (ol.ev ρ) (oc.ev ρ) with
     |none=>simp[hm] at hv
     |some k=>
      simp[hm] at hv
      obtain⟨rfl,rfl⟩:=hv
      obtain⟨i',z,aA,hz,aO,di⟩:=t7 ef
      rw[hi] at aA
      cases aA
      have dg:=qJ (ι:=ι) (I:=I) (w:=w) di
      exact(ahP (P:=P) H aJ hd hi hz aO rfl dg.1 dg.2 fR (bJ A UQ) (bJ A Fc) hm).next
    ·cases hc
   ·cases hc
  ·cases hc
 case h_25 c=>
  split at hc
  ·split at hc
   ·simp only[Option.bind_eq_bind,Option.bind_eq_some_iff] at hc;obtain⟨_,_,hc⟩:=hc;cases hc
   ·cases hc
  ·simp only[Option.bind_eq_bind,Option.bind_eq_some_iff] at hc;obtain⟨_,_,_,_,hc⟩:=hc;cases hc
  ·rename_i b' hb
   unfold vS at hc
   split at hc<;>try simp only[Option.bind_eq_bind,Option.bind_eq_some_iff] at hc
   ·obtain⟨_,_,_,_,hc⟩:=hc;split at hc<;>cases hc
   ·obtain⟨_,_,_,_,_,_,_,_,hc⟩:=hc
    split at hc
    ·simp only[Option.bind_eq_some_iff] at hc
     obtain⟨_,_,_,_,hc⟩:=hc
     split at hc
     ·split at hc<;>cases hc
     ·cases hc
    ·cases hc
   ·obtain⟨_,_,_,_,_,_,_,_,hc⟩:=hc
    split at hc
    ·simp only[Option.bind_eq_some_iff] at hc;obtain⟨_,_,hc⟩:=hc;cases hc
    ·cases hc
   ·obtain⟨_,_,_,_,_,_,hc⟩:=hc
    split at hc
    ·simp only[Option.bind_eq_some_iff] at hc;obtain⟨_,_,hc⟩:=hc;split at hc<;>cases hc
    ·cases hc
   ·obtain⟨_,_,_,_,hc⟩:=hc;cases hc
   ·obtain⟨_,_,_,_,hc⟩:=hc;cases hc
   ·obtain⟨_,_,hc⟩:=hc;cases hc
   ·obtain⟨_,_,hc⟩:=hc;cases hc
   ·cases hc
  ·cases hc
 all_goals (first
  |(cases hc;done)
  |(simp only[Option.bind_eq_bind,Option.bind_eq_some_iff] at hc
    first
    |(obtain⟨_,_,hc⟩:=hc;cases hc;done)
    |(obtain⟨_,_,_,_,hc⟩:=hc;cases hc;done)
    |(obtain⟨_,_,_,_,_,_,hc⟩:=hc;cases hc;done)
    |(obtain⟨_,_,hc⟩:=hc
      split at hc<;>first
       |(cases hc;done)
       |(simp only[Option.bind_eq_some_iff] at hc
         first
         |(obtain⟨_,_,_,_,_,_,hc⟩:=hc;cases hc;done)
         |(obtain⟨_,_,_,_,_,_,_,_,hc⟩:=hc;cases hc;done)
         |(obtain⟨_,_,_,_,_,_,_,_,_,_,hc⟩:=hc;cases hc;done)
         |(obtain⟨_,_,_,_,hc⟩:=hc;cases hc;done)
         |(obtain⟨_,_,_,_,hc⟩:=hc
           split at hc
           ·simp only[Option.bind_eq_some_iff] at hc;obtain⟨_,_,hc⟩:=hc;cases hc
           ·cases hc)
         |(obtain⟨_,_,hc⟩:=hc
           split at hc<;>first
            |(cases hc;done)
            |(simp only[Option.bind_eq_some_iff] at hc
              first
              |(obtain⟨_,_,_,_,_,_,_,_,_,_,hc⟩:=hc;cases hc;done)
              |(obtain⟨_,_,_,_,_,_,hc⟩:=hc;cases hc;done)))))
    |(obtain⟨_,_,_,_,_,_,hc⟩:=hc
      split at hc<;>first
       |(cases hc;done)
       |(simp only[Option.bind_eq_some_iff] at hc
         obtain⟨_,_,hc⟩:=hc
         split at hc<;>cases hc))
    |(obtain⟨_,_,_,_,hc⟩:=hc
      split at hc
      ·simp only[Option.bind_eq_some_iff] at hc;obtain⟨_,_,_,_,hc⟩:=hc;cases hc
      ·cases hc)))
theorem akx {ρ:Env} {sz id:Nat} {x y:aq} {v:AV} {h h':aa} (hv:bM (.copy sz x y) ρ id h=some (v,h')): ∃u,cP sz h (y.ev ρ)=some u:=by
 simp only[bM] at hv
 split at hv
 ·split at hv
  ·rename_i ys cs h1 h2;exact⟨ys,h1⟩
  ·cases hv
 ·split at hv
  ·rename_i ys h1;exact⟨ys,h1⟩
  ·cases hv
 ·split at hv
  ·rename_i ys h1;exact⟨ys,h1⟩
  ·cases hv
 ·cases hv
theorem ajA (H:HR ι I h w) {n:Nat} {ρ:Env} {a:Act} (A:AR ι I w n ρ a) {dst:Option Nat} {b:Builtin} {args:Array Operand} {ts:Array TypeId} {ty:TypeId} {q:gn} {id:Nat} (aJ:ι id=none) {v:AV} {h':aa}
 (hc:vS P md dst b args.toList ts.toList=some (.e q)) (hv:bM q ρ id h=some (v,h')) (cs:Array Bool):NE P ι I h w id v h' (builtin b ts ty cs (args.map a.eval)):=by
 obtain⟨args⟩:=args
 obtain⟨ts⟩:=ts
 simp only[List.map_toArray] at*
 unfold vS at hc
 split at hc<;>try simp only[Option.bind_eq_bind,Option.bind_eq_some_iff] at hc
 ·obtain⟨_,_,_,_,hc⟩:=hc;split at hc<;>cases hc
 ·rename_i x y t tx
  obtain⟨ox,bk,oy,iG,d,hd,d2,vy,hc⟩:=hc
  split at hc
  ·rename_i e e'
   simp only[Option.bind_eq_some_iff] at hc
   obtain⟨i,hi,z,hz,hc⟩:=hc
   split at hc
   ·rename_i fR
    obtain⟨rfl,rQ,h0⟩:=fR
    have T:td P t tx e i.size i.bytes:=⟨hd,vy,⟨i,z,hi,hz,rfl,rfl,rQ⟩,h0⟩
    split at hc
    ·cases hc
     exact(aiI (P:=P) H aJ T (bJ A bk) (bJ A iG) rfl rfl hv).next
    ·cases hc
     exact(ajD (P:=P) H aJ T (bJ A bk) (bJ A iG) rfl rfl hv).next
   ·cases hc
  ·cases hc
 ·rename_i x y t tx
  obtain⟨ox,bk,oy,iG,d,hd,d2,vy,hc⟩:=hc
  split at hc
  ·rename_i e e'
   simp only[Option.bind_eq_some_iff] at hc
   obtain⟨sz,aO,hc⟩:=hc
   cases hc
   have xO:VR ι I w (oy.ev ρ) (a.eval y):=bJ A iG
   have qq:(∃u,cP sz h (oy.ev ρ)=some u)-> ∃p q r,a.eval y= .slice p q r:=by
    rintro⟨u,hu⟩
    obtain⟨p,q,r,hq,_⟩:=vO H xO hu
    exact⟨_,_,_,hq⟩
   exact(alU (P:=P) H hd aO id (bJ A bk) xO rfl rfl hv ⟨_,vy⟩ (qq (akx hv))).next
  ·cases hc
 ·rename_i m k t tx
  obtain⟨om,c5,ok,bc,d,hd,hc⟩:=hc
  split at hc
  ·simp only[Option.bind_eq_some_iff] at hc
   obtain⟨dk,dq,hc⟩:=hc
   split at hc
   ·cases hc
    exact(ai7 (P:=P) H id hd dq (bJ A c5) (bJ A bc) rfl rfl hv).next
   ·cases hc
  ·cases hc
 ·obtain⟨_,_,_,_,hc⟩:=hc;cases hc
 ·obtain⟨_,_,_,_,hc⟩:=hc;cases hc
 ·obtain⟨_,_,hc⟩:=hc;cases hc
 ·obtain⟨_,_,hc⟩:=hc;cases hc
 ·cases hc
theorem apa (H:HR ι I h w) {n:Nat} {ρ:Env} {a:Act} (A:AR ι I w n ρ a) {o:Oper} {q:gn} {id:Nat} (aJ:ι id=none) {v:AV} {h':aa} (hc:rG P md o.dst o.op=some (.e q)) (hv:bM q ρ id h=some (v,h')):
 NE P ι I h w id v h' (execOp a.eval o):=by
 obtain⟨dst,op,ty,pos,after,guard⟩:=o
 simp only at hc
 unfold rG at hc
 split at hc
 case h_7 t n parts=>
  simp only[Option.bind_eq_bind,Option.bind_eq_some_iff] at hc
  obtain⟨d,hd,hc⟩:=hc
  split at hc
  ·simp only[Option.bind_eq_some_iff] at hc
   obtain⟨_,_,_,_,hc⟩:=hc
   split at hc
   ·split at hc<;>cases hc
   ·cases hc
  ·cases hc
 case h_9 t x y=>
  simp only[Option.bind_eq_bind,Option.bind_eq_some_iff] at hc
  obtain⟨sz,aO,ox,bk,oy,iG,hc⟩:=hc
  cases hc
  obtain⟨rfl,w',hr,H',E⟩:=ajX (P:=P) H aO (bJ A bk) (bJ A iG) hv
  exact⟨_, .bool true,w',ι,I,by simp[execOp,hr], .inr ⟨rfl,rfl⟩, .undef _,H',E.mono (fun _ h=>h.elim)⟩
 case h_13 src TB x=>
  simp only[Option.bind_eq_bind,Option.bind_eq_some_iff] at hc
  obtain⟨ox,bk,ds,vx,dd,pk,hc⟩:=hc
  split at hc
  ·cases hc
  ·simp only[Option.bind_eq_some_iff] at hc
   obtain⟨de,lY,hc⟩:=hc
   split at hc<;>cases hc
  ·simp only[Option.bind_eq_some_iff] at hc
   obtain⟨de,lY,hc⟩:=hc
   split at hc<;>cases hc
  ·simp only[Option.bind_eq_some_iff] at hc
   obtain⟨de,lY,hc⟩:=hc
   split at hc
   ·split at hc
    ·rename_i UL
     cases hc
     subst UL
     exact(alm (P:=P) H vx lY id (bJ A bk) rfl hv).next
    ·cases hc
   ·cases hc
  ·cases hc
 case h_16 t l c=>
  simp only[Option.bind_eq_bind,Option.bind_eq_some_iff] at hc
  obtain⟨d,hd,hc⟩:=hc
  split at hc
  ·simp only[Option.bind_eq_some_iff] at hc
   obtain⟨_,_,_,_,hc⟩:=hc
   split at hc
   ·simp only[Option.bind_eq_some_iff] at hc
    obtain⟨_,_,_,_,hc⟩:=hc
    split at hc<;>cases hc
   ·cases hc
  ·cases hc
 case h_23 t m k x=>
  simp only[Option.bind_eq_bind,Option.bind_eq_some_iff] at hc
  obtain⟨d,hd,hc⟩:=hc
  split at hc
  ·simp only[Option.bind_eq_some_iff] at hc
   obtain⟨dk,dq,hc⟩:=hc
   split at hc
   ·simp only[Option.bind_eq_some_iff] at hc
    obtain⟨om,c5,ok,bc,ov,tE,hc⟩:=hc
    cases hc
    obtain⟨rfl,w',hr,H',E⟩:=ai6 (P:=P) H id hd dq (bJ A c5) (bJ A bc) (bJ A tE) rfl rfl rfl hv
    exact⟨_, .bool true,w',ι,I,by simp[execOp,hr], .inr ⟨rfl,rfl⟩, .undef _,H',E.mono (fun _ h=>h.elim)⟩
   ·cases hc
  ·cases hc
 case h_25 c=>
  split at hc
  ·split at hc
   ·simp only[Option.bind_eq_bind,Option.bind_eq_some_iff] at hc;obtain⟨_,_,hc⟩:=hc;cases hc
   ·cases hc
  ·simp only[Option.bind_eq_bind,Option.bind_eq_some_iff] at hc;obtain⟨_,_,_,_,hc⟩:=hc;cases hc
  ·rename_i b hb
   obtain⟨x1,c1,w1,ι1,I1,hr,CT⟩:=ajA H A (ty:=ty) aJ hc hv (c.args.map fun| .const _=>true|_=>false)
   refine⟨x1,c1,w1,ι1,I1,?_,CT⟩
   simp only[execOp,resolve,hb,Sem.run_bind,Sem.run_pure,Result.andThen_ok,invoke]
   exact hr
  ·cases hc
 all_goals (first
  |(cases hc;done)
  |(simp only[Option.bind_eq_bind,Option.bind_eq_some_iff] at hc
    first
    |(obtain⟨_,_,hc⟩:=hc;cases hc;done)
    |(obtain⟨_,_,_,_,hc⟩:=hc;cases hc;done)
    |(obtain⟨_,_,_,_,_,_,hc⟩:=hc;cases hc;done)
    |(obtain⟨_,_,hc⟩:=hc
      split at hc<;>first
       |(cases hc;done)
       |(simp only[Option.bind_eq_some_iff] at hc
         first
         |(obtain⟨_,_,_,_,_,_,hc⟩:=hc;cases hc;done)
         |(obtain⟨_,_,_,_,_,_,_,_,hc⟩:=hc;cases hc;done)
         |(obtain⟨_,_,_,_,_,_,_,_,_,_,hc⟩:=hc;cases hc;done)
         |(obtain⟨_,_,_,_,hc⟩:=hc;cases hc;done)
         |(obtain⟨_,_,_,_,hc⟩:=hc
           split at hc
           ·simp only[Option.bind_eq_some_iff] at hc;obtain⟨_,_,hc⟩:=hc;cases hc
           ·cases hc)
         |(obtain⟨_,_,hc⟩:=hc
           split at hc<;>first
            |(cases hc;done)
            |(simp only[Option.bind_eq_some_iff] at hc
              first
              |(obtain⟨_,_,_,_,_,_,_,_,_,_,hc⟩:=hc;cases hc;done)
              |(obtain⟨_,_,_,_,_,_,hc⟩:=hc;cases hc;done)))))
    |(obtain⟨_,_,_,_,_,_,hc⟩:=hc
      split at hc<;>first
       |(cases hc;done)
       |(simp only[Option.bind_eq_some_iff] at hc
         obtain⟨_,_,hc⟩:=hc
         split at hc<;>cases hc))
    |(obtain⟨_,_,_,_,hc⟩:=hc
      split at hc
      ·simp only[Option.bind_eq_some_iff] at hc;obtain⟨_,_,_,_,hc⟩:=hc;cases hc
      ·cases hc)))
theorem L3 {dst:Option Nat} {op:Op} {r:bX} (hc:cX P md dst op=some r):
 (∃q,r= .p q)\/ ∃c b,op= .call c/\c.callee= .builtin b/\cK P md dst b c.args.toList c.argTypes.toList=some r:=by
 unfold cX at hc
 split at hc
 ·simp only[Option.bind_eq_bind,Option.bind_eq_some_iff] at hc
  obtain⟨d,hd,hc⟩:=hc
  split at hc
  ·simp only[Option.bind_eq_some_iff] at hc
   obtain⟨ox,bk,oi,mE,hc⟩:=hc
   cases hc
   exact .inl ⟨_,rfl⟩
  ·cases hc
 ·simp only[Option.bind_eq_bind,Option.bind_eq_some_iff] at hc
  obtain⟨d,hd,hc⟩:=hc
  split at hc
  ·simp only[Option.bind_eq_some_iff] at hc
   obtain⟨ox,bk,hc⟩:=hc
   cases hc
   exact .inl ⟨_,rfl⟩
  ·cases hc
 ·split at hc
  ·cases hc
  ·simp only[Option.map_eq_some_iff] at hc
   obtain⟨ox,bk,hc⟩:=hc
   cases hc
   exact .inl ⟨_,rfl⟩
 ·simp only[Option.map_eq_some_iff] at hc
  obtain⟨ox,bk,hc⟩:=hc
  cases hc
  exact .inl ⟨_,rfl⟩
 ·rename_i c
  split at hc
  ·split at hc
   ·simp only[Option.bind_eq_bind,Option.bind_eq_some_iff] at hc
    obtain⟨d,hd,hc⟩:=hc
    split at hc
    ·simp only[Option.bind_eq_some_iff] at hc
     obtain⟨_,_,_,_,_,_,hc⟩:=hc
     cases hc
     exact .inl ⟨_,rfl⟩
    ·cases hc
   ·cases hc
  ·rename_i b hb
   exact .inr ⟨c,b,rfl,hb,hc⟩
  ·cases hc
 ·cases hc
theorem asS (H:HR ι I h w) {n:Nat} {ρ:Env} {a:Act} (A:AR ι I w n ρ a) {o:Oper} {q:jO} {id:Nat} (aJ:ι id=none) {b:cF} {v:AV} (hc:so P md o.dst o.op=some (.a q)) (hv:gP q ρ id=some (b,v)):
 NE P ι I h w id v (h.at id b) (execOp a.eval o):=by
 rcases Gq hc with h1|h1|h1
 ·rcases L3 h1 with⟨q,h⟩|⟨c,b',-,-,hk⟩
  ·cases h
  ·rcases GB hk with⟨_,_,_,_,_,_,_,_,_,_,_,_,_,_,_,_,_,_,_,_,h⟩|⟨_,_,_,_,_,_,_,_,_,h⟩|⟨_,_,_,_,_,_,_,_,_,_,_,_,h⟩|⟨_,_,_,_,_,_,_,_,_,_,_,_,_,_,_,h⟩<;>cases h
 ·exact apb H A aJ h1 hv
 ·cases h1
theorem asR (H:HR ι I h w) {n:Nat} {ρ:Env} {a:Act} (A:AR ι I w n ρ a) {o:Oper} {q:gn} {id:Nat} (aJ:ι id=none) {v:AV} {h':aa} (hc:so P md o.dst o.op=some (.e q)) (hv:bM q ρ id h=some (v,h')):
 NE P ι I h w id v h' (execOp a.eval o):=by
 rcases Gq hc with h1|h1|h1
 ·rcases L3 h1 with⟨q,h⟩|⟨c,b',bO,hb,hk⟩
  ·cases h
  ·obtain⟨dst,op,ty,pos,after,guard⟩:=o
   simp only at bO
   subst bO
   have key:NE P ι I h w id v h' (builtin b' c.argTypes ty (c.args.map fun| .const _=>true|_=>false) (c.args.map a.eval)):=by
    rcases GB hk with⟨x,y,t,tx,ox,oy,e,k,za,i,rfl,eL,qo,bk,iG,ht,tA,ef,hi,h0,h⟩|⟨_,_,_,_,_,_,_,_,_,h⟩|⟨x,t,ox,e,za,rfl,eL,qo,bk,ht,ef,h0,h⟩|⟨x,y,t,tx,ox,oy,e,sz,rfl,eL,qo,bk,iG,ht,aO,h⟩
    ·cases h
     have ea:c.args= #[x,y]:=by apply Array.ext';simpa using eL
     have et:c.argTypes= #[t,tx]:=by apply Array.ext';simpa using qo
     obtain⟨i',z,aA,hz,aO,di⟩:=t7 ef
     rw[hi] at aA
     cases aA
     have dg:=qJ (ι:=ι) (I:=I) (w:=w) di
     have:=(aiH (P:=P) (ty:=ty) H aJ ht tA hi hz aO dg.1 dg.2 h0 (bJ A bk) (bJ A iG) rfl rfl hv).next
     rw[ea,et]
     simpa [builtin] using this
    ·cases h
    ·cases h
     have ea:c.args= #[x]:=by apply Array.ext';simpa using eL
     have et:c.argTypes= #[t]:=by apply Array.ext';simpa using qo
     obtain⟨i,z,hi,hz,aO,di⟩:=t7 ef
     have dg:=qJ (ι:=ι) (I:=I) (w:=w) di
     have:=(aju (P:=P) (ty:=ty) H ht hi hz dg.1 dg.2 h0 id (bJ A bk) rfl hv).next
     rw[ea,et]
     simpa [builtin] using this
    ·cases h
     have ea:c.args= #[x,y]:=by apply Array.ext';simpa using eL
     have et:c.argTypes= #[t,tx]:=by apply Array.ext';simpa using qo
     have:=(aky (P:=P) (ty:=ty) (tx:=tx) H ht aO id (bJ A bk) (bJ A iG) rfl rfl hv).next
     rw[ea,et]
     simpa [builtin] using this
   obtain⟨x1,c1,w1,ι1,I1,hr,CT⟩:=key
   refine⟨x1,c1,w1,ι1,I1,?_,CT⟩
   simp only[execOp,resolve,hb,Sem.run_bind,Sem.run_pure,Result.andThen_ok,invoke]
   exact hr
 ·exact apa H A aJ h1 hv
 ·cases h1
end
end
end Go.Proofs.YtljapedlkdfafaaGreat.Am
