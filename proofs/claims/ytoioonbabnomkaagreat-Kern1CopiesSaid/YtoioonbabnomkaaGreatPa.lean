/- An abstract machine, and that what it does the program's model does. Conditions: none. -/
import Derived.Orders
import Derived.Laws.Sem
import Derived.Laws.World
import Derived.Laws.Cells
import Derived.Laws.Rows
import Derived.Below
import Derived.Deep.MidRow
import Derived.Deep.AppendSrc
import Derived.Laws.MakeOwn
import Derived.Great.BuildSlice
import Derived.Laws.Small
import Derived.Laws.StructEq
import Derived.Deep.Upon
import Derived.Lib.AppendZerosOnto
import Derived.Lib.Overlaps
import Derived.Scope
import Derived.LoopN
import Derived.ProofKit
import Derived.WideKeyArgs
import Derived.Handed
set_option autoImplicit true
set_option relaxedAutoImplicit true
set_option maxRecDepth 100000
set_option maxHeartbeats 8000000
set_option linter.unusedSimpArgs false
set_option linter.unusedVariables false
set_option linter.unnecessarySimpa false
set_option linter.defProp false
namespace Go.Proofs.YtoioonbabnomkaaGreat.Am
section
def lN.{ua}:= @List.take_succ_eq_append_getElem.{ua}
def Lo.{ua}:= @Array.getD_eq_getD_getElem?.{ua}
def mr.{ua}:= @List.getD_eq_getElem?_getD.{ua}
def Hn.{ua}:= @List.getElem?_append_right.{ua}
def Hm.{ua}:= @List.getElem?_append_left.{ua}
def bn.{ua}:= @List.getElem?_eq_getElem.{ua}
def lM.{ua}:= @List.take_append_getElem.{ua}
def bd.{ua,ub}:= @Option.bind_eq_some_iff.{ua,ub}
def uD:= @Int.eq_ofNat_of_zero_le
def bX.{ua}:= @List.take_of_length_le.{ua}
def xZ.{ua}:= @List.drop_of_length_le.{ua}
def xY.{ua}:= @List.drop_eq_nil_of_le.{ua}
def DC.{ua,ub}:= @Option.map_eq_some_iff.{ua,ub}
def J5:= @Nat.div_div_eq_div_mul
def J4.{ua}:= @List.getElem_cons_zero.{ua}
def qH.{ua}:= @List.length_singleton.{ua}
def GD.{ua}:= @List.length_filter_le.{ua}
def GC.{ua}:= @List.getElem?_eq_none.{ua}
def GA.{ua}:= @List.contains_iff_mem.{ua}
def J3.{ua}:= @List.take_append_drop.{ua}
def DB.{ua}:= @List.Pairwise.sublist.{ua}
def eH.{ua}:= @List.mem_cons_of_mem.{ua}
def iC.{ua}:= @List.mem_of_getElem?.{ua}
def nu:= @Nat.mul_le_mul_right
def uk.{ua}:= @List.mem_of_mem_take.{ua}
def J1.{ua}:= @List.getElem?_set_ne.{ua}
def DA:= @Nat.pow_le_pow_right
def B8.{ua}:= @List.getElem?_append.{ua}
def p3.{ua}:= @Option.bind_eq_bind.{ua}
def jm.{ua}:= @List.getElem_of_mem.{ua}
def zS.{ua}:= @List.take_succ_cons.{ua}
def np.{ua}:= @List.replicate_zero.{ua}
def uj.{ua}:= @List.length_take_le.{ua}
def vX.{ua,ub}:= @List.flatMap_append.{ua,ub}
def xX.{ua,ub}:= @List.map_congr_left.{ua,ub}
def B7.{ua}:= @List.flatten_append.{ua}
def Gz.{ua,ub}:= @List.mem_map_of_mem.{ua,ub}
def cw.{ua}:= @List.length_append.{ua}
def bJ:= @Nat.lt_of_lt_of_le
def pY.{ua}:= @List.mem_cons_self.{ua}
def nj:= @Bool.false_eq_true
def J0:= @Nat.lt_of_le_of_lt
def Gy:= @Nat.eq_zero_or_pos
def i9:= @Int.toNat_natCast
def eR.{ua}:= @List.append_assoc.{ua}
def rK:= @decide_eq_true_eq
def mG.{ua}:= @List.flatten_cons.{ua}
def jR.{ua,ub}:= @List.flatMap_cons.{ua,ub}
def Dz.{ua,ub}:= @List.getElem?_map.{ua,ub}
def cQ.{ua}:= @List.length_cons.{ua}
def bw.{ua}:= @List.getElem_mem.{ua}
def fV:= @Bool.and_eq_true
def jQ.{ua}:= @List.length_take.{ua}
def me.{ua,ub}:= @Option.bind_some.{ua,ub}
def iQ.{ua}:= @Option.getD_some.{ua}
def oI.{ua}:= @List.length_drop.{ua}
def sS.{ua,ub}:= @List.flatMap_nil.{ua,ub}
def ui.{ua}:= @List.all_eq_true.{ua}
def Gx:= @Bool.not_eq_true
def xW.{ua}:= @beq_self_eq_true.{ua}
def B6.{ua}:= @List.ext_getElem.{ua}
def B5.{ua}:= @List.drop_append.{ua}
def Dy.{ua}:= @List.not_mem_nil.{ua}
def Gw.{ua}:= @List.cons_append.{ua}
def Gv.{ua}:= @List.cons_ne_nil.{ua}
def fI.{ua}:= @List.length_nil.{ua}
def fp.{ua,ub}:= @List.length_map.{ua,ub}
def fE.{ua}:= @List.append_nil.{ua}
def mc:= @decide_eq_false
def iB.{ua,ub}:= @Option.map_some.{ua,ub}
def kF.{ua}:= @List.nil_append.{ua}
def jz.{ua,ub}:= @List.map_append.{ua,ub}
def kE.{ua}:= @List.length_set.{ua}
def Gu:= @Nat.min_eq_left
def Dx.{ua,ub}:= @List.foldl_cons.{ua,ub}
def vW.{ua}:= @List.mem_append.{ua}
def B4:= @List.range_succ
def kD.{ua}:= @List.take_zero.{ua}
def mF:= @decide_eq_true
def sR.{ua}:= @List.drop_zero.{ua}
def vV.{ua}:= @List.drop_drop.{ua}
def B3:= @Bool.false_and
def Gt:= @Bool.and_false
def eG.{ua,ub}:= @List.map_cons.{ua,ub}
def rJ:= @Nat.add_assoc
def zR:= @Bool.true_and
def BZ.{ua}:= @List.mem_cons.{ua}
def Dw:= @Bool.and_true
def BX:= @Bool.and_self
def fm:= @Nat.le_trans
def rI:= @Nat.zero_add
def qG:= @Nat.add_zero
def qF:= @Nat.sub_zero
def rH.{ua}:= @List.set_set.{ua}
def sQ.{ua,ub}:= @List.map_nil.{ua,ub}
def ak:= @Nat.le_refl
def bM:= @Nat.zero_le
def vU:= @Nat.add_mul
def vT:= @Nat.le_succ
def bk:= @eq_false
def fj.{ua}:= @if_false.{ua}
def bW:= @eq_true
def dP.{ua}:= @if_true.{ua}
def aj.{ua}:= @if_neg.{ua}
def ax.{ua}:= @if_pos.{ua}
def aw {a b:Prop} (x:a) (y:b):a/\b:=⟨x,y⟩
open Go
open Nat in
def bT {a b:Nat} (h:Nat.ble a b=true):a<=b:=le_of_ble_eq_true h
def bN:=aw @Option.bind_eq_bind.{0} @Option.bind_eq_some_iff.{0,0}
inductive aL where
 |au
 |full
 |own (t:Nat)
 deriving DecidableEq,Repr,Inhabited
inductive AV where
 |undef
 |int (k:IntKind) (n:Int)
 |bool (b:Bool)
 |eW (k:FloatKind) (b:Nat)
 |fT (k:FloatKind) (re im:Nat)
 |str (s:ByteArray)
 |nil
 |ptr (b off:Nat)
 |vp (xs:List AV) (off:Nat)
 |vs (xs:List (List AV)) (t:aL)
 |cJ
 |rs (b off len sz:Nat)
 |rk (b off len sz cap:Nat)
 |vz
 |map (b:Option Nat)
 |fn (f:Nat) (first iG:List AV)
 |qJ
 |agg (cs:List AV)
 |aE (vs:List AV)
 |jd
 deriving Inhabited
def AV.cells:AV->List AV
 | .agg cs=>cs
 |v=>[v]
def AV.one:AV->Bool
 | .agg _=>false
 | .aE _=>false
 | .undef=>false
 |_=>true
inductive lB where
 |cells (cs:List AV)
 |map (es:List (AV×AV))
 |tail
 deriving Inhabited
structure aa where
 get:Nat->Option lB
 next:Nat
def aa.set (h:aa) (b:Nat) (x:Option lB):aa:={h with get:=fun i=>if i=b then x else h.get i}
def aa.new (h:aa) (x:lB):aa:={get:=fun i=>if i=h.next then some x else h.get i,next:=h.next+1}
def aa.empty:aa:={get:=fun _=>none,next:=0}
inductive Loc where
 |cells (cb o room:Nat)
 |map (cb:Nat)
 |tail (cb lo hi:Nat)
def Loc.has:Loc->Nat->Nat->Prop
 | .cells c _ _,k,_=>k=c
 | .map c,k,_=>k=c
 | .tail c lo hi,k,j=>k=c/\lo<=j/\j<hi
def Loc.block:Loc->Nat
 | .cells c _ _=>c
 | .map c=>c
 | .tail c _ _=>c
abbrev aO:=Nat->Option Loc
abbrev bR:=Nat->Nat->Prop
def acV (ι:aO) (cb o s len cap:Nat):aL->Prop
 | .au=>True
 | .full=>cap=len
 | .own t=>0<len/\ι t=some (.tail cb (o+len*s) (o+cap*s))
inductive VR (ι:aO) (I:bR) (w:World):AV->Value->Prop
 |undef (v:Value):VR ι I w .undef v
 |int (k:IntKind) (n:Int):VR ι I w (.int k n) (.int k n)
 |bool (b:Bool):VR ι I w (.bool b) (.bool b)
 |eW (k:FloatKind) (b:Nat):VR ι I w (.eW k b) (.float k b)
 |fT (k:FloatKind) (re im:Nat):VR ι I w (.fT k re im) (.complex k re im)
 |str (s:ByteArray):VR ι I w (.str s) (.string s)
 |nil:VR ι I w .nil (.pointer none)
 |ptr (b off cb o room:Nat) (h:ι b=some (.cells cb o room)):VR ι I w (.ptr b off) (.pointer (some ⟨cb,o+off,none⟩))
 |vp (xs:List AV) (off cb o:Nat) (g:Nat->Value)
   (hI: ∀j,j<xs.length->I cb (o+j)) (hc: ∀j,j<xs.length->w.cell? ⟨cb,o+j,none⟩=some (g j))
   (hv: ∀(j:Nat) (v:AV),xs[j]? =some v->VR ι I w v (g j)) (h1: ∀v∈xs,v.one=true):VR ι I w (.vp xs off) (.pointer (some ⟨cb,o+off,none⟩))
 |vs (xs:List (List AV)) (t:aL) (cb o s cap:Nat) (g:Nat->Nat->Value)
   (hs: ∀(i:Nat) (row:List AV),xs[i]? =some row->row.length=s)
   (hI: ∀i j,i<xs.length->j<s->I cb (o+i*s+j))
   (hc: ∀i j,i<xs.length->j<s->w.cell? ⟨cb,o+i*s+j,none⟩=some (g i j))
   (hv: ∀(i:Nat) (row:List AV) (j:Nat) (v:AV),xs[i]? =some row->row[j]? =some v->VR ι I w v (g i j))
   (h1: ∀row∈xs,∀v∈row,AV.one v=true)
   (bY:xs.length<=cap) (ht:acV ι cb o s xs.length cap t):
   VR ι I w (.vs xs t) (.slice (some ⟨cb,o,none⟩) xs.length cap)
 |jA (t:aL) (ht:t= .au\/t= .full):VR ι I w (.vs [] t) (.slice none 0 0)
 |jq (t:aL) (a:Addr) (cap:Nat) (ht:t= .au\/(t= .full/\cap=0)):VR ι I w (.vs [] t) (.slice (some a) 0 cap)
 |cJ:VR ι I w .cJ (.slice none 0 0)
 |rs (b off len sz cb o room cap:Nat) (h:ι b=some (.cells cb o room)) (hlen:len<=cap) (bY:off+cap*sz<=room):
   VR ι I w (.rs b off len sz) (.slice (some ⟨cb,o+off,none⟩) len cap)
 |rk (b off len sz cap cb o room:Nat) (h:ι b=some (.cells cb o room)) (hlen:len<=cap) (bY:off+cap*sz<=room):
   VR ι I w (.rk b off len sz cap) (.slice (some ⟨cb,o+off,none⟩) len cap)
 |vz (a:Addr) (cap:Nat):VR ι I w .vz (.slice (some a) 0 cap)
 |vB:VR ι I w (.map none) (.map none)
 |map (b cb:Nat) (h:ι b=some (.map cb)):VR ι I w (.map (some b)) (.map (some cb))
 |fn (f:Nat) (fs cs:List AV) (gD b8:List Value) (hf:fs.length=gD.length) (hc:cs.length=b8.length)
   (US: ∀(i:Nat) (v:AV) (c:Value),fs[i]? =some v->gD[i]? =some c->VR ι I w v c)
   (ju: ∀(i:Nat) (v:AV) (c:Value),cs[i]? =some v->b8[i]? =some c->VR ι I w v c):
   VR ι I w (.fn f fs cs) (.func (.func f) gD.toArray b8.toArray)
 |qJ:VR ι I w .qJ .nilFunc
 |agg (cs:List AV) (b8:List Value) (hl:cs.length=b8.length) (hv: ∀(i:Nat) (v:AV) (c:Value),cs[i]? =some v->b8[i]? =some c->VR ι I w v c):
   VR ι I w (.agg cs) (.agg b8.toArray)
 |aE (cs:List AV) (b8:List Value) (hl:cs.length=b8.length) (hv: ∀(i:Nat) (v:AV) (c:Value),cs[i]? =some v->b8[i]? =some c->VR ι I w v c):
   VR ι I w (.aE cs) (.tuple b8.toArray)
 |jd (v:Value) (h:v.oneCell'=true):VR ι I w .jd v
def fJ (ι:aO) (h:aa) (k j:Nat):Prop:= ∃b l x,ι b=some l/\h.get b=some x/\l.has k j
def sG (es:Array MapEntry) (clock:Nat):Prop:=(∀e∈es.toList,e.born<clock)/\(es.toList.map (·.born)).Nodup
structure HR (ι:aO) (I:bR) (h:aa) (w:World):Prop where
 dI: ∀b l,ι b=some l->b<h.next
 inside: ∀b l,ι b=some l->l.block<w.heap.size
 cells: ∀b cs l,h.get b=some (.cells cs)->ι b=some l-> ∃cb o room,l= .cells cb o room/\cs.length<=room/\(∀v∈cs,v.one=true)/\
  (∀j,j<room-> ∃c,w.cell? ⟨cb,o+j,none⟩=some c/\w.frozen? ⟨cb,o+j,none⟩=false/\ ∀v,cs[j]? =some v->VR ι I w v c)
 maps: ∀b es l,h.get b=some (.map es)->ι b=some l-> ∃cb bE clock,l= .map cb/\w.heap[cb]? =some (.map bE clock)/\(es.length=bE.size/\sG bE clock)/\
  (∀(i:Nat) (k v:AV) (e:MapEntry),es[i]? =some (k,v)->bE[i]? =some e->VR ι I w k e.key/\VR ι I w v e.val)
 iE: ∀b l,h.get b=some .tail->ι b=some l-> ∃cb lo hi,l= .tail cb lo hi/\
  ∀j,lo<=j->j<hi-> ∃c,w.cell? ⟨cb,j,none⟩=some c/\w.frozen? ⟨cb,j,none⟩=false
 eN: ∀b b' l l' x x' k j,b≠b'->ι b=some l->ι b'=some l'->h.get b=some x->h.get b'=some x'->l.has k j->l'.has k j->False
 bZ: ∀b l x k j,ι b=some l->h.get b=some x->l.has k j-> ¬I k j
 eP: ∀k j,I k j->k<w.heap.size
 pl: ∀b cs cb o room,h.get b=some (.cells cs)->ι b=some (.cells cb o room)-> ∀n,w.frozen? ⟨cb,n,none⟩=false
structure Ext (N:Nat->Prop) (ι:aO) (I:bR) (h:aa) (w:World) (ι':aO) (I':bR) (h':aa) (w':World):Prop where
 fN: ∀b,¬N b->ι' b=ι b
 more: ∀b l,ι b=some l->ι' b=some l
 next:h.next<=h'.next
 bZ: ∀k j,I k j->I' k j
 os:w'.os=w.os
 tape:w'.tape=w.tape
 output:w'.output=w.output
 size:w.heap.size<=w'.heap.size
 block: ∀k,k<w.heap.size->(∀j,¬fJ ι h k j)->w'.heap[k]? =w.heap[k]?
 cell: ∀k j,k<w.heap.size-> ¬fJ ι h k j->w'.cell? ⟨k,j,none⟩=w.cell? ⟨k,j,none⟩
 frozen: ∀k j,k<w.heap.size-> ¬fJ ι h k j->w'.frozen? ⟨k,j,none⟩=w.frozen? ⟨k,j,none⟩
 own: ∀k j,fJ ι' h' k j->fJ ι h k j\/w.heap.size<=k
 jW: ∀k j,I' k j->I k j\/fJ ι h k j\/w.heap.size<=k
 lost: ∀b,¬N b->ι b=none->h'.get b=h.get b
def VR.mono (hι: ∀b l,ι b=some l->ι' b=some l) (hI: ∀k j,I k j->I' k j)
 (hw: ∀k j,I k j->w'.cell? ⟨k,j,none⟩=w.cell? ⟨k,j,none⟩) (h:VR ι I w a v):VR ι' I' w' a v:=by
 induction h with
 |undef v=>exact .undef v
 |int k n=>exact .int k n
 |bool b=>exact .bool b
 |eW k b=>exact .eW k b
 |fT k a b=>exact .fT k a b
 |str s=>exact .str s
 |nil=>exact .nil
 |ptr b off cb o room h=>exact .ptr b off cb o room (hι _ _ h)
 |vp xs off cb o g h1 h2 _ br ih=>exact .vp xs off cb o g (fun j hj=>hI _ _ (h1 j hj)) (fun j hj=>by grind) ih br
 |vs xs t cb o s cap g hs h1 h2 _ br bY ht ih=>
  refine .vs xs t cb o s cap g hs (fun i j hi hj=>hI _ _ (h1 i j hi hj)) (fun i j hi hj=>by grind) ih br bY ?_
  cases t with
  |au=>trivial
  |full=>exact ht
  |own t=>exact⟨ht.1,hι _ _ ht.2⟩
 |jA t ht=>exact .jA t ht
 |jq t a cap ht=>exact .jq t a cap ht
 |cJ=>exact .cJ
 |rs b off len sz cb o room cap h h1 h2=>exact .rs b off len sz cb o room cap (hι _ _ h) h1 h2
 |rk b off len sz cap cb o room h h1 h2=>exact .rk b off len sz cap cb o room (hι _ _ h) h1 h2
 |vz a cap=>exact .vz a cap
 |vB=>exact .vB
 |map b cb h=>exact .map b cb (hι _ _ h)
 |fn f fs cs gD b8 hf hc _ _ iX oT=>exact .fn f fs cs gD b8 hf hc iX oT
 |qJ=>exact .qJ
 |agg cs b8 hl _ ih=>exact .agg cs b8 hl ih
 |aE cs b8 hl _ ih=>exact .aE cs b8 hl ih
 |jd v h=>exact .jd v h
def VR.one (h:VR ι I w a v) (h1:a.one=true):v.oneCell'=true:=by
 cases h<;>first|rfl|assumption|(simp[AV.one] at h1)
mutual
def AV.strip:AV->AV
 | .vs xs _=> .vs (AV.fU xs) .au
 | .agg xs=> .agg (AV.a8 xs)
 | .aE xs=> .aE (AV.a8 xs)
 |v=>v
def AV.a8:List AV->List AV
 |[]=>[]
 |x::xs=>x.strip::AV.a8 xs
def AV.fU:List (List AV)->List (List AV)
 |[]=>[]
 |x::xs=>AV.a8 x::AV.fU xs
end
theorem CU: ∀{l:List AV},(AV.a8 l).length=l.length
 |[]=>rfl
 |x::xs=>by simp[AV.a8,CU (l:=xs)]
theorem EU: ∀{l:List (List AV)},(AV.fU l).length=l.length
 |[]=>rfl
 |x::xs=>by simp[AV.fU,EU (l:=xs)]
theorem Bj: ∀{l:List AV} {i:Nat} {v:AV},(AV.a8 l)[i]? =some v-> ∃u,l[i]? =some u/\v=u.strip
 |[],i,v,h=>by simp[AV.a8] at h
 |x::xs,i,v,h=>by
  cases i with
  |zero=>simp[AV.a8] at h;grind
  |succ i=>obtain⟨u,h1,h2⟩:=Bj (l:=xs) (i:=i) (by simpa [AV.a8] using h);grind
theorem Ns: ∀{l:List (List AV)} {i:Nat} {v:List AV},(AV.fU l)[i]? =some v-> ∃u,l[i]? =some u/\v=AV.a8 u
 |[],i,v,h=>by simp[AV.fU] at h
 |x::xs,i,v,h=>by
  cases i with
  |zero=>simp[AV.fU] at h;grind
  |succ i=>obtain⟨u,h1,h2⟩:=Ns (l:=xs) (i:=i) (by simpa [AV.fU] using h);grind
def AV.aIm {v:AV}:v.strip.one=v.one:=by cases v<;>simp[AV.strip,AV.one]
def VR.strip (h:VR ι I w a v):VR ι I w a.strip v:=by
 induction h with
 |vs xs t cb o s cap g hs hI hc hv h1 bY ht ih=>
  have:=VR.vs (ι:=ι) (I:=I) (w:=w) (AV.fU xs) .au cb o s cap g
   (fun i row hi=>by obtain⟨u,e1,rfl⟩:=Ns hi;rw[CU];exact hs i u e1)
   (fun i j hi hj=>hI i j (by rwa [EU] at hi) hj)
   (fun i j hi hj=>hc i j (by rwa [EU] at hi) hj)
   (fun i row j v hi hj=>by
     obtain⟨u,e1,rfl⟩:=Ns hi
     obtain⟨x,e2,rfl⟩:=Bj hj
     grind)
   (fun row hr v d7=>by
     obtain⟨i,hi⟩:=List.mem_iff_getElem?.1 hr
     obtain⟨u,e1,rfl⟩:=Ns hi
     obtain⟨j,hj⟩:=List.mem_iff_getElem?.1 d7
     obtain⟨x,e2,rfl⟩:=Bj hj
     rw[AV.aIm]
     exact h1 u (iC e1) x (iC e2))
   (by rw[EU];exact bY) trivial
  rw[EU] at this
  exact this
 |jA t ht=>exact .jA _ (.inl rfl)
 |jq t a cap ht=>exact .jq _ _ _ (.inl rfl)
 |agg cs b8 hl hv ih=>exact .agg _ _ (by rw[CU];exact hl) (fun i v c h1 h2=>by obtain⟨u,e1,rfl⟩:=Bj h1;grind)
 |aE cs b8 hl hv ih=>exact .aE _ _ (by rw[CU];exact hl) (fun i v c h1 h2=>by obtain⟨u,e1,rfl⟩:=Bj h1;grind)
 |undef v=>exact .undef v
 |int k n=>exact .int k n
 |bool b=>exact .bool b
 |eW k b=>exact .eW k b
 |fT k a b=>exact .fT k a b
 |str s=>exact .str s
 |nil=>exact .nil
 |ptr b off cb o room h=>exact .ptr b off cb o room h
 |vp xs off cb o g hI hc hv h1 ih=>exact .vp xs off cb o g hI hc hv h1
 |cJ=>exact .cJ
 |rs b off len sz cb o room cap h h1 h2=>exact .rs b off len sz cb o room cap h h1 h2
 |rk b off len sz cap cb o room h h1 h2=>exact .rk b off len sz cap cb o room h h1 h2
 |vz a cap=>exact .vz a cap
 |vB=>exact .vB
 |map b cb h=>exact .map b cb h
 |fn f fs cs gD b8 hf hc h1 h2 iX oT=>exact .fn f fs cs gD b8 hf hc h1 h2
 |qJ=>exact .qJ
 |jd v h=>exact .jd v h
def HR.aJ3 (H:HR ι I h w) (hI:I k j): ¬fJ ι h k j:=
 fun⟨_,l,_,hb,hg,hl⟩=>H.bZ _ l _ k j hb hg hl hI
def Ext.vr (E:Ext N ι I h w ι' I' h' w') (H:HR ι I h w)
 (hv:VR ι I w a v):VR ι' I' w' a v:=
 hv.mono E.more E.bZ fun k j hI=>E.cell k j (H.eP k j hI) (H.aJ3 hI)
theorem Ext.refl (N) (ι) (I) (h) (w):Ext N ι I h w ι I h w where
 fN _ _:=rfl
 more _ _ h:=h
 next:=ak _
 bZ _ _ h:=h
 os:=rfl
 tape:=rfl
 output:=rfl
 size:=ak _
 block _ _ _:=rfl
 cell _ _ _ _:=rfl
 frozen _ _ _ _:=rfl
 own _ _ h:= .inl h
 jW _ _ h:= .inl h
 lost _ _ _:=rfl
def Ext.trans
 (E:Ext N ι₁ I₁ h₁ w₁ ι₂ I₂ h₂ w₂) (F:Ext N' ι₂ I₂ h₂ w₂ ι₃ I₃ h₃ w₃) (hN: ∀b,N' b->N b):Ext N ι₁ I₁ h₁ w₁ ι₃ I₃ h₃ w₃ where
 fN b hb:=(F.fN b (fun h=>hb (hN b h))).trans (E.fN b hb)
 more b l h:=F.more b l (E.more b l h)
 next:=fm E.next F.next
 bZ k j h:=F.bZ k j (E.bZ k j h)
 os:=F.os.trans E.os
 tape:=F.tape.trans E.tape
 output:=F.output.trans E.output
 size:=fm E.size F.size
 block k hk ho:=by
  rw[F.block k (bJ hk E.size) (fun j hj=>(E.own k j hj).elim (ho j) (fun h=>by omega)),E.block k hk ho]
 cell k j hk ho:=by
  rw[F.cell k j (bJ hk E.size) (fun hj=>(E.own k j hj).elim ho (fun h=>by omega)),E.cell k j hk ho]
 frozen k j hk ho:=by
  rw[F.frozen k j (bJ hk E.size) (fun hj=>(E.own k j hj).elim ho (fun h=>by omega)),E.frozen k j hk ho]
 own k j h:=by
  rcases F.own k j h with h|h
  ·exact E.own k j h
  ·exact .inr (fm E.size h)
 jW k j h:=by
  rcases F.jW k j h with h|h|h
  ·exact E.jW k j h
  ·rcases E.own k j h with h|h
   ·grind
   omega
  ·exact .inr (.inr (fm E.size h))
 lost b hb hi:=by rw[F.lost b (fun h=>hb (hN b h)) (by rw[E.fN b hb,hi]),E.lost b hb hi]
def Ext.mono (E:Ext N ι I h w ι' I' h' w') (hN: ∀b,N b->N' b):Ext N' ι I h w ι' I' h' w':=
 {E with fN:=fun b hb=>E.fN b (fun h=>hb (hN b h)),lost:=fun b hb=>E.lost b (fun h=>hb (hN b h))}
def aGJ {p:Nat->AV->Value->Prop}: ∀(l:List AV),(∀j v,l[j]? =some v-> ∃c,p j v c)->
 ∃l':List Value,l.length=l'.length/\ ∀j v c,l[j]? =some v->l'[j]? =some c->p j v c:=by
 intro l
 induction l generalizing p with
 |nil=>intro _;exact⟨[],rfl,fun j v c h=>by simp at h⟩
 |cons a l ih=>
  intro h
  obtain⟨c,hc⟩:=h 0 a rfl
  obtain⟨l',hl,hp⟩:=ih (p:=fun j=>p (j+1)) (fun j v hv=>h (j+1) v (by simpa using hv))
  refine⟨c::l',by simp[hl],fun j v c' hv jN=>?_⟩
  grind
end
section
open Go
inductive aJ where
 |tmp (t:Nat)
 |const (v:AV)
 deriving Inhabited
abbrev Env:=Nat->AV
def aJ.ev (ρ:Env):aJ->AV
 | .tmp t=>ρ t
 | .const v=>v
inductive eh where
 |tB (x:aJ)
 |pick (c a b:aJ)
 |build (z:List AV) (parts:List (Nat×Nat×aJ))
 |Gg (n:Nat) (z:List AV) (parts:List (Nat×aJ))
 |load (ag:Bool) (sz:Nat) (x:aJ)
 |Jg (x:aJ)
 |bin (tb:Bool) (op:BinOp) (x y:aJ)
 |GX (kd:Nat) (neg:Bool) (x:aJ)
 |R5 (neg:Bool) (Tj:List Nat) (x y:aJ)
 |un (op:UnOp) (x:aJ)
 |toInt (k:IntKind) (x:aJ)
 |xq (x:aJ)
 |N6 (x:aJ)
 |GW (off:Nat) (x:aJ)
 |U8 (ag:Bool) (sz off:Nat) (x:aJ)
 |FD (sz:Nat) (x i:aJ)
 |OZ (sz len:Nat) (x i:aJ)
 |Tn (ag:Bool) (sz len:Nat) (x i:aJ)
 |nQ (sz:Nat) (x:aJ) (lo hi mx:Option aJ)
 |ext (i:Nat) (x:aJ)
 |LA (x:aJ)
 |OX (x:aJ)
 |Tk (n:Nat)
 |lookup (z:AV) (ok:Bool) (m k:aJ)
 |Lx (f:Nat) (first iG:List aJ)
 |Fx (mx:Bool) (x:aJ) (rest:List aJ)
 |part (im:Bool) (x:aJ)
 |OC (z:List AV) (bytes:Nat) (len cap:aJ)
 |Hx (x:aJ)
 |OY (x i:aJ)
 |wI (sz:Nat) (x y:aJ)
 |Ue (x:aJ)
 |Mm (x:aJ)
 |yP (x:aJ)
 |stuck
 deriving Inhabited
inductive Bc where
 |box (x:aJ)
 |alloc (z:List AV)
 |II (z:List AV) (bytes:Nat) (len cap:aJ)
 |Ja (n:Nat) (z:List AV) (parts:List (Nat×aJ))
 |RM
 deriving Inhabited
inductive rq where
 |store (sz:Nat) (a v:aJ)
 |append (bytes sz:Nat) (x y:aJ)
 |BC (bytes sz:Nat) (x y:aJ)
 |copy (sz:Nat) (x y:aJ)
 |BB (bytes:Nat) (z:List AV) (x n:aJ)
 |zY (sz:Nat) (x y:aJ)
 |zp (z:List AV) (x:aJ)
 |mark (x:aJ)
 |Db (m k v:aJ)
 |Fz (m k:aJ)
 deriving Inhabited
inductive iw where
 |p (o:eh)
 |a (o:Bc)
 |e (o:rq)
 |call (f:Nat) (args:List aJ)
 |dyn (x:aJ) (args:List aJ)
 deriving Inhabited
def ew (cs:List AV) (off:Nat) (vs:List AV):List AV:=cs.take off++vs++cs.drop (off+vs.length)
def pA (ρ:Env) (cs:List AV):List (Nat×Nat×aJ)->Option (List AV)
 |[]=>some cs
 |(off,sz,x)::rest=>
  let vs:=(x.ev ρ).cells
  if vs.length=sz/\off+sz<=cs.length/\vs.all AV.one then pA ρ (ew cs off vs) rest else none
def lK (ρ:Env) (sz:Nat) (rows:List (List AV)):List (Nat×aJ)->Option (List (List AV))
 |[]=>some rows
 |(i,x)::rest=>
  let vs:=(x.ev ρ).cells
  if vs.length=sz/\i<rows.length/\vs.all AV.one then lK ρ sz (rows.set i vs) rest else none
def cut (ag:Bool) (sz off:Nat) (cs:List AV):Option AV:=
 if ag then(if off+sz<=cs.length then some (.agg ((cs.drop off).take sz)) else none) else cs[off]?
def cellsOf (h:aa) (b:Nat):Option (List AV):=
 match h.get b with
 |some (.cells cs)=>some cs
 |_=>none
def pC (ag:Bool) (sz:Nat) (h:aa):AV->Option AV
 | .ptr b off=>(cellsOf h b).bind (cut ag sz off)
 | .vp xs off=>cut ag sz off xs
 |_=>none
def notNil:AV->Option AV
 | .ptr b o=>some (.ptr b o)
 | .vp xs o=>some (.vp xs o)
 | .fn f a b=>some (.fn f a b)
 |_=>none
def uq (op:BinOp) (k:IntKind) (x y:Int):Option Int:=
 let a:=BitVec.ofInt k.bits x
 let b:=BitVec.ofInt k.bits y
 match op with
 | .and=>some (k.wrap (a&&&b).toNat)
 | .or=>some (k.wrap (a|||b).toNat)
 | .xor=>some (k.wrap (a^^^b).toNat)
 | .andNot=>some (k.wrap (a&&& ~~~b).toNat)
 |_=>none
def pH (op:BinOp) (k:IntKind) (a b:Int):Option AV:=
 match op with
 | .add=>some (.int k (k.wrap (a+b)))
 | .sub=>some (.int k (k.wrap (a-b)))
 | .mul=>some (.int k (k.wrap (a*b)))
 | .quo=>if b=0 then none else some (.int k (k.wrap (a.tdiv b)))
 | .rem=>if b=0 then none else some (.int k (a.tmod b))
 | .eql=>some (.bool (a==b))
 | .neq=>some (.bool (a !=b))
 | .lss=>some (.bool (a<b))
 | .leq=>some (.bool (a<=b))
 | .gtr=>some (.bool (a>b))
 | .geq=>some (.bool (a>=b))
 |op=>(uq op k a b).map (.int k)
def SJ (op:BinOp) (k:FloatKind) (x y:Nat):Option Bool:=
 let c:=k.format.order x y
 match op with
 | .eql=>some (c==some .eq)
 | .neq=>some (c !=some .eq)
 | .lss=>some (c==some .lt)
 | .leq=>some (c==some .lt||c==some .eq)
 | .gtr=>some (c==some .gt)
 | .geq=>some (c==some .gt||c==some .eq)
 |_=>none
def bH (tb:Bool) (op:BinOp):AV->AV->Option AV
 | .int k a, .int k' b=>
   match op with
   | .shl=>if b<0 then none else some (.int k (k.wrap (a*2^(min b.toNat k.bits))))
   | .shr=>if b<0 then none else some (.int k (a.fdiv (2^(min b.toNat k.bits))))
   |op=>if k=k' then pH op k a b else none
 | .bool a, .bool b=>
   match op with
   | .eql=>if tb then some (.bool (a==b)) else none
   | .neq=>if tb then some (.bool (!(a==b))) else none
   |_=>none
 | .eW k a, .eW k' b=>if k=k' then(SJ op k a b).map .bool else none
 | .fT k a b, .fT k' c d=>
   if k=k' then
    match op with
    | .eql=>some (.bool ((k.format.order a c==some .eq)&&(k.format.order b d==some .eq)))
    | .neq=>some (.bool (!((k.format.order a c==some .eq)&&(k.format.order b d==some .eq))))
    |_=>none
   else none
 | .str a, .str b=>
   match op with
   | .eql=>some (.bool (a.toList==b.toList))
   | .neq=>some (.bool (!(a.toList==b.toList)))
   |_=>none
 |_,_=>none
def lF (kd:Nat):AV->Option Bool
 | .nil=>if kd=0 then some true else none
 | .ptr _ _=>if kd=0 then some false else none
 | .vp _ _=>if kd=0 then some false else none
 | .cJ=>if kd=1 then some true else none
 | .rs _ _ _ _=>if kd=1 then some false else none
 | .rk _ _ _ _ _=>if kd=1 then some false else none
 | .vz=>if kd=1 then some false else none
 | .vs (_::_) _=>if kd=1 then some false else none
 | .qJ=>if kd=2 then some true else none
 | .fn _ _ _=>if kd=2 then some false else none
 | .map none=>if kd=3 then some true else none
 | .map (some _)=>if kd=3 then some false else none
 |_=>none
def BA (xs ys:List AV):List Nat->Option Bool
 |[]=>some true
 |o::rest=>
  match xs[o]?,ys[o]? with
  |some (.int k a),some (.int k' b)=>if k=k' then(if a==b then BA xs ys rest else some false) else none
  |_,_=>none
def Ih (op:UnOp):AV->Option AV
 | .bool b=>match op with| .not=>some (.bool !b)|_=>none
 | .int k n=>
   match op with
   | .neg=>some (.int k (k.wrap (0-n)))
   | .xor=>(uq .xor k (if k.signed then -1 else k.max) n).map (.int k)
   |_=>none
 |_=>none
def byteOf:List AV->Option UInt8
 |[.int .u8 n]=>some (UInt8.ofNat n.toNat)
 |_=>none
def rowsOf (cs:List AV) (off sz:Nat):Nat->List (List AV)
 |0=>[]
 |n+1=>(cs.drop off).take sz::rowsOf cs (off+sz) sz n
def bQ (sz:Nat):List (List AV)->Bool
 |[]=>true
 |r::_=>r.length==sz
def ef (sz:Nat) (h:aa):AV->Option (List (List AV))
 | .vs xs _=>if bQ sz xs then some xs else none
 | .cJ=>some []
 | .vz=>some []
 | .rs b off len aX=>
   if aX=sz then
    match cellsOf h b with
    |some cs=>if off+len*sz<=cs.length then some (rowsOf cs off sz len) else none
    |none=>none
   else none
 | .rk b off len aX _=>
   if aX=sz then
    match cellsOf h b with
    |some cs=>if off+len*sz<=cs.length then some (rowsOf cs off sz len) else none
    |none=>none
   else none
 |_=>none
def vY (sz n:Nat) (h:aa):AV->Option (List (List AV))
 | .vs xs _=>if bQ sz xs then some (xs.take n) else none
 | .rk b off len aX _=>
   if aX=sz/\n<=len then
    match cellsOf h b with
    |some cs=>if off+n*sz<=cs.length then some (rowsOf cs off sz n) else none
    |none=>none
   else none
 |_=>none
def vh:List (List AV)->Option (List UInt8)
 |[]=>some []
 |r::rs=>match byteOf r,vh rs with
  |some b,some bs=>some (b::bs)
  |_,_=>none
def ei (ρ:Env) (d:Nat):Option aJ->Option Nat
 |none=>some d
 |some x=>match x.ev ρ with
  | .int _ i=>if 0<=i then some i.toNat else none
  |_=>none
def vg (t:aL) (len lo hi:Nat):aL:=
 match t with
 | .full=>if hi=len then .full else .au
 | .own t=>if hi=len/\lo<hi then .own t else .au
 | .au=> .au
def m9 (ρ:Env) (sz:Nat) (x:AV) (lo hi mx:Option aJ):Option AV:=
 match x with
 | .cJ=>do
   let h <-ei ρ 0 hi
   let l <-ei ρ 0 lo
   let m <-ei ρ 0 mx
   if l=0/\h=0/\m=0/\(mx.isSome->hi.isSome) then some .cJ else none
 | .vs xs t=>do
   let h <-ei ρ xs.length hi
   let l <-ei ρ 0 lo
   if l<=h/\h<=xs.length/\bQ sz xs then
    match mx with
    |none=>some (.vs ((xs.drop l).take (h-l)) (vg t xs.length l h))
    |some _=>do
     let m <-ei ρ 0 mx
     if hi.isSome/\h<=m/\m<=xs.length then some (.vs ((xs.drop l).take (h-l)) (if m=h then .full else .au)) else none
   else none
 | .rs b off len aX=>do
   let h <-ei ρ len hi
   let l <-ei ρ 0 lo
   if mx.isNone/\l<=h/\h<=len/\aX=sz then
    if l=h then(if lo.isNone then some (.rs b off 0 sz) else some (.vs [] .au)) else some (.rs b (off+l*sz) (h-l) sz)
   else none
 | .rk b off len aX cap=>do
   let h <-ei ρ len hi
   let l <-ei ρ 0 lo
   let m <-ei ρ cap mx
   if l<=h/\h<=m/\m<=cap/\aX=sz/\(mx.isSome->hi.isSome) then
    if m=l then some (.vs [] .full) else some (.rk b (off+l*sz) (h-l) sz (m-l))
   else none
 |_=>none
def rM (k:AV):List (AV×AV)->Nat->Option (Option Nat)
 |[],_=>some none
 |(k',_)::es,i=>
  match k,k' with
  | .int a x, .int b y=>if a=b then(if x==y then some (some i) else rM k es (i+1)) else none
  |_,_=>none
def Bw (k:AV) (es:List (AV×AV)):Option (Option AV):=(rM k es 0).map fun o=>o.bind fun i=>(es[i]?).map (·.2)
def zk (k v:AV) (es:List (AV×AV)):Option (List (AV×AV)):=
 (rM k es 0).map fun o=>match o with
   |none=>es++[(k,v)]
   |some i=>es.set i (k,v)
def zm (k:AV) (es:List (AV×AV)):Option (List (AV×AV)):=
 (rM k es 0).map fun o=>match o with
   |none=>es
   |some i=>es.eraseIdx i
def vu (mx:Bool):AV->AV->Option AV
 | .int k a, .int k' b=>if k=k' then some (.int k (if mx then(if b>a then b else a) else(if b<a then b else a))) else none
 | .eW k a, .eW k' b=>
   if k=k' then
    match k.format.order a b with
    |some .lt=>some (.eW k (if mx then b else a))
    |some .gt=>some (.eW k (if mx then a else b))
    |some .eq=>some (.eW k (if mx then(if(k.decode a).neg then b else a) else(if(k.decode a).neg then a else b)))
    |none=>none
   else none
 |_,_=>none
def tU (mx:Bool) (ρ:Env):AV->List aJ->Option AV
 |x,[]=>some x
 |x,y::ys=>(vu mx x (y.ev ρ)).bind fun z=>tU mx ρ z ys
def jV:AV->Option Nat
 | .vs xs _=>some xs.length
 | .cJ=>some 0
 | .rs _ _ len _=>some len
 | .rk _ _ len _ _=>some len
 | .vz=>some 0
 |_=>none
def Cu:AV->Option Nat
 | .cJ=>some 0
 | .vs xs .full=>some xs.length
 | .rk _ _ _ _ cap=>some cap
 |_=>none
def Co (sz:Nat) (h:aa) (x y:AV):Option AV:=
 match x,y with
 | .vs (r::_) _, .rk b _ (_+1) aX _=>cond (r.length==sz&&aX==sz&&(cellsOf h b).isSome) (some (.bool false)) none
 |_,_=>none
def Bx (x i:AV):Option AV:=
 match x,i with
 | .str s, .int _ i=>if 0<=i then(s[i.toNat]?).map fun b=> .int .u8 b.toNat else none
 |_,_=>none
def qA (bytes:Nat) (l c:AV):Option Nat:=
 match l,c with
 | .int .i64 a, .int .i64 b=>if 0<=a/\a=b/\a<2^40/\bytes*a<=2^40 then some a.toNat else none
 |_,_=>none
def zn (neg:Bool) (Tj:List Nat) (x y:AV):Option AV:=
 match x,y with
 | .agg xs, .agg ys=>(BA xs ys Tj).map fun b=> .bool (if neg then !b else b)
 |_,_=>none
def Jb (k:IntKind) (x:AV):Option AV:=match x with| .int _ n=>some (.int k (k.wrap n))|_=>none
def E6 (x:AV):Option AV:=
 match x with
 | .str s=>if s.size<2^40 then some (.vs (s.data.toList.map fun b=>[.int .u8 b.toNat]) .au) else none
 |_=>none
def FH (off:Nat) (x:AV):Option AV:=match x with| .ptr b o=>some (.ptr b (o+off))| .vp xs o=>some (.vp xs (o+off))|_=>none
def LV (ag:Bool) (sz off:Nat) (x:AV):Option AV:=match x with| .agg cs=>cut ag sz off cs|_=>none
def kj (sz:Nat) (x i:AV):Option AV:=
 match i with
 | .int _ i=>
   if 0<=i then
    match x with
    | .vs xs _=>match xs[i.toNat]? with|some row=>if row.length=sz then some (.vp row 0) else none|none=>none
    | .rs b off len aX=>if aX=sz/\i<len then some (.ptr b (off+i.toNat*sz)) else none
    |_=>none
   else none
 |_=>none
def Fp (sz len:Nat) (x i:AV):Option AV:=
 match i with
 | .int _ i=>
   if 0<=i/\i<len then
    match x with
    | .ptr b o=>some (.ptr b (o+i.toNat*sz))
    | .vp xs o=>some (.vp xs (o+i.toNat*sz))
    |_=>none
   else none
 |_=>none
def Ki (ag:Bool) (sz len:Nat) (x i:AV):Option AV:=
 match i,x with
 | .int _ i, .agg cs=>if 0<=i/\i<len then cut ag sz (i.toNat*sz) cs else none
 |_,_=>none
def LW (i:Nat) (x:AV):Option AV:=match x with| .aE vs=>vs[i]?|_=>none
def OG (x:AV):Option AV:=match x with| .str s=>some (.int .i64 s.size)|_=>none
def sB (z:AV) (ok:Bool) (h:aa) (m k:AV):Option AV:=
 let wrap (r:Option AV):AV:=match r with
  |some v=>if ok then .aE [v, .bool true] else v
  |none=>if ok then .aE [z, .bool false] else z
 match m,k with
 | .map none, .int _ _=>some (wrap none)
 | .map (some b), .int kd n=>
   match h.get b with
   |some (.map es)=>(Bw (.int kd n) es).map wrap
   |_=>none
 |_,_=>none
def GH (im:Bool) (x:AV):Option AV:=match x with| .fT k a b=>some (.eW k (if im then b else a))|_=>none
def RG (c a b:AV):Option AV:=match c with| .bool t=>some (if t then a else b)|_=>none
def Fw (sz:Nat) (h:aa) (a v:AV):Option (AV×aa):=
 match a with
 | .ptr b off=>
   match cellsOf h b with
   |some cs=>if v.cells.length=sz/\off+sz<=cs.length/\v.cells.all AV.one then some (.undef,h.set b (some (.cells (ew cs off v.cells)))) else none
   |none=>none
 |_=>none
def bt (o:eh) (ρ:Env) (h:aa):Option AV:=
 match o with
 | .tB x=>some (x.ev ρ)
 | .pick c a b=>RG (c.ev ρ) (a.ev ρ) (b.ev ρ)
 | .build z parts=>(pA ρ z parts).map .agg
 | .Gg n z parts=>(lK ρ z.length (List.replicate n z) parts).map (.vs · .full)
 | .load ag sz x=>pC ag sz h (x.ev ρ)
 | .Jg x=>notNil (x.ev ρ)
 | .bin tb op x y=>bH tb op (x.ev ρ) (y.ev ρ)
 | .GX kd neg x=>(lF kd (x.ev ρ)).map fun b=> .bool (if neg then !b else b)
 | .R5 neg Tj x y=>zn neg Tj (x.ev ρ) (y.ev ρ)
 | .un op x=>Ih op (x.ev ρ)
 | .toInt k x=>Jb k (x.ev ρ)
 | .xq x=>((ef 1 h (x.ev ρ)).bind vh).map fun bs=> .str ⟨bs.toArray⟩
 | .N6 x=>E6 (x.ev ρ)
 | .GW off x=>FH off (x.ev ρ)
 | .U8 ag sz off x=>LV ag sz off (x.ev ρ)
 | .FD sz x i=>kj sz (x.ev ρ) (i.ev ρ)
 | .OZ sz len x i=>Fp sz len (x.ev ρ) (i.ev ρ)
 | .Tn ag sz len x i=>Ki ag sz len (x.ev ρ) (i.ev ρ)
 | .nQ sz x lo hi mx=>m9 ρ sz (x.ev ρ) lo hi mx
 | .ext i x=>LW i (x.ev ρ)
 | .LA x=>(jV (x.ev ρ)).map fun(n:Nat)=>AV.int .i64 n
 | .OX x=>OG (x.ev ρ)
 | .Tk n=>some (.int .i64 n)
 | .lookup z ok m k=>sB z ok h (m.ev ρ) (k.ev ρ)
 | .Lx f first iG=>some (.fn f (first.map (aJ.ev ρ)) (iG.map (aJ.ev ρ)))
 | .Fx mx x rest=>tU mx ρ (x.ev ρ) rest
 | .part im x=>GH im (x.ev ρ)
 | .OC z bytes l c=>(qA bytes (l.ev ρ) (c.ev ρ)).map fun n=> .vs (List.replicate n z) .full
 | .Hx x=>(Cu (x.ev ρ)).map fun(n:Nat)=>AV.int .i64 n
 | .OY x i=>Bx (x.ev ρ) (i.ev ρ)
 | .wI sz x y=>Co sz h (x.ev ρ) (y.ev ρ)
 | .Ue _=>none
 | .Mm _=>none
 | .yP _=>none
 | .stuck=>none
def eh.key (o:eh) (ρ:Env):Option Nat:=
 match o with
 | .load _ _ x=>match x.ev ρ with| .ptr b _=>some b|_=>none
 | .xq x=>match x.ev ρ with| .rs b _ _ _=>some b| .rk b _ _ _ _=>some b|_=>none
 | .lookup _ _ m _=>match m.ev ρ with| .map (some b)=>some b|_=>none
 | .wI _ _ y=>match y.ev ρ with| .rk b _ _ _ _=>some b|_=>none
 |_=>none
def xh (o) (ρ) (h h') (hk: ∀b,o.key ρ=some b->h.get b=h'.get b):bt o ρ h=bt o ρ h':=by
 cases o<;>try rfl
 case load ag sz x=>
  simp only[bt,eh.key] at*
  cases hx:x.ev ρ<;>simp only[pC]
  rw[hx] at hk
  simp only[cellsOf,hk _ rfl]
 case xq x=>
  simp only[bt,eh.key] at*
  cases hx:x.ev ρ<;>simp only[ef]<;>(rw[hx] at hk;simp only[cellsOf,hk _ rfl])
 case wI sz x y=>
  simp only[bt,eh.key] at*
  cases hy:y.ev ρ
  case rk b off len s' cap=>
   rw[hy] at hk
   have hb:=hk b rfl
   cases x.ev ρ<;>try rfl
   rename_i l _
   cases l<;>cases len<;>first|rfl|simp only[Co,cellsOf,hb]
  all_goals (cases x.ev ρ<;>first|rfl|(rename_i l _;cases l<;>rfl))
 case lookup z ok m k=>
  simp only[bt,eh.key] at*
  cases hx:m.ev ρ<;>try rfl
  rename_i b
  rw[hx] at hk
  cases b with
  |none=>cases k.ev ρ<;>rfl
  |some b=>have:=hk b rfl;cases k.ev ρ<;>simp only[sB,this]
def l9 (o:Bc) (ρ:Env) (id:Nat):Option (lB×AV):=
 match o with
 | .box x=>if(x.ev ρ).cells.all AV.one then some (.cells (x.ev ρ).cells, .ptr id 0) else none
 | .alloc z=>some (.cells z, .ptr id 0)
 | .II z bytes l c=>(qA bytes (l.ev ρ) (c.ev ρ)).map fun n=>(.cells (List.replicate n z).flatten, .rs id 0 n z.length)
 | .Ja n z parts=>(lK ρ z.length (List.replicate n z) parts).map fun rows=>(.cells rows.flatten, .rs id 0 n z.length)
 | .RM=>some (.map [], .map (some id))
def aa.at (h:aa) (id:Nat) (x:lB):aa:={get:=fun i=>if i=id then some x else h.get i,next:=max h.next (id+1)}
def dL (o:rq) (ρ:Env) (id:Nat) (h:aa):Option (AV×aa):=
 match o with
 | .store sz a v=>Fw sz h (a.ev ρ) (v.ev ρ)
 | .append bytes sz x y=>
   match ef sz h (y.ev ρ) with
   |none=>none
   |some ys=>
    match x.ev ρ with
    | .vs xs t=>
      if ys=[] then some (.vs xs t,h) else
      if bQ sz xs/\(xs.length+ys.length)*bytes<2^40/\xs.length+ys.length<2^40 then
       match t with
       | .full=>some (.vs (xs++ys) (.own id),h.at id .tail)
       | .own t=>match h.get t with
         |some .tail=>some (.vs (xs++ys) (.own id),(h.set t none).at id .tail)
         |_=>none
       | .au=>none
      else none
    | .cJ=>
      if ys=[] then some (.cJ,h) else
      if ys.length*bytes<2^40/\ys.length<2^40 then some (.vs ys (.own id),h.at id .tail) else none
    |_=>none
 | .BC bytes sz x y=>
   match ef sz h (y.ev ρ) with
   |none=>none
   |some ys=>
    match x.ev ρ with
    | .vs [] .full=>if ys=[] then some (.vs [] .full,h) else if ys.length*bytes<2^40/\ys.length<2^40 then some (.rs id 0 ys.length sz,h.at id (.cells ys.flatten)) else none
    | .cJ=>if ys=[] then some (.cJ,h) else if ys.length*bytes<2^40/\ys.length<2^40 then some (.rs id 0 ys.length sz,h.at id (.cells ys.flatten)) else none
    | .rs b off len aX=>
      if ys=[] then some (.rs b off len aX,h) else
      match cellsOf h b with
      |some cs=>
       if aX=sz/\off=0/\len*sz<=cs.length/\(len+ys.length)*bytes<2^40/\len+ys.length<2^40 then
        some (.rs id 0 (len+ys.length) sz,(h.set b none).at id (.cells (cs.take (len*sz)++ys.flatten)))
       else none
      |none=>none
    | .rk b off len aX cap=>
      match cellsOf h b with
      |some cs=>
       if aX=sz/\len+ys.length<=cap/\off+len*sz<=cs.length then
        some (.rk b off (len+ys.length) sz cap,h.set b (some (.cells (ew cs (off+len*sz) ys.flatten))))
       else none
      |none=>none
    |_=>none
 | .BB bytes z x n=>
   match n.ev ρ with
   | .int _ m=>
     if 0<m/\m<2^40 then
      match x.ev ρ with
      | .cJ=>if m.toNat*bytes<2^40 then some (.rs id 0 m.toNat z.length,h.at id (.cells (List.replicate m.toNat z).flatten)) else none
      | .rk b off len aX cap=>
        match cellsOf h b with
        |some cs=>
         if aX=z.length/\cap<len+m.toNat/\off+len*z.length<=cs.length/\(len+m.toNat)*bytes<2^40/\len+m.toNat<2^40 then
          some (.rs id 0 (len+m.toNat) z.length,h.at id (.cells (rowsOf cs off z.length len++List.replicate m.toNat z).flatten))
         else none
        |none=>none
      |_=>none
     else none
   |_=>none
 | .zY sz x y=>
   match x.ev ρ,jV (y.ev ρ) with
   | .rk b off len aX _,some m=>
     match vY sz (min m len) h (y.ev ρ),cellsOf h b with
     |some ys,some cs=>
      if aX=sz/\off<=cs.length then
       some (.int .i64 (min m len:Nat),h.set b (some (.cells (ew cs off ys.flatten))))
      else none
     |_,_=>none
   |_,_=>none
 | .mark x=>
   match x.ev ρ with
   | .rs b off len sz=>
     match cellsOf h b with
     |some cs=>if off+len*sz<=cs.length then some (.vs (rowsOf cs off sz len) .au,h.set b none) else none
     |none=>none
   |_=>none
 | .zp z x=>
   match x.ev ρ with
   | .rk b off len aX _=>
     match cellsOf h b with
     |some cs=>if aX=z.length/\off+len*z.length<=cs.length then some (.aE [],h.set b (some (.cells (ew cs off (List.replicate len z).flatten)))) else none
     |none=>none
   | .vs [] _=>some (.aE [],h)
   | .cJ=>some (.aE [],h)
   |_=>none
 | .copy sz x y=>
   match x.ev ρ with
   | .rs b off len aX=>
     match ef sz h (y.ev ρ),cellsOf h b with
     |some ys,some cs=>
      let n:=min ys.length len
      if aX=sz/\off+len*sz<=cs.length then
       some (.int .i64 n,h.set b (some (.cells (ew cs off (ys.take n).flatten))))
      else none
     |_,_=>none
   | .vs [] _=>match ef sz h (y.ev ρ) with|some _=>some (.int .i64 0,h)|none=>none
   | .cJ=>match ef sz h (y.ev ρ) with|some _=>some (.int .i64 0,h)|none=>none
   |_=>none
 | .Db m k v=>
   match m.ev ρ,k.ev ρ with
   | .map (some b), .int kd n=>
     match h.get b with
     |some (.map es)=>(zk (.int kd n) (v.ev ρ).strip es).map fun bE=>(.undef,h.set b (some (.map bE)))
     |_=>none
   |_,_=>none
 | .Fz m k=>
   match m.ev ρ,k.ev ρ with
   | .map (some b), .int kd n=>
     match h.get b with
     |some (.map es)=>(zm (.int kd n) es).map fun bE=>(.aE [],h.set b (some (.map bE)))
     |_=>none
   |_,_=>none
section
variable {P:Program} {ι:aO} {I:bR} {h:aa} {w:World}
def fX (P:Program) (ι:aO) (I:bR) (h:aa) (w:World) (v:AV) (s:Sem Value):Prop:=
 ∃c w' I',s.run P w= .ok c w'/\VR ι I' w' v c/\HR ι I' h w'/\Ext (fun _=>False) ι I h w ι I' h w'
def fX.same (H:HR ι I h w) (hr:s.run P w= .ok c w) (hv:VR ι I w v c):fX P ι I h w v s:=
 ⟨c,w,I,hr,hv,H, .refl _ _ _ _ _⟩
def dC (hu:P.underlying t=some d) (w):(underlying t).run P w= .ok d w:=run_underlying hu w
def rz (hs:(P.info? t).map (·.size)=some sz) (w):(Go.sizeOf t).run P w= .ok sz w:=by
 cases hq:P.info? t with
 |none=>simp[hq] at hs
 |some i=>simp[hq] at hs;simp[Go.sizeOf,typeInfo,hq,hs]
def Fo (hu:P.underlying t=some d) (w):(isAgg t).run P w= .ok d.isRow w:=by
 unfold isAgg
 rw[Sem.run_bind,run_underlying hu w]
 cases d<;>simp
def z5 (ι:aO) (I:bR) (w:World) (cb o:Nat) (cs:List AV):Prop:=
 ∀j v,cs[j]? =some v-> ∃c,w.cell? ⟨cb,o+j,none⟩=some c/\VR ι I w v c
def HR.row (H:HR ι I h w) (hg:h.get b=some (.cells cs)) (hb:ι b=some (.cells cb o room)):
 z5 ι I w cb o cs/\cs.length<=room/\(∀v∈cs,v.one=true):=by
 obtain⟨ke,o',vZ,hl,hle,h1,hc⟩:=H.cells b cs _ hg hb
 cases hl
 refine⟨fun j v hv=>?_,hle,h1⟩
 obtain⟨c,h1,_,h3⟩:=hc j (by grind)
 grind
def z5.list (hr:z5 ι I w cb o cs): ∃l':List Value,cs.length=l'.length/\
 (∀(j:Nat) (c:Value),l'[j]? =some c->w.cell? ⟨cb,o+j,none⟩=some c)/\ ∀(j:Nat) (v:AV) (c:Value),cs[j]? =some v->l'[j]? =some c->VR ι I w v c:=by
 obtain⟨l',hl,hp⟩:=aGJ cs hr
 refine⟨l',hl,fun j c hc=>?_,fun j v c hv hc=>(hp j v c hv hc).2⟩
 have hj:j<cs.length:=by grind
 simp_all
def z5.sub (hr:z5 ι I w cb o cs) (off sz):z5 ι I w cb (o+off) ((cs.drop off).take sz):=by
 intro j v hv
 rw[List.getElem?_take] at hv
 split at hv
 ·rw[List.getElem?_drop] at hv
  obtain⟨c,h1,h2⟩:=hr (off+j) v hv
  grind
 ·cases hv
def akn (H:HR ι I h w) (hu:P.underlying t=some d) (hs:(P.info? t).map (·.size)=some sz)
 (hr:z5 ι I w cb o cs) (hc:cut d.isRow sz off cs=some v):
 fX P ι I h w v (Instr.loadAt t (.pointer (some ⟨cb,o+off,none⟩))):=by
 cases hd:d.isRow with
 |true=>
  rw[hd] at hc
  simp only[cut,dP] at hc
  split at hc
  ·rename_i hle
   cases hc
   obtain⟨l',hl,h1,h2⟩:=(hr.sub off sz).list
   have hlen:l'.length=sz:=by grind
   have:=run_loadVar_mid (P:=P) w cb (o+off) t l' d h1 hu hd (by grind)
   exact .same H (by simp[Instr.loadAt,Instr.sureAddr,this]) (.agg _ _ hl h2)
  ·cases hc
 |false=>
  rw[hd] at hc
  simp only[cut,nj,fj] at hc
  obtain⟨c,h1,h2⟩:=hr off v hc
  exact .same H (by simp[Instr.loadAt,Instr.sureAddr,loadVar,Fo hu,hd,run_load,h1]) h2
def aKa (H:HR ι I h w) (hu:P.underlying t=some d) (hs:(P.info? t).map (·.size)=some sz)
 (ha:VR ι I w a c) (hl:pC d.isRow sz h a=some v):fX P ι I h w v (Instr.loadAt t c):=by
 cases ha<;>simp only[pC] at hl<;>try(cases hl;done)
 case ptr b off cb o room hb=>
  simp only[cellsOf] at hl
  split at hl
  ·rename_i cs hg
   exact akn H hu hs (H.row (by simpa using hg) hb).1 hl
  ·cases hl
 case vp xs off cb o g hI hc hv h1=>
  refine akn H hu hs (cs:=xs) (fun j v hj=>?_) hl
  grind
def aI6 (H:HR ι I h w) (hu:P.underlying s=some (.struct fs)) (hf:fs[f]? =some fd)
 (aZ:(P.info? fd.type).map (·.size)=some fsz) (h0:fsz≠0) (hx:VR ι I w x c)
 (hr:FH fd.offset x=some v):
 fX P ι I h w v (Instr.fieldAt s c f):=by
 unfold FH at hr
 cases hx<;>simp only[] at hr<;>try(cases hr;done)
 case ptr b off cb o room hb=>
  cases hr
  refine .same H (c:= .pointer (some ⟨cb,o+(off+fd.offset),none⟩)) ?_ (.ptr _ _ _ _ _ hb)
  simp[Instr.fieldAt,dC hu,hf,Instr.sureAddr,fieldPlace,rz aZ,h0,Addr.add_mid,rJ]
 case vp xs off cb o g hI hc hv h1=>
  cases hr
  refine .same H (c:= .pointer (some ⟨cb,o+(off+fd.offset),none⟩)) ?_ (.vp _ _ _ _ g hI hc hv h1)
  simp[Instr.fieldAt,dC hu,hf,Instr.sureAddr,fieldPlace,rz aZ,h0,Addr.add_mid,rJ]
def aHK (H:HR ι I h w) (hu:P.underlying t=some (.array len e)) (hs:(P.info? e).map (·.size)=some sz)
 (hx:VR ι I w x c) (hi:VR ι I w i ci)
 (hr:Fp sz len x i=some v):fX P ι I h w v (Instr.indexAt t c ci):=by
 unfold Fp at hr
 cases hi<;>simp only[] at hr<;>try(cases hr;done)
 case int k n=>
  split at hr
  ·rename_i hb
   cases hx<;>simp only[] at hr<;>try(cases hr;done)
   case ptr b off cb o room cF=>
    cases hr
    refine .same H (c:= .pointer (some ⟨cb,o+(off+n.toNat*sz),none⟩)) ?_ (.ptr _ _ _ _ _ cF)
    simp[Instr.indexAt,asIntOf,dC hu,Instr.sureAddr,hb,rz hs,Addr.add_mid,rJ]
   case vp xs off cb o g hI hc hv h1=>
    cases hr
    refine .same H (c:= .pointer (some ⟨cb,o+(off+n.toNat*sz),none⟩)) ?_ (.vp _ _ _ _ g hI hc hv h1)
    simp[Instr.indexAt,asIntOf,dC hu,Instr.sureAddr,hb,rz hs,Addr.add_mid,rJ]
  ·cases hr
def aHJ (H:HR ι I h w) (hu:P.underlying t=some (.slice e)) (hs:(P.info? e).map (·.size)=some sz)
 (hx:VR ι I w x c) (hi:VR ι I w i ci)
 (hr:kj sz x i=some v):fX P ι I h w v (Instr.indexAt t c ci):=by
 unfold kj at hr
 cases hi<;>simp only[] at hr<;>try(cases hr;done)
 case int k n=>
  split at hr
  ·rename_i h0
   cases hx<;>simp only[] at hr<;>try(cases hr;done)
   case vs xs t cb o s cap g cS hI hc hv h1 bY ht=>
    split at hr
    ·rename_i row UB
     split at hr
     ·rename_i hlen
      cases hr
      have aS:=(List.getElem?_eq_some_iff.1 UB).1
      have i5:s=sz:=by grind
      subst i5
      refine .same H (c:= .pointer (some ⟨cb,o+n.toNat*s+0,none⟩)) ?_ (.vp row 0 cb (o+n.toNat*s) (g n.toNat) (fun j hj=>hI _ _ aS (by omega)) (fun j hj=>hc _ _ aS (by omega)) (fun j v hj=>hv _ _ _ _ UB hj) (h1 row (iC UB)))
      have hb:0<=n/\n<(xs.length:Int):=⟨h0,by omega⟩
      simp[Instr.indexAt,asIntOf,dC hu,hb,rz hs,Addr.add_mid]
     ·cases hr
    ·cases hr
   case rs b off len aX cb o room cap hb hlen bY=>
    split at hr
    ·rename_i cF
     obtain⟨rfl,aS⟩:=cF
     cases hr
     refine .same H (c:= .pointer (some ⟨cb,o+(off+n.toNat*aX),none⟩)) ?_ (.ptr _ _ _ _ _ hb)
     simp[Instr.indexAt,asIntOf,dC hu,h0,aS,rz hs,Addr.add_mid,rJ]
    ·cases hr
  ·cases hr
end
end
section
open Go
section
variable {P:Program} {ι:aO} {I:bR} {h:aa} {w:World}
def LR (ι:aO) (I:bR) (w:World) (l:List AV) (l':List Value):Prop:=
 l.length=l'.length/\ ∀(i:Nat) (v:AV) (c:Value),l[i]? =some v->l'[i]? =some c->VR ι I w v c
def LR.get (hl:LR ι I w l l') {i:Nat} (hv:l[i]? =some v): ∃c,l'[i]? =some c/\VR ι I w v c:=by
 have hi:=(List.getElem?_eq_some_iff.1 hv).1
 have av:i<l'.length:=by rw[<-hl.1];exact hi
 exact⟨l'[i],bn av,hl.2 i v _ hv (bn av)⟩
def LR.nil:LR ι I w [] []:=⟨rfl,fun i v c h=>by simp at h⟩
def LR.cons (h:VR ι I w a c) (hl:LR ι I w l l'):LR ι I w (a::l) (c::l'):=by
 refine⟨by simp[hl.1],fun i v c' hv hc=>?_⟩
 cases i with
 |zero=>grind
 |succ i=>exact hl.2 i v c' (by simpa using hv) (by simpa using hc)
def LR.take (hl:LR ι I w l l') (n):LR ι I w (l.take n) (l'.take n):=by
 refine⟨by simp[hl.1],fun i v c hv hc=>?_⟩
 rw[List.getElem?_take] at hv hc
 split at hv
 ·rename_i aS;rw[ax aS] at hc;exact hl.2 i v c hv hc
 ·cases hv
def LR.drop (hl:LR ι I w l l') (n):LR ι I w (l.drop n) (l'.drop n):=by
 refine⟨by simp[hl.1],fun i v c hv hc=>?_⟩
 rw[List.getElem?_drop] at hv hc
 exact hl.2 _ v c hv hc
def LR.append (hl:LR ι I w l l') (hm:LR ι I w m m'):LR ι I w (l++m) (l'++m'):=by
 refine⟨by simp[hl.1,hm.1],fun i v c hv hc=>?_⟩
 rw[B8] at hv hc
 rw[<-hl.1] at hc
 split at hv
 ·rename_i aS;rw[ax aS] at hc;exact hl.2 i v c hv hc
 ·rename_i aS;rw[aj aS] at hc;exact hm.2 _ v c hv hc
def LR.mono (hl:LR ι I w l l')
 (h: ∀a v,VR ι I w a v->VR ι' I' w' a v):LR ι' I' w' l l':=⟨hl.1,fun i v c hv hc=>h _ _ (hl.2 i v c hv hc)⟩
def VR.cells (hv:VR ι I w a c) (hu:a≠ .undef):LR ι I w a.cells c.cells.toList:=by
 cases hv<;>first
  |exact(hu rfl).elim
  |(refine LR.cons ?_ LR.nil;constructor<;>assumption)
  |(rename_i cs b8 hl hv;exact⟨by simpa [AV.cells,Value.cells] using hl,by simpa [AV.cells,Value.cells] using hv⟩)
  |(rename_i h1;cases c<;>first|exact LR.cons (.jd _ h1) LR.nil|(simp[Value.oneCell'] at h1))
def OJ (pr:Bool):Value->Option AV
 | .int k n=>some (.int k n)
 | .bool b=>some (.bool b)
 | .float k b=>some (.eW k b)
 | .complex k a b=>some (.fT k a b)
 | .string s=>some (.str s)
 | .pointer none=>some .nil
 | .slice none 0 0=>some (if pr then .cJ else .vs [] .full)
 | .map none=>some (.map none)
 | .nilFunc=>some .qJ
 |_=>none
def Bm (pr:Bool):List Value->Option (List AV)
 |[]=>some []
 |v::vs=>match OJ pr v,Bm pr vs with
  |some a,some l=>some (a::l)
  |_,_=>none
def Jj (pr:Bool):Value->Option AV
 | .agg cs=>(Bm pr cs.toList).map .agg
 |v=>OJ pr v
def aiF (hc:OJ pr v=some a):VR ι I w a v/\a.one=true:=by
 unfold OJ at hc
 split at hc<;>first
  |(cases hc;done)
  |(cases hc;exact⟨by constructor,rfl⟩)
  |skip
 cases pr
 ·cases hc;exact⟨.jA _ (.inr rfl),rfl⟩
 ·cases hc;exact⟨.cJ,rfl⟩
theorem xa: ∀{vs:List Value} {l:List AV},Bm pr vs=some l->LR ι I w l vs/\ ∀v∈l,v.one=true
 |[],l,hc=>by simp[Bm] at hc;subst hc;exact⟨LR.nil,by simp⟩
 |v::vs,l,hc=>by
  simp only[Bm] at hc
  split at hc
  ·rename_i a l' ha hl
   cases hc
   have h1:=aiF (ι:=ι) (I:=I) (w:=w) ha
   have h2:=xa hl
   exact⟨LR.cons h1.1 h2.1,
    by grind⟩
  ·cases hc
end
end
section
open Go
section
variable {P:Program} {ι:aO} {I:bR} {h:aa} {w:World}
def Wy {a:AV} (h:a.cells.all AV.one=true):a≠ .undef:=by
 rintro rfl;simp[AV.cells,AV.one] at h
theorem akB (off): ∀(vs:List Value) (k:Nat) (cells:Array Value),
 ((vs.zipIdx k).foldl (fun cs (p:Value×Nat)=>cs.setIfInBounds (off+p.2) p.1) cells).size=cells.size/\
 ∀i:Nat,((vs.zipIdx k).foldl (fun cs (p:Value×Nat)=>cs.setIfInBounds (off+p.2) p.1) cells)[i]? =
  if off+k<=i/\i<off+k+vs.length/\i<cells.size then vs[i-(off+k)]? else cells[i]?
 |[],k,cells=>by simp;omega
 |v::vs,k,cells=>by
  have ih:=akB off vs (k+1) (cells.setIfInBounds (off+k) v)
  simp only[List.zipIdx_cons,Dx]
  grind
def aIo (cs) (off) (vs) (h:off+vs.length<=cs.length) (i):
 (ew cs off vs)[i]? =if off<=i/\i<off+vs.length then vs[i-off]? else cs[i]?:=by
 unfold ew
 rw[B8,B8]
 grind
def Vy (cs) (off) (vs) (h:off+vs.length<=cs.length):(ew cs off vs).length=cs.length:=by
 unfold ew;simp;omega
def VV (cs) (off) (vs) (h:off<=cs.length) (i):
 (ew cs off vs)[i]? =if off<=i/\i<off+vs.length then vs[i-off]? else cs[i]?:=by
 unfold ew
 grind
def aFd (cs) (off) (vs) (h:off<=cs.length):(ew cs off vs).length=max cs.length (off+vs.length):=by
 unfold ew;simp;omega
def OR (ι:aO) (I:bR) (w:World) (ρ:Env) (x:aJ) (c:Value):Prop:=VR ι I w (x.ev ρ) c
def akD (place): ∀(ps:List (Nat×Nat×aJ)) (fw:List (Nat×Value)) (cs:List AV) (cells:Array Value) (r:List AV),
 ps.length=fw.length->(∀(i off sz j:Nat) (x:aJ) (c:Value),ps[i]? =some (off,sz,x)->fw[i]? =some (j,c)->place j=some (off,sz)/\OR ι I w ρ x c)->
 LR ι I w cs cells.toList->pA ρ cs ps=some r-> ∃O3,Instr.fill place cells fw=some O3/\LR ι I w r O3.toList:=by
 intro ps
 induction ps with
 |nil=>
  intro fw cs cells r hl _ hc hf
  cases fw with
  |nil=>simp[pA] at hf;subst hf;exact⟨cells,rfl,hc⟩
  |cons _ _=>simp at hl
 |cons p ps ih=>
  intro fw cs cells r hl hp hc hf
  cases fw with
  |nil=>simp at hl
  |cons q fw=>
   obtain⟨off,sz,x⟩:=p
   obtain⟨j,c⟩:=q
   obtain⟨qY,hx⟩:=hp 0 off sz j x c rfl rfl
   simp only[pA] at hf
   split at hf
   ·rename_i jC
    obtain⟨h1,h2,h3⟩:=jC
    have hcell:=VR.cells hx (Wy h3)
    have aZ:c.cells.size=sz:=by rw[<-h1,hcell.1];simp
    have d9:cells.size=cs.length:=by rw[hc.1];simp
    have aN9:=akB off c.cells.toList 0 cells
    have aSY:c.cells.zipIdx.foldl (fun cs (x:Value×Nat)=>cs.setIfInBounds (off+x.2) x.1) cells=(c.cells.toList.zipIdx 0).foldl (fun cs (x:Value×Nat)=>cs.setIfInBounds (off+x.2) x.1) cells:=by
     rw[<-Array.foldl_toList,Array.toList_zipIdx]
    have kZ:LR ι I w (ew cs off (x.ev ρ).cells) (c.cells.zipIdx.foldl (fun cs (x:Value×Nat)=>cs.setIfInBounds (off+x.2) x.1) cells).toList:=by
     rw[aSY]
     refine⟨by rw[Vy _ _ _ (by omega)];grind,fun i v c' hv jN=>?_⟩
     rw[aIo _ _ _ (by omega)] at hv
     rw[Array.getElem?_toList,aN9.2 i] at jN
     have hlen:c.cells.toList.length=(x.ev ρ).cells.length:=hcell.1.symm
     split at hv
     ·rename_i aN
      rw[ax (by omega)] at jN
      exact hcell.2 _ v c' hv (by omega)
     ·rename_i aN
      rw[aj (by omega)] at jN
      exact hc.2 i v c' hv (by grind)
    obtain⟨O3,he,hr⟩:=ih fw _ _ r (by simpa using hl) (fun i off sz j x c hi hj=>hp (i+1) off sz j x c (by simpa using hi) (by simpa using hj)) kZ hf
    refine⟨O3,?_,hr⟩
    unfold Instr.fill
    grind
   ·cases hf
def aJj (H:HR ι I h w) {z:Value}
 (aM1: ∀cells,Instr.fill place z.cells fw.toList=some cells->P.built t fw.toList=some cells)
 (hz:LR ι I w za z.cells.toList) (hl:ps.length=fw.size)
 (hp: ∀(i off sz j:Nat) (x:aJ) (c:Value),ps[i]? =some (off,sz,x)->fw[i]? =some (j,c)->place j=some (off,sz)/\OR ι I w ρ x c)
 (hf:pA ρ za ps=some r):fX P ι I h w (.agg r) (Instr.build t fw):=by
 obtain⟨cells,hc,hr⟩:=akD place ps fw.toList za z.cells r (by simpa using hl) (fun i off sz j x c hi hj=>hp i off sz j x c hi (by simpa using hj)) hz hf
 refine .same H (run_build w t fw cells (aM1 _ hc)) ?_
 have:=VR.agg (ι:=ι) (I:=I) (w:=w) r cells.toList hr.1 hr.2
 omega
end
end
section
open Go
section
variable {P:Program} {ι:aO} {I:bR} {h:aa} {w:World}
def HR.push (H:HR ι I h w) (wD: ∀k,k<w.heap.size->w'.heap[k]? =w.heap[k]?) (GP:w.heap.size<=w'.heap.size)
 (qk:w'.os=w.os) (Kk:w'.tape=w.tape) (uG:w'.output=w.output)
 (hI: ∀k j,I' k j->I k j\/(w.heap.size<=k/\k<w'.heap.size)) (hI2: ∀k j,I k j->I' k j):
 HR ι I' h w'/\Ext (fun _=>False) ι I h w ι I' h w':=by
 have hcell: ∀k j,k<w.heap.size->w'.cell? ⟨k,j,none⟩=w.cell? ⟨k,j,none⟩:=fun k j hk=>by simp[World.cell?,wD k hk]
 have Ct: ∀k j,k<w.heap.size->w'.frozen? ⟨k,j,none⟩=w.frozen? ⟨k,j,none⟩:=fun k j hk=>by simp[World.frozen?,wD k hk]
 have E:Ext (fun _=>False) ι I h w ι I' h w':=
  {fN:=fun _ _=>rfl,more:=fun _ _ h=>h,next:=ak _,bZ:=hI2,os:=qk,tape:=Kk,output:=uG,size:=GP
   block:=fun k hk _=>wD k hk,cell:=fun k j hk _=>hcell k j hk,frozen:=fun k j hk _=>Ct k j hk
   own:=fun _ _ h=> .inl h,jW:=fun k j h=>(hI k j h).imp id (fun h=> .inr h.1),lost:=fun _ _ _=>rfl}
 refine⟨?_,E⟩
 refine{dI:=H.dI,inside:=fun b l hb=>bJ (H.inside b l hb) GP,cells:=?_,maps:=?_,iE:=?_,eN:=H.eN,bZ:=?_,eP:=?_
        pl:=fun b cs cb o room hg hb n=>by rw[Ct cb n (H.inside b _ hb)];exact H.pl b cs cb o room hg hb n}
 ·intro b cs l hg hb
  obtain⟨cb,o,room,rfl,hle,h1,hc⟩:=H.cells b cs l hg hb
  have aN:cb<w.heap.size:=H.inside b _ hb
  refine⟨cb,o,room,rfl,hle,h1,fun j hj=>?_⟩
  obtain⟨c,cN,cI,qo⟩:=hc j hj
  exact⟨c,by grind,by grind,fun v hv=>E.vr H (qo v hv)⟩
 ·intro b es l hg hb
  obtain⟨cb,bE,clock,rfl,hm,hl,hv⟩:=H.maps b es l hg hb
  refine⟨cb,bE,clock,rfl,by grind,hl,fun i k v e h1 h2=>?_⟩
  obtain⟨a,c⟩:=hv i k v e h1 h2
  exact⟨E.vr H a,E.vr H c⟩
 ·intro b l hg hb
  obtain⟨cb,lo,hi,rfl,hc⟩:=H.iE b l hg hb
  have aN:cb<w.heap.size:=H.inside b _ hb
  grind
 ·intro b l x k j hb hg hl hk
  rcases hI k j hk with hk|hk
  ·exact H.bZ b l x k j hb hg hl hk
  ·have:=H.inside b l hb
   have:k=l.block:=by cases l<;>simp[Loc.has] at hl<;>simp[Loc.block,hl]
   omega
 ·intro k j hk
  rcases hI k j hk with hk|hk
  ·exact bJ (H.eP k j hk) GP
  ·exact hk.2
theorem flat_get: ∀(rows:List (List AV)),(∀r∈rows,r.length=sz)-> ∀(i j:Nat) (row:List AV),rows[i]? =some row->j<sz->
 rows.flatten[i*sz+j]? =row[j]?
 |[],_,i,j,row,h,_=>by simp at h
 |r::rows,hu,0,j,row,h,hj=>by
  grind
 |r::rows,hu,i+1,j,row,h,hj=>by
  have hr:=hu r (by simp)
  simp only[mG]
  rw[Hn (by grind),hr,show(i+1)*sz+j-sz=i*sz+j by grind]
  exact flat_get rows (fun r h=>hu r (eH _ h)) i j row (by simpa using h) hj
theorem vf: ∀(rows:List (List AV)),(∀r∈rows,r.length=sz)->rows.flatten.length=rows.length*sz
 |[],_=>by simp
 |r::rows,hu=>by
  rw[mG,cw,vf rows (fun r h=>hu r (eH _ h)),hu r (by simp),cQ,Nat.succ_mul];omega
theorem Oh: ∀(rows:List (List AV)),(∀r∈rows,r.length=sz)-> ∀(i:Nat) (vs:List AV),i<rows.length->vs.length=sz->
 (rows.set i vs).flatten=ew rows.flatten (i*sz) vs
 |[],_,i,vs,hi,_=>by simp at hi
 |r::rows,hu,0,vs,_,hv=>by
  have hr:=hu r (by simp)
  simp only[List.set_cons_zero,mG,ew,Nat.zero_mul,kD,kF,rI]
  grind
 |r::rows,hu,i+1,vs,hi,hv=>by
  have hr:=hu r (by simp)
  simp only[List.set_cons_succ,mG]
  rw[Oh rows (fun r h=>hu r (eH _ h)) i vs (by simpa using hi) hv]
  have e1:(i+1)*sz=r.length+i*sz:=by grind
  have e2:r.length+i*sz+vs.length=r.length+(i*sz+vs.length):=by omega
  simp only[ew]
  rw[e1,e2]
  have t1:(r++rows.flatten).take (r.length+i*sz)=r++rows.flatten.take (i*sz):=by
   grind
  have t2:(r++rows.flatten).drop (r.length+(i*sz+vs.length))=rows.flatten.drop (i*sz+vs.length):=by
   rw[B5];simp
  grind
theorem ahX: ∀(ps:List (Nat×aJ)) (rows r:List (List AV)),(∀x∈rows,x.length=sz/\ ∀v∈x,v.one=true)->lK ρ sz rows ps=some r->
 (∀x∈r,x.length=sz/\ ∀v∈x,v.one=true)/\r.length=rows.length/\pA ρ rows.flatten (ps.map fun p=>(p.1*sz,sz,p.2))=some r.flatten
 |[],rows,r,hu,h=>by simp[lK] at h;subst h;exact⟨hu,rfl,by simp[pA]⟩
 |(i,x)::ps,rows,r,hu,h=>by
  simp only[lK] at h
  split at h
  ·rename_i hc
   obtain⟨h1,h2,h3⟩:=hc
   have pO: ∀y∈rows.set i (x.ev ρ).cells,y.length=sz/\ ∀v∈y,v.one=true:=by
    grind
   obtain⟨a,b,c⟩:=ahX ps _ r pO h
   refine⟨a,by rw[b];simp,?_⟩
   simp only[eG,pA]
   have da:=vf rows (fun r h=>(hu r h).1)
   have hle:i*sz+sz<=rows.flatten.length:=by
    rw[da,<-Nat.succ_mul];exact nu _ h2
   rw[ax ⟨h1,hle,h3⟩,<-Oh rows (fun r h=>(hu r h).1) i _ h2 h1]
   exact c
  ·cases h
theorem ahH (za:List AV): ∀(n i:Nat),i<n*za.length->(List.replicate n za).flatten[i]? =za[i%za.length]?
 |0,i,h=>by simp at h
 |n+1,i,h=>by
  simp only[List.replicate_succ,mG]
  by_cases aS:i<za.length
  ·rw[Hm aS,Nat.mod_eq_of_lt aS]
  ·have jK:i-za.length<n*za.length:=by grind
   rw[Hn (by omega),ahH za n _ jK]
   congr 1
   exact(Nat.mod_eq_sub_mod (by omega)).symm
def IC (hz:LR ι I w za z.toList) (n) (h0:za.length≠0\/n=0):
 LR ι I w (List.replicate n za).flatten (madeCells z (n*z.size)).toList:=by
 have hl:za.length=z.size:=by rw[hz.1];simp
 refine⟨by rw[vf (sz:=za.length) _ (fun r hr=>by grind)];simp[size_madeCells,hl],fun i v c hv hc=>?_⟩
 have hi:i<n*za.length:=by
  have:=(List.getElem?_eq_some_iff.1 hv).1
  simp_all
 rw[ahH za n i hi] at hv
 have lP:0<za.length:=by
  grind
 have hm:i%za.length<za.length:=Nat.mod_lt _ lP
 have aN:i<n*z.size:=by grind
 have:c=z[i%z.size]! :=by
  have h':(madeCells z (n*z.size))[i]? =some c:=by simpa using hc
  simp[madeCells,aN] at h'
  grind
 subst this
 refine hz.2 (i%za.length) v _ hv ?_
 grind
def WQ (H:HR ι I h w) (GR:w'.heap=w.heap.push (.cells arr e fr))
 (qk:w'.os=w.os) (Kk:w'.tape=w.tape) (uG:w'.output=w.output)
 (hu: ∀x∈rows,x.length=sz/\ ∀v∈x,v.one=true)
 (hl:LR ι I w rows.flatten l) (Aj: ∀(i:Nat) (c:Value),l[i]? =some c->arr[i]? =some c) (bY:rows.length<=cap) (t) (ht:t= .au\/(t= .full/\cap=rows.length)):
 ∃I',VR ι I' w' (.vs rows t) (.slice (some ⟨w.heap.size,0,none⟩) rows.length cap)/\HR ι I' h w'/\Ext (fun _=>False) ι I h w ι I' h w':=by
 have aZ:w'.heap.size=w.heap.size+1:=by grind
 obtain⟨H',E⟩:=H.push (w':=w') (I':=fun k j=>I k j\/k=w.heap.size) (fun k hk=>by grind) (by omega) qk Kk uG
  (fun k j hk=>hk.imp id (fun h=>by omega)) (fun k j hk=> .inl hk)
 refine⟨_,?_,H',E⟩
 have hcell: ∀j,w'.cell? ⟨w.heap.size,j,none⟩=arr[j]?:=fun j=>by simp[World.cell?,GR]
 have aUw:=vf rows (fun r hr=>(hu r hr).1)
 have bB: ∀(i j:Nat) (row:List AV) (v:AV),rows[i]? =some row->row[j]? =some v-> ∃c,l[i*sz+j]? =some c/\VR ι I w v c:=by
  intro i j row v hi hj
  have hr:=(hu row (iC hi)).1
  have iu:=(List.getElem?_eq_some_iff.1 hj).1
  have:=flat_get rows (fun r hr=>(hu r hr).1) i j row hi (by omega)
  exact hl.get (by grind)
 refine .vs rows t w.heap.size 0 sz cap (fun i j=>l.getD (i*sz+j) undef) (fun i row hi=>(hu row (iC hi)).1) (fun i j _ _=> .inr rfl) ?_ ?_ (fun row hr v hv=>(hu row hr).2 v hv) bY ?_
 ·intro i j hi hj
  have cS:=bn hi
  have hr:=(hu rows[i] (bw hi)).1
  obtain⟨c,hc,_⟩:=bB i j _ _ cS (bn (by omega))
  grind
 ·intro i row j v hi hj
  obtain⟨c,hc,hv⟩:=bB i j row v hi hj
  have:l.getD (i*sz+j) undef=c:=by grind
  rw[this]
  exact E.vr H hv
 ·rcases ht with rfl|⟨rfl,hh⟩
  ·trivial
  ·exact hh
end
end
section
open Go
section
variable {P:Program} {ι:aO} {I:bR} {h:aa} {w:World}
def aGi (ps:List (Nat×aJ)) (fw:List (Nat×Value)) (hl:ps.length=fw.length)
 (hp: ∀(i j k:Nat) (x:aJ) (c:Value),ps[i]? =some (j,x)->fw[i]? =some (k,c)->j=k/\OR ι I w ρ x c):
 (ps.map fun p=>(p.1*sz,sz,p.2)).length=fw.length/\
 ∀(i off aX j:Nat) (x:aJ) (c:Value),(ps.map fun p=>(p.1*sz,sz,p.2))[i]? =some (off,aX,x)->fw[i]? =some (j,c)->
  (some (j*sz,sz):Option (Nat×Nat))=some (off,aX)/\OR ι I w ρ x c:=by
 grind
def LR.one (h:LR ι I w za z) (n) (h1: ∀v∈za,v.one=true): ∀x∈List.replicate n za,x.length=za.length/\ ∀v∈x,v.one=true:=by
 grind
def aia {z:Value} {fw:Array (Nat×Value)}
 (hz:LR ι I w za z.cells.toList) (h1: ∀v∈za,v.one=true) (h0:za.length≠0) (hl:ps.length=fw.size)
 (hp: ∀(i j k:Nat) (x:aJ) (c:Value),ps[i]? =some (j,x)->fw[i]? =some (k,c)->j=k/\OR ι I w ρ x c)
 (hf:lK ρ za.length (List.replicate n za) ps=some rows):
 (∀x∈rows,x.length=za.length/\ ∀v∈x,v.one=true)/\rows.length=n/\
 ∃cells,Instr.fill (fun i=>some (i*za.length,za.length)) (madeCells z.cells (n*z.cells.size)) fw.toList=some cells/\LR ι I w rows.flatten cells.toList:=by
 obtain⟨hu,hn,hA⟩:=ahX ps _ rows (LR.one hz n h1) hf
 refine⟨hu,by simpa using hn,?_⟩
 obtain⟨a,b⟩:=aGi (sz:=za.length) ps fw.toList (by simpa using hl) (fun i j k x c hi hj=>hp i j k x c hi (by simpa using hj))
 exact akD _ _ fw.toList _ _ _ a b (IC hz n (.inl h0)) hA
def aiN (w)
 (hu:P.underlying t=some (.slice e)) (dN:P.info? e=some ie) (hz:ie.zero=some z) (aZ:ie.size=z.cells.size) (O0:len*ie.size<=2^24)
 (hc:Instr.fill (fun i=>some (i*ie.size,ie.size)) (madeCells z.cells (len*z.cells.size)) parts.toList=some cells):
 (Instr.buildSlice t len parts).run P w= .ok (.slice (some ⟨w.heap.size,0,none⟩) len len) (w.alloc (.cells cells e)):=by
 by_cases h0:len*ie.size=0
 ·have EG:len*z.cells.size=0:=by grind
  rw[EG] at hc
  have he:madeCells z.cells 0= #[]:=by simp[madeCells,Array.range_zero']
  rw[he] at hc
  simp[Instr.buildSlice,dC hu,Go.sizeOf,typeInfo,dN,h0,hc,newRow,Array.range_zero']
 ·exact run_buildSlice w t e len parts cells ie z hu dN hz (by omega) h0 (by rw[<-aZ] at hc;exact hc)
def aH2 (H:HR ι I h w)
 (hu:P.underlying t=some (.slice e)) (dN:P.info? e=some ie) (Eg:ie.zero=some z) (aZ:ie.size=z.cells.size) (O0:n*ie.size<=2^24)
 (hz:LR ι I w za z.cells.toList) (h1: ∀v∈za,v.one=true) (h0:za.length≠0) (hl:ps.length=fw.size)
 (hp: ∀(i j k:Nat) (x:aJ) (c:Value),ps[i]? =some (j,x)->fw[i]? =some (k,c)->j=k/\OR ι I w ρ x c)
 (hf:lK ρ za.length (List.replicate n za) ps=some rows):fX P ι I h w (.vs rows .full) (Instr.buildSlice t n fw):=by
 obtain⟨pO,hn,cells,hc,eF⟩:=aia hz h1 h0 hl hp hf
 have pL:za.length=z.cells.size:=by rw[hz.1];simp
 have hr:=aiN (P:=P) w (parts:=fw) (cells:=cells) hu dN Eg aZ O0 (by grind)
 obtain⟨I',hv,H',E⟩:=WQ H (w':=w.alloc (.cells cells e)) (e:=e) (fr:=(0,0)) (arr:=cells) rfl rfl rfl rfl (cap:=n) pO eF (fun i c hc=>by simpa using hc) (by omega) .full (.inr ⟨rfl,hn.symm⟩)
 exact⟨_,_,I',hr,by grind,H',E⟩
def ah4 {bytes:Nat} (hm:qA bytes l c=some n):l= .int .i64 n/\c= .int .i64 n/\n<2^40/\bytes*n<=2^40:=by
 unfold qA at hm
 grind
def aid (w) {bytes:Nat}
 (hu:P.underlying t=some (.slice e)) (dN:P.info? e=some ie) (hz:ie.zero=some z) (aZ:ie.size=z.cells.size) (hb:ie.bytes=bytes)
 (hn:n<2^40) (H5:bytes*n<=2^40):
 (Instr.makeSlice t (.int .i64 n) (.int .i64 n)).run P w= .ok (.slice (some ⟨w.heap.size,0,none⟩) n n) (w.alloc (.cells (madeCells z.cells (n*z.cells.size)) e)):=by
 have:=run_make (P:=P) w t e ie z hu dN hz .i64 .i64 n n (by omega) (by omega) (by
  grind) (by omega)
 grind
def aGl (H:HR ι I h w) {bytes:Nat}
 (hu:P.underlying t=some (.slice e)) (dN:P.info? e=some ie) (Eg:ie.zero=some z) (aZ:ie.size=z.cells.size) (hb:ie.bytes=bytes)
 (hz:LR ι I w za z.cells.toList) (h1: ∀v∈za,v.one=true) (h0:za.length≠0)
 (hl:VR ι I w l cl) (hc:VR ι I w c cc) (hm:qA bytes l c=some n):fX P ι I h w (.vs (List.replicate n za) .full) (Instr.makeSlice t cl cc):=by
 obtain⟨rfl,rfl,hn,H5⟩:=ah4 hm
 cases hl;cases hc
 have hr:=aid (P:=P) w hu dN Eg aZ hb hn H5
 obtain⟨I',hv,H',E⟩:=WQ H (w':=w.alloc (.cells (madeCells z.cells (n*z.cells.size)) e)) (e:=e) (fr:=(0,0)) (arr:=madeCells z.cells (n*z.cells.size)) rfl rfl rfl rfl (cap:=n)
  (rows:=List.replicate n za) (sz:=za.length) (LR.one hz n h1) (IC hz n (.inl h0)) (fun i c hc=>by simpa using hc) (by simp) .full (.inr ⟨rfl,by simp⟩)
 exact⟨_,_,I',hr,by simpa using hv,H',E⟩
def aHf (H:HR ι I h w) (hx:VR ι I w x c) (hn:notNil x=some v):
 c≠ .pointer none/\c≠ .nilIface/\c≠ .nilFunc/\(∀nm a b,c≠ .func (.method nm) a b)/\VR ι I w v c:=by
 cases hx<;>simp only[notNil] at hn<;>try(cases hn;done)
 case ptr b off cb o room hb=>cases hn;exact⟨by simp,by simp,by simp,by simp, .ptr _ _ _ _ _ hb⟩
 case vp xs off cb o g hI hc hv h1=>cases hn;exact⟨by simp,by simp,by simp,by simp, .vp _ _ _ _ g hI hc hv h1⟩
 case fn f fs cs gD b8 hf hc US ju=>cases hn;exact⟨by simp,by simp,by simp,by simp, .fn f fs cs gD b8 hf hc US ju⟩
def aJQ (op) (k) (a b) (v) (hs:op≠ .shl/\op≠ .shr) (hv:pH op k a b=some v) (t):
 ∃c,(binOp op t (.int k a) (.int k b)).run P w= .ok c w/\VR ι I w v c:=by
 cases op<;>simp only[pH,uq,iB,Option.map_none] at hv<;>try(cases hv;done)
 case quo=>split at hv;·cases hv
           ·rename_i hb;cases hv;exact⟨_,by simp[binOp,Op.intDiv,hb], .int _ _⟩
 case rem=>split at hv;·cases hv
           ·rename_i hb;cases hv;exact⟨_,by simp[binOp,Op.intDiv,hb], .int _ _⟩
 all_goals
  cases hv
  refine⟨_,by(simp only[binOp,ne_eq,not_true_eq_false,fj];rfl),?_⟩
  constructor
def aIq (op) (k) (a b) (v) (hv:SJ op k a b=some v) (t):
 (binOp op t (.float k a) (.float k b)).run P w= .ok (.bool v) w:=by
 cases op<;>simp only[SJ] at hv<;>first|(cases hv;done)|(cases hv;simp[binOp,Op.floatCmp])
def aMh (H:HR ι I h w) (hx:VR ι I w x cx) (hy:VR ι I w y cy) (hv:bH tb op x y=some v) (t)
 (ht:tb=true->P.underlying t=some .bool):fX P ι I h w v (binOp op t cx cy):=by
 cases hx<;>try(simp only[bH] at hv;cases hv;done)
 case int k a=>
  cases hy<;>try(simp only[bH] at hv;cases hv;done)
  rename_i k' b
  by_cases h1:op= .shl
  ·subst h1
   simp only[bH] at hv
   split at hv
   ·cases hv
   ·rename_i hb;cases hv;exact .same H (by simp[binOp,Op.shift,hb]) (.int _ _)
  ·by_cases h2:op= .shr
   ·subst h2
    simp only[bH] at hv
    split at hv
    ·cases hv
    ·rename_i hb;cases hv;exact .same H (by simp[binOp,Op.shift,hb]) (.int _ _)
   ·have:bH tb op (.int k a) (.int k' b)=if k=k' then pH op k a b else none:=by cases op<;>first|rfl|grind|grind
    rw[this] at hv
    split at hv
    ·rename_i hk;subst hk
     obtain⟨c,hr,hc⟩:=aJQ (P:=P) (ι:=ι) (I:=I) (w:=w) op k a b v ⟨h1,h2⟩ hv t
     exact .same H hr hc
    ·cases hv
 case bool a=>
  cases hy<;>try(simp only[bH] at hv;cases hv;done)
  rename_i b
  cases op<;>simp only[bH] at hv<;>try(cases hv;done)
  ·split at hv
   ·rename_i hb;cases hv;exact .same H (run_eql_bool w t a b (ht hb)) (.bool _)
   ·cases hv
  ·split at hv
   ·rename_i hb;cases hv;exact .same H (run_neq_bool w t a b (ht hb)) (.bool _)
   ·cases hv
 case eW k a=>
  cases hy<;>try(simp only[bH] at hv;cases hv;done)
  rename_i k' b
  simp only[bH] at hv
  split at hv
  ·rename_i hk;subst hk
   cases hq:SJ op k a b with
   |none=>simp[hq] at hv
   |some r=>simp[hq] at hv;subst hv;exact .same H (aIq op k a b r hq t) (.bool _)
  ·cases hv
 case fT k a b=>
  cases hy<;>try(simp only[bH] at hv;cases hv;done)
  rename_i k' c d
  simp only[bH] at hv
  split at hv
  ·rename_i hk;subst hk
   cases op<;>simp only[] at hv<;>try(cases hv;done)
   ·cases hv;exact .same H (by simp[binOp,Op.complexOp,Op.Complex.cmp,Op.floatCmp,asBool]) (.bool _)
   ·cases hv;exact .same H (by simp[binOp,Op.complexOp,Op.Complex.cmp,Op.floatCmp,asBool]) (.bool _)
  ·cases hv
 case str a=>
  cases hy<;>try(simp only[bH] at hv;cases hv;done)
  rename_i b
  simp only[bH] at hv
  cases op<;>simp only[] at hv<;>try(cases hv;done)
  ·cases hv;exact .same H (by simp[binOp,Op.stringOp]) (.bool _)
  ·cases hv;exact .same H (by simp[binOp,Op.stringOp]) (.bool _)
end
end
section
open Go
section
variable {P:Program} {ι:aO} {I:bR} {h:aa} {w:World}
def IV:TypeDesc->Value->Option Nat
 | .pointer _, .pointer none=>some 0
 | .slice _, .slice none 0 0=>some 1
 | .func _ _ _, .nilFunc=>some 2
 | .map _ _, .map none=>some 3
 |_,_=>none
def aJ5 (hx:VR ι I w x c) (hb:lF kd x=some b):
 (kd=0/\ ∃a,c= .pointer a/\b=a.isNone)\/(kd=1/\ ∃a l n,c= .slice a l n/\b=a.isNone)\/
 (kd=2/\((c= .nilFunc/\b=true)\/ ∃f u v,c= .func f u v/\b=false))\/(kd=3/\ ∃r,c= .map r/\b=r.isNone):=by
 cases hx
 case vs xs t cb o s cap g hs h1 h2 hv eg bY ht=>
  cases xs with
  |nil=>simp[lF] at hb
  |cons x xs=>
   simp only[lF] at hb
   grind
 all_goals simp only[lF] at hb
 all_goals grind
def aJb (hu:P.underlying t=some d) (hk:IV d nv=some kd)
 (hx:VR ι I w x c) (hb:lF kd x=some b):(Op.equal t c nv).run P w= .ok b w/\
   ∀neg:Bool,(binOp (if neg then .neq else .eql) t c nv)=(do let r <-Op.equal t c nv;pure (.bool (if neg then !r else r))):=by
 suffices key:(∀n,(Op.equalIn (n+1) t c nv).run P w= .ok b w)/\ ∀neg:Bool,(binOp (if neg then .neq else .eql) t c nv)=(do let r <-Op.equal t c nv;pure (.bool (if neg then !r else r))) from⟨key.1 9999,key.2⟩
 unfold IV at hk
 rcases aJ5 hx hb with⟨rfl,a,rfl,rfl⟩|⟨rfl,a,l,n,rfl,rfl⟩|⟨rfl,⟨rfl,rfl⟩|⟨f,u,v,rfl,rfl⟩⟩|⟨rfl,r,rfl,rfl⟩<;>
  (split at hk<;>first|(simp at hk;done)|skip)
 ·refine⟨fun n=>?_,fun neg=>by cases neg<;>cases a<;>rfl⟩
  cases a<;>simp[Op.equalIn,dC hu]
 ·refine⟨fun n=>?_,fun neg=>by cases neg<;>rfl⟩
  cases a<;>simp[Op.equalIn,dC hu]
 ·exact⟨fun n=>by simp[Op.equalIn,dC hu],fun neg=>by cases neg<;>rfl⟩
 ·exact⟨fun n=>by simp[Op.equalIn,dC hu],fun neg=>by cases neg<;>rfl⟩
 ·refine⟨fun n=>?_,fun neg=>by cases neg<;>rfl⟩
  cases r<;>simp[Op.equalIn,dC hu]
def aJc (H:HR ι I h w) (hu:P.underlying t=some d) (hk:IV d nv=some kd) (neg:Bool)
 (hx:VR ι I w x c) (hv:((lF kd x).map fun b=>AV.bool (if neg then !b else b))=some v):fX P ι I h w v (binOp (if neg then .neq else .eql) t c nv):=by
 cases hb:lF kd x with
 |none=>simp[hb] at hv
 |some b=>
  simp[hb] at hv
  subst hv
  obtain⟨hr,hs⟩:=aJb (P:=P) hu hk hx hb
  exact .same H (c:= .bool (if neg then !b else b)) (by rw[hs];simp[hr]) (.bool _)
def aMj (H:HR ι I h w) (hx:VR ι I w x c) (hv:Ih op x=some v):fX P ι I h w v (Op.unary op c):=by
 cases hx<;>simp only[Ih] at hv<;>try(cases hv;done)
 case int k n=>
  cases op<;>simp only[uq,iB] at hv<;>try(cases hv;done)
  all_goals (cases hv;exact .same H rfl (.int _ _))
 case bool b=>
  cases op<;>simp only[] at hv<;>try(cases hv;done)
  cases hv;exact .same H rfl (.bool _)
def aIi (H:HR ι I h w) (hs:P.underlying src=some ds) (hd:P.underlying dst=some (.int k)) (hx:VR ι I w x c)
 (hv:Jb k x=some v):fX P ι I h w v (convert src dst c):=by
 unfold Jb at hv
 cases hx<;>simp only[] at hv<;>try(cases hv;done)
 cases hv
 refine .same H (c:= .int k (k.wrap _)) ?_ (.int _ _)
 cases ds<;>simp[convert,dC hs,dC hd,Conv.intToInt]
def LR.cut (hl:LR ι I w cs b8) (hc:cut ag sz off cs=some v):
 if ag then∃l',VR ι I w v (.agg l'.toArray)/\l'=(b8.drop off).take sz/\off+sz<=b8.length else∃c,b8[off]? =some c/\VR ι I w v c:=by
 unfold Am.cut at hc
 cases ag
 ·simp only[nj,fj] at hc ⊢
  exact hl.get hc
 ·simp only[dP] at hc ⊢
  split at hc
  ·rename_i hle
   cases hc
   have:=(hl.drop off).take sz
   exact⟨_, .agg _ _ this.1 this.2,rfl,by rw[<-hl.1];exact hle⟩
  ·cases hc
def aj6 (hu:P.underlying t=some d) (hs:(P.info? t).map (·.size)=some sz) (w) (hl:LR ι I w cs b8)
 (hc:cut d.isRow sz off cs=some v): ∃c,(part t b8.toArray off).run P w= .ok c w/\VR ι I w v c:=by
 have:=hl.cut hc
 cases hd:d.isRow with
 |true=>
  rw[hd] at this
  simp only[dP] at this
  obtain⟨l',hv,rfl,hle⟩:=this
  refine⟨_,?_,hv⟩
  simp[part,Fo hu,hd,rz hs]
 |false=>
  rw[hd] at this
  simp only[nj,fj] at this
  obtain⟨c,oe,hv⟩:=this
  exact⟨c,by simp[part,Fo hu,hd,oe],hv⟩
def aLI (H:HR ι I h w) (hu:P.underlying s=some (.struct fs)) (hf:fs[f]? =some fd)
 (hd:P.underlying fd.type=some d) (hs:(P.info? fd.type).map (·.size)=some sz) (hx:VR ι I w x c)
 (hv:LV d.isRow sz fd.offset x=some v):fX P ι I h w v (Instr.field s c f):=by
 unfold LV at hv
 cases hx<;>simp only[] at hv<;>try(cases hv;done)
 rename_i cs b8 hl ju
 obtain⟨r,hr,lU⟩:=aj6 (P:=P) hd hs w (cs:=cs) (b8:=b8) ⟨hl,ju⟩ hv
 exact .same H (by simp[Instr.field,dC hu,hf,asAgg,hr]) lU
def aKv (H:HR ι I h w) (hu:P.underlying t=some (.array len e)) (hd:P.underlying e=some d) (hs:(P.info? e).map (·.size)=some sz)
 (hx:VR ι I w x c) (hi:VR ι I w i ci)
 (hv:Ki d.isRow sz len x i=some v):fX P ι I h w v (Instr.index t c ci):=by
 unfold Ki at hv
 cases hi<;>try(simp only[] at hv;cases hv;done)
 cases hx<;>simp only[] at hv<;>try(cases hv;done)
 rename_i k n cs b8 hl ju
 split at hv
 ·rename_i hb
  obtain⟨r,hr,lU⟩:=aj6 (P:=P) hd hs w (cs:=cs) (b8:=b8) ⟨hl,ju⟩ hv
  exact .same H (by simp[Instr.index,asIntOf,dC hu,hb,rz hs,hr]) lU
 ·cases hv
def aLK (H:HR ι I h w) (hx:VR ι I w x c) (hv:LW i x=some v):fX P ι I h w v (Instr.extract c i):=by
 unfold LW at hv
 cases hx<;>simp only[] at hv<;>try(cases hv;done)
 rename_i cs b8 hl ju
 obtain⟨r,hr,lU⟩:=LR.get (l':=b8) ⟨hl,ju⟩ hv
 exact .same H (by simp[Instr.extract,hr]) lU
def aKd (H:HR ι I h w) (ts) (ty) (h0:ts[0]? =some t) (hu:P.underlying t=some (.slice e)) (hx:VR ι I w x c)
 (hv:((jV x).map fun(n:Nat)=>AV.int .i64 n)=some v):fX P ι I h w v (Builtin.len_ ts ty #[c]):=by
 cases hx<;>simp only[jV,iB,Option.map_none] at hv<;>try(cases hv;done)
 all_goals (cases hv;exact .same H (by simp[Builtin.len_,h0,dC hu,goInt]) (.int _ _))
def aHq (H:HR ι I h w) (ts) (ty) (h0:ts[0]? =some t) (hu:P.underlying t=some .string) (hx:VR ι I w x c)
 (hv:OG x=some v):fX P ι I h w v (Builtin.len_ ts ty #[c]):=by
 unfold OG at hv
 cases hx<;>simp only[] at hv<;>try(cases hv;done)
 cases hv;exact .same H (by simp[Builtin.len_,h0,dC hu,goInt]) (.int _ _)
def aHh (hx:VR ι I w x cx) (hy:VR ι I w y cy) (hv:vu mx x y=some v):
 ∃c,((if mx then Builtin.max2 else Builtin.min2) cx cy).run P w= .ok c w/\VR ι I w v c:=by
 cases hx<;>try(simp only[vu] at hv;cases hv;done)
 case int k a=>
  cases hy<;>simp only[vu] at hv<;>try(cases hv;done)
  split at hv
  ·rename_i hk;subst hk;cases hv
   cases mx<;>exact⟨_,rfl, .int _ _⟩
  ·cases hv
 case eW k a=>
  cases hy<;>simp only[vu] at hv<;>try(cases hv;done)
  rename_i k' b
  split at hv
  ·rename_i hk;subst hk
   cases mx<;>(cases ho:k.format.order a b with
    |none=>simp[ho] at hv
    |some o=>cases o<;>(simp[ho] at hv;subst hv;exact⟨_,by simp[Builtin.max2,Builtin.min2,ho], .eW _ _⟩))
  ·cases hv
end
end
section
open Go
section
variable {P:Program} {ι:aO} {I:bR} {h:aa} {w:World}
theorem EV (cs) (sz): ∀(n off:Nat),off+n*sz<=cs.length->(rowsOf cs off sz n).length=n/\(∀r∈rowsOf cs off sz n,r.length=sz/\ ∀v∈r,v∈cs)/\
 (rowsOf cs off sz n).flatten=(cs.drop off).take (n*sz)
 |0,off,h=>by simp[rowsOf]
 |n+1,off,h=>by
  have hh:off+sz+n*sz<=cs.length:=by grind
  obtain⟨h1,h2,h3⟩:=EV cs sz n (off+sz) hh
  refine⟨by simp[rowsOf,h1],fun r hr=>?_,?_⟩
  ·rcases List.mem_cons.1 hr with rfl|hr
   ·grind
   ·exact h2 r hr
  ·simp only[rowsOf,mG,h3]
   rw[Nat.succ_mul,Nat.add_comm (n*sz) sz,List.take_add,vV]
def V1 (hs: ∀(i:Nat) (row:List AV),xs[i]? =some row->row.length=s) (h:bQ sz xs=true): ∀r∈xs,r.length=sz:=by
 intro r hr
 obtain⟨i,hi,rfl⟩:=jm hr
 have h1:=hs i _ (bn hi)
 cases xs with
 |nil=>simp at hi
 |cons x xs=>
  have h2:=hs 0 x rfl
  simp[bQ] at h
  omega
structure Rd (ι:aO) (I:bR) (w:World) (sz:Nat) (rows:List (List AV)) (a:Option Addr) (l:List Value):Prop where
 qU: ∀r∈rows,r.length=sz/\ ∀v∈r,v.one=true
 lr:LR ι I w rows.flatten l
 cell: ∀ad,a=some ad-> ∀(j:Nat) (u:Value),l[j]? =some u->w.cell? (ad.add j)=some u
 none:a=none->rows=[]
def Rd.len (hr:Rd ι I w sz rows a l):l.length=rows.length*sz:=by
 rw[<-hr.lr.1,vf rows (fun r h=>(hr.qU r h).1)]
def Rd.one (hr:Rd ι I w sz rows a l): ∀u∈l,u.oneCell'=true:=by
 intro u hu
 obtain⟨i,hi,rfl⟩:=jm hu
 have av:i<rows.flatten.length:=by rw[hr.lr.1];exact hi
 have hv:=hr.lr.2 i _ _ (bn av) (bn hi)
 refine hv.one ?_
 obtain⟨r,pd,qh⟩:=List.mem_flatten.1 (bw av)
 exact(hr.qU r pd).2 _ qh
def CY (H:HR ι I h w) (hx:VR ι I w x c) (hr:ef sz h x=some rows):
 ∃a cap l,c= .slice a rows.length cap/\rows.length<=cap/\Rd ι I w sz rows a l:=by
 cases hx<;>simp only[ef] at hr<;>try(cases hr;done)
 case jA t ht=>
  simp at hr;obtain⟨_,rfl⟩:=hr
  exact⟨none,0,[],rfl,ak _,by simp,LR.nil,by simp,fun _=>rfl⟩
 case jq t a cap ht=>
  simp at hr;obtain⟨_,rfl⟩:=hr
  exact⟨some a,cap,[],rfl,bM _,by simp,LR.nil,fun ad CN=>by simp,fun h=>by cases h⟩
 case cJ=>
  cases hr
  exact⟨none,0,[],rfl,ak _,by simp,LR.nil,by simp,fun _=>rfl⟩
 case vs xs t cb o s cap g hs hI hc hv h1 bY ht=>
  split at hr
  ·rename_i mv
   cases hr
   have ada: ∀r∈rows,r.length=sz:=V1 hs mv
   have da:=vf rows ada
   refine⟨some ⟨cb,o,none⟩,cap,(List.range (rows.length*sz)).map fun j=>g (j/sz) (j%sz),rfl,bY,fun r hr=>⟨ada r hr,h1 r hr⟩,?_,?_,by simp⟩
   ·refine⟨by simp[da],fun j v c d7 jN=>?_⟩
    have hj:j<rows.length*sz:=by grind
    have lP:0<sz:=by
     grind
    have hd:j/sz<rows.length:=(Nat.div_lt_iff_lt_mul lP).2 hj
    have hm:j%sz<sz:=Nat.mod_lt _ lP
    have cS:=bn hd
    have:=flat_get rows ada (j/sz) (j%sz) _ cS hm
    rw[Nat.div_add_mod' j sz,d7] at this
    grind
   ·intro ad CN
    cases CN
    intro j u hu
    rw[Addr.add_mid]
    have hj:j<rows.length*sz:=by grind
    simp[hj] at hu
    subst hu
    have lP:0<sz:=by
     grind
    have hd:j/sz<rows.length:=(Nat.div_lt_iff_lt_mul lP).2 hj
    have hm:j%sz<sz:=Nat.mod_lt _ lP
    have i5:s=sz:=by rw[<-hs _ _ (bn hd)];grind
    subst i5
    have:=hc _ _ hd hm
    rwa [rJ,Nat.div_add_mod' j s] at this
  ·cases hr
 case vz a cap=>
  cases hr
  exact⟨some a,cap,[],rfl,bM _,⟨by simp,LR.nil,fun ad _ j u hu=>by simp at hu,fun h=>by cases h⟩⟩
 case rs b off len aX cb o room cap hb hlen bY=>
  split at hr
  ·rename_i hz
   subst hz
   cases hg:cellsOf h b with
   |none=>simp[hg] at hr
   |some cs=>
    simp only[hg] at hr
    split at hr
    ·rename_i hle
     cases hr
     obtain⟨h1,h2,h3⟩:=EV cs aX len off hle
     have dz:h.get b=some (.cells cs):=by
      unfold cellsOf at hg;grind
     obtain⟨cS,_,eg⟩:=H.row dz hb
     obtain⟨l,ir,iq,CI⟩:=(cS.sub off (len*aX)).list
     refine⟨some ⟨cb,o+off,none⟩,cap,l,by rw[h1],by omega,fun r hr=>⟨(h2 r hr).1,fun v hv=>eg v ((h2 r hr).2 v hv)⟩,?_,?_,by simp⟩
     ·rw[h3];exact⟨ir,CI⟩
     ·intro ad CN
      cases CN
      intro j u hu
      rw[Addr.add_mid]
      exact iq j u hu
    ·cases hr
  ·cases hr
 case rk b off len aX cap cb o room hb hlen bY=>
  split at hr
  ·rename_i hz
   subst hz
   cases hg:cellsOf h b with
   |none=>simp[hg] at hr
   |some cs=>
    simp only[hg] at hr
    split at hr
    ·rename_i hle
     cases hr
     obtain⟨h1,h2,h3⟩:=EV cs aX len off hle
     have dz:h.get b=some (.cells cs):=by
      unfold cellsOf at hg;grind
     obtain⟨cS,_,eg⟩:=H.row dz hb
     obtain⟨l,ir,iq,CI⟩:=(cS.sub off (len*aX)).list
     refine⟨some ⟨cb,o+off,none⟩,cap,l,by rw[h1],by omega,fun r hr=>⟨(h2 r hr).1,fun v hv=>eg v ((h2 r hr).2 v hv)⟩,?_,?_,by simp⟩
     ·rw[h3];exact⟨ir,CI⟩
     ·intro ad CN
      cases CN
      intro j u hu
      rw[Addr.add_mid]
      exact iq j u hu
    ·cases hr
  ·cases hr
def Rd.src (hr:Rd ι I w sz rows a l) (hk:P.underlying tx=some (.slice e')) (cap):
 Src P sz tx (.slice a rows.length cap) rows.length l w:=by
 cases a with
 |none=>
  have:=hr.none rfl
  subst this
  have hl:l=[]:=by have:=hr.len;simp_all
  subst hl
  exact Src.ofNil w hk cap
 |some ad=>
  exact Src.ofSlice w hk _ _ _ _ hr.len (hr.cell ad rfl) hr.one
def E7 (hx:OR ι I w ρ x c) (hb:ei ρ d (some x)=some n): ∃k,c= .int k n:=by
 unfold OR at hx
 simp only[ei] at hb
 cases My:x.ev ρ<;>simp only[My] at hb<;>try(cases hb;done)
 rename_i k i
 rw[My] at hx
 split at hb
 ·rename_i h0
  cases hb
  cases hx
  exact⟨k,by grind⟩
 ·cases hb
def yZ (w) (k) (n y:Nat) (code) (h:n<=y):(Instr.sliceBound (.int k n) y code).run P w= .ok n w:=by
 simp[Instr.sliceBound,asIntOf,h]
def EO (ι:aO) (I:bR) (w:World) (ρ:Env):Option aJ->Option Value->Prop
 |none,none=>True
 |some x,some c=>OR ι I w ρ x c
 |_,_=>False
def xe (i6:EO ι I w ρ lo w9) (qn:EO ι I w ρ hi CS) (rZ:EO ι I w ρ mx EK)
 (h1:ei ρ len hi=some hh) (h2:ei ρ 0 lo=some l) (h3:ei ρ cap mx=some m) (HV:l<=hh) (hlen:len<=cap)
 (UQ:hh<=m) (hm:m<=cap) (aTm:mx.isSome->hi.isSome) (b):
 (Instr.sliceBounds b len cap w9 CS EK).run P w= .ok (l,hh,m) w:=by
 unfold Instr.sliceBounds
 cases mx with
 |none=>
  cases EK with
  |some _=>exact rZ.elim
  |none=>
   simp only[ei,Option.some.injEq] at h3
   subst h3
   cases hi with
   |none=>
    cases CS with
    |some _=>exact qn.elim
    |none=>
     simp only[ei,Option.some.injEq] at h1
     subst h1
     cases lo with
     |none=>
      cases w9 with
      |some _=>exact i6.elim
      |none=>simp only[ei,Option.some.injEq] at h2;subst h2;simp
     |some x=>
      cases w9 with
      |none=>exact i6.elim
      |some c=>
       obtain⟨k,rfl⟩:=E7 i6 h2
       simp[yZ (P:=P) w k l _ _ HV]
   |some y=>
    cases CS with
    |none=>exact qn.elim
    |some cy=>
     obtain⟨ky,rfl⟩:=E7 qn h1
     cases lo with
     |none=>
      cases w9 with
      |some _=>exact i6.elim
      |none=>simp only[ei,Option.some.injEq] at h2;subst h2;simp[yZ (P:=P) w ky hh _ _ UQ]
     |some x=>
      cases w9 with
      |none=>exact i6.elim
      |some c=>
       obtain⟨k,rfl⟩:=E7 i6 h2
       simp[yZ (P:=P) w k l _ _ HV,yZ (P:=P) w ky hh _ _ UQ]
 |some z=>
  cases EK with
  |none=>exact rZ.elim
  |some cz=>
   obtain⟨kz,rfl⟩:=E7 rZ h3
   cases hi with
   |none=>simp at aTm
   |some y=>
    cases CS with
    |none=>exact qn.elim
    |some cy=>
     obtain⟨ky,rfl⟩:=E7 qn h1
     cases lo with
     |none=>
      cases w9 with
      |some _=>exact i6.elim
      |none=>simp only[ei,Option.some.injEq] at h2;subst h2;simp[yZ (P:=P) w ky hh _ _ UQ,yZ (P:=P) w kz m _ _ hm]
     |some x=>
      cases w9 with
      |none=>exact i6.elim
      |some c=>
       obtain⟨k,rfl⟩:=E7 i6 h2
       simp[yZ (P:=P) w k l _ _ HV,yZ (P:=P) w ky hh _ _ UQ,yZ (P:=P) w kz m _ _ hm]
def aj4 {g:Nat->Nat->Value}
 (hs: ∀(i:Nat) (row:List AV),xs[i]? =some row->row.length=s)
 (hI: ∀i j,i<xs.length->j<s->I cb (o+i*s+j))
 (hc: ∀i j,i<xs.length->j<s->w.cell? ⟨cb,o+i*s+j,none⟩=some (g i j))
 (hv: ∀(i:Nat) (row:List AV) (j:Nat) (v:AV),xs[i]? =some row->row[j]? =some v->VR ι I w v (g i j))
 (h1: ∀row∈xs,∀v∈row,AV.one v=true) (hk:bQ sz xs=true) (hn:l+n<=xs.length) (bY:n<=Hy) (o') (ho:n≠0->o'=o+l*sz)
 (ht:(n≠0->s=sz/\o'=o+l*s)->acV ι cb o' s n Hy t'):
 VR ι I w (.vs ((xs.drop l).take n) t') (.slice (some ⟨cb,o',none⟩) n Hy):=by
 have hlen:((xs.drop l).take n).length=n:=by simp;omega
 have mv:=V1 hs hk
 have i5:n≠0->s=sz:=by
  intro h0
  have hl:l<xs.length:=by omega
  rw[<-hs l _ (bn hl)]
  grind
 have bB: ∀(i:Nat) (row:List AV),((xs.drop l).take n)[i]? =some row->xs[l+i]? =some row/\i<n:=by
  grind
 have LM: ∀i j,i<n->o'+i*s+j=o+(l+i)*s+j:=by
  grind
 have key:=VR.vs (ι:=ι) (I:=I) (w:=w) ((xs.drop l).take n) t' cb o' s Hy (fun i j=>g (l+i) j) (fun i row hi=>hs _ row (bB i row hi).1)
  (fun i j hi hj=>by rw[hlen] at hi;rw[LM i j hi];grind)
  (fun i j hi hj=>by grind)
  (fun i row j v hi hj=>hv _ row j v (bB i row hi).1 hj)
  (fun row hr v d7=>h1 row (List.mem_of_mem_drop (uk hr)) v d7) (by omega)
  (by grind)
 grind
def xu (hu:P.underlying t=some (.slice e)) (aZ:(P.info? e).map (·.size)=some sz) (w)
 (hb:(Instr.sliceBounds true len cap w9 CS EK).run P w= .ok (l,hh,m) w):
 (Instr.sliceAt t (.slice a len cap) w9 CS EK).run P w= .ok (.slice (if m=l then a else a.map (·.add (l*sz))) (hh-l) (m-l)) w:=by
 simp[Instr.sliceAt,dC hu,Instr.slice,hb,rz aZ]
def aLe (H:HR ι I h w) (hu:P.underlying t=some (.slice e)) (aZ:(P.info? e).map (·.size)=some sz)
 (i6:EO ι I w ρ lo w9) (qn:EO ι I w ρ hi CS) (rZ:EO ι I w ρ mx EK) (hx:VR ι I w x c) (hv:m9 ρ sz x lo hi mx=some v):
 fX P ι I h w v (Instr.sliceAt t c w9 CS EK):=by
 cases hx<;>try(simp only[m9] at hv;cases hv;done)
 case cJ=>
  simp only[m9,p3,bd] at hv
  obtain⟨hh,h1,l,h2,m,h3,hv⟩:=hv
  split at hv
  ·rename_i hc
   obtain⟨rfl,rfl,rfl,UI⟩:=hc
   cases hv
   cases mx with
   |none=>
    have hb:=xe (P:=P) i6 qn rZ h1 h2 (cap:=0) rfl (ak _) (ak _) (ak _) (ak _) (by simp) true
    exact .same H (xu hu aZ w hb) .cJ
   |some z=>
    have hb:=xe (P:=P) i6 qn rZ h1 h2 (cap:=0) h3 (ak _) (ak _) (ak _) (ak _) UI true
    exact .same H (xu hu aZ w hb) .cJ
  ·cases hv
 case jA t' ht=>
  simp only[m9,p3,bd,fI] at hv
  obtain⟨hh,h1,l,h2,hv⟩:=hv
  split at hv
  ·rename_i hc
   obtain⟨cN,cI,-⟩:=hc
   have:hh=0:=by omega
   subst this
   have:l=0:=by omega
   subst this
   cases mx with
   |none=>
    cases hv
    have hb:=xe (P:=P) i6 qn rZ h1 h2 (cap:=0) rfl (ak _) (ak _) (ak _) (ak _) (by simp) true
    refine .same H (xu hu aZ w hb) ?_
    simp
    refine .jA _ ?_
    rcases ht with rfl|rfl<;>simp[vg]
   |some z=>
    simp only[bd] at hv
    obtain⟨m,h3,hv⟩:=hv
    split at hv
    ·rename_i hc
     obtain⟨av,se,sd⟩:=hc
     have:m=0:=by omega
     subst this
     cases hv
     have hb:=xe (P:=P) i6 qn rZ h1 h2 (cap:=0) h3 (ak _) (ak _) (ak _) (ak _) (fun _=>av) true
     refine .same H (xu hu aZ w hb) ?_
     simp
     exact .jA _ (.inr rfl)
    ·cases hv
  ·cases hv
 case jq t' a cap ht=>
  simp only[m9,p3,bd,fI] at hv
  obtain⟨hh,h1,l,h2,hv⟩:=hv
  split at hv
  ·rename_i hc
   obtain⟨cN,cI,-⟩:=hc
   have:hh=0:=by omega
   subst this
   have:l=0:=by omega
   subst this
   have GV: ∀m,(if m=0 then some a else(some a).map (·.add (0*sz)))=some a:=by intro m;split<;>simp[Addr.add]
   cases mx with
   |none=>
    cases hv
    have hb:=xe (P:=P) i6 qn rZ h1 h2 (cap:=cap) rfl (ak _) (bM _) (bM _) (ak _) (by simp) true
    refine .same H (xu hu aZ w hb) ?_
    rw[GV]
    simp
    refine .jq _ _ _ ?_
    rcases ht with rfl|⟨rfl,rfl⟩<;>simp[vg]
   |some z=>
    simp only[bd] at hv
    obtain⟨m,h3,hv⟩:=hv
    split at hv
    ·rename_i hc
     obtain⟨av,se,sd⟩:=hc
     have:m=0:=by omega
     subst this
     cases hv
     have mC:ei ρ cap (some z)=some 0:=h3
     have hb:=xe (P:=P) i6 qn rZ h1 h2 (cap:=cap) mC (ak _) (bM _) (ak _) (bM _) (fun _=>av) true
     refine .same H (xu hu aZ w hb) ?_
     rw[GV]
     simp
     exact .jq _ _ _ (.inr ⟨rfl,rfl⟩)
    ·cases hv
  ·cases hv
 case vs xs t' cb o s cap g hs hI hc d7 eg bY ht=>
  simp only[m9,p3,bd] at hv
  obtain⟨hh,h1,l,h2,hv⟩:=hv
  split at hv
  ·rename_i jC
   obtain⟨cN,cI,hk⟩:=jC
   cases mx with
   |none=>
    cases hv
    have hb:=xe (P:=P) i6 qn rZ h1 h2 (cap:=cap) rfl cN bY (by omega) (ak _) (by simp) true
    refine .same H (xu hu aZ w hb) ?_
    have GV:(if cap=l then some (⟨cb,o,none⟩:Addr) else(some (⟨cb,o,none⟩:Addr)).map (·.add (l*sz)))=some ⟨cb,if cap=l then o else o+l*sz,none⟩:=by
     split<;>simp[Addr.add_mid]
    rw[GV]
    refine aj4 (l:=l) (n:=hh-l) (Hy:=cap-l) hs hI hc d7 eg hk (by omega) (by omega) _ (fun h0=>by grind) (fun aOa=>?_)
    cases t' with
    |au=>trivial
    |full=>
     have d9:cap=xs.length:=ht
     simp only[vg]
     by_cases oe:hh=xs.length
     ·rw[ax oe];show cap-l=hh-l;omega
     ·rw[aj oe];trivial
    |own k=>
     simp only[vg]
     by_cases oe:hh=xs.length/\l<hh
     ·rw[ax oe]
      obtain⟨h5,h6⟩:=aOa (by omega)
      refine⟨by omega,?_⟩
      rw[h6,ht.2]
      congr 2
      ·rw[oe.1,Nat.sub_mul]
       have:=nu s (show l<=xs.length by omega)
       omega
      ·rw[Nat.sub_mul]
       have:=nu s (show l<=cap by omega)
       omega
     ·rw[aj oe];trivial
   |some z=>
    simp only[bd] at hv
    obtain⟨m,h3,hv⟩:=hv
    split at hv
    ·rename_i jC
     obtain⟨av,se,sd⟩:=jC
     cases hv
     have mC:ei ρ cap (some z)=some m:=h3
     have hb:=xe (P:=P) i6 qn rZ h1 h2 (cap:=cap) mC cN bY se (by omega) (fun _=>av) true
     refine .same H (xu hu aZ w hb) ?_
     have GV:(if m=l then some (⟨cb,o,none⟩:Addr) else(some (⟨cb,o,none⟩:Addr)).map (·.add (l*sz)))=some ⟨cb,if m=l then o else o+l*sz,none⟩:=by
      split<;>simp[Addr.add_mid]
     rw[GV]
     refine aj4 (l:=l) (n:=hh-l) (Hy:=m-l) hs hI hc d7 eg hk (by omega) (by omega) _ (fun h0=>by grind) (fun _=>?_)
     by_cases UI:m=hh
     ·rw[ax UI];show m-l=hh-l;omega
     ·rw[aj UI];trivial
    ·cases hv
  ·cases hv
 case rs b off len aX cb o room cap cF hlen bY=>
  simp only[m9,p3,bd] at hv
  obtain⟨hh,h1,l,h2,hv⟩:=hv
  split at hv
  ·rename_i jC
   obtain⟨UG,cN,cI,rfl⟩:=jC
   cases mx with
   |some _=>simp at UG
   |none=>
    have hb:=xe (P:=P) i6 qn rZ h1 h2 (cap:=cap) rfl cN hlen (by omega) (ak _) (by simp) true
    refine .same H (xu hu aZ w hb) ?_
    split at hv
    ·rename_i HV
     subst HV
     have:(if cap=l then some (⟨cb,o+off,none⟩:Addr) else(some (⟨cb,o+off,none⟩:Addr)).map (·.add (l*aX)))=some ⟨cb,if cap=l then o+off else o+off+l*aX,none⟩:=by
      split<;>simp[Addr.add_mid]
     rw[this,Nat.sub_self]
     cases lo with
     |some lo=>
      simp at hv
      subst hv
      exact .vs [] .au cb _ 0 _ (fun _ _=>undef) (by simp) (by simp) (by simp) (by simp) (by simp) (by simp) trivial
     |none=>
      simp only[ei,Option.some.injEq] at h2
      subst h2
      simp at hv
      subst hv
      have e:(if cap=0 then o+off else o+off+0*aX)=o+off:=by split<;>simp
      rw[e]
      exact .rs b off 0 aX cb o room (cap-0) cF (bM _) (by omega)
    ·rename_i HV
     cases hv
     rw[aj (by omega)]
     simp only[iB,Addr.add_mid]
     rw[rJ]
     refine .rs b (off+l*aX) (hh-l) aX cb o room (cap-l) cF (by omega) ?_
     rw[Nat.sub_mul]
     have:=nu aX (show l<=cap by omega)
     omega
  ·cases hv
 case rk b off len aX cap cb o room cF hlen bY=>
  simp only[m9,p3,bd] at hv
  obtain⟨hh,h1,l,h2,m,h3,hv⟩:=hv
  split at hv
  ·rename_i jC
   obtain⟨cN,cI,qo,rfl,UX⟩:=jC
   have hb:=xe (P:=P) i6 qn rZ h1 h2 (cap:=cap) h3 cN hlen cI qo UX true
   refine .same H (xu hu aZ w hb) ?_
   by_cases AP:m=l
   ·rw[ax AP] at hv
    cases hv
    rw[ax AP,show hh-l=0 by omega,show m-l=0 by omega]
    exact .jq _ _ _ (.inr ⟨rfl,rfl⟩)
   ·rw[aj AP] at hv
    cases hv
    rw[aj AP]
    simp only[iB,Addr.add_mid]
    rw[rJ]
    refine .rk b (off+l*aX) (hh-l) aX (m-l) cb o room cF (by omega) ?_
    rw[Nat.sub_mul]
    have:=nu aX (show l<=m by omega)
    have:=nu aX (show m<=cap by omega)
    omega
  ·cases hv
end
end
section
open Go
section
variable {P:Program} {ι:aO} {I:bR} {h:aa} {w:World}
def ER (ι:aO) (I:bR) (w:World) (es:List (AV×AV)) (bE:List MapEntry):Prop:=
 es.length=bE.length/\ ∀(i:Nat) (k v:AV) (e:MapEntry),es[i]? =some (k,v)->bE[i]? =some e->VR ι I w k e.key/\VR ι I w v e.val
def ER.tail (hr:ER ι I w (p::es) (e::bE)):ER ι I w es bE:=
 ⟨by simpa using hr.1,fun i k v e h1 h2=>hr.2 (i+1) k v e (by simpa using h1) (by simpa using h2)⟩
theorem Oi (kk): ∀(es:List (AV×AV)) (bE:List MapEntry) (i:Nat) (r:Option Nat),ER ι I w es bE->rM (.int kd n) es i=some r->
 (r=none/\Instr.findNow (.int kk) (.int kd n) bE i=some none)\/
 ∃j e,r=some (i+j)/\bE[j]? =some e/\e.key= .int kd n/\Instr.findNow (.int kk) (.int kd n) bE i=some (some (i+j,e.val))
 |[],[],i,r,_,h=>by simp[rM] at h;subst h;exact .inl ⟨rfl,rfl⟩
 |[],_::_,i,r,hr,_=>by simp[ER] at hr
 |_::_,[],i,r,hr,_=>by simp[ER] at hr
 |(k',v)::es,e::bE,i,r,hr,h=>by
  have hk:=(hr.2 0 k' v e rfl rfl).1
  simp only[rM] at h
  cases gC:k'<;>simp only[gC] at h<;>try(cases h;done)
  rename_i kd' n'
  subst gC
  split at h
  ·rename_i UM
   subst UM
   have Ex:e.key= .int kd n':=by
    generalize he:e.key=ek at hk
    cases hk
    rfl
   split at h
   ·rename_i heq
    cases h
    have:n=n':=by grind
    subst this
    refine .inr ⟨0,e,rfl,rfl,Ex,?_⟩
    simp[Instr.findNow,Ex,Instr.sameNow]
   ·rename_i aT
    have DZ:(n==n')=false:=by grind
    rcases Oi kk es bE (i+1) r hr.tail h with⟨rfl,hf⟩|⟨j,e',rfl,bP,gC,hf⟩
    ·refine .inl ⟨rfl,?_⟩
     simp[Instr.findNow,Ex,Instr.sameNow,DZ,hf]
    ·refine .inr ⟨j+1,e',by congr 1;omega,by grind,gC,?_⟩
     simp[Instr.findNow,Ex,Instr.sameNow,DZ,hf];omega
  ·cases h
def run_checkKey (w) (hk:P.underlying key=some (.int kk)) (b) (k) (n):
 (Instr.checkKey b 10000 key (.int k n)).run P w= .ok () w:=by
 suffices aSX: ∀m,(Instr.checkKey b (m+1) key (.int k n)).run P w= .ok () w from aSX 9999
 intro m
 simp[Instr.checkKey,dC hk]
def run_findKey (w) (hk:P.underlying key=some (.int kk))
 (hf:Instr.findNow (.int kk) k es 0=some r):(Instr.findKey key k es).run P w= .ok r w:=by
 simp[Instr.findKey,dC hk,hf]
def EY (w) (hm:w.heap[cb]? =some (.map es clock)):(getObj cb).run P w= .ok (.map es clock) w:=by
 simp[getObj,Sem.run,hm]
def HR.map (H:HR ι I h w) (hg:h.get b=some (.map es)) (hb:ι b=some (.map cb)):
 ∃bE clock,w.heap[cb]? =some (.map bE clock)/\ER ι I w es bE.toList/\sG bE clock:=by
 obtain⟨ke,bE,clock,hl,hm,hlen,hv⟩:=H.maps b es _ hg hb
 cases hl
 exact⟨bE,clock,hm,⟨by grind,fun i k v e h1 h2=>hv i k v e h1 (by simpa using h2)⟩,hlen.2⟩
def N7 (dN:P.info? e=some ie) (hz:ie.zero=some z) (w):(zeroValue e).run P w= .ok z w:=by
 simp[zeroValue,typeInfo,dN,hz]
def LR.two (h1:VR ι I w a c) (h2:VR ι I w b d):VR ι I w (.aE [a,b]) (.tuple #[c,d]):=
 .aE [a,b] [c,d] rfl (LR.cons h1 (LR.cons h2 LR.nil)).2
def aHm (H:HR ι I h w) (hu:P.underlying t=some (.map key e)) (hk:P.underlying key=some (.int kk))
 (dN:P.info? e=some ie) (hz:ie.zero=some z) (gq:VR ι I w za z) (ok) (hm:VR ι I w m cm) (yK:VR ι I w k ck)
 (hv:sB za ok h m k=some v):fX P ι I h w v (Instr.lookup t cm ck ok):=by
 unfold sB at hv
 have RU: ∀w',w'=w->(∃c,(Instr.lookup t (.map none) ck ok).run P w'= .ok c w'/\True)\/True:=fun _ _=> .inr trivial
 cases hm<;>try(simp only[] at hv;cases hv;done)
 case vB=>
  cases yK<;>simp only[] at hv<;>try(cases hv;done)
  rename_i kd n
  cases hv
  refine .same H (c:=if ok then .tuple #[z, .bool false] else z) ?_ ?_
  ·simp[Instr.lookup,dC hu,run_checkKey w hk,run_findKey w hk (show Instr.findNow (.int kk) (.int kd n) [] 0=some none from rfl),N7 dN hz]
  ·cases ok
   ·exact gq
   ·exact LR.two gq (.bool false)
 case map b cb hb=>
  cases yK<;>simp only[] at hv<;>try(cases hv;done)
  rename_i kd n
  split at hv
  ·rename_i es hg
   obtain⟨bE,clock,mA,kQ,-⟩:=H.map hg hb
   cases hl:Bw (.int kd n) es with
   |none=>simp[hl] at hv
   |some r=>
    simp[hl] at hv
    unfold Bw at hl
    cases hf:rM (.int kd n) es 0 with
    |none=>simp[hf] at hl
    |some o=>
     simp[hf] at hl
     rcases Oi kk es bE.toList 0 o kQ hf with⟨rfl,mB⟩|⟨j,yP,rfl,afw,rT,mB⟩
     ·simp at hl
      subst hl
      simp at hv
      subst hv
      refine .same H (c:=if ok then .tuple #[z, .bool false] else z) ?_ ?_
      ·simp[Instr.lookup,dC hu,EY w mA,run_checkKey w hk,run_findKey w hk mB,N7 dN hz]
      ·cases ok
       ·exact gq
       ·exact LR.two gq (.bool false)
     ·have hj:j<es.length:=by rw[kQ.1];grind
      have UT:=bn hj
      simp[UT] at hl
      subst hl
      simp at hv
      subst hv
      have lU:=(kQ.2 j es[j].1 es[j].2 yP (by rw[UT]) afw).2
      refine .same H (c:=if ok then .tuple #[yP.val, .bool true] else yP.val) ?_ ?_
      ·simp[Instr.lookup,dC hu,EY w mA,run_checkKey w hk,run_findKey w hk mB]
      ·cases ok
       ·exact lU
       ·exact LR.two lU (.bool true)
  ·cases hv
end
end
section
open Go
section
variable {P:Program} {ι:aO} {I:bR} {h:aa} {w:World}
def Fe (P:Program):List Field->Option (List Nat)
 |[]=>some []
 |f::fs=>match P.underlying f.type,Fe P fs with
  |some (.int _),some os=>if f.name≠ "_" then some (f.offset::os) else none
  |_,_=>none
theorem ah8 (d) (hx:LR ι I w xs As) (hy:LR ι I w ys Mh): ∀(fs:List Field) (os:List Nat) (b:Bool),Fe P fs=some os->
 BA xs ys os=some b->(Op.eqFields (d+1) As.toArray Mh.toArray fs).run P w= .ok b w
 |[],os,b,hf,he=>by
  simp[Fe] at hf;subst hf;simp[BA] at he;subst he;simp[Op.eqFields]
 |f::fs,os,b,hf,he=>by
  simp only[Fe] at hf
  split at hf
  ·rename_i k os' hu qk
   split at hf
   ·rename_i aN4
    cases hf
    simp only[BA] at he
    split at he
    ·rename_i k1 a1 k2 b1 h1 h2
     obtain⟨c1,cN,Em⟩:=hx.get h1
     obtain⟨c2,cI,nR⟩:=hy.get h2
     cases Em;cases nR
     split at he
     ·rename_i hk
      subst hk
      have rX:(part f.type As.toArray f.offset).run P w= .ok (.int k1 a1) w:=by simp[part,Fo hu,cN]
      have ME:(part f.type Mh.toArray f.offset).run P w= .ok (.int k1 b1) w:=by simp[part,Fo hu,cI]
      have heq:=run_equalIn_int (P:=P) w d f.type k1 k a1 b1 hu
      simp only[Op.eqFields,Sem.run_bind,Sem.run_ite,aN4,ne_eq,not_false_eq_true,dP,rX,ME,heq,Result.andThen_ok]
      split at he
      ·rename_i hab
       rw[hab]
       simpa using ah8 d hx hy fs os' b qk he
      simp_all
     ·cases he
    ·cases he
   ·cases hf
  ·cases hf
def aJd (H:HR ι I h w) (hu:P.underlying t=some (.struct fs)) (hs:P.stoodInHeld t=false) (hf:Fe P fs.toList=some os) (neg)
 (hx:VR ι I w x cx) (hy:VR ι I w y cy)
 (hv:zn neg os x y=some v):
 fX P ι I h w v (binOp (if neg then .neq else .eql) t cx cy):=by
 unfold zn at hv
 cases hx<;>try(simp only[] at hv;cases hv;done)
 cases hy<;>simp only[] at hv<;>try(cases hv;done)
 rename_i xs As hlx hvx ys Mh UJ hvy
 cases he:BA xs ys os with
 |none=>simp[he] at hv
 |some b=>
  simp[he] at hv
  subst hv
  have hfo:P.fieldsOf t=fs:=by simp[Program.fieldsOf,hu]
  have hr:(Op.equal t (.agg As.toArray) (.agg Mh.toArray)).run P w= .ok b w:=by
   have h1:=run_equalIn_struct (P:=P) w 9999 t As.toArray Mh.toArray (by grind) hs
   have h2:=ah8 (P:=P) 9998 (xs:=xs) (ys:=ys) ⟨hlx,hvx⟩ ⟨UJ,hvy⟩ fs.toList os b hf he
   rw[hfo] at h1
   exact h1.trans h2
  exact .same H (c:= .bool (if neg then !b else b)) (by cases neg<;>simp[binOp,hr]) (.bool _)
theorem ai1 (w) (f) (hf: ∀n s,f (.int .u8 n) s=pure (ForInStep.yield (s.push (UInt8.ofNat n.toNat)))): ∀(rows:List (List AV)) (l:List Value) (bs:List UInt8) (s:ByteArray),(∀r∈rows,r.length=1)->LR ι I w rows.flatten l->vh rows=some bs->
 (forIn (m:=Sem) l s f).run P w= .ok ⟨s.data++bs.toArray⟩ w
 |[],l,bs,s,_,hl,hb=>by
  simp[vh] at hb;subst hb
  have:l=[]:=by have:=hl.1;grind
  simp_all
 |r::rows,l,bs,s,hu,hl,hb=>by
  have hr:=hu r (by simp)
  simp only[vh] at hb
  split at hb
  ·rename_i b bs' h1 h2
   cases hb
   obtain⟨a,rfl⟩: ∃a,r=[a]:=by
    match r,hr with
    |[a],_=>exact⟨a,rfl⟩
   cases l with
   |nil=>have:=hl.1;simp at this
   |cons c l=>
    have hv:VR ι I w a c:=hl.2 0 a c rfl rfl
    have dG:LR ι I w rows.flatten l:=⟨by have:=hl.1;grind,fun i v c h1 h2=>hl.2 (i+1) v c (by simpa using h1) (by simpa using h2)⟩
    simp only[byteOf] at h1
    split at h1
    ·rename_i n heq
     cases heq
     cases h1
     cases hv
     have ih:=ai1 w f hf rows l bs' (s.push (UInt8.ofNat n.toNat)) (fun r h=>hu r (eH _ h)) dG h2
     simp_all
    ·cases h1
  ·cases hb
end
end
section
open Go
section
variable {P:Program} {ι:aO} {I:bR} {h:aa} {w:World}
def aFT (H:HR ι I h w) (hs:P.underlying src=some (.slice e)) (he:P.underlying e=some (.int .u8)) (hd:P.underlying dst=some .string)
 (hx:VR ι I w x c) (hv:(((ef 1 h x).bind vh).map fun bs=>AV.str ⟨bs.toArray⟩)=some v):fX P ι I h w v (convert src dst c):=by
 cases hr:ef 1 h x with
 |none=>simp[hr] at hv
 |some rows=>
  cases hb:vh rows with
  |none=>grind
  |some bs=>
   simp[hr,hb] at hv
   subst hv
   obtain⟨a,cap,l,rfl,hle,R⟩:=CY H hx hr
   refine .same H (c:= .string ⟨bs.toArray⟩) ?_ (.str _)
   cases a with
   |none=>
    have:=R.none rfl
    subst this
    simp[vh] at hb
    subst hb
    simp[convert,dC hs,dC hd,dC he,Conv.bytesToString]
    rfl
   |some ad=>
    have hc:=R.cell ad rfl
    have hl:l.length=rows.length:=by rw[R.len];simp
    have aN5:(loadCells ad rows.length).run P w= .ok l.toArray w:=by
     rw[<-hl]
     exact run_loadCells_list (P:=P) w ad l (fun j u hu=>hc j u hu)
    simp only[convert,Sem.run_bind,dC hs,dC hd,dC he,Result.andThen_ok,Conv.bytesToString,aN5]
    rw[<-Array.forIn_toList]
    rw[ai1 (P:=P) w _ (fun _ _=>rfl) rows l bs ByteArray.empty (fun r hr=>(R.qU r hr).1) R.lr hb]
    simp_all
def aFp (H:HR ι I h w) (hs:P.underlying src=some .string) (hd:P.underlying dst=some (.slice e)) (he:P.underlying e=some (.int .u8))
 (hx:VR ι I w x c)
 (hv:E6 x=some v):fX P ι I h w v (convert src dst c):=by
 unfold E6 at hv
 cases hx<;>simp only[] at hv<;>try(cases hv;done)
 rename_i s
 split at hv
 ·rename_i aZ
  cases hv
  have da:(s.data.toList.map fun b=>[AV.int .u8 b.toNat]).flatten=s.data.toList.map fun b=>AV.int .u8 b.toNat:=by
   induction s.data.toList with
   |nil=>rfl
   |cons a l ih=>simp[ih]
  have eF:LR ι I w (s.data.toList.map fun b=>[AV.int .u8 b.toNat]).flatten (s.data.toList.map fun b=>Value.int .u8 b.toNat):=by
   rw[da]
   refine⟨by simp,fun i v c h1 h2=>?_⟩
   simp only[Dz,DC] at h1 h2
   obtain⟨a,ha,rfl⟩:=h1
   obtain⟨b,hb,rfl⟩:=h2
   rw[ha] at hb
   cases hb
   exact .int _ _
  have hlen:(s.data.toList.map fun b=>[AV.int .u8 b.toNat]).length=s.size:=by simp_all
  let q:=Question.appendCap s.size 0 e
  let cap:=q.cut (w.tape w.drawn q)
  have bY:s.size<=cap:=by show s.size<=s.size+_;omega
  let arr:Array Value:=(s.data.map fun b=>Value.int .u8 b.toNat)++Array.replicate (cap-s.size) (Value.int .u8 0)
  let w1:World:={w with drawn:=w.drawn+1,heap:=w.heap.push (.cells arr e)}
  let w2:World:=w1.freeze {block:=w.heap.size,off:=arr.size} 1
  have aUL:w1.heap.size=w.heap.size+1:=by simp[w1]
  have dm:(convert src dst (.string s)).run P w= .ok (.slice (some ⟨w.heap.size,0,none⟩) s.size cap) w2:=by
   have HP:w1.shape? w.heap.size=some (e,arr.size):=by simp[World.shape?,w1]
   simp only[convert,Sem.run_bind,dC hs,dC hd,dC he,Result.andThen_ok,Conv.stringToBytes,run_choose,Question.forced,nj,fj,newRow,run_newObj,Sem.run_pure,markStringish,run_shape]
   have:({heap:=w.heap.push (.cells arr e),tape:=w.tape,drawn:=w.drawn+1,os:=w.os,output:=w.output}:World).shape? w.heap.size=some (e,arr.size):=HP
   have Er:({heap:=w.heap.push (.cells arr e),tape:=w.tape,drawn:=w.drawn+1,os:=w.os,output:=w.output}:World).shape? w.heap.size=some (e,arr.size):=HP
   show((Sem.run P (match({heap:=w.heap.push (.cells arr e),tape:=w.tape,drawn:=w.drawn+1,os:=w.os,output:=w.output}:World).shape? w.heap.size with|some (fst,n)=>freeze {block:=w.heap.size,off:=n} 1|x=>pure ()) w1).andThen fun a w'=>Result.ok (Value.slice (some {block:=w.heap.size,off:=0}) s.size cap) w')=_
   rw[Er]
   rfl
  have GR:w2.heap=w.heap.push (.cells arr e (arr.size,arr.size+1)):=by
   apply Array.ext
   ·simp[w2,World.freeze,w1]
   ·intro i h1 h2
    by_cases hi:i=w.heap.size
    ·subst hi
     simp[w2,World.freeze,w1,Array.getElem_modify]
    ·have av:i<w.heap.size:=by grind
     simp[w2,World.freeze,w1,Array.getElem_modify,Ne.symm hi,Array.getElem_push,av]
  have hf: ∀(f:World->World),True:=fun _=>trivial
  obtain⟨I',lU,H',E⟩:=WQ H (w':=w2) (e:=e) (fr:=(arr.size,arr.size+1)) (arr:=arr) GR (by simp[w2,World.freeze,w1]) (by simp[w2,World.freeze,w1]) (by simp[w2,World.freeze,w1])
   (rows:=s.data.toList.map fun b=>[AV.int .u8 b.toNat]) (sz:=1) (cap:=cap) (by
     intro x hx
     obtain⟨b,_,rfl⟩:=List.mem_map.1 hx
     exact⟨rfl,by simp[AV.one]⟩) eF (by
     grind) (by omega) .au (.inl rfl)
  rw[hlen] at lU
  exact⟨_,_,I',dm,lU,H',E⟩
 ·cases hv
def akc (H:HR ι I h w) (hx:VR ι I w x c) (ts) (ty)
 (hv:GH im x=some v):fX P ι I h w v (if im then Builtin.imag_ ts ty #[c] else Builtin.real_ ts ty #[c]):=by
 unfold GH at hv
 cases hx<;>simp only[] at hv<;>try(cases hv;done)
 cases hv
 cases im
 ·exact .same H rfl (.eW _ _)
 ·exact .same H rfl (.eW _ _)
theorem VI: ∀(ys:List aJ) (M0:List Value) (x v:AV) (cx:Value),ys.length=M0.length->(∀(i:Nat) (y:aJ) (c:Value),ys[i]? =some y->M0[i]? =some c->OR ι I w ρ y c)->
 VR ι I w x cx->tU mx ρ x ys=some v-> ∃c,(M0.foldlM (if mx then Builtin.max2 else Builtin.min2) cx).run P w= .ok c w/\VR ι I w v c
 |[],[],x,v,cx,_,_,hx,hv=>by simp[tU] at hv;simp_all
 |[],_::_,_,_,_,hl,_,_,_=>by simp at hl
 |_::_,[],_,_,_,hl,_,_,_=>by simp at hl
 |y::ys,cy::M0,x,v,cx,hl,ho,hx,hv=>by
  simp only[tU] at hv
  cases hm:vu mx x (y.ev ρ) with
  |none=>simp[hm] at hv
  |some z=>
   simp[hm] at hv
   obtain⟨c,hc,hvc⟩:=aHh (P:=P) hx (ho 0 y cy rfl rfl) hm
   obtain⟨c',jN,aUG⟩:=VI ys M0 z v c (by simpa using hl) (fun i y c h1 h2=>ho (i+1) y c (by simpa using h1) (by simpa using h2)) hvc hv
   simp_all
end
end
section
open Go
section
variable {P:Program} {ι:aO} {I:bR} {h:aa} {w:World}
def aO.set (ι:aO) (id:Nat) (l:Loc):aO:=fun b=>if b=id then some l else ι b
def aO.jy (ι:aO) (id) (l):ι.set id l id=some l:=by simp[aO.set]
def aO.gT (ι:aO) {id:Nat} (l) (hb:b≠id):ι.set id l b=ι b:=by simp[aO.set,hb]
def Loc.Ff {l:Loc} (h:l.has k j):k=l.block:=by
 cases l<;>simp[Loc.has] at h<;>simp[Loc.block,h]
def Jh (H:HR ι I h w) (GR:w'.heap=w.heap.push (.cells arr e))
 (qk:w'.os=w.os) (Kk:w'.tape=w.tape) (uG:w'.output=w.output) {id:Nat} (aM:ι id=none) (eg: ∀v∈cs,v.one=true) (hle:cs.length<=arr.size)
 (hl: ∀(j:Nat) (v:AV) (c:Value),cs[j]? =some v->arr[j]? =some c->VR ι I w v c):
 HR (ι.set id (.cells w.heap.size 0 arr.size)) I (h.at id (.cells cs)) w'/\Ext (· =id) ι I h w (ι.set id (.cells w.heap.size 0 arr.size)) I (h.at id (.cells cs)) w':=by
 have aZ:w'.heap.size=w.heap.size+1:=by grind
 have wD: ∀k,k<w.heap.size->w'.heap[k]? =w.heap[k]?:=fun k hk=>by grind
 have hcell: ∀k j,k<w.heap.size->w'.cell? ⟨k,j,none⟩=w.cell? ⟨k,j,none⟩:=fun k j hk=>by simp[World.cell?,wD k hk]
 have Ct: ∀k j,k<w.heap.size->w'.frozen? ⟨k,j,none⟩=w.frozen? ⟨k,j,none⟩:=fun k j hk=>by simp[World.frozen?,wD k hk]
 have kZ: ∀j,w'.cell? ⟨w.heap.size,j,none⟩=arr[j]?:=fun j=>by simp[World.cell?,GR]
 have aN3: ∀j,w'.frozen? ⟨w.heap.size,j,none⟩=false:=fun j=>by simp[World.frozen?,GR]
 have bB: ∀b,b≠id->(h.at id (.cells cs)).get b=h.get b:=fun b hb=>by simp[aa.at,hb]
 have FE:(h.at id (.cells cs)).get id=some (.cells cs):=by simp[aa.at]
 have Km: ∀b l,ι b=some l->b≠id:=fun b l hb he=>by grind
 have E:Ext (· =id) ι I h w (ι.set id (.cells w.heap.size 0 arr.size)) I (h.at id (.cells cs)) w':=
  {fN:=fun b hb=>aO.gT _ _ hb,more:=fun b l hb=>by rw[aO.gT _ _ (Km b l hb)];exact hb,next:=by simp[aa.at];omega,bZ:=fun _ _ h=>h
   os:=qk,tape:=Kk,output:=uG,size:=by omega,block:=fun k hk _=>wD k hk,cell:=fun k j hk _=>hcell k j hk,frozen:=fun k j hk _=>Ct k j hk
   own:=by
    rintro k j ⟨b,l,x,hb,hg,dG⟩
    by_cases dH:b=id
    ·subst dH
     rw[aO.jy] at hb
     cases hb
     exact .inr (by have:k=w.heap.size:=dG;omega)
    ·rw[aO.gT _ _ dH] at hb
     rw[bB b dH] at hg
     exact .inl ⟨b,l,x,hb,hg,dG⟩
   jW:=fun _ _ h=> .inl h,lost:=fun b hb _=>bB b hb}
 refine⟨?_,E⟩
 have m7: ∀b l,(ι.set id (.cells w.heap.size 0 arr.size)) b=some l->(b=id/\l= .cells w.heap.size 0 arr.size)\/(b≠id/\ι b=some l):=by
  intro b l hb
  by_cases dH:b=id
  ·subst dH;rw[aO.jy] at hb;grind
  ·rw[aO.gT _ _ dH] at hb;grind
 refine{dI:=?_,inside:=?_,cells:=?_,maps:=?_,iE:=?_,eN:=?_,bZ:=?_,eP:=fun k j hk=>by have:=H.eP k j hk;omega,pl:=?_}
 ·intro b l hb
  rcases m7 b l hb with⟨rfl,_⟩|⟨_,hb⟩
  ·simp[aa.at];omega
  ·have:=H.dI b l hb;simp[aa.at];omega
 ·intro b l hb
  rcases m7 b l hb with⟨rfl,rfl⟩|⟨_,hb⟩
  ·simp[Loc.block];omega
  ·have:=H.inside b l hb;omega
 ·intro b b8 l hg hb
  rcases m7 b l hb with⟨rfl,rfl⟩|⟨dH,hb⟩
  ·rw[FE] at hg
   cases hg
   refine⟨_,_,_,rfl,hle,eg,fun j hj=>⟨arr[j],by grind,aN3 _,fun v hv=>?_⟩⟩
   exact E.vr H (hl j v _ hv (Array.getElem?_eq_getElem hj))
  ·rw[bB b dH] at hg
   obtain⟨cb,o,room,rfl,Ht,h1,hc⟩:=H.cells b b8 l hg hb
   have aN:cb<w.heap.size:=H.inside b _ hb
   refine⟨cb,o,room,rfl,Ht,h1,fun j hj=>?_⟩
   obtain⟨c,cN,cI,qo⟩:=hc j hj
   exact⟨c,by grind,by grind,fun v hv=>E.vr H (qo v hv)⟩
 ·intro b es l hg hb
  rcases m7 b l hb with⟨rfl,rfl⟩|⟨dH,hb⟩
  ·grind
  ·rw[bB b dH] at hg
   obtain⟨cb,bE,clock,rfl,hm,dG,hv⟩:=H.maps b es l hg hb
   refine⟨cb,bE,clock,rfl,by grind,dG,fun i k v e h1 h2=>?_⟩
   obtain⟨a,c⟩:=hv i k v e h1 h2
   exact⟨E.vr H a,E.vr H c⟩
 ·intro b l hg hb
  rcases m7 b l hb with⟨rfl,rfl⟩|⟨dH,hb⟩
  ·grind
  ·rw[bB b dH] at hg
   obtain⟨cb,lo,hi,rfl,hc⟩:=H.iE b l hg hb
   have aN:cb<w.heap.size:=H.inside b _ hb
   grind
 ·intro b b' l l' x x' k j aT hb cF hg dz ir iq
  rcases m7 b l hb with⟨rfl,rfl⟩|⟨dH,dB⟩<;>rcases m7 b' l' cF with⟨rfl,rfl⟩|⟨Tw,LS⟩
  ·exact aT rfl
  ·have:=H.inside b' l' LS
   have:=Loc.Ff iq
   have:k=w.heap.size:=ir
   omega
  ·have:=H.inside b l dB
   have:=Loc.Ff ir
   have:k=w.heap.size:=iq
   omega
  ·rw[bB b dH] at hg
   rw[bB b' Tw] at dz
   exact H.eN b b' l l' x x' k j aT dB LS hg dz ir iq
 ·intro b l x k j hb hg dG hI
  rcases m7 b l hb with⟨rfl,rfl⟩|⟨dH,hb⟩
  ·have:=H.eP k j hI
   have:k=w.heap.size:=dG
   omega
  ·rw[bB b dH] at hg
   exact H.bZ b l x k j hb hg dG hI
 ·intro b b8 cb o room hg hb n
  rcases m7 b _ hb with⟨rfl,hl⟩|⟨dH,hb⟩
  ·grind
  ·rw[bB b dH] at hg
   rw[Ct cb n (H.inside b _ hb)]
   exact H.pl b b8 cb o room hg hb n
def ij (P:Program) (ι:aO) (I:bR) (h:aa) (w:World) (id:Nat) (v:AV) (h':aa) (s:Sem Value):Prop:=
 ∃c w' ι' I',s.run P w= .ok c w'/\VR ι' I' w' v c/\HR ι' I' h' w'/\Ext (· =id) ι I h w ι' I' h' w'
def aMg (H:HR ι I h w) {id:Nat} (aM:ι id=none) (hx:VR ι I w x c) (h1:x.cells.all AV.one=true) (e):
 ij P ι I h w id (.ptr id 0) (h.at id (.cells x.cells)) (Instr.box e c):=by
 have hc:=VR.cells hx (Wy h1)
 obtain⟨H',E⟩:=Jh H (w':=w.alloc (.cells c.cells e)) (arr:=c.cells) rfl rfl rfl rfl aM (fun v hv=>(List.all_eq_true.1 h1) v hv) (by rw[hc.1];simp)
  (fun j v c' hv jN=>hc.2 j v c' hv (by grind))
 exact⟨.pointer (some ⟨w.heap.size,0,none⟩),_,_,_,rfl, .ptr _ _ _ _ _ (aO.jy _ _ _),H',E⟩
def aJp (H:HR ι I h w) {id:Nat} (aM:ι id=none) (dN:P.info? e=some ie) (hz:ie.zero=some z)
 (gq:LR ι I w za z.cells.toList) (h1: ∀v∈za,v.one=true):ij P ι I h w id (.ptr id 0) (h.at id (.cells za)) (Instr.alloc e true (.tuple #[])):=by
 obtain⟨H',E⟩:=Jh H (w':=w.alloc (.cells z.cells e)) (arr:=z.cells) rfl rfl rfl rfl aM h1 (by rw[gq.1];simp) (fun j v c' hv jN=>gq.2 j v c' hv (by grind))
 exact⟨.pointer (some ⟨w.heap.size,0,none⟩),_,_,_,by simp[Instr.alloc,N7 dN hz,newVar,newRow], .ptr _ _ _ _ _ (aO.jy _ _ _),H',E⟩
def aFA (H:HR ι I h w) {id:Nat} (aM:ι id=none) {bytes:Nat}
 (hu:P.underlying t=some (.slice e)) (dN:P.info? e=some ie) (Eg:ie.zero=some z) (aZ:ie.size=z.cells.size) (hb:ie.bytes=bytes)
 (hz:LR ι I w za z.cells.toList) (h1: ∀v∈za,v.one=true) (h0:za.length≠0)
 (hl:VR ι I w l cl) (hc:VR ι I w c cc) (hm:qA bytes l c=some n):
 ij P ι I h w id (.rs id 0 n za.length) (h.at id (.cells (List.replicate n za).flatten)) (Instr.makeSlice t cl cc):=by
 obtain⟨rfl,rfl,hn,H5⟩:=ah4 hm
 cases hl;cases hc
 have hr:=aid (P:=P) w hu dN Eg aZ hb hn H5
 have pL:=IC hz n (.inl h0)
 have yF:za.length=z.cells.size:=by rw[hz.1];simp
 obtain⟨H',E⟩:=Jh H (w':=w.alloc (.cells (madeCells z.cells (n*z.cells.size)) e)) (arr:=madeCells z.cells (n*z.cells.size)) rfl rfl rfl rfl aM (cs:=(List.replicate n za).flatten)
  (fun v hv=>by
    obtain⟨r,hr,hv⟩:=List.mem_flatten.1 hv
    grind) (by rw[pL.1];simp) (fun j v c' hv jN=>pL.2 j v c' hv (by grind))
 refine⟨_,_,_,_,hr,?_,H',E⟩
 refine .rs id 0 n za.length w.heap.size 0 _ n (aO.jy _ _ _) (ak _) ?_
 rw[size_madeCells,yF];omega
def aGN (H:HR ι I h w) {id:Nat} (aM:ι id=none)
 (hu:P.underlying t=some (.slice e)) (dN:P.info? e=some ie) (Eg:ie.zero=some z) (aZ:ie.size=z.cells.size) (O0:n*ie.size<=2^24)
 (hz:LR ι I w za z.cells.toList) (h1: ∀v∈za,v.one=true) (h0:za.length≠0) (hl:ps.length=fw.size)
 (hp: ∀(i j k:Nat) (x:aJ) (c:Value),ps[i]? =some (j,x)->fw[i]? =some (k,c)->j=k/\OR ι I w ρ x c)
 (hf:lK ρ za.length (List.replicate n za) ps=some rows):ij P ι I h w id (.rs id 0 n za.length) (h.at id (.cells rows.flatten)) (Instr.buildSlice t n fw):=by
 obtain⟨pO,hn,cells,hc,eF⟩:=aia hz h1 h0 hl hp hf
 have pL:za.length=z.cells.size:=by rw[hz.1];simp
 have hr:=aiN (P:=P) w (parts:=fw) (cells:=cells) hu dN Eg aZ O0 (by grind)
 obtain⟨H',E⟩:=Jh H (w':=w.alloc (.cells cells e)) (arr:=cells) rfl rfl rfl rfl aM (cs:=rows.flatten)
  (fun v hv=>by
    obtain⟨r,hr,hv⟩:=List.mem_flatten.1 hv
    grind) (by rw[eF.1];simp) (fun j v c' hv jN=>eF.2 j v c' hv (by grind))
 refine⟨_,_,_,_,hr,?_,H',E⟩
 refine .rs id 0 n za.length w.heap.size 0 _ n (aO.jy _ _ _) (ak _) ?_
 have:=eF.1
 rw[vf rows (fun r h=>(pO r h).1),hn] at this
 grind
end
end
section
open Go
section
variable {P:Program} {ι:aO} {I:bR} {h:aa} {w:World}
structure D8 (R:Nat->Nat->Prop) (w w':World):Prop where
 os:w'.os=w.os
 tape:w'.tape=w.tape
 output:w'.output=w.output
 size:w.heap.size<=w'.heap.size
 block: ∀k,k<w.heap.size->(∀j,¬R k j)->w'.heap[k]? =w.heap[k]?
 cell: ∀k j,k<w.heap.size-> ¬R k j->w'.cell? ⟨k,j,none⟩=w.cell? ⟨k,j,none⟩
 frozen: ∀k j,k<w.heap.size-> ¬R k j->w'.frozen? ⟨k,j,none⟩=w.frozen? ⟨k,j,none⟩
structure gR (R:Nat->Nat->Prop) (w w':World):Prop where
 os:w'.os=w.os
 tape:w'.tape=w.tape
 output:w'.output=w.output
 size:w.heap.size<=w'.heap.size
 block: ∀k,k<w.heap.size->(∀j,¬R k j)->w'.heap[k]? =w.heap[k]?
 cell: ∀k j,k<w.heap.size-> ¬R k j->w'.cell? ⟨k,j,none⟩=w.cell? ⟨k,j,none⟩
 frozen: ∀k j,k<w.heap.size->w'.frozen? ⟨k,j,none⟩=w.frozen? ⟨k,j,none⟩
def gR.Lp (W:gR R w w'):D8 R w w':=
 ⟨W.os,W.tape,W.output,W.size,W.block,W.cell,fun k j hk _=>W.frozen k j hk⟩
def gR.trans (A:gR R w₁ w₂) (B:gR R' w₂ w₃) (hR: ∀k j,k<w₁.heap.size->R' k j->R k j):gR R w₁ w₃ where
 os:=B.os.trans A.os
 tape:=B.tape.trans A.tape
 output:=B.output.trans A.output
 size:=fm A.size B.size
 block k hk hr:=(B.block k (bJ hk A.size) (fun j hj=>hr j (hR k j hk hj))).trans (A.block k hk hr)
 cell k j hk hr:=(B.cell k j (bJ hk A.size) (fun hj=>hr (hR k j hk hj))).trans (A.cell k j hk hr)
 frozen k j hk:=(B.frozen k j (bJ hk A.size)).trans (A.frozen k j hk)
theorem ahU (cb): ∀(vs:List Value) (o:Nat) (w:World) (k:Nat),k≠cb->(w.setCells cb o vs).heap[k]? =w.heap[k]?
 |[],_,_,_,_=>rfl
 |v::vs,o,w,k,hk=>by
  rw[World.setCells,ahU cb vs (o+1) _ k hk,heap_setCell_other _ _ _ _ hk]
theorem ahR (cb): ∀(vs:List Value) (o:Nat) (w:World),(w.setCells cb o vs).heap.size=w.heap.size/\(w.setCells cb o vs).os=w.os/\(w.setCells cb o vs).tape=w.tape/\(w.setCells cb o vs).output=w.output
 |[],_,_=>⟨rfl,rfl,rfl,rfl⟩
 |v::vs,o,w=>by
  obtain⟨a,b,c,d⟩:=ahR cb vs (o+1) (w.setCell ⟨cb,o,none⟩ v)
  exact⟨by rw[World.setCells,a];simp_all,by rw[World.setCells,b];rfl,by rw[World.setCells,c];rfl,by rw[World.setCells,d];rfl⟩
def gR.setCells (w) (cb o) (vs):gR (fun k j=>k=cb/\o<=j/\j<o+vs.length) w (w.setCells cb o vs):=by
 obtain⟨a,b,c,d⟩:=ahR cb vs o w
 refine{os:=b,tape:=c,output:=d,size:=by omega,block:=fun k hk hr=>?_,cell:=fun k j hk hr=>?_,frozen:=fun k j hk=>World.frozen?_setCells cb vs o w _}
 ·by_cases yL:k=cb
  ·subst yL
   cases vs with
   |nil=>rfl
   |cons v vs=>exact(hr o ⟨rfl,ak _,by simp⟩).elim
  ·exact ahU cb vs o w k yL
 ·exact World.cell?_setCells_out cb vs o w _ (fun h1 _=>by
   grind)
def gR.push (w) (o):gR (fun _ _=>False) w (w.alloc o):=by
 have wD: ∀k,k<w.heap.size->(w.alloc o).heap[k]? =w.heap[k]?:=fun k hk=>by
  show(w.heap.push o)[k]? =_
  grind
 exact{os:=rfl,tape:=rfl,output:=rfl,size:=by simp,block:=fun k hk _=>wD k hk
       cell:=fun k j hk _=>by simp[World.cell?,wD k hk],frozen:=fun k j hk=>by simp[World.frozen?,wD k hk]}
def gR.drew (w):gR (fun _ _=>False) w w.drew:=
 {os:=rfl,tape:=rfl,output:=rfl,size:=ak _,block:=fun _ _ _=>rfl,cell:=fun _ _ _ _=>rfl,frozen:=fun _ _ _=>rfl}
def HR.aDS (H:HR ι I h w) (W:D8 R w w') (jb:h.next<=h'.next) (ez: ∀b x,h'.get b=some x->h.get b=some x)
 (hR: ∀b l x k j,ι b=some l->h'.get b=some x->l.has k j-> ¬R k j) (hI: ∀k j,R k j-> ¬I k j):HR ι I h' w':=by
 have kI: ∀a v,VR ι I w a v->VR ι I w' a v:=fun a v hv=>hv.mono (fun _ _ h=>h) (fun _ _ h=>h) (fun k j hk=>W.cell k j (H.eP k j hk) (fun hr=>hI k j hr hk))
 refine{dI:=fun b l hb=>bJ (H.dI b l hb) jb,inside:=fun b l hb=>bJ (H.inside b l hb) W.size,cells:=?_,maps:=?_,iE:=?_
        eN:=fun b b' l l' x x' k j aT hb cF hg dz=>H.eN b b' l l' x x' k j aT hb cF (ez _ _ hg) (ez _ _ dz)
        bZ:=fun b l x k j hb hg=>H.bZ b l x k j hb (ez _ _ hg),eP:=fun k j hk=>bJ (H.eP k j hk) W.size
        pl:=fun b cs cb o room hg hb n=>by rw[W.frozen cb n (H.inside b _ hb) (hR b _ _ cb n hb hg rfl)];exact H.pl b cs cb o room (ez _ _ hg) hb n}
 ·intro b cs l hg hb
  obtain⟨cb,o,room,rfl,hle,h1,hc⟩:=H.cells b cs l (ez _ _ hg) hb
  have aN:cb<w.heap.size:=H.inside b _ hb
  refine⟨cb,o,room,rfl,hle,h1,fun j hj=>?_⟩
  obtain⟨c,cN,cI,qo⟩:=hc j hj
  have hnr:=hR b _ _ cb (o+j) hb hg rfl
  exact⟨c,by rw[W.cell _ _ aN hnr];exact cN,by rw[W.frozen _ _ aN hnr];exact cI,fun v hv=>kI _ _ (qo v hv)⟩
 ·intro b es l hg hb
  obtain⟨cb,bE,clock,rfl,hm,dG,hv⟩:=H.maps b es l (ez _ _ hg) hb
  have aN:cb<w.heap.size:=H.inside b _ hb
  refine⟨cb,bE,clock,rfl,by rw[W.block cb aN (fun j=>hR b _ _ cb j hb hg rfl)];exact hm,dG,fun i k v e h1 h2=>?_⟩
  grind
 ·intro b l hg hb
  obtain⟨cb,lo,hi,rfl,hc⟩:=H.iE b l (ez _ _ hg) hb
  have aN:cb<w.heap.size:=H.inside b _ hb
  refine⟨cb,lo,hi,rfl,fun j h1 h2=>?_⟩
  obtain⟨c,cN,cI⟩:=hc j h1 h2
  exact⟨c,by rw[W.cell _ _ aN (hR b _ _ cb j hb hg ⟨rfl,h1,h2⟩)];exact cN,by rw[W.frozen _ _ aN (hR b _ _ cb j hb hg ⟨rfl,h1,h2⟩)];exact cI⟩
def HR.Cv (H:HR ι I h w) (W:gR R w w') (jb:h.next<=h'.next) (ez: ∀b x,h'.get b=some x->h.get b=some x)
 (hR: ∀b l x k j,ι b=some l->h'.get b=some x->l.has k j-> ¬R k j) (hI: ∀k j,R k j-> ¬I k j):HR ι I h' w':=
 H.aDS W.Lp jb ez hR hI
def HR.WU (H:HR ι I h w) {J:bR} (hJ: ∀k j,J k j->k<w.heap.size/\ ¬fJ ι h k j):HR ι (fun k j=>I k j\/J k j) h w:=by
 have kI: ∀a v,VR ι I w a v->VR ι (fun k j=>I k j\/J k j) w a v:=fun a v hv=>hv.mono (fun _ _ h=>h) (fun _ _ h=> .inl h) (fun k j hk=>rfl)
 refine{dI:=H.dI,inside:=H.inside,cells:=?_,maps:=?_,iE:=H.iE,eN:=H.eN,bZ:=?_,eP:=?_,pl:=H.pl}
 ·intro b cs l hg hb
  obtain⟨cb,o,room,rfl,hle,h1,hc⟩:=H.cells b cs l hg hb
  grind
 ·intro b es l hg hb
  obtain⟨cb,bE,clock,rfl,hm,dG,hv⟩:=H.maps b es l hg hb
  grind
 ·intro b l x k j hb hg hl hk
  rcases hk with hk|hk
  ·exact H.bZ b l x k j hb hg hl hk
  ·exact(hJ k j hk).2 ⟨b,l,x,hb,hg,hl⟩
 ·intro k j hk
  rcases hk with hk|hk
  ·exact H.eP k j hk
  grind
def Fits (ι:aO) (I:bR) (w:World):Loc->lB->Prop
 | .cells cb o room, .cells cs=>cs.length<=room/\(∀v∈cs,v.one=true)/\
    (∀j,j<room-> ∃c,w.cell? ⟨cb,o+j,none⟩=some c/\w.frozen? ⟨cb,o+j,none⟩=false/\ ∀v,cs[j]? =some v->VR ι I w v c)/\ ∀n,w.frozen? ⟨cb,n,none⟩=false
 | .map cb, .map es=> ∃bE clock,w.heap[cb]? =some (.map bE clock)/\ER ι I w es bE.toList/\sG bE clock
 | .tail cb lo hi, .tail=> ∀j,lo<=j->j<hi-> ∃c,w.cell? ⟨cb,j,none⟩=some c/\w.frozen? ⟨cb,j,none⟩=false
 |_,_=>False
def HR.DM (H:HR ι I h w) {id:Nat} (aM: ∀l',ι id=some l'->l'=l) (aN:l.block<w.heap.size) (pG:Fits ι I w l x)
 (GS: ∀k j,l.has k j-> ¬fJ ι h k j/\ ¬I k j):HR (ι.set id l) I (h.at id x) w:=by
 have bB: ∀b,b≠id->(h.at id x).get b=h.get b:=fun b hb=>by simp[aa.at,hb]
 have FE:(h.at id x).get id=some x:=by simp[aa.at]
 have m7: ∀b l',(ι.set id l) b=some l'->(b=id/\l'=l)\/(b≠id/\ι b=some l'):=by
  intro b l' hb
  by_cases dH:b=id
  ·subst dH;rw[aO.jy] at hb;grind
  ·rw[aO.gT _ _ dH] at hb;grind
 have kI: ∀a v,VR ι I w a v->VR (ι.set id l) I w a v:=fun a v hv=>hv.mono (fun b l' hb=>by
  by_cases he:b=id
  ·subst he;rw[aO.jy,aM _ hb]
  ·rw[aO.gT _ _ he];exact hb) (fun _ _ h=>h) (fun k j hk=>rfl)
 refine{dI:=?_,inside:=?_,cells:=?_,maps:=?_,iE:=?_,eN:=?_,bZ:=?_,eP:=H.eP,pl:=?_}
 ·intro b l' hb
  rcases m7 b l' hb with⟨rfl,_⟩|⟨_,hb⟩
  ·simp[aa.at];omega
  ·have:=H.dI b l' hb;simp[aa.at];omega
 ·intro b l' hb
  rcases m7 b l' hb with⟨rfl,rfl⟩|⟨_,hb⟩
  ·exact aN
  ·exact H.inside b l' hb
 ·intro b cs l' hg hb
  rcases m7 b l' hb with⟨rfl,rfl⟩|⟨dH,hb⟩
  ·rw[FE] at hg
   cases hg
   cases l' with
   |cells cb o room=>
    obtain⟨h1,h2,h3,-⟩:=pG
    grind
   |map _=>exact pG.elim
   |tail _ _ _=>exact pG.elim
  ·rw[bB b dH] at hg
   obtain⟨cb,o,room,rfl,Ht,h1,hc⟩:=H.cells b cs l' hg hb
   grind
 ·intro b es l' hg hb
  rcases m7 b l' hb with⟨rfl,rfl⟩|⟨dH,hb⟩
  ·rw[FE] at hg
   cases hg
   cases l' with
   |map cb=>
    obtain⟨bE,clock,hm,kQ,fy⟩:=pG
    exact⟨cb,bE,clock,rfl,hm,⟨by simpa using kQ.1,fy⟩,fun i k v e h1 h2=>by
     have:=kQ.2 i k v e h1 (by simpa using h2)
     grind⟩
   |cells _ _ _=>exact pG.elim
   |tail _ _ _=>exact pG.elim
  ·rw[bB b dH] at hg
   obtain⟨cb,bE,clock,rfl,hm,dG,hv⟩:=H.maps b es l' hg hb
   grind
 ·intro b l' hg hb
  rcases m7 b l' hb with⟨rfl,rfl⟩|⟨dH,hb⟩
  ·rw[FE] at hg
   cases hg
   cases l' with
   |tail cb lo hi=>exact⟨cb,lo,hi,rfl,pG⟩
   |cells _ _ _=>exact pG.elim
   |map _=>exact pG.elim
  ·rw[bB b dH] at hg
   exact H.iE b l' hg hb
 ·intro b b' l1 l2 x1 x2 k j aT hb cF hg dz ir iq
  rcases m7 b l1 hb with⟨rfl,rfl⟩|⟨dH,dB⟩<;>rcases m7 b' l2 cF with⟨rfl,rfl⟩|⟨Tw,LS⟩
  ·exact aT rfl
  ·rw[bB b' Tw] at dz
   exact(GS k j ir).1 ⟨b',l2,x2,LS,dz,iq⟩
  ·rw[bB b dH] at hg
   exact(GS k j iq).1 ⟨b,l1,x1,dB,hg,ir⟩
  ·rw[bB b dH] at hg
   rw[bB b' Tw] at dz
   exact H.eN b b' l1 l2 x1 x2 k j aT dB LS hg dz ir iq
 ·intro b l1 x1 k j hb hg hl hI
  rcases m7 b l1 hb with⟨rfl,rfl⟩|⟨dH,dB⟩
  ·grind
  ·rw[bB b dH] at hg
   exact H.bZ b l1 x1 k j dB hg hl hI
 ·intro b cs cb o room hg hb n
  rcases m7 b _ hb with⟨rfl,hl⟩|⟨dH,dB⟩
  ·rw[FE] at hg
   cases hg
   subst hl
   exact pG.2.2.2 n
  ·rw[bB b dH] at hg
   exact H.pl b cs cb o room hg dB n
def Ext.of0 (W:D8 R w w') (hR: ∀k j,k<w.heap.size->R k j->fJ ι h k j)
 (v8: ∀b,¬N b->ι' b=ι b) (Km: ∀b l,ι b=some l->ι' b=some l) (jb:h.next<=h'.next) (aft: ∀k j,I k j->I' k j)
 (oO: ∀k j,fJ ι' h' k j->fJ ι h k j\/w.heap.size<=k) (ac8: ∀k j,I' k j->I k j\/fJ ι h k j\/w.heap.size<=k)
 (Kn: ∀b,¬N b->ι b=none->h'.get b=h.get b):Ext N ι I h w ι' I' h' w':=
 {fN:=v8,more:=Km,next:=jb,bZ:=aft,os:=W.os,tape:=W.tape,output:=W.output,size:=W.size
  block:=fun k hk ho=>W.block k hk (fun j hj=>ho j (hR k j hk hj)),cell:=fun k j hk ho=>W.cell k j hk (fun hj=>ho (hR k j hk hj)),frozen:=fun k j hk ho=>W.frozen k j hk (fun hj=>ho (hR k j hk hj))
  own:=oO,jW:=ac8,lost:=Kn}
def Ext.of (W:gR R w w') (hR: ∀k j,k<w.heap.size->R k j->fJ ι h k j)
 (v8: ∀b,¬N b->ι' b=ι b) (Km: ∀b l,ι b=some l->ι' b=some l) (jb:h.next<=h'.next) (aft: ∀k j,I k j->I' k j)
 (oO: ∀k j,fJ ι' h' k j->fJ ι h k j\/w.heap.size<=k) (ac8: ∀k j,I' k j->I k j\/fJ ι h k j\/w.heap.size<=k)
 (Kn: ∀b,¬N b->ι b=none->h'.get b=h.get b):Ext N ι I h w ι' I' h' w':=
 Ext.of0 W.Lp hR v8 Km jb aft oO ac8 Kn
end
end
section
open Go
section
variable {P:Program} {ι:aO} {I:bR} {h:aa} {w:World}
def aa.aLN (h:aa) (hb:b<h.next) (x):(h.set b none).at b x=h.set b (some x):=by
 unfold aa.at aa.set
 grind
def aO.aMw (hb:ι b=some l):ι.set b l=ι:=by
 funext i
 by_cases hi:i=b
 ·subst hi;rw[aO.jy,hb]
 ·rw[aO.gT _ _ hi]
def l6 (hg:(h.set b none).get i=some x):i≠b/\h.get i=some x:=by
 simp only[aa.set] at hg
 grind
def HR.turn (H:HR ι I h w) (W:gR R w w') (hb:ι b=some l) (hg:h.get b=some x)
 (hR: ∀k j,R k j->l.has k j) (pG:HR ι I (h.set b none) w'->Fits ι I w' l x'):
 HR ι I (h.set b (some x')) w'/\Ext (fun _=>False) ι I h w ι I (h.set b (some x')) w':=by
 have H1:HR ι I (h.set b none) w':=H.Cv W (ak _) (fun i y hi=>(l6 hi).2)
  (fun i l' y k j hi fi hl hr=>(H.eN i b l' l y x k j (l6 fi).1 hi hb (l6 fi).2 hg hl (hR k j hr)).elim)
  (fun k j hr=>H.bZ b l x k j hb hg (hR k j hr))
 have H2:=H1.DM (id:=b) (l:=l) (x:=x') (fun l' dG=>by grind) (bJ (H.inside b l hb) W.size) (pG H1)
  (fun k j hl=>⟨fun⟨i,l',y,hi,fi,lY⟩=>H.eN i b l' l y x k j (l6 fi).1 hi hb (l6 fi).2 hg lY hl,H.bZ b l x k j hb hg hl⟩)
 rw[aO.aMw hb,aa.aLN h (H.dI b l hb)] at H2
 refine⟨H2,Ext.of W (fun k j _ hr=>⟨b,l,x,hb,hg,hR k j hr⟩) (fun _ _=>rfl) (fun _ _ h=>h) (ak _) (fun _ _ h=>h) ?_ (fun _ _ h=> .inl h) ?_⟩
 ·rintro k j ⟨i,l',y,hi,fi,hl⟩
  by_cases wW:i=b
  ·subst wW
   rw[hb] at hi;cases hi
   exact .inl ⟨i,_,x,hb,hg,hl⟩
  ·exact .inl ⟨i,l',y,hi,by simpa [aa.set,wW] using fi,hl⟩
 ·intro i _ hi
  have:i≠b:=fun he=>by grind
  simp[aa.set,this]
def HR.OT (H:HR ι I h w) (hb:ι b=some (.cells cb o room)) (hg:h.get b=some (.cells cs))
 (hle:off<=cs.length) (lg:off+vs.length<=room) (hv:LR ι I w vs uE) (eg: ∀v∈vs,v.one=true):
 HR ι I (h.set b (some (.cells (ew cs off vs)))) (w.setCells cb (o+off) uE)/\
 Ext (fun _=>False) ι I h w ι I (h.set b (some (.cells (ew cs off vs)))) (w.setCells cb (o+off) uE):=by
 obtain⟨_,_,_,hl,ic,h1,hc⟩:=H.cells b cs _ hg hb
 cases hl
 have hvl:=hv.1
 refine H.turn (gR.setCells w cb (o+off) uE) hb hg (fun k j ⟨h1,h2,h3⟩=>h1) (fun H1=>?_)
 have kI: ∀a c,VR ι I w a c->VR ι I (w.setCells cb (o+off) uE) a c:=fun a c qt=>qt.mono (fun _ _ h=>h) (fun _ _ h=>h) (fun k j hk=>
  (gR.setCells w cb (o+off) uE).cell k j (H.eP k j hk) (fun⟨e1,e2,e3⟩=>H.bZ b _ _ k j hb hg e1 hk))
 refine⟨by rw[aFd _ _ _ hle];omega,?_,fun j hj=>?_,fun n=>by rw[World.frozen?_setCells];exact H.pl b cs cb o room hg hb n⟩
 ·intro v d7
  obtain⟨i,hi,rfl⟩:=jm d7
  have bB:=VV cs off vs hle i
  grind
 ·obtain⟨c,cN,cI,qo⟩:=hc j hj
  by_cases aN:off<=j/\j<off+uE.length
  ·have hex: ∀i,i<uE.length->(w.cell? ⟨cb,o+off+i,none⟩).isSome=true:=fun i hi=>by
    obtain⟨c',jN,_⟩:=hc (off+i) (by omega)
    grind
   have:=World.cell?_setCells_in cb uE (o+off) w hex (j-off) (by omega)
   rw[show o+off+(j-off)=o+j by omega] at this
   refine⟨_,this,by rw[World.frozen?_setCells];exact cI,fun v d7=>?_⟩
   rw[VV _ _ _ hle,ax (by omega)] at d7
   exact kI _ _ (hv.2 _ v _ d7 (bn (by omega)))
  ·refine⟨c,?_,by rw[World.frozen?_setCells];exact cI,fun v d7=>?_⟩
   ·rw[World.cell?_setCells_out cb uE (o+off) w _ (fun _ _=>by simp;omega)]
    exact cN
   ·rw[VV _ _ _ hle,aj (by omega)] at d7
    grind
def HR.write (H:HR ι I h w) (hb:ι b=some (.cells cb o room)) (hg:h.get b=some (.cells cs))
 (hle:off+vs.length<=cs.length) (hv:LR ι I w vs uE) (eg: ∀v∈vs,v.one=true):
 HR ι I (h.set b (some (.cells (ew cs off vs)))) (w.setCells cb (o+off) uE)/\
 Ext (fun _=>False) ι I h w ι I (h.set b (some (.cells (ew cs off vs)))) (w.setCells cb (o+off) uE):=by
 obtain⟨_,_,_,hl,ic,-,-⟩:=H.cells b cs _ hg hb
 cases hl
 exact H.OT hb hg (by omega) (by omega) hv eg
def xd (hg:cellsOf h b=some cs):h.get b=some (.cells cs):=by
 unfold cellsOf at hg
 grind
def aIn (H:HR ι I h w) (hs:(P.info? t).map (·.size)=some sz) (ha:VR ι I w a ca) (hv:VR ι I w v cv)
 (he:Fw sz h a v=some (r,h')):
 r= .undef/\ ∃w',(Instr.storeAt t ca cv).run P w= .ok () w'/\HR ι I h' w'/\Ext (fun _=>False) ι I h w ι I h' w':=by
 unfold Fw at he
 cases ha<;>simp only[] at he<;>try(cases he;done)
 rename_i b off cb o room hb
 split at he
 ·rename_i cs hg
  split at he
  ·rename_i jC
   obtain⟨h1,h2,h3⟩:=jC
   cases he
   have dz:=xd hg
   have hc:=VR.cells hv (Wy h3)
   obtain⟨_,_,_,hl,ic,_,hcell⟩:=H.cells b cs _ dz hb
   cases hl
   have eg: ∀u∈cv.cells.toList,u.oneCell'=true:=by
    intro u hu
    obtain⟨i,hi,rfl⟩:=jm hu
    have av:i<v.cells.length:=by rw[hc.1];exact hi
    exact(hc.2 i _ _ (bn av) (bn hi)).one ((List.all_eq_true.1 h3) _ (bw av))
   have hlen:cv.cells.toList.length=sz:=by rw[<-h1,hc.1]
   have dm:=run_storeCells_cells (P:=P) cb (o+off) cv.cells.toList 0 w
    (fun j hj=>by obtain⟨c,jN,_⟩:=hcell (off+j) (by omega);grind)
    (fun j hj=>by obtain⟨c,_,jN,_⟩:=hcell (off+j) (by omega);grind) eg
   obtain⟨H',E⟩:=H.write (off:=off) hb dz (by omega) hc (fun u hu=>(List.all_eq_true.1 h3) u hu)
   refine⟨rfl,w.setCells cb (o+off) cv.cells.toList,?_,H',E⟩
   have aZ:cv.cells.size=sz:=by omega
   simp only[qG] at dm
   simp[Instr.storeAt,Instr.sureAddr,storeVar,rz hs,aZ,dm]
  ·cases he
 ·cases he
end
end
section
open Go
section
variable {P:Program} {ι:aO} {I:bR} {h:aa} {w:World}
def gR.refl (w):gR (fun _ _=>False) w w:=
 {os:=rfl,tape:=rfl,output:=rfl,size:=ak _,block:=fun _ _ _=>rfl,cell:=fun _ _ _ _=>rfl,frozen:=fun _ _ _=>rfl}
def HR.drop (H:HR ι I h w) (hb:ι b=some l):HR ι I (h.set b none) w/\Ext (fun _=>False) ι I h w ι I (h.set b none) w:=by
 refine⟨H.Cv (gR.refl w) (ak _) (fun i y hi=>(l6 hi).2) (fun _ _ _ _ _ _ _ _ h=>h) (fun _ _ h=>h.elim),?_⟩
 refine Ext.of (gR.refl w) (fun _ _ _ h=>h.elim) (fun _ _=>rfl) (fun _ _ h=>h) (ak _) (fun _ _ h=>h) ?_ (fun _ _ h=> .inl h) ?_
 ·rintro k j ⟨i,l',y,hi,hg,hl⟩
  exact .inl ⟨i,l',y,hi,(l6 hg).2,hl⟩
 ·intro i _ hi
  have:i≠b:=fun he=>by grind
  simp[aa.set,this]
def aky {bytes:Nat} (hg:cap<aEb) (hb:aEb*bytes<2^40):Builtin.nextslicecap aEb cap*bytes<=281474976710656:=by
 have h1:=nextslicecap_le hg
 have h2:=nu bytes h1
 grind
structure Ap (P:Program) (t tx e:TypeId) (sz bytes:Nat):Prop where
 ht:P.underlying t=some (.slice e)
 AG:P.underlying tx=some (.slice e)
 info: ∃ie z,P.info? e=some ie/\ie.zero=some z/\ie.size=sz/\ie.bytes=bytes/\z.cells.size=sz
 pos:sz≠0
def akb (R:Rd ι I w sz rows a l) (cap) (w')
 (hw: ∀a,w'.cell? a=w.cell? a):(Builtin.firstCells sz rows.length (.slice a rows.length cap)).run P w'= .ok l.toArray w':=by
 cases a with
 |none=>
  have:=R.none rfl
  subst this
  have:l=[]:=by have:=R.len;simp_all
  subst this
  exact run_firstCells_none w' sz 0 _ cap
 |some ad=>
  exact run_firstCells_some w' sz _ _ _ _ l R.len (fun j v hv=>by rw[hw];exact R.cell ad rfl j v hv)
def akx (H:HR ι I h w) {id:Nat} (aM:ι id=none) {bytes:Nat} (T:Ap P t tx e sz bytes)
 (Rx:Rd ι I w sz xs a lx) (Ry:Rd ι I w sz ys b ly) (hg:cap<xs.length+ys.length) (hb:(xs.length+ys.length)*bytes<2^40) (hn:xs.length+ys.length<2^40):
 ∃(c:Nat) (w':World),(Builtin.append_ #[t,tx] ty #[.slice a xs.length cap, .slice b ys.length eE]).run P w= .ok (.slice (some ⟨w.heap.size,0,none⟩) (xs.length+ys.length) c) w'/\
  xs.length+ys.length<=c/\w'.heap.size=w.heap.size+1/\gR (fun _ _=>False) w w'/\(∀j,w'.frozen? ⟨w.heap.size,j,none⟩=false)/\
  (∀j,j<c*sz-> ∃u,w'.cell? ⟨w.heap.size,j,none⟩=some u)/\(∀(j:Nat) (u:Value),(lx++ly)[j]? =some u->w'.cell? ⟨w.heap.size,j,none⟩=some u):=by
 obtain⟨ie,z,dN,hz,aZ,FF,yF⟩:=T.info
 have hold:=akb (P:=P) Rx cap w.drew (fun _=>rfl)
 have wC:=Ry.src (P:=P) T.AG eE
 rw[<-aZ] at hold wC
 have pG:=aky hg hb
 rw[<-FF] at pG
 have dm:=run_append_grow_src (P:=P) w t tx ty e ie z T.ht dN hz a xs.length cap lx hold (.slice b ys.length eE) ys.length ly wC hg (by omega) pG
 have HW:=grownCap_ge w (xs.length+ys.length) cap e
 refine⟨_,_,dm,HW,by simp,(gR.drew w).trans (gR.push _ _) (fun _ _ _ h=>h),?_,?_,?_⟩
 ·intro j;exact World.frozen?_alloc_new (w:=w.drew) _ _ j
 ·intro j hj
  have GP:((lx++ly).toArray++Builtin.zeroCells z.cells (grownCap w (xs.length+ys.length) cap e-(xs.length+ys.length))).size=grownCap w (xs.length+ys.length) cap e*sz:=by
   rw[Array.size_append,size_zeroCells,yF]
   simp only[List.size_toArray,cw,Rx.len,Ry.len]
   rw[<-vU,<-vU]
   congr 1;omega
  exact⟨_,(World.cell?_alloc_new (w:=w.drew) _ _ j).trans (Array.getElem?_eq_getElem (by omega))⟩
 ·intro j u hu
  refine(World.cell?_alloc_new (w:=w.drew) _ _ j).trans ?_
  grind
def Rd.append (Rx:Rd ι I w sz xs a lx) (Ry:Rd ι I w sz ys b ly):
 (∀r∈xs++ys,r.length=sz/\ ∀v∈r,v.one=true)/\LR ι I w (xs++ys).flatten (lx++ly):=by
 refine⟨fun r hr=>?_,?_⟩
 ·rcases List.mem_append.1 hr with h|h
  ·exact Rx.qU r h
  ·exact Ry.qU r h
 ·rw[B7]
  exact Rx.lr.append Ry.lr
def amp (hu: ∀r∈rows,r.length=sz/\ ∀v∈r,v.one=true) (hl:LR ι' I' w' rows.flatten l)
 (hc: ∀(j:Nat) (u:Value),l[j]? =some u->w'.cell? ⟨cb,o+j,none⟩=some u) (hI: ∀j,j<rows.length*sz->I' cb (o+j)) (bY:rows.length<=cap)
 (ht:acV ι' cb o sz rows.length cap t):VR ι' I' w' (.vs rows t) (.slice (some ⟨cb,o,none⟩) rows.length cap):=by
 have da:=vf rows (fun r hr=>(hu r hr).1)
 have mW:l.length=rows.length*sz:=by rw[<-hl.1,da]
 have aUT: ∀i j,i<rows.length->j<sz->i*sz+j<rows.length*sz:=fun i j hi hj=>by
  have:=nu sz (show i+1<=rows.length by omega)
  grind
 refine .vs rows t cb o sz cap (fun i j=>l.getD (i*sz+j) undef) (fun i row hi=>(hu row (iC hi)).1) (fun i j hi hj=>?_) (fun i j hi hj=>?_) (fun i row j v hi hj=>?_) (fun row hr=>(hu row hr).2) bY ht
 ·grind
 ·grind
 ·have av:=(List.getElem?_eq_some_iff.1 hi).1
  have mZ:=(List.getElem?_eq_some_iff.1 hj).1
  have hr:=(hu row (iC hi)).1
  have:=flat_get rows (fun r hr=>(hu r hr).1) i j row hi (by omega)
  rw[hj] at this
  obtain⟨c,cN,cI⟩:=hl.get this
  grind
def Il (H:HR ι I h w) {id:Nat} (aM:ι id=none) {bytes:Nat} (T:Ap P t tx e sz bytes)
 (Rx:Rd ι I w sz xs a lx) (Ry:Rd ι I w sz ys b ly) (hg:cap<xs.length+ys.length) (hb:(xs.length+ys.length)*bytes<2^40) (hn:xs.length+ys.length<2^40) (hy:ys≠[]):
 ij P ι I h w id (.vs (xs++ys) (.own id)) (h.at id .tail) (Builtin.append_ #[t,tx] ty #[.slice a xs.length cap, .slice b ys.length eE]):=by
 obtain⟨c,w',dm,hc,aZ,W,Ct,hex,hcell⟩:=akx H aM T Rx Ry hg hb hn (eE:=eE) (ty:=ty)
 obtain⟨hu,hl⟩:=Rx.append Ry
 have lP:0<xs.length+ys.length:=by
  omega
 have hlen:(xs++ys).length=xs.length+ys.length:=by simp
 let J:bR:=fun k j=>k=w.heap.size/\j<(xs.length+ys.length)*sz
 let l0:Loc:= .tail w.heap.size ((xs.length+ys.length)*sz) (c*sz)
 have oO: ∀k j,fJ ι h k j->k<w.heap.size:=fun k j ⟨i,l,x,hi,_,hl⟩=>by rw[Loc.Ff hl];exact H.inside i l hi
 have H1:HR ι I h w':=H.Cv W (ak _) (fun _ _ h=>h) (fun _ _ _ _ _ _ _ _ h=>h) (fun _ _ h=>h.elim)
 have H2:HR ι (fun k j=>I k j\/J k j) h w':=H1.WU (fun k j hj=>⟨by omega,fun ho=>by grind⟩)
 have H3:=H2.DM (id:=id) (l:=l0) (x:= .tail) (fun l' dG=>by grind) (by simp[l0,Loc.block];omega)
  (fun j h1 h2=>by grind)
  (fun k j hl=>⟨fun ho=>by have:=oO k j ho;have:=hl.1;omega,fun hI=>by
    rcases hI with hI|hI
    ·have:=H.eP k j hI;have:=hl.1;omega
    ·have:=hI.2;have:=hl.2.1;omega⟩)
 have kI: ∀a v,VR ι I w a v->VR (ι.set id l0) (fun k j=>I k j\/J k j) w' a v:=fun a v hv=>hv.mono
  (fun b l hb=>by rw[aO.gT _ _ (fun he=>by grind)];exact hb) (fun _ _ h=> .inl h) (fun k j hk=>W.cell k j (H.eP k j hk) (fun h=>h))
 refine⟨_,w',_,_,dm,?_,H3,?_⟩
 ·rw[<-hlen]
  refine amp (sz:=sz) (l:=lx++ly) hu (hl.mono kI) (fun j u pO=>by grind) (fun j hj=> .inr ⟨rfl,by grind⟩) (by omega) ?_
  rw[hlen]
  refine⟨lP,?_⟩
  rw[aO.jy]
  simp[l0]
 ·refine Ext.of W (fun _ _ _ h=>h.elim) (fun b hb=>aO.gT _ _ hb) (fun b l hb=>by rw[aO.gT _ _ (fun he=>by grind)];exact hb) (by simp[aa.at];omega) (fun _ _ h=> .inl h) ?_ ?_ (fun b hb _=>by simp[aa.at,hb])
  ·rintro k j ⟨i,l,x,hi,fi,hl⟩
   by_cases lu:i=id
   ·subst lu;rw[aO.jy] at hi;cases hi;exact .inr (by have:=hl.1;omega)
   ·rw[aO.gT _ _ lu] at hi
    exact .inl ⟨i,l,x,hi,by simpa [aa.at,lu] using fi,hl⟩
  grind
end
end
section
open Go
section
variable {P:Program} {ι:aO} {I:bR} {h:aa} {w:World}
def ij.ak2 {id:Nat} (H:HR ι I h w) (hb:ι b=some l) (hs:ij P ι I (h.set b none) w id v h' s) (aUV:ι id=none):
 ij P ι I h w id v h' s:=by
 obtain⟨c,w',ι',I',hr,hv,H',E⟩:=hs
 obtain⟨H1,E1⟩:=H.drop hb
 exact⟨c,w',ι',I',hr,hv,H',(E1.mono (fun _ h=>h.elim)).trans E (fun _ h=>h)⟩
def aGP (H:HR ι I h w) {id:Nat} (aM:ι id=none) {bytes:Nat} (T:Ap P t tx e sz bytes)
 (Rx:Rd ι I w sz xs (some ⟨cb,o,none⟩) lx) (Ry:Rd ι I w sz ys b ly) (hI: ∀j,j<xs.length*sz->I cb (o+j)) (ht:ι t0=some (.tail cb (o+xs.length*sz) (o+cap*sz))) (hg:h.get t0=some .tail)
 (ic:xs.length+ys.length<=cap) (hx:0<xs.length):
 ij P ι I h w id (.vs (xs++ys) (.own id)) ((h.set t0 none).at id .tail) (Builtin.append_ #[t,tx] ty #[.slice (some ⟨cb,o,none⟩) xs.length cap, .slice b ys.length eE]):=by
 obtain⟨ie,z,dN,hz,aZ,FF,yF⟩:=T.info
 have wC:=Ry.src (P:=P) T.AG eE
 rw[<-aZ] at wC
 have hmul:xs.length*sz+ys.length*sz<=cap*sz:=by rw[<-vU];exact nu _ ic
 have UJ:=Ry.len
 have hlx:=Rx.len
 obtain⟨ke,lo',av,dG,ac3⟩:=H.iE t0 _ hg ht
 cases dG
 have dm:=run_append_room_src (P:=P) w t tx ty e ie T.ht dN cb o xs.length cap (.slice b ys.length eE) ys.length ly wC ic
  (fun j hj=>by rw[aZ];obtain⟨u,hu,_⟩:=ac3 (o+xs.length*sz+j) (by omega) (by omega);rw[hu];rfl)
  (fun j hj=>by grind)
 rw[aZ] at dm
 have W:=gR.setCells w cb (o+xs.length*sz) ly
 have hR: ∀k j,(k=cb/\o+xs.length*sz<=j/\j<o+xs.length*sz+ly.length)->(Loc.tail cb (o+xs.length*sz) (o+cap*sz)).has k j:=fun k j ⟨h1,h2,h3⟩=>⟨h1,h2,by omega⟩
 have uG: ∀k j,(Loc.tail cb (o+xs.length*sz) (o+cap*sz)).has k j-> ¬fJ ι (h.set t0 none) k j:=fun k j hl ⟨i,l,x,hi,fi,lY⟩=>
  H.eN i t0 l _ x .tail k j (l6 fi).1 hi ht (l6 fi).2 hg lY hl
 have HS: ∀k j,(Loc.tail cb (o+xs.length*sz) (o+cap*sz)).has k j-> ¬I k j:=fun k j hl=>H.bZ t0 _ .tail k j ht hg hl
 have aN:cb<w.heap.size:=H.inside t0 _ ht
 have H1:HR ι I (h.set t0 none) (w.setCells cb (o+xs.length*sz) ly):=H.Cv W (ak _) (fun i y hi=>(l6 hi).2)
  (fun i l y k j hi fi hl hr=>uG k j (hR k j hr) ⟨i,l,y,hi,fi,hl⟩) (fun k j hr=>HS k j (hR k j hr))
 let J:bR:=fun k j=>k=cb/\o+xs.length*sz<=j/\j<o+(xs.length+ys.length)*sz
 have hJ: ∀k j,J k j->(Loc.tail cb (o+xs.length*sz) (o+cap*sz)).has k j:=fun k j ⟨h1,h2,h3⟩=>⟨h1,h2,by grind⟩
 have H2:=H1.WU (J:=J) (fun k j hj=>⟨by rw[hj.1];exact bJ aN W.size,uG k j (hJ k j hj)⟩)
 let l0:Loc:= .tail cb (o+(xs.length+ys.length)*sz) (o+cap*sz)
 have UK: ∀k j,l0.has k j->(Loc.tail cb (o+xs.length*sz) (o+cap*sz)).has k j:=fun k j ⟨h1,h2,h3⟩=>⟨h1,by grind,h3⟩
 have H3:=H2.DM (id:=id) (l:=l0) (x:= .tail) (fun l' dG=>by grind) (bJ aN W.size)
  (fun j h1 h2=>by
    have br:o+xs.length*sz+ly.length<=j:=by grind
    obtain⟨u,hu,hf⟩:=ac3 j (by omega) h2
    exact⟨u,by rw[W.cell _ _ aN (fun hr=>by omega)];exact hu,by rw[W.frozen _ _ aN];exact hf⟩)
  (fun k j hl=>⟨uG k j (UK k j hl),fun A4=>by
    rcases A4 with A4|A4
    ·grind
    ·have:=A4.2.2;have:=hl.2.1;omega⟩)
 have kI: ∀a v,VR ι I w a v->VR (ι.set id l0) (fun k j=>I k j\/J k j) (w.setCells cb (o+xs.length*sz) ly) a v:=fun a v hv=>hv.mono
  (fun b l hb=>by rw[aO.gT _ _ (fun he=>by grind)];exact hb) (fun _ _ h=> .inl h) (fun k j hk=>W.cell k j (H.eP k j hk) (fun hr=>HS k j (hR k j hr) hk))
 obtain⟨hu,hl⟩:=Rx.append Ry
 have hlen:(xs++ys).length=xs.length+ys.length:=by simp
 refine⟨_,_,_,_,dm,?_,H3,?_⟩
 ·rw[<-hlen]
  refine amp (sz:=sz) (l:=lx++ly) hu (hl.mono kI) (fun j u pO=>?_) (fun j hj=>?_) (by omega) ?_
  ·by_cases hj:j<lx.length
   ·rw[Hm hj] at pO
    have hc:=Rx.cell _ rfl j u pO
    rw[Addr.add_mid] at hc
    rw[W.cell _ _ aN (fun hr=>by omega)]
    exact hc
   ·rw[Hn (by omega)] at pO
    have iu:=(List.getElem?_eq_some_iff.1 pO).1
    have:=World.cell?_setCells_in cb ly (o+xs.length*sz) w (fun i hi=>by
     obtain⟨u',pO,_⟩:=ac3 (o+xs.length*sz+i) (by omega) (by omega);rw[pO];rfl) (j-lx.length) iu
    grind
  ·grind
  ·rw[hlen]
   exact⟨by omega,by rw[aO.jy]⟩
 ·refine Ext.of W (fun k j _ hr=>⟨t0,_, .tail,ht,hg,hR k j hr⟩) (fun b hb=>aO.gT _ _ hb) (fun b l hb=>by rw[aO.gT _ _ (fun he=>by grind)];exact hb)
   (by simp[aa.at,aa.set];omega) (fun _ _ h=> .inl h) ?_ ?_ ?_
  ·rintro k j ⟨i,l,x,hi,fi,lY⟩
   by_cases lu:i=id
   ·subst lu;rw[aO.jy] at hi;cases hi;exact .inl ⟨t0,_, .tail,ht,hg,UK k j lY⟩
   ·rw[aO.gT _ _ lu] at hi
    have LP:(h.set t0 none).get i=some x:=by simpa [aa.at,lu] using fi
    exact .inl ⟨i,l,x,hi,(l6 LP).2,lY⟩
  ·intro k j hk
   rcases hk with hk|hk
   ·exact .inl hk
   ·exact .inr (.inl ⟨t0,_, .tail,ht,hg,hJ k j hk⟩)
  ·intro i hi aEm
   have:i≠t0:=fun he=>by grind
   simp[aa.at,aa.set,hi,this]
def aH4 (H:HR ι I h w) {id:Nat} (aM:ι id=none) {bytes:Nat} (T:Ap P t tx e sz bytes) (hx:VR ι I w x cx) (hy:VR ι I w y cy) (bV:ox.ev ρ=x) (lV:oy.ev ρ=y)
 (he:dL (.append bytes sz ox oy) ρ id h=some (v,h')):ij P ι I h w id v h' (Builtin.append_ #[t,tx] ty #[cx,cy]):=by
 simp only[dL,bV,lV] at he
 cases wO:ef sz h y with
 |none=>grind
 |some ys=>
  simp only[wO] at he
  obtain⟨b,eE,ly,rfl,aEg,Ry⟩:=CY H hy wO
  obtain⟨ie,z,dN,hz,aZ,FF,yF⟩:=T.info
  have xk: ∀(a:Option Addr) (n cap:Nat),n<=cap->ys=[]->(Builtin.append_ #[t,tx] ty #[.slice a n cap, .slice b ys.length eE]).run P w= .ok (.slice a n cap) w:=by
   intro a n cap hle h0
   subst h0
   have hs:=Ry.src (P:=P) T.AG eE
   have:ly=[]:=by have:=Ry.len;simp_all
   subst this
   rw[<-aZ] at hs
   exact run_append_nothing w t tx ty e ie T.ht dN a n cap hle _ hs
  have rL: ∀(c:Value) (v:AV),VR ι I w v c->(Builtin.append_ #[t,tx] ty #[c, .slice b ys.length eE]).run P w= .ok c w->ij P ι I h w id v h (Builtin.append_ #[t,tx] ty #[c, .slice b ys.length eE]):=
   fun c v hv hr=>⟨c,w,ι,I,hr,hv,H,Ext.refl _ _ _ _ _⟩
  cases hx<;>(try simp only[] at he)<;>try(cases he;done)
  case cJ=>
   by_cases h0:ys=[]
   ·rw[ax h0] at he
    cases he
    exact rL _ _ .cJ (xk none 0 0 (ak _) h0)
   ·rw[aj h0] at he
    split at he
    ·rename_i hc
     cases he
     have Rx:Rd ι I w sz [] none []:=⟨by simp,LR.nil,by simp,fun _=>rfl⟩
     have:=Il H aM T Rx Ry (cap:=0) (eE:=eE) (ty:=ty) (by have:=List.length_pos_iff.2 h0;simp;omega) (by grind) (by grind) h0
     grind
    ·cases he
  case jA t' ht=>
   by_cases h0:ys=[]
   ·rw[ax h0] at he
    cases he
    exact rL _ _ (.jA _ ht) (xk none 0 0 (ak _) h0)
   ·rw[aj h0] at he
    split at he
    ·rename_i hc
     rcases ht with rfl|rfl
     ·simp at he
     ·cases he
      have Rx:Rd ι I w sz [] none []:=⟨by simp,LR.nil,by simp,fun _=>rfl⟩
      have:=Il H aM T Rx Ry (cap:=0) (eE:=eE) (ty:=ty) (by have:=List.length_pos_iff.2 h0;simp;omega) (by omega) (by omega) h0
      omega
    ·cases he
  case jq t' a cap ht=>
   by_cases h0:ys=[]
   ·rw[ax h0] at he
    cases he
    exact rL _ _ (.jq _ _ _ ht) (xk _ 0 cap (bM _) h0)
   ·rw[aj h0] at he
    split at he
    ·rename_i hc
     rcases ht with rfl|⟨rfl,rfl⟩
     ·simp at he
     ·cases he
      have Rx:Rd ι I w sz [] (some a) []:=⟨by simp,LR.nil,fun ad _ j u hu=>by simp at hu,fun h=>by cases h⟩
      have:=Il H aM T Rx Ry (cap:=0) (eE:=eE) (ty:=ty) (by have:=List.length_pos_iff.2 h0;simp;omega) (by omega) (by omega) h0
      omega
    ·cases he
  case vs xs t' cb o s cap g hs hI hc d7 eg bY ht=>
   by_cases h0:ys=[]
   ·rw[ax h0] at he
    cases he
    exact rL _ _ (.vs xs t' cb o s cap g hs hI hc d7 eg bY ht) (xk _ _ _ bY h0)
   ·rw[aj h0] at he
    split at he
    ·rename_i jC
     obtain⟨hk,gw,dB⟩:=jC
     obtain⟨a',Hy,lx,heq,_,Rx⟩:=CY H (.vs xs t' cb o s cap g hs hI hc d7 eg bY ht) (show ef sz h (.vs xs t')=some xs by simp[ef,hk])
     cases heq
     have aUr:=List.length_pos_iff.2 h0
     cases t' with
     |au=>simp at he
     |full=>
      cases he
      have d9:cap=xs.length:=ht
      exact Il H aM T Rx Ry (cap:=cap) (by omega) gw dB h0
     |own t0=>
      simp only[] at he
      cases hg:h.get t0 with
      |none=>simp[hg] at he
      |some x=>
       cases x with
       |cells cs=>simp[hg] at he
       |map es=>simp[hg] at he
       |tail=>
        simp only[hg] at he
        cases he
        obtain⟨ac2,D0⟩:=ht
        have i5:s=sz:=by
         rw[<-hs 0 _ (bn ac2)]
         exact V1 hs hk _ (bw ac2)
        subst i5
        by_cases ic:xs.length+ys.length<=cap
        ·refine aGP H aM T Rx Ry (fun j hj=>?_) D0 hg ic ac2
         have lP:0<s:=Nat.pos_of_ne_zero T.pos
         have:=hI (j/s) (j%s) ((Nat.div_lt_iff_lt_mul lP).2 hj) (Nat.mod_lt _ lP)
         rwa [rJ,Nat.div_add_mod' j s] at this
        ·obtain⟨H1,E1⟩:=H.drop D0
         exact ij.ak2 H D0 (Il H1 aM T Rx Ry (cap:=cap) (by omega) gw dB h0) aM
    ·cases he
end
end
section
open Go
section
variable {P:Program} {ι:aO} {I:bR} {h:aa} {w:World}
def aib (H:HR ι I h w) {id:Nat} (aM:ι id=none) {bytes:Nat} (T:Ap P t tx e sz bytes)
 (Rx:Rd ι I w sz xs a lx) (Ry:Rd ι I w sz ys b ly) (hg:cap<xs.length+ys.length) (hb:(xs.length+ys.length)*bytes<2^40) (hn:xs.length+ys.length<2^40):
 ij P ι I h w id (.rs id 0 (xs.length+ys.length) sz) (h.at id (.cells (xs++ys).flatten)) (Builtin.append_ #[t,tx] ty #[.slice a xs.length cap, .slice b ys.length eE]):=by
 obtain⟨c,w',dm,hc,aZ,W,Ct,hex,hcell⟩:=akx H aM T Rx Ry hg hb hn (eE:=eE) (ty:=ty)
 obtain⟨hu,hl⟩:=Rx.append Ry
 have oO: ∀k j,fJ ι h k j->k<w.heap.size:=fun k j ⟨i,l,x,hi,_,hl⟩=>by rw[Loc.Ff hl];exact H.inside i l hi
 have H1:HR ι I h w':=H.Cv W (ak _) (fun _ _ h=>h) (fun _ _ _ _ _ _ _ _ h=>h) (fun _ _ h=>h.elim)
 have kI: ∀a v,VR ι I w a v->VR ι I w' a v:=fun a v hv=>hv.mono (fun _ _ h=>h) (fun _ _ h=>h) (fun k j hk=>W.cell k j (H.eP k j hk) (fun h=>h))
 have da:=vf (xs++ys) (fun r hr=>(hu r hr).1)
 let l0:Loc:= .cells w.heap.size 0 (c*sz)
 have H3:=H1.DM (id:=id) (l:=l0) (x:= .cells (xs++ys).flatten) (fun l' dG=>by grind) (by simp[l0,Loc.block];omega)
  ⟨by rw[da];simp only[cw];exact nu _ hc,fun v hv=>by
    obtain⟨r,hr,hv⟩:=List.mem_flatten.1 hv
    grind,fun j hj=>by
    obtain⟨u,pO⟩:=hex j hj
    refine⟨u,by grind,by grind,fun v hv=>?_⟩
    obtain⟨c',cN,cI⟩:=hl.get hv
    grind,Ct⟩
  (fun k j hl=>⟨fun ho=>by have:=oO k j ho;have:k=w.heap.size:=hl;omega,fun hI=>by have:=H.eP k j hI;have:k=w.heap.size:=hl;omega⟩)
 refine⟨_,w',_,_,dm,?_,H3,?_⟩
 ·exact .rs id 0 _ sz w.heap.size 0 (c*sz) c (by rw[aO.jy]) hc (by omega)
 ·refine Ext.of W (fun _ _ _ h=>h.elim) (fun b hb=>aO.gT _ _ hb) (fun b l hb=>by rw[aO.gT _ _ (fun he=>by grind)];exact hb) (by simp[aa.at];omega) (fun _ _ h=>h) ?_ (fun _ _ h=> .inl h) (fun b hb _=>by simp[aa.at,hb])
  rintro k j ⟨i,l,x,hi,fi,hl⟩
  by_cases lu:i=id
  ·subst lu;rw[aO.jy] at hi;cases hi;exact .inr (by have:k=w.heap.size:=hl;omega)
  ·rw[aO.gT _ _ lu] at hi
   exact .inl ⟨i,l,x,hi,by simpa [aa.at,lu] using fi,hl⟩
def aFU (H:HR ι I h w) {id:Nat} (aM:ι id=none) {bytes:Nat} (T:Ap P t tx e sz bytes)
 (Ry:Rd ι I w sz ys b ly) (ht:ι t0=some (.cells cb o room)) (hg:h.get t0=some (.cells cs)) (ji:cs.length=len*sz)
 (ic:len+ys.length<=cap) (bY:cap*sz<=room):
 ij P ι I h w id (.rs id 0 (len+ys.length) sz) ((h.set t0 none).at id (.cells (cs++ys.flatten))) (Builtin.append_ #[t,tx] ty #[.slice (some ⟨cb,o,none⟩) len cap, .slice b ys.length eE]):=by
 obtain⟨ie,z,dN,hz,aZ,FF,yF⟩:=T.info
 have wC:=Ry.src (P:=P) T.AG eE
 rw[<-aZ] at wC
 have hmul:len*sz+ys.length*sz<=cap*sz:=by rw[<-vU];exact nu _ ic
 have UJ:=Ry.len
 obtain⟨ke,o',vZ,dG,Ht,aN2,hcell⟩:=H.cells t0 cs _ hg ht
 cases dG
 have dm:=run_append_room_src (P:=P) w t tx ty e ie T.ht dN cb o len cap (.slice b ys.length eE) ys.length ly wC ic
  (fun j hj=>by rw[aZ];obtain⟨u,hu,_⟩:=hcell (len*sz+j) (by omega);grind)
  (fun j hj=>by rw[aZ];obtain⟨u,_,hu,_⟩:=hcell (len*sz+j) (by omega);grind)
 rw[aZ] at dm
 have W:=gR.setCells w cb (o+len*sz) ly
 have hR: ∀k j,(k=cb/\o+len*sz<=j/\j<o+len*sz+ly.length)->(Loc.cells cb o room).has k j:=fun k j ⟨h1,h2,h3⟩=>h1
 have uG: ∀k j,(Loc.cells cb o room).has k j-> ¬fJ ι (h.set t0 none) k j:=fun k j hl ⟨i,l,x,hi,fi,lY⟩=>
  H.eN i t0 l _ x _ k j (l6 fi).1 hi ht (l6 fi).2 hg lY hl
 have HS: ∀k j,(Loc.cells cb o room).has k j-> ¬I k j:=fun k j hl=>H.bZ t0 _ _ k j ht hg hl
 have aN:cb<w.heap.size:=H.inside t0 _ ht
 have H1:HR ι I (h.set t0 none) (w.setCells cb (o+len*sz) ly):=H.Cv W (ak _) (fun i y hi=>(l6 hi).2)
  (fun i l y k j hi fi hl hr=>uG k j (hR k j hr) ⟨i,l,y,hi,fi,hl⟩) (fun k j hr=>HS k j (hR k j hr))
 have kI: ∀a v,VR ι I w a v->VR ι I (w.setCells cb (o+len*sz) ly) a v:=fun a v hv=>hv.mono (fun _ _ h=>h) (fun _ _ h=>h)
  (fun k j hk=>W.cell k j (H.eP k j hk) (fun hr=>HS k j (hR k j hr) hk))
 have hyl:ys.flatten.length=ys.length*sz:=vf ys (fun r hr=>(Ry.qU r hr).1)
 have H3:=H1.DM (id:=id) (l:= .cells cb o room) (x:= .cells (cs++ys.flatten)) (fun l' dG=>by grind) (bJ aN W.size)
  ⟨by grind,fun v hv=>by
    rcases List.mem_append.1 hv with hv|hv
    ·grind
    ·obtain⟨r,hr,hv⟩:=List.mem_flatten.1 hv
     exact(Ry.qU r hr).2 v hv,fun j hj=>by
    obtain⟨c,cN,cI,qo⟩:=hcell j hj
    by_cases hjr:len*sz<=j/\j<len*sz+ly.length
    ·have:=World.cell?_setCells_in cb ly (o+len*sz) w (fun i hi=>by
      obtain⟨u',pO,_⟩:=hcell (len*sz+i) (by omega);grind) (j-len*sz) (by omega)
     rw[show o+len*sz+(j-len*sz)=o+j by omega] at this
     refine⟨_,this,by rw[W.frozen _ _ aN];exact cI,fun v hv=>?_⟩
     rw[Hn (by omega),ji] at hv
     obtain⟨c',e1,e2⟩:=Ry.lr.get hv
     grind
    ·refine⟨c,by rw[W.cell _ _ aN (fun hr=>hjr ⟨by omega,by omega⟩)];exact cN,by rw[W.frozen _ _ aN];exact cI,fun v hv=>?_⟩
     grind,fun n=>by rw[W.frozen _ _ aN];exact H.pl t0 cs cb o room hg ht n⟩
  (fun k j hl=>⟨uG k j hl,HS k j hl⟩)
 refine⟨_,_,_,_,dm,?_,H3,?_⟩
 ·have:=VR.rs (ι:=ι.set id (.cells cb o room)) (I:=I) (w:=w.setCells cb (o+len*sz) ly) id 0 (len+ys.length) sz cb o room cap (by rw[aO.jy]) ic (by omega)
  omega
 ·refine Ext.of W (fun k j _ hr=>⟨t0,_,_,ht,hg,hR k j hr⟩) (fun b hb=>aO.gT _ _ hb) (fun b l hb=>by rw[aO.gT _ _ (fun he=>by grind)];exact hb)
   (by simp[aa.at,aa.set];omega) (fun _ _ h=>h) ?_ (fun _ _ h=> .inl h) ?_
  ·rintro k j ⟨i,l,x,hi,fi,lY⟩
   by_cases lu:i=id
   ·subst lu;rw[aO.jy] at hi;cases hi;exact .inl ⟨t0,_,_,ht,hg,lY⟩
   ·rw[aO.gT _ _ lu] at hi
    have LP:(h.set t0 none).get i=some x:=by simpa [aa.at,lu] using fi
    exact .inl ⟨i,l,x,hi,(l6 LP).2,lY⟩
  ·intro i hi aEm
   have:i≠t0:=fun he=>by grind
   simp[aa.at,aa.set,hi,this]
def Wu (hr:z5 ι I w cb o cs) (h1: ∀v∈cs,v.one=true) (hl:off+len*sz<=cs.length):
 ∃l,Rd ι I w sz (rowsOf cs off sz len) (some ⟨cb,o+off,none⟩) l/\(rowsOf cs off sz len).length=len/\(rowsOf cs off sz len).flatten=(cs.drop off).take (len*sz):=by
 obtain⟨e1,e2,e3⟩:=EV cs sz len off hl
 obtain⟨l,ir,iq,CI⟩:=(hr.sub off (len*sz)).list
 refine⟨l,⟨fun r hr=>⟨(e2 r hr).1,fun v hv=>h1 v ((e2 r hr).2 v hv)⟩,by rw[e3];exact⟨ir,CI⟩,fun ad CN=>by cases CN;intro j u hu;rw[Addr.add_mid];exact iq j u hu,fun h=>by cases h⟩,e1,e3⟩
def HR.aNL (H:HR ι I h w) (hb:ι b=some (.cells cb o room)) (hg:h.get b=some (.cells cs)) (k):
 HR ι I (h.set b (some (.cells (cs.take k)))) w/\Ext (fun _=>False) ι I h w ι I (h.set b (some (.cells (cs.take k)))) w:=by
 have W:gR (fun _ _=>False) w w:={os:=rfl,tape:=rfl,output:=rfl,size:=ak _,block:=fun _ _ _=>rfl,cell:=fun _ _ _ _=>rfl,frozen:=fun _ _ _=>rfl}
 obtain⟨_,_,_,hl,ic,h1,hc⟩:=H.cells b cs _ hg hb
 cases hl
 refine H.turn W hb hg (fun _ _ h=>h.elim) (fun _=>⟨by simp;omega,fun v hv=>h1 v (uk hv),fun j hj=>?_,H.pl b cs cb o room hg hb⟩)
 grind
def set_set (h:aa) (b) (x y):(h.set b x).set b y=h.set b y:=by
 unfold aa.set
 grind
def aH5 (H:HR ι I h w) (id) {bytes:Nat} (T:Ap P t tx e sz bytes)
 (Ry:Rd ι I w sz ys b ly) (hb:ι b0=some (.cells cb o room)) (hg:h.get b0=some (.cells cs)) (hle:off+len*sz<=cs.length)
 (ic:len+ys.length<=cap) (bY:off+cap*sz<=room):
 ij P ι I h w id (.rk b0 off (len+ys.length) sz cap) (h.set b0 (some (.cells (ew cs (off+len*sz) ys.flatten)))) (Builtin.append_ #[t,tx] ty #[.slice (some ⟨cb,o+off,none⟩) len cap, .slice b ys.length eE]):=by
 obtain⟨ie,z,dN,hz,aZ,FF,yF⟩:=T.info
 have wC:=Ry.src (P:=P) T.AG eE
 rw[<-aZ] at wC
 have hmul:len*sz+ys.length*sz<=cap*sz:=by rw[<-vU];exact nu _ ic
 have UJ:=Ry.len
 obtain⟨ke,o',vZ,dG,Ht,aN2,hcell⟩:=H.cells b0 cs _ hg hb
 cases dG
 have dm:=run_append_room_src (P:=P) w t tx ty e ie T.ht dN cb (o+off) len cap (.slice b ys.length eE) ys.length ly wC ic
  (fun j hj=>by rw[aZ];obtain⟨u,hu,_⟩:=hcell (off+len*sz+j) (by omega);grind)
  (fun j hj=>by rw[aZ];obtain⟨u,_,hu,_⟩:=hcell (off+len*sz+j) (by omega);grind)
 rw[aZ] at dm
 have hyl:ys.flatten.length=ys.length*sz:=vf ys (fun r hr=>(Ry.qU r hr).1)
 obtain⟨H',E⟩:=H.OT (off:=off+len*sz) hb hg hle (by omega) Ry.lr (fun u hu=>by
  obtain⟨r,hr,hv⟩:=List.mem_flatten.1 hu
  exact(Ry.qU r hr).2 u hv)
 rw[show o+(off+len*sz)=o+off+len*sz by omega] at H' E
 exact⟨_,_,ι,I,dm, .rk b0 off _ sz cap cb o room hb ic bY,H',E.mono (fun _ h=>h.elim)⟩
def aGR (H:HR ι I h w) {id:Nat} (aM:ι id=none) {bytes:Nat} (T:Ap P t tx e sz bytes) (hx:VR ι I w x cx) (hy:VR ι I w y cy) (bV:ox.ev ρ=x) (lV:oy.ev ρ=y)
 (he:dL (.BC bytes sz ox oy) ρ id h=some (v,h')):ij P ι I h w id v h' (Builtin.append_ #[t,tx] ty #[cx,cy]):=by
 simp only[dL,bV,lV] at he
 cases wO:ef sz h y with
 |none=>grind
 |some ys=>
  simp only[wO] at he
  obtain⟨b,eE,ly,rfl,aEg,Ry⟩:=CY H hy wO
  obtain⟨ie,z,dN,hz,aZ,FF,yF⟩:=T.info
  have Rn:Rd ι I w sz [] none []:=⟨by simp,LR.nil,by simp,fun _=>rfl⟩
  have xk: ∀(a:Option Addr) (n cap:Nat),n<=cap->ys=[]->(Builtin.append_ #[t,tx] ty #[.slice a n cap, .slice b ys.length eE]).run P w= .ok (.slice a n cap) w:=by
   intro a n cap hle h0
   subst h0
   have hs:=Ry.src (P:=P) T.AG eE
   have:ly=[]:=by have:=Ry.len;simp_all
   subst this
   rw[<-aZ] at hs
   exact run_append_nothing w t tx ty e ie T.ht dN a n cap hle _ hs
  have rL: ∀(c:Value) (v:AV),VR ι I w v c->(Builtin.append_ #[t,tx] ty #[c, .slice b ys.length eE]).run P w= .ok c w->ij P ι I h w id v h (Builtin.append_ #[t,tx] ty #[c, .slice b ys.length eE]):=
   fun c v hv hr=>⟨c,w,ι,I,hr,hv,H,Ext.refl _ _ _ _ _⟩
  have kZ: ∀(a:Option Addr),Rd ι I w sz [] a []-> ¬ys=[]->ys.length*bytes<2^40/\ys.length<2^40->ij P ι I h w id (.rs id 0 ys.length sz) (h.at id (.cells ys.flatten)) (Builtin.append_ #[t,tx] ty #[.slice a 0 0, .slice b ys.length eE]):=by
   intro a Rx h0 hc
   have:=aib H aM T Rx Ry (cap:=0) (eE:=eE) (ty:=ty) (by have:=List.length_pos_iff.2 h0;simp;omega) (by grind) (by grind)
   grind
  cases hx<;>(try simp only[] at he)<;>try(cases he;done)
  case cJ=>
   split at he
   ·rename_i h0
    cases he
    exact rL _ _ .cJ (xk none 0 0 (ak _) h0)
   grind
  case jA t' ht=>
   rcases ht with rfl|rfl
   ·simp at he
   ·simp only[] at he
    split at he
    ·rename_i h0
     cases he
     exact rL _ _ (.jA _ (.inr rfl)) (xk none 0 0 (ak _) h0)
    grind
  case jq t' a cap ht=>
   rcases ht with rfl|⟨rfl,rfl⟩
   ·simp at he
   ·simp only[] at he
    split at he
    ·rename_i h0
     cases he
     exact rL _ _ (.jq _ _ _ (.inr ⟨rfl,rfl⟩)) (xk _ 0 0 (ak _) h0)
    ·rename_i h0
     split at he
     ·rename_i hc
      cases he
      exact kZ (some a) ⟨by simp,LR.nil,fun ad _ j u hu=>by simp at hu,fun _=>rfl⟩ h0 hc
     ·cases he
  case vs xs t' cb o s cap g hs hI hc d7 eg bY ht=>
   cases xs with
   |cons a b=>simp at he
   |nil=>
    cases t' with
    |au=>simp at he
    |own t0=>simp at he
    |full=>
     (try simp only[] at he)
     have aOc:cap=0:=ht
     subst aOc
     split at he
     ·rename_i h0
      cases he
      exact rL _ _ (.vs [] .full cb o s 0 g hs hI hc d7 eg bY ht) (xk _ 0 0 (ak _) h0)
     ·rename_i h0
      split at he
      ·rename_i jN
       cases he
       exact kZ (some ⟨cb,o,none⟩) ⟨by simp,LR.nil,fun ad _ j u hu=>by simp at hu,fun _=>rfl⟩ h0 jN
      ·cases he
  case rs b' off len aX cb o room cap cF hlen bY=>
   split at he
   ·rename_i h0
    cases he
    exact rL _ _ (.rs b' off len aX cb o room cap cF hlen bY) (xk _ len cap hlen h0)
   ·rename_i aT
    split at he
    ·rename_i cs hg
     split at he
     ·rename_i hc
      obtain⟨rfl,rfl,ji,gw,dB⟩:=hc
      cases he
      have dz:=xd hg
      obtain⟨cS,aUf,eg⟩:=H.row dz cF
      by_cases ic:len+ys.length<=cap
      ·obtain⟨H1,E1⟩:=H.aNL cF dz (len*aX)
       have du:(h.set b' (some (.cells (cs.take (len*aX))))).get b'=some (.cells (cs.take (len*aX))):=by simp[aa.set]
       obtain⟨c,w',ι',I',h1,h2,h3,h4⟩:=aFU H1 aM T Ry (ty:=ty) (eE:=eE) cF du (by grind) ic (by omega)
       rw[set_set] at h3 h4
       exact⟨c,w',ι',I',h1,h2,h3,(E1.mono (fun _ h=>h.elim)).trans h4 (fun _ h=>h)⟩
      ·obtain⟨H1,E1⟩:=H.drop cF
       obtain⟨l,Rx,e1,e2⟩:=Wu (off:=0) (sz:=aX) (len:=len) cS eg (by omega)
       have:=aib H1 aM T Rx Ry (cap:=cap) (eE:=eE) (ty:=ty) (by rw[e1];omega) (by grind) (by omega)
       rw[e1,B7,e2,sR] at this
       exact ij.ak2 H cF this aM
     ·cases he
    ·cases he
  case rk b' off len aX cap cb o room cF hlen bY=>
   split at he
   ·rename_i cs hg
    split at he
    ·rename_i hc
     obtain⟨rfl,ic,ji⟩:=hc
     cases he
     exact aH5 H id T Ry cF (xd hg) ji ic bY
    ·cases he
   ·cases he
theorem Wk: ∀(zs:List (List AV)) (n:Nat),(∀r∈zs,r.length=sz)->(zs.take n).flatten=zs.flatten.take (n*sz)
 |[],n,_=>by simp
 |z::zs,0,_=>by simp
 |z::zs,n+1,hz=>by
  have h0:=hz z (by simp)
  have e:(n+1)*sz=z.length+n*sz:=by grind
  have e2:z.take (z.length+n*sz)=z:=bX (by omega)
  rw[zS,mG,mG,Wk zs n (fun r hr=>hz r (eH _ hr)),e,List.take_append,e2]
  simp
def aKO (H:HR ι I h w) (ht:P.underlying t=some (.slice e)) (hs:(P.info? e).map (·.size)=some sz) (id) (hx:VR ι I w x cx) (hy:VR ι I w y cy) (bV:ox.ev ρ=x) (lV:oy.ev ρ=y)
 (he:dL (.copy sz ox oy) ρ id h=some (v,h')) (AG: ∃e',P.underlying tx=some (.slice e')) (hyl: ∃a n c,cy= .slice a n c):ij P ι I h w id v h' (Builtin.copy_ #[t,tx] ty #[cx,cy]):=by
 simp only[dL,bV,lV] at he
 have hzero: ∀a n c,(Builtin.copy_ #[t,tx] ty #[.slice a 0 n,c]).run P w= .ok (.int .i64 0) w\/ ¬(∃x y z,c= .slice x y z):=by
  intro a n c
  by_cases hc: ∃x y z,c= .slice x y z
  ·obtain⟨x,y,z,rfl⟩:=hc
   refine .inl ?_
   cases x<;>cases a<;>simp[Builtin.copy_,dC ht,rz hs,Builtin.lenOf,Builtin.firstCells,loadCells,loadCellsFrom,storeCells,goInt]
  ·exact .inr hc
 cases hx<;>(try simp only[] at he)<;>try(cases he;done)
 case cJ=>
  split at he<;>cases he
  rcases hzero none 0 cy with h|h
  ·exact⟨_,w,ι,I,h, .int _ _,H,Ext.refl _ _ _ _ _⟩
  grind
 case jA t' iZ=>
  split at he<;>cases he
  rcases hzero none 0 cy with h|h
  ·exact⟨_,w,ι,I,h, .int _ _,H,Ext.refl _ _ _ _ _⟩
  grind
 case jq t' a cap iZ=>
  split at he<;>cases he
  rcases hzero (some a) cap cy with h|h
  ·exact⟨_,w,ι,I,h, .int _ _,H,Ext.refl _ _ _ _ _⟩
  grind
 case vs xs t' cb o s cap g gu hI hc d7 eg bY iZ=>
  cases xs with
  |cons a b=>simp at he
  |nil=>
   simp only[] at he
   split at he<;>cases he
   rcases hzero (some ⟨cb,o,none⟩) cap cy with h|h
   ·exact⟨_,w,ι,I,h, .int _ _,H,Ext.refl _ _ _ _ _⟩
   grind
 case rs b off len aX cb o room cap hb hlen bY=>
  cases wO:ef sz h y with
  |none=>grind
  |some ys=>
   cases wX:cellsOf h b with
   |none=>grind
   |some cs=>
    simp only[wO,wX] at he
    split at he
    ·rename_i hc
     obtain⟨rfl,hle⟩:=hc
     cases he
     have hg:=xd wX
     obtain⟨a,eE,ly,rfl,aEg,Ry⟩:=CY H hy wO
     obtain⟨_,_,_,hl,ic,_,hcell⟩:=H.cells b cs _ hg hb
     cases hl
     have ez:(ys.take (min ys.length len)).flatten=ys.flatten.take (min ys.length len*aX):=by
      exact Wk ys _ (fun r hr=>(Ry.qU r hr).1)
     have eF:LR ι I w (ys.take (min ys.length len)).flatten (ly.take (min ys.length len*aX)):=by rw[ez];exact Ry.lr.take _
     have RV:(ly.take (min ys.length len*aX)).length=min ys.length len*aX:=by
      rw[jQ,Ry.len];simp_all
     have UG:min ys.length len*aX<=len*aX:=nu _ (Nat.min_le_right _ _)
     have eg: ∀u∈(ly.take (min ys.length len*aX)),u.oneCell'=true:=fun u hu=>Ry.one u (uk hu)
     have XA:(Builtin.firstCells aX (min ys.length len) (.slice a ys.length eE)).run P w= .ok (ly.take (min ys.length len*aX)).toArray w:=by
      cases a with
      |none=>
       have:=Ry.none rfl
       subst this
       have:ly=[]:=by have:=Ry.len;grind
       subst this
       simpa using run_firstCells_none (P:=P) w aX 0 0 eE
      |some ad=>
       have oe:=Ry.cell ad rfl
       refine run_firstCells_some w aX _ _ _ _ _ RV (fun j u hu=>?_)
       grind
     have fy:=run_storeCells_cells (P:=P) cb (o+off) (ly.take (min ys.length len*aX)) 0 w
      (fun j hj=>by simp only[qG];obtain⟨c,jN,_⟩:=hcell (off+j) (by omega);grind)
      (fun j hj=>by simp only[qG];obtain⟨c,_,jN,_⟩:=hcell (off+j) (by omega);grind) eg
     simp only[qG] at fy
     obtain⟨H',E⟩:=H.write (off:=off) hb hg (by grind) eF (fun u hu=>by
      obtain⟨r,hr,hv⟩:=List.mem_flatten.1 hu
      exact(Ry.qU r (uk hr)).2 u hv)
     refine⟨_,_,ι,I,?_, .int _ _,H',E.mono (fun _ h=>h.elim)⟩
     have afq:Nat.min ys.length len=min ys.length len:=rfl
     simp[Builtin.copy_,dC ht,rz hs,Builtin.lenOf,afq,XA,fy,goInt]
    ·cases he
end
end
section
open Go
section
variable {P:Program} {ι:aO} {I:bR} {h:aa} {w:World}
def aIE (H:HR ι I h w) {id:Nat} (aM:ι id=none) (t):ij P ι I h w id (.map (some id)) (h.at id (.map [])) (Instr.makeMap t none):=by
 have W:=gR.push w (.map #[] 0)
 have oO: ∀k j,fJ ι h k j->k<w.heap.size:=fun k j ⟨i,l,x,hi,_,hl⟩=>by rw[Loc.Ff hl];exact H.inside i l hi
 have H1:HR ι I h (w.alloc (.map #[] 0)):=H.Cv W (ak _) (fun _ _ h=>h) (fun _ _ _ _ _ _ _ _ h=>h) (fun _ _ h=>h.elim)
 have H3:=H1.DM (id:=id) (l:= .map w.heap.size) (x:= .map []) (fun l' dG=>by grind) (by simp[Loc.block])
  ⟨#[],0,heap_alloc_new w _,⟨rfl,fun i k v e h=>by simp at h⟩,⟨fun e he=>by simp at he,by simp⟩⟩
  (fun k j hl=>⟨fun ho=>by have:=oO k j ho;have:=(show k=w.heap.size from hl);omega,fun hI=>by have:=H.eP k j hI;have:=(show k=w.heap.size from hl);omega⟩)
 refine⟨.map (some w.heap.size),_,_,_,rfl, .map id w.heap.size (by rw[aO.jy]),H3,?_⟩
 refine Ext.of W (fun _ _ _ h=>h.elim) (fun b hb=>aO.gT _ _ hb) (fun b l hb=>by rw[aO.gT _ _ (fun he=>by grind)];exact hb) (by simp[aa.at];omega) (fun _ _ h=>h) ?_ (fun _ _ h=> .inl h) (fun b hb _=>by simp[aa.at,hb])
 rintro k j ⟨i,l,x,hi,fi,hl⟩
 by_cases lu:i=id
 ·subst lu;rw[aO.jy] at hi;cases hi;exact .inr (by have:=(show k=w.heap.size from hl);omega)
 ·rw[aO.gT _ _ lu] at hi
  exact .inl ⟨i,l,x,hi,by simpa [aa.at,lu] using fi,hl⟩
def gR.aMx (w) (hm:w.heap[cb]? =some (.map es clock)) (bE) (vF):
 gR (fun k _=>k=cb) w {w with heap:=w.heap.setIfInBounds cb (.map bE vF)}:=by
 have Xz: ∀k,k≠cb->(w.heap.setIfInBounds cb (.map bE vF))[k]? =w.heap[k]?:=fun k hk=>Array.getElem?_setIfInBounds_ne (Ne.symm hk)
 have aS:cb<w.heap.size:=(Array.getElem?_eq_some_iff.1 hm).1
 have awO:(w.heap.setIfInBounds cb (.map bE vF))[cb]? =some (.map bE vF):=by simp[aS]
 refine{os:=rfl,tape:=rfl,output:=rfl,size:=by simp,block:=fun k hk hr=>Xz k (fun he=>hr 0 he),cell:=fun k j hk hr=>?_,frozen:=fun k j hk=>?_}
 ·simp[World.cell?,Xz k hr]
 ·by_cases yL:k=cb
  ·subst yL;simp only[World.frozen?,awO,hm]
  ·simp[World.frozen?,Xz k yL]
def NA (w) (hm:w.heap[cb]? =some (.map es clock)) (o):
 (setObj cb o).run P w= .ok () {w with heap:=w.heap.setIfInBounds cb o}:=by
 simp[setObj,Sem.run,hm]
def Ou (H:HR ι I h w) (hb:ι b=some (.map cb)) (hg:h.get b=some (.map es)) (hm:w.heap[cb]? =some (.map bE clock))
 (vF) (kQ:ER ι I w fs gD.toList) (fy:sG gD vF):
 HR ι I (h.set b (some (.map fs))) {w with heap:=w.heap.setIfInBounds cb (.map gD vF)}/\
 Ext (fun _=>False) ι I h w ι I (h.set b (some (.map fs))) {w with heap:=w.heap.setIfInBounds cb (.map gD vF)}:=by
 have W:=gR.aMx w hm gD vF
 refine H.turn W hb hg (fun k j hk=>hk) (fun H1=>?_)
 have aS:cb<w.heap.size:=(Array.getElem?_eq_some_iff.1 hm).1
 have kI: ∀a c,VR ι I w a c->VR ι I {w with heap:=w.heap.setIfInBounds cb (.map gD vF)} a c:=fun a c qt=>qt.mono (fun _ _ h=>h) (fun _ _ h=>h) (fun k j hk=>
  W.cell k j (H.eP k j hk) (fun yL=>H.bZ b _ _ k j hb hg yL hk))
 exact⟨gD,vF,by simp[aS],⟨kQ.1,fun i k v e h1 h2=>⟨kI _ _ (kQ.2 i k v e h1 h2).1,kI _ _ (kQ.2 i k v e h1 h2).2⟩⟩,fy⟩
def sG.push (hs:sG es clock):sG (es.push {key:=k,val:=v,born:=clock}) (clock+1):=by
 refine⟨fun e he=>?_,?_⟩
 ·simp only[Array.toList_push,vW,List.mem_singleton] at he
  rcases he with he|rfl
  ·exact Nat.lt_succ_of_lt (hs.1 e he)
  grind
 ·simp only[Array.toList_push,jz,eG,sQ]
  refine List.nodup_append.2 ⟨hs.2,by simp,fun a ha b hb=>?_⟩
  simp only[List.mem_singleton] at hb
  obtain⟨e,he,rfl⟩:=List.mem_map.1 ha
  have:=hs.1 e he
  omega
theorem ahJ (hf: ∀e,(f e).born=e.born): ∀(l:List MapEntry) (j:Nat),(l.modify j f).map (·.born)=l.map (·.born)
 |[],j=>by simp
 |e::l,0=>by simp[hf]
 |e::l,j+1=>by simp[ahJ hf l j]
def sG.modify (hs:sG es clock) (hf: ∀e,(f e).born=e.born):sG (es.modify j f) clock:=by
 have hb:(es.modify j f).toList.map (·.born)=es.toList.map (·.born):=by rw[Array.toList_modify];exact ahJ hf _ _
 refine⟨fun e he=>?_,by rw[hb];exact hs.2⟩
 have:e.born∈(es.modify j f).toList.map (·.born):=List.mem_map.2 ⟨e,he,rfl⟩
 rw[hb] at this
 obtain⟨e',bP,h⟩:=List.mem_map.1 this
 rw[<-h];exact hs.1 e' bP
def sG.erase (hs:sG es clock):sG (es.eraseIdxIfInBounds j) clock:=by
 have ez:(es.eraseIdxIfInBounds j).toList.Sublist es.toList:=by rw[Array.toList_eraseIdxIfInBounds];grind
 exact⟨fun e he=>hs.1 e (ez.subset he),(ez.map _).nodup hs.2⟩
def aFs (w) (k) (n):(Instr.keyThatStays (.int k n) (.int k n)).run P w= .ok (.int k n) w:=by
 simp[Instr.keyThatStays,Instr.sameBits]
def aHi (H:HR ι I h w) (id) (hu:P.underlying t=some (.map key e)) (hk:P.underlying key=some (.int kk))
 (hm:VR ι I w m cm) (yK:VR ι I w k ck) (hv:VR ι I w v cv) (eC:om.ev ρ=m) (bO:ok.ev ρ=k) (qj:ov.ev ρ=v) (he:dL (.Db om ok ov) ρ id h=some (r,h')):
 r= .undef/\ ∃w',(Instr.mapUpdate t cm ck cv).run P w= .ok () w'/\HR ι I h' w'/\Ext (fun _=>False) ι I h w ι I h' w':=by
 simp only[dL,eC,bO,qj] at he
 replace hv:=hv.strip
 generalize v.strip=v at*
 cases hm<;>(try simp only[] at he)<;>try(cases he;done)
 rename_i b cb hb
 cases yK<;>(try simp only[] at he)<;>try(cases he;done)
 rename_i kd n
 split at he
 ·rename_i es hg
  obtain⟨bE,clock,mA,kQ,fy⟩:=H.map hg hb
  cases pP:zk (.int kd n) v es with
  |none=>grind
  |some fs=>
   simp[pP] at he
   obtain⟨rfl,rfl⟩:=he
   unfold zk at pP
   cases hf:rM (.int kd n) es 0 with
   |none=>grind
   |some o=>
    simp only[hf,iB,Option.some.injEq] at pP
    rcases Oi kk es bE.toList 0 o kQ hf with⟨rfl,mB⟩|⟨j,yP,rfl,afw,rT,mB⟩
    ·simp only[] at pP
     subst pP
     obtain⟨H',E⟩:=Ou H hb hg mA (fs:=es++[(.int kd n,v)]) (gD:=bE.push {key:= .int kd n,val:=cv,born:=clock}) (clock+1) (by
      refine⟨by simp[kQ.1],fun i k1 v1 e1 h1 h2=>?_⟩
      simp only[Array.toList_push] at h2
      rw[B8] at h1 h2
      rw[<-kQ.1] at h2
      split at h1
      ·rename_i aS;rw[ax aS] at h2;exact kQ.2 i k1 v1 e1 h1 h2
      ·rename_i aS
       rw[aj aS] at h2
       have h0:i-es.length=0:=by grind
       rw[h0] at h1 h2
       simp at h1 h2
       obtain⟨rfl,rfl⟩:=h1
       subst h2
       exact⟨.int _ _,hv⟩) fy.push
     refine⟨rfl,_,?_,H',E⟩
     simp[Instr.mapUpdate,dC hu,EY w mA,run_checkKey w hk,run_findKey w hk mB,NA w mA]
    ·simp only[rI] at pP mB
     subst pP
     have hj:j<bE.size:=by grind
     have awS:bE[j]? =some yP:=by grind
     obtain⟨H',E⟩:=Ou H hb hg mA (fs:=es.set j (.int kd n,v)) (gD:=bE.modify j fun e=>{e with key:= .int kd n,val:=cv}) clock (by
      refine⟨by simp[kQ.1],fun i k1 v1 e1 h1 h2=>?_⟩
      simp only[Array.getElem?_toList,Array.getElem?_modify] at h2
      rw[List.getElem?_set] at h1
      by_cases AX:j=i
      ·subst AX
       rw[ax rfl] at h1
       have iu:j<es.length:=by grind
       rw[ax iu] at h1
       rw[ax rfl] at h2
       simp at h1
       obtain⟨rfl,rfl⟩:=h1
       rw[awS] at h2
       simp at h2
       subst h2
       exact⟨.int _ _,hv⟩
      ·rw[aj AX] at h1 h2
       exact kQ.2 i k1 v1 e1 h1 (by simpa using h2)) (fy.modify (fun _=>rfl))
     refine⟨rfl,_,?_,H',E⟩
     simp[Instr.mapUpdate,dC hu,EY w mA,run_checkKey w hk,run_findKey w hk mB,awS,rT,aFs,NA w mA]
 ·cases he
def aHj (H:HR ι I h w) (id) (hu:P.underlying t=some (.map key e)) (hk:P.underlying key=some (.int kk))
 (hm:VR ι I w m cm) (yK:VR ι I w k ck) (eC:om.ev ρ=m) (bO:ok.ev ρ=k) (he:dL (.Fz om ok) ρ id h=some (r,h')):
 ij P ι I h w id r h' (Builtin.delete_ #[t,tx] ty #[cm,ck]):=by
 simp only[dL,eC,bO] at he
 cases hm<;>(try simp only[] at he)<;>try(cases he;done)
 rename_i b cb hb
 cases yK<;>(try simp only[] at he)<;>try(cases he;done)
 rename_i kd n
 split at he
 ·rename_i es hg
  obtain⟨bE,clock,mA,kQ,fy⟩:=H.map hg hb
  cases pP:zm (.int kd n) es with
  |none=>grind
  |some fs=>
   simp[pP] at he
   obtain⟨rfl,rfl⟩:=he
   unfold zm at pP
   cases hf:rM (.int kd n) es 0 with
   |none=>grind
   |some o=>
    simp only[hf,iB,Option.some.injEq] at pP
    have LN:VR ι I w (.aE []) (.tuple #[]):= .aE [] [] rfl (fun i v c h=>by simp at h)
    rcases Oi kk es bE.toList 0 o kQ hf with⟨rfl,mB⟩|⟨j,yP,rfl,afw,rT,mB⟩
    ·simp only[] at pP
     subst pP
     obtain⟨H',E⟩:=Ou H hb hg mA (fs:=es) (gD:=bE) clock kQ fy
     refine⟨_,_,ι,I,?_,E.vr H LN,H',E.mono (fun _ h=>h.elim)⟩
     simp[Builtin.delete_,dC hu,EY w mA,run_checkKey w hk,run_findKey w hk mB,NA w mA]
    ·simp only[rI] at pP mB
     subst pP
     obtain⟨H',E⟩:=Ou H hb hg mA (fs:=es.eraseIdx j) (gD:=bE.eraseIdxIfInBounds j) clock (by
      have hj:j<bE.size:=by grind
      have iu:j<es.length:=by rw[kQ.1];simpa using hj
      have hl:=kQ.1
      refine⟨by grind,fun i k1 v1 e1 h1 h2=>?_⟩
      rw[List.getElem?_eraseIdx] at h1
      simp only[Array.toList_eraseIdxIfInBounds,List.getElem?_eraseIdx] at h2
      split at h1
      ·rename_i aS;rw[ax aS] at h2;exact kQ.2 i k1 v1 e1 h1 h2
      ·rename_i aS;rw[aj aS] at h2;exact kQ.2 _ k1 v1 e1 h1 h2) fy.erase
     refine⟨_,_,ι,I,?_,E.vr H LN,H',E.mono (fun _ h=>h.elim)⟩
     simp[Builtin.delete_,dC hu,EY w mA,run_checkKey w hk,run_findKey w hk mB,NA w mA]
 ·cases he
end
end
section
open Go
section
variable {P:Program} {ι:aO} {I:bR} {h:aa} {w:World}
def aLP (H:HR ι I h w) (hu:P.underlying t=some (.slice e)) (hx:VR ι I w x c) (hn:Cu x=some n):
 fX P ι I h w (.int .i64 n) (Builtin.cap_ #[t] ty #[c]):=by
 have run: ∀a l k,(Builtin.cap_ #[t] ty #[.slice a l k]).run P w= .ok (.int .i64 k) w:=fun a l k=>by
  simp[Builtin.cap_,dC hu,goInt]
 unfold Cu at hn
 cases hx<;>(try simp only[] at hn)<;>try(cases hn;done)
 case cJ=>cases hn;exact .same H (run _ _ _) (.int _ _)
 case jA t' ht=>
  rcases ht with rfl|rfl
  ·cases hn
  ·cases hn;exact .same H (run _ _ _) (.int _ _)
 case jq t' a cap ht=>
  rcases ht with rfl|⟨rfl,rfl⟩
  ·cases hn
  ·cases hn;exact .same H (run _ _ _) (.int _ _)
 case vs xs t' cb o s cap g hs hI hc hv h1 bY ht=>
  cases t' with
  |au=>cases hn
  |own t=>cases hn
  |full=>
   cases hn
   have:cap=xs.length:=ht
   subst this
   exact .same H (run _ _ _) (.int _ _)
 case rk b off len sz cap cb o room hb hlen bY=>
  cases hn
  exact .same H (run _ _ _) (.int _ _)
def aHI (H:HR ι I h w) (hu:P.underlying t=some .string) (hx:VR ι I w x c) (hi:VR ι I w i ci) (hv:Bx x i=some v):
 fX P ι I h w v (Instr.index t c ci):=by
 unfold Bx at hv
 cases hx<;>(try simp only[] at hv)<;>try(cases hv;done)
 rename_i s
 cases hi<;>(try simp only[] at hv)<;>try(cases hv;done)
 rename_i k n
 split at hv
 ·rename_i h0
  cases hb:s[n.toNat]? with
  |none=>simp[hb] at hv
  |some b=>
   simp[hb] at hv
   subst hv
   refine .same H (c:= .int .u8 b.toNat) ?_ (.int _ _)
   simp[Instr.index,asIntOf,dC hu,h0,hb]
 ·cases hv
def aM2 (H:HR ι I h w) (hy:VR ι I w y cy) (hr:vY sz n h y=some ys) (hm:jV y=some m) (jZ:n<=m):
 ∃a cap l,cy= .slice a m cap/\ys.length=n/\(∀r∈ys,r.length=sz/\ ∀v∈r,v.one=true)/\LR ι I w ys.flatten l/\l.length=n*sz/\(Builtin.firstCells sz n (.slice a m cap)).run P w= .ok l.toArray w:=by
 unfold vY at hr
 have vsc: ∀xs t,y= .vs xs t-> ∃a cap l,cy= .slice a m cap/\ys.length=n/\(∀r∈ys,r.length=sz/\ ∀v∈r,v.one=true)/\LR ι I w ys.flatten l/\l.length=n*sz/\(Builtin.firstCells sz n (.slice a m cap)).run P w= .ok l.toArray w:=by
  rintro xs t rfl
  simp only[] at hr
  split at hr
  ·rename_i hk
   cases hr
   simp only[jV,Option.some.injEq] at hm
   subst hm
   obtain⟨a,cap,l,rfl,hle,R⟩:=CY H hy (show ef sz h (.vs xs t)=some xs by simp[ef,hk])
   have ez:(xs.take n).flatten=xs.flatten.take (n*sz):=Wk xs _ (fun r hr=>(R.qU r hr).1)
   have RV:(l.take (n*sz)).length=n*sz:=by rw[jQ,R.len];simp_all
   refine⟨a,cap,l.take (n*sz),rfl,by simp;omega,fun r hr=>R.qU r (uk hr),by rw[ez];exact R.lr.take _,RV,?_⟩
   cases a with
   |none=>
    have:=R.none rfl
    subst this
    have UK:l=[]:=by have:=R.len;grind
    subst UK
    have tJ:n=0:=by grind
    subst tJ
    simpa using run_firstCells_none (P:=P) w sz 0 0 cap
   |some ad=>
    refine run_firstCells_some w sz _ _ _ _ _ RV (fun j u hu=>?_)
    rw[List.getElem?_take] at hu
    split at hu
    ·exact R.cell ad rfl j u hu
    ·cases hu
  ·cases hr
 cases hy<;>(try simp only[] at hr)<;>try(cases hr;done)
 case vs xs t _ _ _ _ _ _ _ _ _ _ _ _=>grind
 case jA t _=>grind
 case jq t _ _ _=>grind
 case rk b off len aX cap cb o room hb hlen bY=>
  split at hr
  ·rename_i hc
   obtain⟨rfl,hn⟩:=hc
   cases hg:cellsOf h b with
   |none=>simp[hg] at hr
   |some cs=>
    simp only[hg] at hr
    split at hr
    ·rename_i hle
     cases hr
     simp only[jV,Option.some.injEq] at hm
     subst hm
     obtain⟨cS,_,eg⟩:=H.row (xd hg) hb
     obtain⟨l,R,e1,e2⟩:=Wu (len:=n) cS eg hle
     refine⟨_,cap,l,rfl,e1,R.qU,R.lr,by rw[R.len,e1],?_⟩
     exact run_firstCells_some w aX _ _ _ _ _ (by rw[R.len,e1]) (fun j u hu=>R.cell _ rfl j u hu)
    ·cases hr
  ·cases hr
def aJh (H:HR ι I h w) (ht:P.underlying t=some (.slice e)) (hs:(P.info? e).map (·.size)=some sz) (id) (hx:VR ι I w x cx) (hy:VR ι I w y cy) (bV:ox.ev ρ=x) (lV:oy.ev ρ=y)
 (he:dL (.zY sz ox oy) ρ id h=some (v,h')):ij P ι I h w id v h' (Builtin.copy_ #[t,tx] ty #[cx,cy]):=by
 simp only[dL,bV,lV] at he
 cases hx<;>(try simp only[] at he)<;>try(cases he;done)
 case rk b off len aX cap cb o room hb hlen bY=>
  cases hm:jV y with
  |none=>simp[hm] at he
  |some m=>
   simp only[hm] at he
   cases wO:vY sz (min m len) h y with
   |none=>grind
   |some ys=>
    cases wX:cellsOf h b with
    |none=>grind
    |some cs=>
     simp only[wO,wX] at he
     split at he
     ·rename_i hc
      obtain⟨rfl,hle⟩:=hc
      cases he
      have hg:=xd wX
      obtain⟨a,eE,l,rfl,hyl,aUH,eF,mW,XA⟩:=aM2 (P:=P) H hy wO hm (Nat.min_le_left _ _)
      obtain⟨_,_,_,hl,ic,_,hcell⟩:=H.cells b cs _ hg hb
      cases hl
      have UG:min m len*aX<=cap*aX:=nu _ (fm (Nat.min_le_right _ _) hlen)
      have eg: ∀u∈l,u.oneCell'=true:=by
       intro u hu
       obtain⟨i,hi,rfl⟩:=jm hu
       have av:i<ys.flatten.length:=by rw[eF.1];exact hi
       refine(eF.2 i _ _ (bn av) (bn hi)).one ?_
       obtain⟨r,hr,hv⟩:=List.mem_flatten.1 (bw av)
       grind
      have fy:=run_storeCells_cells (P:=P) cb (o+off) l 0 w
       (fun j hj=>by simp only[qG];obtain⟨c,jN,_⟩:=hcell (off+j) (by omega);grind)
       (fun j hj=>by simp only[qG];obtain⟨c,_,jN,_⟩:=hcell (off+j) (by omega);grind) eg
      simp only[qG] at fy
      obtain⟨H',E⟩:=H.OT (off:=off) hb hg hle (by rw[eF.1,mW];omega) eF (fun u hu=>by
       obtain⟨r,hr,hv⟩:=List.mem_flatten.1 hu
       grind)
      refine⟨_,_,ι,I,?_, .int _ _,H',E.mono (fun _ h=>h.elim)⟩
      have afq:Nat.min m len=min m len:=rfl
      simp[Builtin.copy_,dC ht,rz hs,Builtin.lenOf,afq,XA,fy,goInt]
     ·cases he
def aHW (H:HR ι I h w) (ht:P.underlying t=some (.slice e)) (dN:P.info? e=some ie) (hz:ie.zero=some z) (gq:LR ι I w za z.cells.toList) (h1: ∀v∈za,v.one=true) (h0:za.length≠0)
 (id) (hx:VR ι I w x cx) (bV:ox.ev ρ=x)
 (he:dL (.zp za ox) ρ id h=some (v,h')):ij P ι I h w id v h' (Builtin.clear_ #[t] ty #[cx]):=by
 have LN: ∀w:World,VR ι I w (.aE []) (.tuple #[]):=fun w=> .aE [] [] rfl (fun i v c h=>by simp at h)
 have zero: ∀a cap,(Builtin.clear_ #[t] ty #[.slice a 0 cap]).run P w= .ok (.tuple #[]) w:=fun a cap=>by
  cases a<;>simp[Builtin.clear_,dC ht]
 have aUp: ∀a cap,ij P ι I h w id (.aE []) h (Builtin.clear_ #[t] ty #[.slice a 0 cap]):=fun a cap=>⟨_,w,ι,I,zero a cap,LN w,H,Ext.refl _ _ _ _ _⟩
 simp only[dL,bV] at he
 cases hx<;>(try simp only[] at he)<;>try(cases he;done)
 case cJ=>grind
 case jA=>grind
 case jq=>grind
 case vs xs t' cb o s cap g hs hI hc d7 eg bY iZ=>
  grind
 case rk b off len aX cap cb o room hb hlen bY=>
  cases wX:cellsOf h b with
  |none=>grind
  |some cs=>
   simp only[wX] at he
   split at he
   ·rename_i hc
    obtain⟨rfl,hle⟩:=hc
    cases he
    have hg:=xd wX
    obtain⟨_,_,_,hl,ic,_,hcell⟩:=H.cells b cs _ hg hb
    cases hl
    have pL:=IC gq len (.inl h0)
    have aZ:za.length=z.cells.size:=by rw[gq.1];simp
    have da:(List.replicate len za).flatten.length=len*za.length:=by
     simp_all
    have hu1: ∀u∈(List.replicate len za).flatten,u.one=true:=fun u hu=>by
     obtain⟨r,hr,hv⟩:=List.mem_flatten.1 hu
     grind
    obtain⟨l,aEi⟩: ∃l,l=(madeCells z.cells (len*z.cells.size)).toList:=⟨_,rfl⟩
    rw[<-aEi] at pL
    have mW:l.length=len*za.length:=by rw[<-pL.1,da]
    have eg: ∀u∈l,u.oneCell'=true:=by
     intro u hu
     obtain⟨i,hi,rfl⟩:=jm hu
     have av:i<(List.replicate len za).flatten.length:=by omega
     exact(pL.2 i _ _ (bn av) (bn hi)).one (hu1 _ (bw av))
    have fy:=run_storeCells_cells (P:=P) cb (o+off) l 0 w
     (fun j hj=>by simp only[qG];obtain⟨c,jN,_⟩:=hcell (off+j) (by omega);grind)
     (fun j hj=>by simp only[qG];obtain⟨c,_,jN,_⟩:=hcell (off+j) (by omega);grind) eg
    simp only[qG] at fy
    obtain⟨H',E⟩:=H.OT (off:=off) hb hg (by omega) (by omega) pL hu1
    refine⟨_,_,ι,I,?_,LN _,H',E.mono (fun _ h=>h.elim)⟩
    cases len with
    |zero=>
     have:l=[]:=by grind
     subst this
     exact zero _ _
    |succ n=>
     have hzc:(Builtin.zeroCells z.cells (n+1)).toList=l:=aEi.symm
     simp[Builtin.clear_,dC ht,N7 dN hz,hzc,fy]
   ·cases he
def aLj (H:HR ι I h w) (ht:P.underlying t=some (.slice e)) (hs:(P.info? e).map (·.size)=some sz) (hx:VR ι I w x cx) (hy:VR ι I w y cy) (hv:Co sz h x y=some v):
 fX P ι I h w v (Extern.SlicesOverlaps.overlaps #[t,t2] #[rt] #[cx,cy]):=by
 unfold Co at hv
 cases hx<;>(try simp only[] at hv)<;>try(cases hv;done)
 case vs xs t' ca oa s afO g cS hI hc hvv h1 bY tI=>
  cases xs with
  |nil=>cases hv
  |cons r xs=>
   cases hy<;>(try simp only[] at hv)<;>try(cases hv;done)
   case rk b off len aX Tx cb ob room hb hlen aUy=>
    cases len with
    |zero=>cases hv
    |succ len=>
     simp only[] at hv
     cases hq:(r.length==sz&&aX==sz&&(cellsOf h b).isSome) with
     |false=>grind
     |true=>
      rw[hq] at hv
      cases hv
      simp only[fV,beq_iff_eq] at hq
      obtain⟨⟨jL,rfl⟩,ji⟩:=hq
      obtain⟨cs,ji⟩:=Option.isSome_iff_exists.1 ji
      have hg:=xd ji
      have AK:s=aX:=by rw[<-cS 0 r rfl];exact jL
      subst AK
      refine .same H (c:= .bool false) ?_ (.bool _)
      obtain⟨_,_,_,hl,ic,_,hcell⟩:=H.cells b cs _ hg hb
      cases hl
      have qY:=H.pl b cs cb ob room hg hb
      have e1:=fun w'=>dC ht w'
      have e2:=fun w'=>rz (P:=P) hs w'
      by_cases AK:s=0
      ·subst AK
       delta Extern.SlicesOverlaps.overlaps
       delta Extern.SlicesOverlaps.overlaps.match_4
       dsimp only[]
       rw[dif_pos (show(#[Value.slice (some ⟨ca,oa,none⟩) (r::xs).length afO,Value.slice (some ⟨cb,ob+off,none⟩) (len+1) Tx]:Array Value).size=2 from rfl)]
       delta Extern.SlicesOverlaps.overlaps._sparseCasesOn_4
       delta Array.getLit
       simp only[List.getElem_toArray,J4,List.getElem_cons_succ]
       simp[e1,e2]
      have hmul:(len+1)*s<=Tx*s:=nu _ hlen
      have lP:0<(len+1)*s:=Nat.mul_pos (by omega) (by omega)
      have aUu:0<(xs.length+1)*s:=Nat.mul_pos (by omega) (by omega)
      by_cases lZ:ca=cb
      ·subst lZ
       have D1: ∀j,oa<=j->j<oa+(xs.length+1)*s->ob+off<=j->j<ob+off+(len+1)*s->False:=fun j q1 q2 q3 q4=>by
        have hd:=(Nat.div_lt_iff_lt_mul (k:=s) (x:=j-oa) (y:=xs.length+1) (by omega)).2 (by omega)
        have A4:=hI ((j-oa)/s) ((j-oa)%s) (by simpa using hd) (Nat.mod_lt _ (by omega))
        rw[rJ,Nat.div_add_mod' (j-oa) s,show oa+(j-oa)=j by omega] at A4
        exact H.bZ b _ _ ca j hb hg rfl A4
       have key: ¬(oa<ob+off+(len+1)*s/\ob+off<oa+(xs.length+1)*s):=fun⟨q1,q2⟩=>
        D1 (max oa (ob+off)) (by omega) (by omega) (by omega) (by omega)
       delta Extern.SlicesOverlaps.overlaps
       delta Extern.SlicesOverlaps.overlaps.match_4
       dsimp only[]
       rw[dif_pos (show(#[Value.slice (some ⟨ca,oa,none⟩) (r::xs).length afO,Value.slice (some ⟨ca,ob+off,none⟩) (len+1) Tx]:Array Value).size=2 from rfl)]
       delta Extern.SlicesOverlaps.overlaps._sparseCasesOn_4
       delta Array.getLit
       simp only[List.getElem_toArray,J4,List.getElem_cons_succ]
       simp_all
      ·have ca0:w.cell? ⟨ca,oa,none⟩=some (g 0 0):=by grind
       obtain⟨cb0,aTt,-⟩:=hcell off (by omega)
       have shp: ∀(k o:Nat) (c:Value),w.cell? ⟨k,o,none⟩=some c-> ∃el n,w.shape? k=some (el,n+1):=fun k o c hk=>by
        unfold World.cell? at hk
        unfold World.shape?
        split at hk
        ·rename_i cells el fr hh
         simp at hk
         have:=(Array.getElem?_eq_some_iff.1 hk).1
         simp only[] at hh
         rw[hh]
         exact⟨el,cells.size-1,by simp;omega⟩
        ·cases hk
       obtain⟨ea,na,sa⟩:=shp _ _ _ ca0
       obtain⟨eb,nb,sb⟩:=shp _ _ _ aTt
       have hfb:w.frozen? ⟨cb,ob+off,none⟩=false:=qY _
       have mB:w.frozen? ⟨cb,nb+1,none⟩=false:=qY _
       delta Extern.SlicesOverlaps.overlaps
       delta Extern.SlicesOverlaps.overlaps.match_4
       dsimp only[]
       rw[dif_pos (show(#[Value.slice (some ⟨ca,oa,none⟩) (r::xs).length afO,Value.slice (some ⟨cb,ob+off,none⟩) (len+1) Tx]:Array Value).size=2 from rfl)]
       delta Extern.SlicesOverlaps.overlaps._sparseCasesOn_4
       delta Array.getLit
       simp only[List.getElem_toArray,J4,List.getElem_cons_succ]
       simp[e1,e2,AK,lZ,frozen,noView,viewAt,mayBeOne,stringish,shape,Sem.run,sa,sb,hfb,mB]
def aiJ (H:HR ι I h w) {id:Nat} (aM:ι id=none) (ht:P.underlying t=some (.slice e)) (wM:P.underlying tn=some (.int kn)) (dN:P.info? e=some ie) (hz:ie.zero=some z)
 (aZ:ie.size=z.cells.size) (gq:LR ι I w za z.cells.toList) (h1: ∀v∈za,v.one=true) (h0:za.length≠0)
 (Rx:Rd ι I w za.length xs a lx) (hm:0<m) (hg:cap<xs.length+m) (hb:(xs.length+m)*ie.bytes<2^40) (hn:xs.length+m<2^40):
 ij P ι I h w id (.rs id 0 (xs.length+m) za.length) (h.at id (.cells (xs++List.replicate m za).flatten)) (Builtin.append_ #[t,tn] ty #[.slice a xs.length cap, .int kq m]):=by
 have pL:za.length=z.cells.size:=by rw[gq.1];simp
 have hold:=akb (P:=P) Rx cap w.drew (fun _=>rfl)
 rw[pL,<-aZ] at hold
 have pG:=aky hg hb
 have hmb:m*ie.bytes<=(xs.length+m)*ie.bytes:=nu _ (by omega)
 have dm:=Go.Lib.run_append_grow_zeros (P:=P) (ty:=ty) w t tn e ie z kq kn ht wM dN hz a xs.length cap lx hold m hm (by omega) hg (by omega) (by omega) pG
 have HW:=grownCap_ge w (xs.length+m) cap e
 have hzm:=IC gq m (.inl h0)
 have hmc:madeCells z.cells (m*z.cells.size)=Builtin.zeroCells z.cells m:=rfl
 rw[hmc] at hzm
 generalize grownCap w (xs.length+m) cap e=c at*
 have GP:(lx.toArray++Builtin.zeroCells z.cells m++Builtin.zeroCells z.cells (c-(xs.length+m))).size=c*za.length:=by
  rw[Array.size_append,Array.size_append,size_zeroCells,size_zeroCells,<-pL]
  simp only[List.size_toArray,Rx.len]
  rw[<-vU,<-vU]
  congr 1;omega
 have eF:LR ι I w (xs++List.replicate m za).flatten (lx++(Builtin.zeroCells z.cells m).toList):=by
  rw[B7];exact Rx.lr.append hzm
 obtain⟨H',E⟩:=Jh H (w':=w.drew.alloc (.cells (lx.toArray++Builtin.zeroCells z.cells m++Builtin.zeroCells z.cells (c-(xs.length+m))) e)) rfl rfl rfl rfl aM (cs:=(xs++List.replicate m za).flatten)
  (fun v hv=>by
    obtain⟨r,hr,hv⟩:=List.mem_flatten.1 hv
    rcases List.mem_append.1 hr with hr|hr
    ·exact(Rx.qU r hr).2 v hv
    grind)
  (by
    have CD:(Builtin.zeroCells z.cells m).toList.length=m*za.length:=by rw[Array.length_toList,size_zeroCells,<-pL]
    rw[eF.1,GP,cw,Rx.len,CD,<-vU]
    exact nu _ HW)
  (fun j v u hv hu=>by
    have hj:=(List.getElem?_eq_some_iff.1 hv).1
    rw[eF.1] at hj
    refine eF.2 j v u hv ?_
    grind)
 refine⟨_,_,_,_,dm,?_,H',E⟩
 exact .rs id 0 _ za.length w.heap.size 0 _ c (aO.jy _ _ _) HW (by omega)
def aGQ (H:HR ι I h w) {id:Nat} (aM:ι id=none) (ht:P.underlying t=some (.slice e)) (wM:P.underlying tn=some (.int kn)) (dN:P.info? e=some ie) (hz:ie.zero=some z)
 (aZ:ie.size=z.cells.size) (gq:LR ι I w za z.cells.toList) (h1: ∀v∈za,v.one=true) (h0:za.length≠0) (hx:VR ι I w x cx) (hn:VR ι I w n cn) (bV:ox.ev ρ=x) (wT:on.ev ρ=n)
 (he:dL (.BB ie.bytes za ox on) ρ id h=some (v,h')):ij P ι I h w id v h' (Builtin.append_ #[t,tn] ty #[cx,cn]):=by
 simp only[dL,bV,wT] at he
 cases hn<;>(try simp only[] at he)<;>try(cases he;done)
 rename_i kq m
 split at he
 ·rename_i hm
  obtain⟨k,rfl⟩: ∃k:Nat,m=k:=⟨m.toNat,by omega⟩
  simp only[i9] at he
  cases hx<;>(try simp only[] at he)<;>try(cases he;done)
  case cJ=>
   split at he
   ·rename_i hb
    cases he
    have Rn:Rd ι I w za.length [] none []:=⟨by simp,LR.nil,by simp,fun _=>rfl⟩
    have:=aiJ (P:=P) (ty:=ty) (kq:=kq) (cap:=0) (m:=k) H aM ht wM dN hz aZ gq h1 h0 Rn (by omega) (by simp;omega) (by simpa using hb) (by simp;omega)
    grind
   ·cases he
  case rk b off len aX cap cb o room hb hlen bY=>
   split at he
   ·rename_i cs hg
    split at he
    ·rename_i hc
     obtain⟨rfl,du,hle,gw,dB⟩:=hc
     cases he
     obtain⟨cS,_,eg⟩:=H.row (xd hg) hb
     obtain⟨l,R,e1,e2⟩:=Wu (len:=len) cS eg hle
     have:=aiJ (P:=P) (ty:=ty) (kq:=kq) (cap:=cap) (m:=k) H aM ht wM dN hz aZ gq h1 h0 R (by omega) (by rw[e1];omega) (by grind) (by omega)
     grind
    ·cases he
   ·cases he
 ·cases he
end
end
section
open Go
section
variable {P:Program}
mutual
def AV.gE (b:Nat) (cs:List AV):AV->AV
 | .rs b' off len sz=>if b'=b then(if off+len*sz<=cs.length then .vs (rowsOf cs off sz len) .au else .undef) else .rs b' off len sz
 | .rk b' off len sz cap=>if b'=b then .undef else .rk b' off len sz cap
 | .agg xs=> .agg (AV.wE b cs xs)
 | .aE xs=> .aE (AV.wE b cs xs)
 |v=>v
def AV.wE (b:Nat) (cs:List AV):List AV->List AV
 |[]=>[]
 |x::xs=>AV.gE b cs x::AV.wE b cs xs
end
theorem IK: ∀{l:List AV},(AV.wE b cs l).length=l.length
 |[]=>rfl
 |x::xs=>by simp[AV.wE,IK (l:=xs)]
theorem IL: ∀{l:List AV} {i:Nat} {v:AV},(AV.wE b cs l)[i]? =some v-> ∃u,l[i]? =some u/\v=AV.gE b cs u
 |[],i,v,h=>by simp[AV.wE] at h
 |x::xs,i,v,h=>by
  cases i with
  |zero=>simp[AV.wE] at h;grind
  |succ i=>obtain⟨u,h1,h2⟩:=IL (l:=xs) (i:=i) (by simpa [AV.wE] using h);grind
section
variable {ι:aO} {I:bR} {h:aa} {w:World} {b cb o room:Nat} {cs:List AV}
def D4 (I:bR) (cb o n:Nat):bR:=fun k j=>I k j\/(k=cb/\o<=j/\j<o+n)
def VR.gE (H:HR ι I h w) (hg:h.get b=some (.cells cs)) (hb:ι b=some (.cells cb o room)) (hv:VR ι I w a v):VR ι (D4 I cb o room) w (AV.gE b cs a) v:=by
 obtain⟨cS,ic,eg⟩:=H.row hg hb
 have kI: ∀a v,VR ι I w a v->VR ι (D4 I cb o room) w a v:=fun a v h=>h.mono (fun _ _ h=>h) (fun _ _ h=> .inl h) (fun _ _ _=>rfl)
 induction hv with
 |rk b' off len sz cap ke o' vZ h1 h2 h3=>
  unfold AV.gE
  by_cases pR:b'=b
  ·rw[ax pR];exact .undef _
  ·rw[aj pR];exact .rk b' off len sz cap ke o' vZ h1 h2 h3
 |rs b' off len sz ke o' vZ cap h1 h2 h3=>
  unfold AV.gE
  by_cases pR:b'=b
  ·subst pR
   rw[hb] at h1;cases h1
   rw[ax rfl]
   split
   ·rename_i hle
    obtain⟨e1,e2,e3⟩:=EV cs sz len off hle
    rcases Gy len with h0|h0
    ·subst h0
     exact .jq _ _ _ (.inl rfl)
    rcases Gy sz with hz|hz
    ·subst hz
     have:=VR.vs (ι:=ι) (I:=D4 I cb o room) (w:=w) (rowsOf cs off 0 len) .au cb (o+off) 0 cap (fun _ _=>Go.undef) (fun i row hi=>(e2 row (iC hi)).1) (fun i j _ hj=>by omega) (fun i j _ hj=>by omega)
      (fun i row j v hi hj=>by
        grind)
      (fun row hr v hv=>by grind) (by omega) trivial
     grind
    have da: ∀i j,i<len->j<sz->off+i*sz+j<cs.length:=fun i j hi hj=>by
     have:i*sz+j<len*sz:=by
      have:=nu sz (show i+1<=len by omega)
      grind
     omega
    have hcell: ∀i j,i<len->j<sz-> ∃u,w.cell? ⟨cb,o+off+i*sz+j,none⟩=some u/\ ∀v,cs[off+i*sz+j]? =some v->VR ι I w v u:=fun i j hi hj=>by
     have aS:=da i j hi hj
     obtain⟨u,h5,h6⟩:=cS (off+i*sz+j) _ (bn aS)
     grind
    have bB: ∀(i j:Nat) (row:List AV) (v:AV),(rowsOf cs off sz len)[i]? =some row->row[j]? =some v->cs[off+i*sz+j]? =some v:=fun i j row v hi hj=>by
     have hr:=(e2 row (iC hi)).1
     have mZ:j<sz:=by grind
     have:=flat_get (rowsOf cs off sz len) (fun r hr=>(e2 r hr).1) i j row hi mZ
     grind
    have:=VR.vs (ι:=ι) (I:=D4 I cb o room) (w:=w) (rowsOf cs off sz len) .au cb (o+off) sz cap (fun i j=>(w.cell? ⟨cb,o+off+i*sz+j,none⟩).getD Go.undef)
     (fun i row hi=>(e2 row (iC hi)).1)
     (fun i j hi hj=> .inr ⟨rfl,by omega,by grind⟩)
     (fun i j hi hj=>by grind)
     (fun i row j v hi hj=>by
       grind)
     (fun row hr v hv=>eg v ((e2 row hr).2 v hv)) (by omega) trivial
    grind
   ·exact .undef _
  ·rw[aj pR]
   exact .rs b' off len sz ke o' vZ cap h1 h2 h3
 |agg xs As hl hv ih=>exact .agg _ _ (by rw[IK];exact hl) (fun i v c h1 h2=>by obtain⟨u,e1,rfl⟩:=IL h1;grind)
 |aE xs As hl hv ih=>exact .aE _ _ (by rw[IK];exact hl) (fun i v c h1 h2=>by obtain⟨u,e1,rfl⟩:=IL h1;grind)
 |vs xs t ke o' s cap g hs hI hc hv h1 bY ht ih=>exact kI _ _ (.vs xs t ke o' s cap g hs hI hc hv h1 bY ht)
 |jA t ht=>exact .jA t ht
 |jq t a cap ht=>exact .jq t a cap ht
 |undef v=>exact .undef v
 |int k n=>exact .int k n
 |bool b=>exact .bool b
 |eW k b=>exact .eW k b
 |fT k a b=>exact .fT k a b
 |str s=>exact .str s
 |nil=>exact .nil
 |ptr b off cb o room h=>exact .ptr b off cb o room h
 |vp xs off ke o' g hI hc hv h1 ih=>exact kI _ _ (.vp xs off ke o' g hI hc hv h1)
 |cJ=>exact .cJ
 |vz a cap=>exact .vz a cap
 |vB=>exact .vB
 |map b cb h=>exact .map b cb h
 |fn f fs cs gD b8 hf hc h1 h2 iX oT=>exact kI _ _ (.fn f fs cs gD b8 hf hc h1 h2)
 |qJ=>exact .qJ
 |jd v h=>exact .jd v h
end
def aiH (w:World) (a) (n) (c):(w.freeze a n).cell? c=w.cell? c:=by
 unfold World.freeze
 split
 ·rfl
 ·simp only[World.cell?,Array.getElem?_modify]
  grind
def D8.freeze (w) (cb n):D8 (fun k _=>k=cb) w (w.freeze ⟨cb,n,none⟩ 1):=by
 have hb: ∀k,k≠cb->(w.freeze ⟨cb,n,none⟩ 1).heap[k]? =w.heap[k]?:=fun k hk=>by
  unfold World.freeze
  grind
 refine{os:=rfl,tape:=rfl,output:=rfl,size:=by simp[World.freeze],block:=fun k _ hr=>hb k (hr 0),cell:=fun k j _ _=>aiH _ _ _ _,frozen:=fun k j _ hr=>?_}
 simp only[World.frozen?,hb k hr]
def aJ6 (H:HR ι I h w) (hu:P.underlying src=some (.slice e)) (he8:P.underlying e=some (.int .u8))
 (id) (hx:VR ι I w x cx) (bV:ox.ev ρ=x)
 (he:dL (.mark ox) ρ id h=some (v,h')):ij P ι I h w id v h' (convert src src cx):=by
 simp only[dL,bV] at he
 have hx0:=hx
 cases hx<;>(try simp only[] at he)<;>try(cases he;done)
 rename_i b off len sz cb o room cap hb hlen bY
 cases wX:cellsOf h b with
 |none=>grind
 |some cs=>
  simp only[wX] at he
  split at he
  ·rename_i hle
   cases he
   have hg:=xd wX
   have hv:=VR.gE H hg hb hx0
   have aTr:AV.gE b cs (.rs b off len sz)= .vs (rowsOf cs off sz len) .au:=by
    unfold AV.gE;grind
   rw[aTr] at hv
   have main: ∀w',D8 (fun k _=>k=cb) w w'->(∀c,w'.cell? c=w.cell? c)->(convert src src (.slice (some ⟨cb,o+off,none⟩) len cap)).run P w= .ok (.slice (some ⟨cb,o+off,none⟩) len cap) w'->
    ij P ι I h w id (.vs (rowsOf cs off sz len) .au) (h.set b none) (convert src src (.slice (some ⟨cb,o+off,none⟩) len cap)):=by
    intro w' W hcell dm
    have H1:HR ι I (h.set b none) w':=H.aDS W (ak _) (fun i y hi=>(l6 hi).2)
     (fun i l' y k j hi fi hl hr=>(H.eN i b l' (.cells cb o room) y _ k j (l6 fi).1 hi hb (l6 fi).2 hg hl hr).elim)
     (fun k j hr=>H.bZ b _ _ k j hb hg hr)
    have H2:=H1.WU (J:=fun k j=>k=cb/\o<=j/\j<o+room) (fun k j ⟨h1,h2,h3⟩=>⟨by rw[h1];exact bJ (H.inside b _ hb) W.size,fun⟨i,l',y,hi,fi,hl⟩=>
     H.eN i b l' (.cells cb o room) y _ k j (l6 fi).1 hi hb (l6 fi).2 hg hl h1⟩)
    refine⟨_,w',ι,D4 I cb o room,dm,hv.mono (fun _ _ h=>h) (fun _ _ h=>h) (fun k j _=>hcell _),H2,?_⟩
    refine Ext.of0 W (fun k j _ hr=>⟨b,_,_,hb,hg,hr⟩) (fun _ _=>rfl) (fun _ _ h=>h) (ak _) (fun _ _ h=> .inl h) ?_ ?_ ?_
    ·rintro k j ⟨i,l',y,hi,fi,hl⟩
     exact .inl ⟨i,l',y,hi,(l6 fi).2,hl⟩
    ·rintro k j (hk|⟨h1,_,_⟩)
     ·exact .inl hk
     ·exact .inr (.inl ⟨b,_,_,hb,hg,h1⟩)
    ·intro i _ hi
     have:i≠b:=fun he=>by grind
     simp[aa.set,this]
   cases hs:w.shape? cb with
   |none=>
    refine main w {os:=rfl,tape:=rfl,output:=rfl,size:=ak _,block:=fun _ _ _=>rfl,cell:=fun _ _ _ _=>rfl,frozen:=fun _ _ _ _=>rfl} (fun _=>rfl) ?_
    have HP:Sem.run P (Sem.shape cb Sem.pure) w= .ok (w.shape? cb) w:=rfl
    simp[convert,dC hu,dC he8,markStringish,shape,HP,hs,Result.andThen]
   |some q=>
    obtain⟨el,n⟩:=q
    refine main _ (D8.freeze w cb n) (fun _=>aiH _ _ _ _) ?_
    have HP:Sem.run P (Sem.shape cb Sem.pure) w= .ok (w.shape? cb) w:=rfl
    have ka:Sem.run P (Sem.freeze ⟨cb,n,none⟩ 1 (Sem.pure ())) w= .ok () (w.freeze ⟨cb,n,none⟩ 1):=rfl
    simp[convert,dC hu,dC he8,markStringish,shape,freeze,HP,hs,ka,Result.andThen]
  ·cases he
end
end
section
open Go
structure RO where
 dst:Option Nat
 guard:Option (Nat×Bool)
 op:iw
 deriving Inhabited
structure Mode where
 pr:Bool
 refs:List Nat
section
variable (P:Program) (md:Mode)
def bF (pr:Bool):Operand->Option aJ
 | .tmp t=>some (.tmp t)
 | .const v=>(Jj pr v).map .const
 | .func f=>some (.const (.fn f [] []))
 | .global _=>none
def rN (pr:Bool):List Operand->Option (List aJ)
 |[]=>some []
 |x::xs=>match bF pr x,rN pr xs with
  |some a,some l=>some (a::l)
  |_,_=>none
def Hz (pr:Bool):Option Operand->Option (Option aJ)
 |none=>some none
 |some x=>(bF pr x).map some
def td (t:TypeId):Option Nat:=(P.info? t).map (·.size)
def zeroOf (t:TypeId):Option (List AV):=
 match P.info? t with
 |some i=>match i.zero with
  |some z=>if i.size=z.cells.size then Bm md.pr z.cells.toList else none
  |none=>none
 |none=>none
def Jk (places:List (Nat×Nat)):List (Nat×Operand)->Option (List (Nat×Nat×aJ))
 |[]=>some []
 |(i,x)::ps=>match places[i]?,bF md.pr x,Jk places ps with
  |some (off,sz),some o,some l=>some ((off,sz,o)::l)
  |_,_,_=>none
def Kw:List (Nat×Operand)->Option (List (Nat×aJ))
 |[]=>some []
 |(i,x)::ps=>match bF md.pr x,Kw ps with
  |some o,some l=>some ((i,o)::l)
  |_,_=>none
def isRef (d:Option Nat):Bool:=match d with|some d=>md.refs.contains d|none=>false
def Wz:Operand->Option Value
 | .const v=>match v with
   | .pointer none=>some v
   | .slice none 0 0=>some v
   | .nilFunc=>some v
   | .map none=>some v
   |_=>none
 |_=>none
def RL:BinOp->Option Bool
 | .eql=>some false
 | .neq=>some true
 |_=>none
def afQ (op:BinOp) (t:TypeId) (x y:Operand):Option eh:=do
 let d <-P.underlying t
 let a <-bF md.pr x
 match Wz y with
 |some nv=>
  let kd <-IV d nv
  let neg <-RL op
  some (.GX kd neg a)
 |none=>
  let b <-bF md.pr y
  match d with
  | .bool=>some (.bin true op a b)
  | .int _| .float _| .complex _| .string=>some (.bin false op a b)
  | .struct fs=>
    let neg <-RL op
    let os <-Fe P fs.toList
    if P.stoodInHeld t=false/\P.eqGuardType P.depth t=false then some (.R5 neg os a b) else none
  |_=>none
def C2 (dst:Option Nat) (b:Builtin) (args:List Operand) (ts:List TypeId):Option iw:=
 match b,args,ts with
 | .len,[x],[t]=>do
   let a <-bF md.pr x
   match<-P.underlying t with
   | .slice _=>some (.p (.LA a))
   | .string=>some (.p (.OX a))
   | .array n _=>some (.p (.Tk n))
   |_=>none
 | .append,[x,y],[t,tx]=>do
   let a <-bF md.pr x
   let c <-bF md.pr y
   match<-P.underlying t,<-P.underlying tx with
   | .slice e, .slice e'=>
     let i <-P.info? e
     let z <-i.zero
     if e=e'/\z.cells.size=i.size/\i.size≠0 then
      some (.e (if isRef md dst then .BC i.bytes i.size a c else .append i.bytes i.size a c))
     else none
   |_,_=>none
 | .copy,[x,y],[t,tx]=>do
   let a <-bF md.pr x
   let c <-bF md.pr y
   match<-P.underlying t,<-P.underlying tx with
   | .slice e, .slice _=>some (.e (.copy (<-td P e) a c))
   |_,_=>none
 | .delete,[m,k],[t,_]=>do
   let a <-bF md.pr m
   let c <-bF md.pr k
   match<-P.underlying t with
   | .map key _=>
     match<-P.underlying key with
     | .int _=>some (.e (.Fz a c))
     |_=>none
   |_=>none
 | .min,x::rest,_=>do some (.p (.Fx false (<-bF md.pr x) (<-rN md.pr rest)))
 | .max,x::rest,_=>do some (.p (.Fx true (<-bF md.pr x) (<-rN md.pr rest)))
 | .real,[x],_=>do some (.p (.part false (<-bF md.pr x)))
 | .imag,[x],_=>do some (.p (.part true (<-bF md.pr x)))
 |_,_,_=>none
def dV (f:Nat):Bool:=
 match P.funcs[f]? with
 |some fn=>fn.name != "runtime.NumGoroutine" &&fn.body.isSome
 |none=>false
def yz (dst:Option Nat) (op:Op):Option iw:=
 match op with
 | .move x| .assign x=>do some (.p (.tB (<-bF md.pr x)))
 | .pick c a b=>do some (.p (.pick (<-bF md.pr c) (<-bF md.pr a) (<-bF md.pr b)))
 | .alloc e=>do some (.a (.alloc (<-zeroOf P md e)))
 | .box _ x=>do some (.a (.box (<-bF md.pr x)))
 | .build t parts=>do
   let z <-zeroOf P md t
   match<-P.underlying t with
   | .struct fs=>
     let places <-fs.toList.mapM (fun f=>(P.info? f.type).map fun i=>(f.offset,i.size))
     some (.p (.build z (<-Jk md places parts.toList)))
   |_=>none
 | .buildSlice t n parts=>do
   match<-P.underlying t with
   | .slice e=>
     let z <-zeroOf P md e
     let ps <-Kw md parts.toList
     if z.length≠0/\n*z.length<=2^24 then
      some (if isRef md dst then .a (.Ja n z ps) else .p (.Gg n z ps))
     else none
   |_=>none
 | .load t a=>do
   let d <-P.underlying t
   some (.p (.load d.isRow (<-td P t) (<-bF md.pr a)))
 | .store t a v=>do some (.e (.store (<-td P t) (<-bF md.pr a) (<-bF md.pr v)))
 | .nilCheck x=>do some (.p (.Jg (<-bF md.pr x)))
 | .binOp op t x y _=>do some (.p (<-afQ P md op t x y))
 | .unOp op _ x=>do some (.p (.un op (<-bF md.pr x)))
 | .convert src dst x=>do
   let a <-bF md.pr x
   match<-P.underlying src,<-P.underlying dst with
   |_, .int k=>some (.p (.toInt k a))
   | .slice e, .string=>
     match<-P.underlying e with
     | .int .u8=>some (.p (.xq a))
     |_=>none
   | .string, .slice e=>
     match<-P.underlying e with
     | .int .u8=>some (.p (.N6 a))
     |_=>none
   | .slice e, .slice _=>
     match<-P.underlying e with
     | .int .u8=>if src=dst then some (.e (.mark a)) else none
     |_=>none
   |_,_=>none
 | .makeFunc (.func f) first captured=>do some (.p (.Lx f (<-rN md.pr first.toList) (<-rN md.pr captured.toList)))
 | .makeMap _ none=>some (.a .RM)
 | .makeSlice t l c=>do
   match<-P.underlying t with
   | .slice e=>
     let z <-zeroOf P md e
     let i <-P.info? e
     if z.length≠0 then
      let a <-bF md.pr l
      let b <-bF md.pr c
      some (if isRef md dst then .a (.II z i.bytes a b) else .p (.OC z i.bytes a b))
     else none
   |_=>none
 | .slice t x lo hi mx=>do
   match<-P.underlying t with
   | .slice e=>some (.p (.nQ (<-td P e) (<-bF md.pr x) (<-Hz md.pr lo) (<-Hz md.pr hi) (<-Hz md.pr mx)))
   |_=>none
 | .fieldAddr s x f=>do
   match<-P.underlying s with
   | .struct fs=>
     let fd <-fs[f]?
     let sz <-td P fd.type
     if sz≠0 then some (.p (.GW fd.offset (<-bF md.pr x))) else none
   |_=>none
 | .field s x f=>do
   match<-P.underlying s with
   | .struct fs=>
     let fd <-fs[f]?
     let d <-P.underlying fd.type
     some (.p (.U8 d.isRow (<-td P fd.type) fd.offset (<-bF md.pr x)))
   |_=>none
 | .indexAddr t x i=>do
   match<-P.underlying t with
   | .slice e=>some (.p (.FD (<-td P e) (<-bF md.pr x) (<-bF md.pr i)))
   | .array n e=>some (.p (.OZ (<-td P e) n (<-bF md.pr x) (<-bF md.pr i)))
   |_=>none
 | .index t x i=>do
   match<-P.underlying t with
   | .array n e=>
     let d <-P.underlying e
     some (.p (.Tn d.isRow (<-td P e) n (<-bF md.pr x) (<-bF md.pr i)))
   |_=>none
 | .lookup t m k ok=>do
   match<-P.underlying t with
   | .map key e=>
     match<-P.underlying key with
     | .int _=>
       let i <-P.info? e
       let z <-i.zero
       some (.p (.lookup (<-Jj md.pr z) ok (<-bF md.pr m) (<-bF md.pr k)))
     |_=>none
   |_=>none
 | .mapUpdate t m k v=>do
   match<-P.underlying t with
   | .map key _=>
     match<-P.underlying key with
     | .int _=>some (.e (.Db (<-bF md.pr m) (<-bF md.pr k) (<-bF md.pr v)))
     |_=>none
   |_=>none
 | .extract x i=>do some (.p (.ext i (<-bF md.pr x)))
 | .call c=>do
   match c.callee with
   | .value (.func f)=>if dV P f then some (.call f (<-rN md.pr c.args.toList)) else none
   | .value x=>some (.dyn (<-bF md.pr x) (<-rN md.pr c.args.toList))
   | .builtin b=>C2 P md dst b c.args.toList c.argTypes.toList
   |_=>none
 |_=>none
def cK (dst:Option Nat) (b:Builtin) (args:List Operand) (ts:List TypeId):Option iw:=
 match b,args,ts with
 | .append,[x,y],[t,tx]=>do
   let a <-bF md.pr x
   let c <-bF md.pr y
   match<-P.underlying t,<-P.underlying tx with
   | .slice e, .int _=>
     let za <-zeroOf P md e
     let i <-P.info? e
     if za.length≠0 then some (.e (.BB i.bytes za a c)) else none
   |_,_=>none
 | .cap,[x],[t]=>do
   let a <-bF md.pr x
   match<-P.underlying t with
   | .slice _=>some (.p (.Hx a))
   |_=>none
 | .clear,[x],[t]=>do
   let a <-bF md.pr x
   match<-P.underlying t with
   | .slice e=>
     let za <-zeroOf P md e
     if za.length≠0 then some (.e (.zp za a)) else none
   |_=>none
 | .copy,[x,y],[t,_]=>
   if isRef md dst then do
    let a <-bF md.pr x
    let c <-bF md.pr y
    match<-P.underlying t with
    | .slice e=>some (.e (.zY (<-td P e) a c))
    |_=>none
   else none
 |_,_,_=>none
def ac1 (f:Nat):Option TypeId:=
 match P.funcs[f]? with
 |some fn=>
  match fn.params.toList,fn.resultTypes.toList with
  |[t,_],[_]=>if fn.name != "runtime.NumGoroutine" &&fn.body.isNone&&fn.origin== "slices.overlaps" &&(Extern.allGenericRows.lookup fn.name).isNone&&(Extern.allTypedRows.lookup fn.name).isNone&&(Extern.allRows.lookup fn.name).isNone&&(Extern.allNextRows.lookup fn.name).isNone then some t else none
  |_,_=>none
 |none=>none
def cX (dst:Option Nat) (op:Op):Option iw:=
 match op with
 | .index t x i=>do
   match<-P.underlying t with
   | .string=>some (.p (.OY (<-bF md.pr x) (<-bF md.pr i)))
   |_=>none
 | .range t x=>do
   match<-P.underlying t with
   | .map _ _=>some (.p (.Ue (<-bF md.pr x)))
   |_=>none
 | .next x s=>if s then none else(bF md.pr x).map fun x=> .p (.Mm x)
 | .entry x=>(bF md.pr x).map fun x=> .p (.yP x)
 | .call c=>
   match c.callee with
   | .value (.func f)=>
     match ac1 P f,c.args.toList with
     |some t,[x,y]=>do
      match<-P.underlying t with
      | .slice e=>some (.p (.wI (<-td P e) (<-bF md.pr x) (<-bF md.pr y)))
      |_=>none
     |_,_=>none
   | .builtin b=>cK P md dst b c.args.toList c.argTypes.toList
   |_=>none
 |_=>none
def yU (dst:Option Nat) (op:Op):Option iw:=
 match cX P md dst op with
 |some r=>some r
 |none=>match yz P md dst op with
  |some r=>some r
  |none=>some (.p .stuck)
end
inductive cO where
 |skip
 |cA (ops:List RO)
 |jG (ops:List RO) (un:List (List Nat))
 |seq (a b:cO)
 |Ag (a b:cO)
 |cond (c:aJ) (t e:cO)
 |block (id:Nat) (c:cO)
 |loop (c:cO)
 |exit (id:Nat)
 |scope (c:cO)
 |inScope (body cur:cO)
 |label (l:Nat)
 |goto (l:Nat)
 |ret
 deriving Inhabited
inductive mQ where
 |tmp (t:Nat)
 |cell (t:Nat) (ag:Bool) (sz:Nat)
 deriving Inhabited
structure jc where
 code:cO
 ntmps:Nat
 results:List mQ
 deriving Inhabited
end
section
open Go
def iw.dO:iw->Bool
 | .e _| .call _ _| .dyn _ _=>true
 |_=>false
def eh.reads:eh->Bool
 | .load _ _ _| .xq _| .lookup _ _ _ _| .wI _ _ _=>true
 |_=>false
def iw.reads:iw->Bool
 | .p o=>o.reads
 |_=>false
def jl:List Oper->List (List Nat)->List (List Nat)
 |[],acc=>acc
 |o::os,acc=>jl os (acc++[(o.after.toList.filter fun e=>Region.binds .any e).flatMap fun e=>e.on::acc.getD e.on []])
def aJ.slot:aJ->List Nat
 | .tmp t=>[t]
 | .const _=>[]
def Je:Option aJ->List aJ
 |some x=>[x]
 |none=>[]
def eh.fb:eh->List aJ
 | .tB x| .load _ _ x| .Jg x| .GX _ _ x| .un _ x| .toInt _ x| .xq x| .N6 x| .GW _ x| .U8 _ _ _ x| .ext _ x| .LA x| .OX x| .part _ x| .Hx x| .Ue x| .Mm x| .yP x=>[x]
 | .pick c a b=>[c,a,b]
 | .build _ ps=>ps.map fun p=>p.2.2
 | .Gg _ _ ps=>ps.map fun p=>p.2
 | .bin _ _ x y| .R5 _ _ x y| .FD _ x y| .OZ _ _ x y| .Tn _ _ _ x y| .lookup _ _ x y| .OC _ _ x y| .OY x y| .wI _ x y=>[x,y]
 | .nQ _ x lo hi mx=>x::(Je lo++Je hi++Je mx)
 | .Tk _| .stuck=>[]
 | .Lx _ a b=>a++b
 | .Fx _ x r=>x::r
def Bc.fb:Bc->List aJ
 | .box x=>[x]
 | .alloc _| .RM=>[]
 | .II _ _ x y=>[x,y]
 | .Ja _ _ ps=>ps.map fun p=>p.2
def rq.fb:rq->List aJ
 | .store _ x y| .append _ _ x y| .BC _ _ x y| .copy _ x y| .Fz x y| .BB _ _ x y| .zY _ x y=>[x,y]
 | .zp _ x| .mark x=>[x]
 | .Db x y z=>[x,y,z]
def iw.fb:iw->List aJ
 | .p o=>o.fb
 | .a o=>o.fb
 | .e o=>o.fb
 | .call _ as=>as
 | .dyn x as=>x::as
def RO.zT (o:RO):List Nat:=o.op.fb.flatMap aJ.slot++(match o.guard with|some (g,_)=>[g]|none=>[])
def pF (pl:List (List Nat)) (i j:Nat):Bool:=(pl.getD j []).contains i
def eh.vE:eh->Bool
 | .load _ _ (.const _)| .xq (.const _)| .lookup _ _ (.const _) _| .wI _ _ (.const _)=>false
 |_=>true
def iw.vE:iw->Bool
 | .p o=>o.vE
 |_=>true
def Ji (acc:List Nat):List Edge->Nat
 |[]=>0
 |e::es=>(2^e.on|||acc.getD e.on 0)|||Ji acc es
def xB:List Oper->List Nat->List Nat
 |[],acc=>acc
 |o::os,acc=>xB os (acc++[Ji acc (o.after.toList.filter fun e=>Region.binds .any e)])
def GI (az:List RO) (ms:List Nat):List ((RO×Nat)×Nat):=(az.zip ms).zipIdx
def Ml (ops:Array Oper) (az:List RO):Bool:=
 let ms:=xB ops.toList []
 let rs:=GI az ms
 (ms.length==az.length)&&
 (rs.all fun p=>rs.all fun q=>p.1.1.dst.isNone||p.1.1.dst !=q.1.1.dst||p.2==q.2)&&
 (ops.toList.zipIdx.all fun(o,i)=>o.after.toList.all fun e=>!Region.binds .any e||decide (e.on<i))&&
 (rs.all fun p=>p.1.1.zT.all fun t=>rs.all fun q=>p.2==q.2||q.1.1.dst !=some t||(if q.2<p.2 then p.1.2.testBit q.2 else q.1.2.testBit p.2))&&
 (rs.all fun p=>!p.1.1.op.dO||rs.all fun q=>!q.1.1.op.dO||!decide (q.2<p.2)||p.1.2.testBit q.2)&&
 (az.all fun o=>o.op.vE)
def D9 (ops:Array Oper) (az:List RO):List (List Nat):=
 let rs:=GI az (xB ops.toList [])
 rs.map fun p=>if p.1.1.op.reads||p.1.1.op.dO then
  (rs.filter fun q=>decide (q.2<p.2)&&((p.1.1.op.reads&&q.1.1.op.dO)||(p.1.1.op.dO&&q.1.1.op.reads))&&!p.1.2.testBit q.2).map (·.2) else []
def XI (ops:Array Oper):Option (Nat×Bool)->Option (Option (Nat×Bool))
 |none=>some none
 |some (j,Lq)=>((ops[j]?).bind (·.dst)).map fun d=>some (d,Lq)
def aw1 (n:Nat):Option Nat->Bool
 |some d=>decide (d<n)
 |none=>true
section
variable (P:Program) (md:Mode)
def A6 (n:Nat) (ops:Array Oper) (o:Oper):Option RO:=
 (yU P md o.dst o.op).bind fun op=>(XI ops o.guard).bind fun g=>if aw1 n o.dst then some {dst:=o.dst,guard:=g,op} else none
def yy (n:Nat) (ops:Array Oper):List Oper->Option (List RO)
 |[]=>some []
 |o::os=>match A6 P md n ops o,yy n ops os with
  |some a,some l=>some (a::l)
  |_,_=>none
def cO.Hp:cO->Bool
 | .cA az=>az.any fun o=>match o.op with| .p (.Ue _)=>true|_=>false
 |_=>false
def fq (n:Nat):Code->Option cO
 | .skip=>some .skip
 | .region _ ops false=>(yy P md n ops ops.toList).map .cA
 | .region _ ops true=>do
   let az <-yy P md n ops ops.toList
   if Ml ops az then some (.jG az (D9 ops az)) else none
 | .seq a b=>do
   let x <-fq n a
   let y <-fq n b
   some (if x.Hp then .Ag x y else .seq x y)
 | .cond c t e=>do some (.cond (<-bF md.pr c) (<-fq n t) (<-fq n e))
 | .block id c=>do some (.block id (<-fq n c))
 | .loop c=>do some (.loop (<-fq n c))
 | .exit id=>some (.exit id)
 | .scope c=>do some (.scope (<-fq n c))
 | .label l=>some (.label l)
 | .goto l=>some (.goto l)
 | .ret=>some .ret
 |_=>none
def afP:ResultVar->Option mQ
 | .tmp t=>some (.tmp t)
 | .cell t ty=>do
   let d <-P.underlying ty
   some (.cell t d.isRow (<-td P ty))
def Fl:List ResultVar->Option (List mQ)
 |[]=>some []
 |x::xs=>match afP P x,Fl xs with
  |some a,some l=>some (a::l)
  |_,_=>none
def yc (fn:Func):Option jc:=do
 let c <-fn.body
 let code <-fq P md fn.ntmps c
 let rs <-Fl P fn.results.toList
 some {code,ntmps:=fn.ntmps,results:=rs}
end
inductive cC where
 |normal
 |exit (id:Nat)
 |goto (l:Nat)
 |ret
 deriving DecidableEq,Inhabited
def put (ρ:Env) (d:Option Nat) (v:AV):Env:=
 match d with
 |some d=>fun i=>if i=d then v else ρ i
 |none=>ρ
def jw:cO->Nat->Option cO
 | .seq a b,l=>
   match jw a l with
   |some rest=>some (.seq rest b)
   |none=>jw b l
 | .Ag _ b,l=>jw b l
 | .label l',l=>if l'==l then some .skip else none
 |_,_=>none
end
section
open Go
section
variable {P:Program} {md:Mode} {ι:aO} {I:bR} {h:aa} {w:World}
structure AR (ι:aO) (I:bR) (w:World) (n:Nat) (ρ:Env) (a:Act):Prop where
 defers:a.defers=[]
 size:a.tmps.size=n
 get: ∀t,VR ι I w (ρ t) (a.tmps.getD t Go.undef)
def AR.mono (A:AR ι I w n ρ a) (hm: ∀x v,VR ι I w x v->VR ι' I' w' x v):AR ι' I' w' n ρ a:=
 ⟨A.defers,A.size,fun t=>hm _ _ (A.get t)⟩
def ajd (hc:Jj pr v=some x):VR ι I w x v:=by
 unfold Jj at hc
 split at hc
 ·rename_i cs
  cases hq:Bm pr cs.toList with
  |none=>simp[hq] at hc
  |some l=>
   simp[hq] at hc
   subst hc
   have:=xa (ι:=ι) (I:=I) (w:=w) hq
   have h2:=VR.agg (ι:=ι) (I:=I) (w:=w) l cs.toList this.1.1 this.1.2
   simpa using h2
 ·exact(aiF hc).1
def b9 (A:AR ι I w n ρ a) (hc:bF pr x=some o):OR ι I w ρ o (a.eval x):=by
 cases x with
 |tmp t=>simp[bF] at hc;subst hc;exact A.get t
 |const v=>
  simp only[bF] at hc
  cases hq:Jj pr v with
  |none=>simp[hq] at hc
  |some y=>simp[hq] at hc;subst hc;exact ajd hq
 |func f=>
  simp[bF] at hc;subst hc
  exact .fn f [] [] [] [] rfl rfl (fun i v c h=>by simp at h) (fun i v c h=>by simp at h)
 |global g=>simp[bF] at hc
theorem CX (A:AR ι I w n ρ a): ∀{xs:List Operand} {os:List aJ},rN pr xs=some os->LR ι I w (os.map (aJ.ev ρ)) (xs.map a.eval)
 |[],os,hc=>by simp[rN] at hc;subst hc;exact LR.nil
 |x::xs,os,hc=>by
  simp only[rN] at hc
  split at hc
  ·rename_i o l h1 h2
   cases hc
   exact LR.cons (b9 A h1) (CX A h2)
  ·cases hc
def WK (A:AR ι I w n ρ a) (hc:Hz pr x=some o):EO ι I w ρ o (x.map a.eval):=by
 cases x with
 |none=>simp[Hz] at hc;subst hc;trivial
 |some x=>
  simp only[Hz] at hc
  cases hq:bF pr x with
  |none=>simp[hq] at hc
  |some y=>simp[hq] at hc;subst hc;exact b9 A hq
def NP (P:Program) (ι:aO) (I:bR) (h:aa) (w:World) (v:AV) (s:Sem Next):Prop:=
 ∃c w' I',s.run P w= .ok (.value c) w'/\VR ι I' w' v c/\HR ι I' h w'/\Ext (fun _=>False) ι I h w ι I' h w'
def fX.next (hs:fX P ι I h w v s):NP P ι I h w v (do pure (.value (<-s))):=by
 obtain⟨c,w',I',hr,hv,H,E⟩:=hs
 exact⟨c,w',I',by simp[hr],hv,H,E⟩
def NE (P:Program) (ι:aO) (I:bR) (h:aa) (w:World) (id:Nat) (v:AV) (h':aa) (s:Sem Next):Prop:=
 ∃x c w' ι' I',s.run P w= .ok x w'/\(x= .value c\/(x= .skip/\v= .undef))/\VR ι' I' w' v c/\HR ι' I' h' w'/\Ext (· =id) ι I h w ι' I' h' w'
def ij.next {id:Nat} (hs:ij P ι I h w id v h' s):NE P ι I h w id v h' (do pure (.value (<-s))):=by
 obtain⟨c,w',ι',I',hr,hv,H,E⟩:=hs
 exact⟨_,c,w',ι',I',by simp[hr], .inl rfl,hv,H,E⟩
def Bd (hz:zeroOf P md t=some za): ∃i z,P.info? t=some i/\i.zero=some z/\i.size=z.cells.size/\Bm md.pr z.cells.toList=some za:=by
 unfold zeroOf at hz
 grind
theorem aje (A:AR ι I w n ρ a): ∀{ps:List (Nat×Operand)} {l:List (Nat×Nat×aJ)},Jk md places ps=some l->
 l.length=ps.length/\ ∀(i off sz j:Nat) (x:aJ) (c:Value),l[i]? =some (off,sz,x)->(ps.map fun p=>(p.1,a.eval p.2))[i]? =some (j,c)->places[j]? =some (off,sz)/\OR ι I w ρ x c
 |[],l,hc=>by simp[Jk] at hc;grind
 |(k,y)::ps,l,hc=>by
  simp only[Jk] at hc
  split at hc
  ·rename_i off sz o l' h1 h2 h3
   cases hc
   obtain⟨e1,e2⟩:=aje A h3
   refine⟨by simp[e1],fun i aUC aX j x c hi hj=>?_⟩
   cases i with
   |zero=>
    simp at hi hj
    obtain⟨rfl,rfl,rfl⟩:=hi
    obtain⟨rfl,rfl⟩:=hj
    exact⟨h1,b9 A h2⟩
   |succ i=>grind
  ·cases hc
theorem Wo (A:AR ι I w n ρ a): ∀{ps:List (Nat×Operand)} {l:List (Nat×aJ)},Kw md ps=some l->
 l.length=ps.length/\ ∀(i j k:Nat) (x:aJ) (c:Value),l[i]? =some (j,x)->(ps.map fun p=>(p.1,a.eval p.2))[i]? =some (k,c)->j=k/\OR ι I w ρ x c
 |[],l,hc=>by simp[Kw] at hc;grind
 |(m,y)::ps,l,hc=>by
  simp only[Kw] at hc
  split at hc
  ·rename_i o l' h1 h2
   cases hc
   obtain⟨e1,e2⟩:=Wo A h2
   refine⟨by simp[e1],fun i j k x c hi hj=>?_⟩
   cases i with
   |zero=>
    simp at hi hj
    obtain⟨rfl,rfl⟩:=hi
    obtain⟨rfl,rfl⟩:=hj
    exact⟨rfl,b9 A h1⟩
   |succ i=>grind
  ·cases hc
def aFe (h:Wz y=some nv):y= .const nv:=by
 unfold Wz at h
 grind
def aiC (op) (t) (x y) (a b) (w) (hb:b≠ .nilIface/\ ∀cs,b≠ .agg cs):(eqGuard op t x y a b).run P w= .ok () w:=by
 cases op<;>first
  |rfl
  |(cases a<;>cases b<;>first|rfl|grind|grind)
def aKT (H:HR ι I h w) (A:AR ι I w n ρ a) (hc:afQ P md op t x y=some q) (hv:bt q ρ h=some v):
 NP P ι I h w v (do pure (.value (<-(do eqGuard op t x y (a.eval x) (a.eval y);binOp op t (a.eval x) (a.eval y))))):=by
 simp only[afQ,p3,bd] at hc
 obtain⟨d,hd,o,ho,hc⟩:=hc
 have Ej:=b9 A ho
 have fin: ∀{s:Sem Value},fX P ι I h w v s->(eqGuard op t x y (a.eval x) (a.eval y)).run P w= .ok () w->s=binOp op t (a.eval x) (a.eval y)->
  NP P ι I h w v (do pure (.value (<-(do eqGuard op t x y (a.eval x) (a.eval y);binOp op t (a.eval x) (a.eval y))))):=by
  intro s hs hg he
  obtain⟨c,w',I',hr,d7,H',E⟩:=hs
  rw[he] at hr
  exact⟨c,w',I',by simp[hg,hr],d7,H',E⟩
 split at hc
 ·rename_i nv hnv
  simp only[bd] at hc
  obtain⟨kd,UM,neg,afo,hc⟩:=hc
  cases hc
  have hy:=aFe hnv
  subst hy
  have eB:op=(if neg then .neq else .eql):=by
   unfold RL at afo
   grind
  have Cq:nv≠ .nilIface/\ ∀cs,nv≠ .agg cs:=by
   unfold IV at UM
   grind
  refine fin (aJc (P:=P) H hd UM neg Ej hv) (aiC op t x (.const nv) (a.eval x) nv w Cq) ?_
  rw[eB];rfl
 ·rename_i hnv
  simp only[bd] at hc
  obtain⟨o2,AM,hc⟩:=hc
  have Eh:=b9 A AM
  have plain: ∀tb,(tb=true->P.underlying t=some .bool)->q= .bin tb op o o2->NP P ι I h w v (do pure (.value (<-(do eqGuard op t x y (a.eval x) (a.eval y);binOp op t (a.eval x) (a.eval y))))):=by
   intro tb MC hq
   subst hq
   simp only[bt] at hv
   refine fin (aMh (P:=P) H Ej Eh hv t MC) (aiC op t x y _ _ w ?_) rfl
   have:(o2.ev ρ)≠ .undef/\(∀cs,o2.ev ρ≠ .agg cs)/\(o2.ev ρ)≠ .jd:=by
    refine⟨?_,?_,?_⟩
    ·intro he;rw[he] at hv;cases eV:o.ev ρ<;>simp[bH,eV] at hv
    ·intro cs he;rw[he] at hv;cases eV:o.ev ρ<;>simp[bH,eV] at hv
    ·intro he;rw[he] at hv;cases eV:o.ev ρ<;>simp[bH,eV] at hv
   have Ei:VR ι I w (o2.ev ρ) (a.eval y):=Eh
   generalize o2.ev ρ=z at this Ei
   generalize a.eval y=c at Ei
   cases Ei<;>first|grind|grind|grind|grind
  split at hc
  ·grind
  ·grind
  ·grind
  ·grind
  ·grind
  ·rename_i fs
   simp only[bd] at hc
   obtain⟨neg,afo,os,qk,hc⟩:=hc
   split at hc
   ·rename_i fy
    cases hc
    have eB:op=(if neg then .neq else .eql):=by
     unfold RL at afo
     grind
    simp only[bt] at hv
    have hs:=aJd (P:=P) H hd fy.1 qk neg Ej Eh hv
    refine fin hs ?_ (by rw[eB])
    have aMZ: ∃cs b8,a.eval x= .agg cs/\a.eval y= .agg b8:=by
     have qX:VR ι I w (o.ev ρ) (a.eval x):=Ej
     have Ei:VR ι I w (o2.ev ρ) (a.eval y):=Eh
     unfold zn at hv
     split at hv
     ·rename_i xs ys e1 e2
      rw[e1] at qX
      rw[e2] at Ei
      generalize a.eval x=c1 at qX
      generalize a.eval y=c2 at Ei
      cases qX;cases Ei
      grind
     ·cases hv
    obtain⟨cs,b8,e1,e2⟩:=aMZ
    rw[e1,e2]
    unfold eqGuard
    simp_all
   ·cases hc
  ·cases hc
end
end
section
open Go
section
variable {P:Program} {md:Mode} {ι:aO} {I:bR} {h:aa} {w:World}
def aH0 (H:HR ι I h w) (A:AR ι I w n ρ a) {args:Array Operand}
 (hc:C2 P md dst b args.toList ts.toList=some (.p q)) (hv:bt q ρ h=some v) (cs):NP P ι I h w v (builtin b ts ty cs (args.map a.eval)):=by
 obtain⟨args⟩:=args
 obtain⟨ts⟩:=ts
 simp only[List.map_toArray] at*
 unfold C2 at hc
 split at hc
 ·rename_i x t
  simp only[bN] at hc
  obtain⟨o,ho,d,hd,hc⟩:=hc
  have Ej:=b9 A ho
  split at hc
  ·cases hc;simp only[bt] at hv;exact(aKd (P:=P) H #[t] ty rfl hd Ej hv).next
  ·cases hc;simp only[bt] at hv;exact(aHq (P:=P) H #[t] ty rfl hd Ej hv).next
  ·cases hc
   simp only[bt] at hv
   cases hv
   exact(fX.same (P:=P) H (c:= .int .i64 _) (by simp[Builtin.len_,dC hd,goInt]) (.int _ _)).next
  ·cases hc
 ·simp only[bN] at hc
  obtain⟨o,ho,o2,AM,d,hd,d2,sg,hc⟩:=hc
  split at hc
  ·simp only[bd] at hc
   grind
  ·cases hc
 ·simp only[bN] at hc
  obtain⟨o,ho,o2,AM,d,hd,d2,sg,hc⟩:=hc
  split at hc
  ·simp only[bd] at hc
   grind
  ·cases hc
 ·simp only[bN] at hc
  obtain⟨o,ho,o2,AM,d,hd,hc⟩:=hc
  split at hc
  ·simp only[bd] at hc
   grind
  ·cases hc
 ·rename_i x rest
  simp only[bN] at hc
  obtain⟨o,ho,os,qk,hc⟩:=hc
  cases hc
  have hl:=CX A qk
  obtain⟨c,hr,ju⟩:=VI (P:=P) os (rest.map a.eval) _ _ _ (by have:=hl.1;grind) (fun i y c h1 h2=>hl.2 i _ c (by grind) h2) (b9 A ho) hv
  exact(fX.same (P:=P) (s:=Builtin.min_ _ ty _) H (by simp only[Builtin.min_,eG];exact hr) ju).next
 ·rename_i x rest
  simp only[bN] at hc
  obtain⟨o,ho,os,qk,hc⟩:=hc
  cases hc
  have hl:=CX A qk
  obtain⟨c,hr,ju⟩:=VI (P:=P) os (rest.map a.eval) _ _ _ (by have:=hl.1;grind) (fun i y c h1 h2=>hl.2 i _ c (by grind) h2) (b9 A ho) hv
  exact(fX.same (P:=P) (s:=Builtin.max_ _ ty _) H (by simp only[Builtin.max_,eG];exact hr) ju).next
 ·rename_i x
  simp only[bN] at hc
  obtain⟨o,ho,hc⟩:=hc
  cases hc
  exact(akc (P:=P) H (im:=false) (b9 A ho) ⟨ts⟩ ty hv).next
 ·rename_i x
  simp only[bN] at hc
  obtain⟨o,ho,hc⟩:=hc
  cases hc
  exact(akc (P:=P) H (im:=true) (b9 A ho) ⟨ts⟩ ty hv).next
 ·cases hc
def aNi (H:HR ι I h w) (A:AR ι I w n ρ a) (hc:yz P md o.dst o.op=some (.p q)) (hv:bt q ρ h=some v):
 NP P ι I h w v (execOp a.eval o):=by
 obtain⟨dst,op,ty,pos,after,guard⟩:=o
 simp only at hc
 unfold yz at hc
 split at hc
 case h_1 x=>
  simp only[bN] at hc
  obtain⟨o,ho,hc⟩:=hc
  cases hc;cases hv
  exact⟨_,w,I,rfl,b9 A ho,H, .refl _ _ _ _ _⟩
 case h_2 x=>
  simp only[bN] at hc
  obtain⟨o,ho,hc⟩:=hc
  cases hc;cases hv
  exact⟨_,w,I,rfl,b9 A ho,H, .refl _ _ _ _ _⟩
 case h_3 c x y=>
  simp only[bN] at hc
  obtain⟨oc,MF,ox,bV,oy,lV,hc⟩:=hc
  cases hc
  simp only[bt] at hv
  have ju:VR ι I w (oc.ev ρ) (a.eval c):=b9 A MF
  unfold RG at hv
  split at hv
  ·rename_i t ht
   rw[ht] at ju
   cases hv
   generalize hec:a.eval c=cc at ju
   cases ju
   refine⟨if t then a.eval x else a.eval y,w,I,?_,?_,H, .refl _ _ _ _ _⟩
   ·simp[execOp,hec,asBool]
   ·cases t
    ·exact b9 A lV
    ·exact b9 A bV
  ·cases hv
 case h_4 e=>simp only[bN] at hc;grind
 case h_5 e x=>simp only[bN] at hc;grind
 case h_6 t parts=>
  simp only[bN] at hc
  obtain⟨za,gq,d,hd,hc⟩:=hc
  split at hc
  ·rename_i fs
   simp only[bd] at hc
   obtain⟨places,hp,ps,wS,hc⟩:=hc
   cases hc
   simp only[bt] at hv
   cases hf:pA ρ za ps with
   |none=>simp[hf] at hv
   |some r=>
    simp[hf] at hv
    subst hv
    obtain⟨i,z,hi,hz,aZ,d9⟩:=Bd gq
    obtain⟨e1,e2⟩:=aje A wS
    refine(aJj (P:=P) H (t:=t) (z:=z) (za:=za) (ps:=ps) (fw:=parts.map fun(p:Nat×Operand)=>(p.1,a.eval p.2)) (place:=(places.toArray[·]?)) ?_ (xa d9).1 (by simpa using e1) ?_ hf).next
    ·intro cells sE
     unfold Program.built
     grind
    grind
  ·cases hc
 case h_7 t n parts=>
  simp only[bN] at hc
  obtain⟨d,hd,hc⟩:=hc
  split at hc
  ·rename_i e
   simp only[bd] at hc
   obtain⟨za,gq,ps,wS,hc⟩:=hc
   split at hc
   ·rename_i jC
    split at hc
    ·cases hc
    ·cases hc
     simp only[bt] at hv
     cases hf:lK ρ za.length (List.replicate n za) ps with
     |none=>simp[hf] at hv
     |some rows=>
      simp[hf] at hv
      subst hv
      obtain⟨i,z,hi,hz,aZ,d9⟩:=Bd gq
      obtain⟨e1,e2⟩:=Wo A wS
      have eF:=xa (ι:=ι) (I:=I) (w:=w) d9
      have pL:za.length=i.size:=by rw[aZ,eF.1.1];simp
      exact(aH2 (P:=P) H hd hi hz aZ (by grind) eF.1 eF.2 jC.1 (fw:=parts.map fun(p:Nat×Operand)=>(p.1,a.eval p.2)) (by simpa using e1)
       (fun i' j k x c h1 h2=>e2 i' j k x c h1 (by simpa using h2)) hf).next
   ·cases hc
  ·cases hc
 case h_8 t x=>
  simp only[bN] at hc
  obtain⟨d,hd,sz,aZ,ox,bV,hc⟩:=hc
  cases hc
  exact(aKa (P:=P) H hd aZ (b9 A bV) hv).next
 case h_9 t x y=>simp only[bN] at hc;grind
 case h_10 x=>
  simp only[bN] at hc
  obtain⟨ox,bV,hc⟩:=hc
  cases hc
  obtain⟨h1,h2,h3,h4,h5⟩:=aHf H (b9 A bV) hv
  refine⟨a.eval x,w,I,?_,h5,H, .refl _ _ _ _ _⟩
  simp only[execOp]
  simp_all
 case h_11 op t x y _=>
  simp only[bN] at hc
  obtain⟨q',js,hc⟩:=hc
  cases hc
  exact aKT H A js hv
 case h_12 op _ x=>
  simp only[bN] at hc
  obtain⟨ox,bV,hc⟩:=hc
  cases hc
  exact(aMj (P:=P) H (b9 A bV) hv).next
 case h_13 src afK x=>
  simp only[bN] at hc
  obtain⟨ox,bV,ds,CK,dd,uU,hc⟩:=hc
  split at hc
  ·cases hc
   exact(aIi (P:=P) H CK uU (b9 A bV) hv).next
  ·simp only[bd] at hc
   obtain⟨de,HZ,hc⟩:=hc
   split at hc
   ·cases hc;exact(aFT (P:=P) H CK HZ uU (b9 A bV) hv).next
   ·cases hc
  ·simp only[bd] at hc
   obtain⟨de,HZ,hc⟩:=hc
   split at hc
   ·cases hc;exact(aFp (P:=P) H CK uU HZ (b9 A bV) hv).next
   ·cases hc
  ·simp only[bd] at hc
   grind
  ·cases hc
 case h_14 f first captured=>
  simp only[bN] at hc
  obtain⟨os,qk,cs,ji,hc⟩:=hc
  cases hc;cases hv
  have h1:=CX A qk
  have h2:=CX A ji
  refine⟨_,w,I,rfl,?_,H, .refl _ _ _ _ _⟩
  have:=VR.fn (ι:=ι) (I:=I) (w:=w) f _ _ _ _ h1.1 h2.1 h1.2 h2.2
  have e1:(first.toList.map a.eval).toArray=first.map a.eval:=by grind
  have e2:(captured.toList.map a.eval).toArray=captured.map a.eval:=by grind
  grind
 case h_15 t=>cases hc
 case h_16 t l c=>
  simp only[bN] at hc
  obtain⟨d,hd,hc⟩:=hc
  split at hc
  ·rename_i e
   simp only[bd] at hc
   obtain⟨za,gq,i,hi,hc⟩:=hc
   split at hc
   ·rename_i jC
    simp only[bd] at hc
    obtain⟨ol,hol,oc,MF,hc⟩:=hc
    split at hc
    ·cases hc
    ·cases hc
     simp only[bt] at hv
     cases hm:qA i.bytes (ol.ev ρ) (oc.ev ρ) with
     |none=>simp[hm] at hv
     |some k=>
      simp[hm] at hv
      subst hv
      obtain⟨i',z,av,hz,aZ,d9⟩:=Bd gq
      rw[hi] at av
      cases av
      have eF:=xa (ι:=ι) (I:=I) (w:=w) d9
      exact(aGl (P:=P) H hd hi hz aZ rfl eF.1 eF.2 jC (b9 A hol) (b9 A MF) hm).next
   ·cases hc
  ·cases hc
 case h_17 t x lo hi mx=>
  simp only[bN] at hc
  obtain⟨d,hd,hc⟩:=hc
  split at hc
  ·rename_i e
   simp only[bd] at hc
   obtain⟨sz,aZ,ox,bV,olo,aS7,ohi,aS9,omx,aS6,hc⟩:=hc
   cases hc
   exact(aLe (P:=P) H hd aZ (WK A aS7) (WK A aS9) (WK A aS6) (b9 A bV) hv).next
  ·cases hc
 case h_18 s x f=>
  simp only[bN] at hc
  obtain⟨d,hd,hc⟩:=hc
  split at hc
  ·simp only[bd] at hc
   obtain⟨fd,hfd,sz,aZ,hc⟩:=hc
   split at hc
   ·rename_i h0
    simp only[bd] at hc
    obtain⟨ox,bV,hc⟩:=hc
    cases hc
    exact(aI6 (P:=P) H hd hfd aZ h0 (b9 A bV) hv).next
   ·cases hc
  ·cases hc
 case h_19 s x f=>
  simp only[bN] at hc
  obtain⟨d,hd,hc⟩:=hc
  split at hc
  ·simp only[bd] at hc
   obtain⟨fd,hfd,dd,uU,sz,aZ,ox,bV,hc⟩:=hc
   cases hc
   exact(aLI (P:=P) H hd hfd uU aZ (b9 A bV) hv).next
  ·cases hc
 case h_20 t x i=>
  simp only[bN] at hc
  obtain⟨d,hd,hc⟩:=hc
  split at hc
  ·simp only[bd] at hc
   obtain⟨sz,aZ,ox,bV,oi,uQ,hc⟩:=hc
   cases hc
   exact(aHJ (P:=P) H hd aZ (b9 A bV) (b9 A uQ) hv).next
  ·simp only[bd] at hc
   obtain⟨sz,aZ,ox,bV,oi,uQ,hc⟩:=hc
   cases hc
   exact(aHK (P:=P) H hd aZ (b9 A bV) (b9 A uQ) hv).next
  ·cases hc
 case h_21 t x i=>
  simp only[bN] at hc
  obtain⟨d,hd,hc⟩:=hc
  split at hc
  ·simp only[bd] at hc
   obtain⟨dd,uU,sz,aZ,ox,bV,oi,uQ,hc⟩:=hc
   cases hc
   exact(aKv (P:=P) H hd uU aZ (b9 A bV) (b9 A uQ) hv).next
  ·cases hc
 case h_22 t m k ok=>
  simp only[bN] at hc
  obtain⟨d,hd,hc⟩:=hc
  split at hc
  ·simp only[bd] at hc
   obtain⟨dk,gv,hc⟩:=hc
   split at hc
   ·simp only[bd] at hc
    obtain⟨i,hi,z,hz,za,gq,om,eC,ok',aS8,hc⟩:=hc
    cases hc
    exact(aHm (P:=P) H hd gv hi hz (ajd gq) ok (b9 A eC) (b9 A aS8) hv).next
   ·cases hc
  ·cases hc
 case h_23 t m k x=>
  simp only[bN] at hc
  obtain⟨d,hd,hc⟩:=hc
  split at hc
  ·simp only[bd] at hc
   obtain⟨dk,gv,hc⟩:=hc
   split at hc
   ·simp only[bd] at hc
    grind
   ·cases hc
  ·cases hc
 case h_24 x i=>
  simp only[bN] at hc
  obtain⟨ox,bV,hc⟩:=hc
  cases hc
  exact(aLK (P:=P) H (b9 A bV) hv).next
 case h_25 c=>
  split at hc
  ·split at hc
   ·simp only[bN] at hc;grind
   ·cases hc
  ·simp only[bN] at hc;grind
  ·rename_i b hb
   obtain⟨c1,v1,I1,hr,Kl⟩:=aH0 H A hc hv (c.args.map fun| .const _=>true|_=>false)
   refine⟨c1,v1,I1,?_,Kl⟩
   simp only[execOp,resolve,hb,Sem.run_bind,Sem.run_pure,Result.andThen_ok,invoke]
   exact hr
  ·cases hc
 grind
def N5 (hc:yU P md dst op=some r):cX P md dst op=some r\/yz P md dst op=some r\/r= .p .stuck:=by
 unfold yU at hc
 grind
def Ok (hc:cK P md dst b args ts=some r):
 (∃x y t tx a c e k za i,b= .append/\args=[x,y]/\ts=[t,tx]/\bF md.pr x=some a/\bF md.pr y=some c/\P.underlying t=some (.slice e)/\P.underlying tx=some (.int k)/\zeroOf P md e=some za/\P.info? e=some i/\za.length≠0/\r= .e (.BB i.bytes za a c))\/
 (∃x t a e,b= .cap/\args=[x]/\ts=[t]/\bF md.pr x=some a/\P.underlying t=some (.slice e)/\r= .p (.Hx a))\/
 (∃x t a e za,b= .clear/\args=[x]/\ts=[t]/\bF md.pr x=some a/\P.underlying t=some (.slice e)/\zeroOf P md e=some za/\za.length≠0/\r= .e (.zp za a))\/
 (∃x y t tx a c e sz,b= .copy/\args=[x,y]/\ts=[t,tx]/\bF md.pr x=some a/\bF md.pr y=some c/\P.underlying t=some (.slice e)/\td P e=some sz/\r= .e (.zY sz a c)):=by
 unfold cK at hc
 split at hc
 ·rename_i x y t tx
  simp only[bN] at hc
  obtain⟨a,ha,c,oe,d,hd,d2,sg,hc⟩:=hc
  split at hc
  ·rename_i e k
   simp only[bd] at hc
   grind
  ·cases hc
 ·rename_i x t
  simp only[bN] at hc
  grind
 ·rename_i x t
  simp only[bN] at hc
  obtain⟨a,ha,d,hd,hc⟩:=hc
  split at hc
  ·rename_i e
   simp only[bd] at hc
   grind
  ·cases hc
 ·rename_i x y t tx
  split at hc
  ·simp only[bN] at hc
   obtain⟨a,ha,c,oe,d,hd,hc⟩:=hc
   split at hc
   ·rename_i e
    simp only[bd] at hc
    grind
   ·cases hc
  ·cases hc
 ·cases hc
def aIZ (hf:ac1 P f=some t) (args) (w):
 ∃t2 rt,(callFunc f args).run P w=((Extern.SlicesOverlaps.overlaps #[t,t2] #[rt] args).run P w).andThen fun v w'=> .ok (.value v) w':=by
 unfold ac1 at hf
 split at hf
 ·rename_i fn mB
  split at hf
  ·rename_i t' t2 rt hp hr
   split at hf
   ·rename_i jC
    rw[Option.some.injEq] at hf
    subst hf
    simp only[fV,bne_iff_ne,ne_eq,beq_iff_eq,Option.isNone_iff_eq_none] at jC
    obtain⟨⟨⟨⟨⟨⟨h1,h2⟩,h3⟩,h4⟩,h5⟩,h6⟩,h7⟩:=jC
    have ep:fn.params= #[t',t2]:=by grind
    have er:fn.resultTypes= #[rt]:=by grind
    have g1:Extern.allGenericRows.lookup "slices.overlaps" =none:=by kernel_rfl
    have g2:Extern.allTypedRows.lookup "slices.overlaps" =some Extern.SlicesOverlaps.overlaps:=by kernel_rfl
    have g3:Extern.allNextRows.lookup "slices.overlaps" =none:=by kernel_rfl
    have e1:Extern.findNext fn=none:=by simp[Extern.findNext,h3,h7,g3]
    have e2:Extern.find fn=some (Extern.SlicesOverlaps.overlaps #[t',t2] #[rt]):=by simp[Extern.find,h3,h4,h5,h6,g1,g2,ep,er]
    exact⟨t2,rt,run_callFunc_extern mB (by simpa using h1) (by simp[h2]) e1 e2 args w⟩
   ·cases hf
  ·cases hf
 ·cases hf
def aOq (H:HR ι I h w) (A:AR ι I w n ρ a) (hc:yU P md o.dst o.op=some (.p q)) (hv:bt q ρ h=some v):
 NP P ι I h w v (execOp a.eval o):=by
 replace hc:=N5 hc
 rcases hc with hc|hc|hc
 ·obtain⟨dst,op,ty,pos,after,guard⟩:=o
  simp only at hc
  unfold cX at hc
  split at hc
  ·rename_i t x i
   simp only[bN] at hc
   obtain⟨d,hd,hc⟩:=hc
   split at hc
   ·simp only[bd] at hc
    obtain⟨ox,bV,oi,uQ,hc⟩:=hc
    cases hc
    exact(aHI (P:=P) H hd (b9 A bV) (b9 A uQ) hv).next
   ·cases hc
  ·simp only[bN] at hc
   obtain⟨d,hd,hc⟩:=hc
   split at hc
   ·simp only[bd] at hc
    obtain⟨ox,bV,hc⟩:=hc
    cases hc
    simp only[bt] at hv
    cases hv
   ·cases hc
  ·split at hc
   ·cases hc
   ·simp only[DC] at hc
    obtain⟨ox,bV,hc⟩:=hc
    cases hc
    simp only[bt] at hv
    cases hv
  ·simp only[DC] at hc
   obtain⟨ox,bV,hc⟩:=hc
   cases hc
   simp only[bt] at hv
   cases hv
  ·rename_i c
   split at hc
   ·rename_i f hf
    split at hc
    ·rename_i t x y ht iR
     simp only[bN] at hc
     obtain⟨d,hd,hc⟩:=hc
     split at hc
     ·simp only[bd] at hc
      obtain⟨sz,aZ,ox,bV,oy,lV,hc⟩:=hc
      cases hc
      obtain⟨t2,rt,dm⟩:=aIZ (P:=P) ht #[a.eval x,a.eval y] w
      obtain⟨c1,w1,I1,hr,ju,H1,E1⟩:=aLj (P:=P) (t2:=t2) (rt:=rt) H hd aZ (b9 A bV) (b9 A lV) hv
      refine⟨c1,w1,I1,?_,ju,H1,E1⟩
      have ea:c.args= #[x,y]:=by grind
      simp only[execOp,resolve,hf,Act.eval,Deferred.ofValue,Sem.run_bind,Sem.run_pure,Result.andThen_ok,invoke,ea]
      simp_all
     ·cases hc
    ·cases hc
   ·rename_i b hb
    rcases Ok hc with⟨_,_,_,_,_,_,_,_,_,_,_,_,_,_,_,_,_,_,_,_,h⟩|⟨x,t,o,e,rfl,iR,En,ho,ht,h⟩|⟨_,_,_,_,_,_,_,_,_,_,_,_,h⟩|⟨_,_,_,_,_,_,_,_,_,_,_,_,_,_,_,h⟩
    ·cases h
    ·cases h
     simp only[bt] at hv
     cases bY:Cu (o.ev ρ) with
     |none=>grind
     |some k=>
      simp[bY] at hv
      subst hv
      obtain⟨c1,w1,I1,hr,ju,H1,E1⟩:=aLP (P:=P) (ty:=ty) H ht (b9 A ho) bY
      refine⟨c1,w1,I1,?_,ju,H1,E1⟩
      have ea:c.args= #[x]:=by grind
      have et:c.argTypes= #[t]:=by grind
      simp only[execOp,resolve,hb,Sem.run_bind,Sem.run_pure,Result.andThen_ok,invoke,ea,et,List.map_toArray,eG,sQ,builtin]
      simp[hr]
    ·cases h
    ·cases h
   ·cases hc
  ·cases hc
 ·exact aNi H A hc hv
 ·cases hc;cases hv
end
end
section
open Go
section
variable {P:Program} {md:Mode} {ι:aO} {I:bR} {h:aa} {w:World}
def aNk (H:HR ι I h w) (A:AR ι I w n ρ a) {id:Nat} (aM:ι id=none) (hc:yz P md o.dst o.op=some (.a q)) (hv:l9 q ρ id=some (b,v)):
 NE P ι I h w id v (h.at id b) (execOp a.eval o):=by
 obtain⟨dst,op,ty,pos,after,guard⟩:=o
 simp only at hc
 unfold yz at hc
 split at hc
 case h_4 e=>
  simp only[bN] at hc
  obtain⟨za,gq,hc⟩:=hc
  cases hc
  simp only[l9,Option.some.injEq,Prod.mk.injEq] at hv
  obtain⟨rfl,rfl⟩:=hv
  obtain⟨i,z,hi,hz,aZ,d9⟩:=Bd gq
  have eF:=xa (ι:=ι) (I:=I) (w:=w) d9
  exact(aJp (P:=P) H aM hi hz eF.1 eF.2).next
 case h_5 e x=>
  simp only[bN] at hc
  obtain⟨ox,bV,hc⟩:=hc
  cases hc
  simp only[l9] at hv
  split at hv
  ·rename_i mv
   simp only[Option.some.injEq,Prod.mk.injEq] at hv
   obtain⟨rfl,rfl⟩:=hv
   exact(aMg (P:=P) H aM (b9 A bV) mv e).next
  ·cases hv
 case h_7 t n parts=>
  simp only[bN] at hc
  obtain⟨d,hd,hc⟩:=hc
  split at hc
  ·rename_i e
   simp only[bd] at hc
   obtain⟨za,gq,ps,wS,hc⟩:=hc
   split at hc
   ·rename_i jC
    split at hc
    ·cases hc
     simp only[l9] at hv
     cases hf:lK ρ za.length (List.replicate n za) ps with
     |none=>simp[hf] at hv
     |some rows=>
      simp[hf] at hv
      obtain⟨rfl,rfl⟩:=hv
      obtain⟨i,z,hi,hz,aZ,d9⟩:=Bd gq
      obtain⟨e1,e2⟩:=Wo A wS
      have eF:=xa (ι:=ι) (I:=I) (w:=w) d9
      have pL:za.length=i.size:=by rw[aZ,eF.1.1];simp
      exact(aGN (P:=P) H aM hd hi hz aZ (by grind) eF.1 eF.2 jC.1 (fw:=parts.map fun(p:Nat×Operand)=>(p.1,a.eval p.2)) (by simpa using e1)
       (fun i' j k x c h1 h2=>e2 i' j k x c h1 (by simpa using h2)) hf).next
    ·cases hc
   ·cases hc
  ·cases hc
 case h_13 src afK x=>
  simp only[bN] at hc
  obtain⟨ox,bV,ds,CK,dd,uU,hc⟩:=hc
  split at hc
  ·cases hc
  ·simp only[bd] at hc
   grind
  ·simp only[bd] at hc
   grind
  ·simp only[bd] at hc
   grind
  ·cases hc
 case h_15 t=>
  cases hc
  simp only[l9,Option.some.injEq,Prod.mk.injEq] at hv
  obtain⟨rfl,rfl⟩:=hv
  exact(aIE (P:=P) H aM t).next
 case h_16 t l c=>
  simp only[bN] at hc
  obtain⟨d,hd,hc⟩:=hc
  split at hc
  ·rename_i e
   simp only[bd] at hc
   obtain⟨za,gq,i,hi,hc⟩:=hc
   split at hc
   ·rename_i jC
    simp only[bd] at hc
    obtain⟨ol,hol,oc,MF,hc⟩:=hc
    split at hc
    ·cases hc
     simp only[l9] at hv
     cases hm:qA i.bytes (ol.ev ρ) (oc.ev ρ) with
     |none=>simp[hm] at hv
     |some k=>
      simp[hm] at hv
      obtain⟨rfl,rfl⟩:=hv
      obtain⟨i',z,av,hz,aZ,d9⟩:=Bd gq
      rw[hi] at av
      cases av
      have eF:=xa (ι:=ι) (I:=I) (w:=w) d9
      exact(aFA (P:=P) H aM hd hi hz aZ rfl eF.1 eF.2 jC (b9 A hol) (b9 A MF) hm).next
    ·cases hc
   ·cases hc
  ·cases hc
 case h_25 c=>
  split at hc
  ·split at hc
   ·simp only[bN] at hc;grind
   ·cases hc
  ·simp only[bN] at hc;grind
  ·rename_i b' hb
   unfold C2 at hc
   split at hc<;>try simp only[bN] at hc
   ·grind
   ·obtain⟨_,_,_,_,_,_,_,_,hc⟩:=hc
    split at hc
    ·simp only[bd] at hc
     grind
    ·cases hc
   ·obtain⟨_,_,_,_,_,_,_,_,hc⟩:=hc
    split at hc
    ·simp only[bd] at hc;grind
    ·cases hc
   ·obtain⟨_,_,_,_,_,_,hc⟩:=hc
    split at hc
    ·simp only[bd] at hc;grind
    ·cases hc
   ·grind
   ·grind
   ·grind
   ·grind
   ·cases hc
  ·cases hc
 all_goals (first
  |(cases hc;done)
  |(simp only[bN] at hc
    first
    |(obtain⟨_,_,hc⟩:=hc;cases hc;done)
    |(obtain⟨_,_,_,_,hc⟩:=hc;cases hc;done)
    |(obtain⟨_,_,_,_,_,_,hc⟩:=hc;cases hc;done)
    |(obtain⟨_,_,hc⟩:=hc
      split at hc<;>first
       |(cases hc;done)
       |(simp only[bd] at hc
         first
         |(obtain⟨_,_,_,_,_,_,hc⟩:=hc;cases hc;done)
         |(obtain⟨_,_,_,_,_,_,_,_,hc⟩:=hc;cases hc;done)
         |(obtain⟨_,_,_,_,_,_,_,_,_,_,hc⟩:=hc;cases hc;done)
         |(obtain⟨_,_,_,_,hc⟩:=hc;cases hc;done)
         |(obtain⟨_,_,_,_,hc⟩:=hc
           split at hc
           ·simp only[bd] at hc;grind
           ·cases hc)
         |(obtain⟨_,_,hc⟩:=hc
           split at hc<;>first
            |(cases hc;done)
            |(simp only[bd] at hc
              grind))))
    |(obtain⟨_,_,_,_,_,_,hc⟩:=hc
      split at hc<;>first
       |(cases hc;done)
       |(simp only[bd] at hc
         obtain⟨_,_,hc⟩:=hc
         split at hc<;>cases hc))
    |(obtain⟨_,_,_,_,hc⟩:=hc
      split at hc
      ·simp only[bd] at hc;grind
      ·cases hc)))
def aJg {id:Nat} (hv:dL (.copy sz x y) ρ id h=some (v,h')): ∃u,ef sz h (y.ev ρ)=some u:=by
 simp only[dL] at hv
 grind
def aH1 (H:HR ι I h w) (A:AR ι I w n ρ a) {args:Array Operand} {id:Nat} (aM:ι id=none)
 (hc:C2 P md dst b args.toList ts.toList=some (.e q)) (hv:dL q ρ id h=some (v,h')) (cs):NE P ι I h w id v h' (builtin b ts ty cs (args.map a.eval)):=by
 obtain⟨args⟩:=args
 obtain⟨ts⟩:=ts
 simp only[List.map_toArray] at*
 unfold C2 at hc
 split at hc<;>try simp only[bN] at hc
 ·grind
 ·rename_i x y t tx
  obtain⟨ox,bV,oy,lV,d,hd,d2,sg,hc⟩:=hc
  split at hc
  ·rename_i e e'
   simp only[bd] at hc
   obtain⟨i,hi,z,hz,hc⟩:=hc
   split at hc
   ·rename_i jC
    obtain⟨rfl,yF,h0⟩:=jC
    have T:Ap P t tx e i.size i.bytes:=⟨hd,sg,⟨i,z,hi,hz,rfl,rfl,yF⟩,h0⟩
    split at hc
    ·cases hc
     exact(aGR (P:=P) H aM T (b9 A bV) (b9 A lV) rfl rfl hv).next
    ·cases hc
     exact(aH4 (P:=P) H aM T (b9 A bV) (b9 A lV) rfl rfl hv).next
   ·cases hc
  ·cases hc
 ·rename_i x y t tx
  obtain⟨ox,bV,oy,lV,d,hd,d2,sg,hc⟩:=hc
  split at hc
  ·rename_i e e'
   simp only[bd] at hc
   obtain⟨sz,aZ,hc⟩:=hc
   cases hc
   have Eh:VR ι I w (oy.ev ρ) (a.eval y):=b9 A lV
   have uP:(∃u,ef sz h (oy.ev ρ)=some u)-> ∃p q r,a.eval y= .slice p q r:=by
    rintro⟨u,hu⟩
    obtain⟨p,q,r,hq,_⟩:=CY H Eh hu
    grind
   exact(aKO (P:=P) H hd aZ id (b9 A bV) Eh rfl rfl hv ⟨_,sg⟩ (uP (aJg hv))).next
  ·cases hc
 ·rename_i m k t tx
  obtain⟨om,eC,ok,bO,d,hd,hc⟩:=hc
  split at hc
  ·simp only[bd] at hc
   obtain⟨dk,gv,hc⟩:=hc
   split at hc
   ·cases hc
    exact(aHj (P:=P) H id hd gv (b9 A eC) (b9 A bO) rfl rfl hv).next
   ·cases hc
  ·cases hc
 ·grind
 ·grind
 ·grind
 ·grind
 ·cases hc
def aNj (H:HR ι I h w) (A:AR ι I w n ρ a) {id:Nat} (aM:ι id=none) (hc:yz P md o.dst o.op=some (.e q)) (hv:dL q ρ id h=some (v,h')):
 NE P ι I h w id v h' (execOp a.eval o):=by
 obtain⟨dst,op,ty,pos,after,guard⟩:=o
 simp only at hc
 unfold yz at hc
 split at hc
 case h_7 t n parts=>
  simp only[bN] at hc
  obtain⟨d,hd,hc⟩:=hc
  split at hc
  ·simp only[bd] at hc
   grind
  ·cases hc
 case h_9 t x y=>
  simp only[bN] at hc
  obtain⟨sz,aZ,ox,bV,oy,lV,hc⟩:=hc
  cases hc
  obtain⟨rfl,w',hr,H',E⟩:=aIn (P:=P) H aZ (b9 A bV) (b9 A lV) hv
  exact⟨_, .bool true,w',ι,I,by simp[execOp,hr], .inr ⟨rfl,rfl⟩, .undef _,H',E.mono (fun _ h=>h.elim)⟩
 case h_13 src afK x=>
  simp only[bN] at hc
  obtain⟨ox,bV,ds,CK,dd,uU,hc⟩:=hc
  split at hc
  ·cases hc
  ·simp only[bd] at hc
   grind
  ·simp only[bd] at hc
   grind
  ·simp only[bd] at hc
   obtain⟨de,HZ,hc⟩:=hc
   split at hc
   ·split at hc
    ·rename_i hsd
     cases hc
     subst hsd
     exact(aJ6 (P:=P) H CK HZ id (b9 A bV) rfl hv).next
    ·cases hc
   ·cases hc
  ·cases hc
 case h_16 t l c=>
  simp only[bN] at hc
  obtain⟨d,hd,hc⟩:=hc
  split at hc
  ·simp only[bd] at hc
   obtain⟨_,_,_,_,hc⟩:=hc
   split at hc
   ·simp only[bd] at hc
    grind
   ·cases hc
  ·cases hc
 case h_23 t m k x=>
  simp only[bN] at hc
  obtain⟨d,hd,hc⟩:=hc
  split at hc
  ·simp only[bd] at hc
   obtain⟨dk,gv,hc⟩:=hc
   split at hc
   ·simp only[bd] at hc
    obtain⟨om,eC,ok,bO,ov,qj,hc⟩:=hc
    cases hc
    obtain⟨rfl,w',hr,H',E⟩:=aHi (P:=P) H id hd gv (b9 A eC) (b9 A bO) (b9 A qj) rfl rfl rfl hv
    exact⟨_, .bool true,w',ι,I,by simp[execOp,hr], .inr ⟨rfl,rfl⟩, .undef _,H',E.mono (fun _ h=>h.elim)⟩
   ·cases hc
  ·cases hc
 case h_25 c=>
  split at hc
  ·split at hc
   ·simp only[bN] at hc;grind
   ·cases hc
  ·simp only[bN] at hc;grind
  ·rename_i b hb
   obtain⟨x1,c1,w1,ι1,I1,hr,Kl⟩:=aH1 H A (ty:=ty) aM hc hv (c.args.map fun| .const _=>true|_=>false)
   refine⟨x1,c1,w1,ι1,I1,?_,Kl⟩
   simp only[execOp,resolve,hb,Sem.run_bind,Sem.run_pure,Result.andThen_ok,invoke]
   exact hr
  ·cases hc
 all_goals (first
  |(cases hc;done)
  |(simp only[bN] at hc
    first
    |(obtain⟨_,_,hc⟩:=hc;cases hc;done)
    |(obtain⟨_,_,_,_,hc⟩:=hc;cases hc;done)
    |(obtain⟨_,_,_,_,_,_,hc⟩:=hc;cases hc;done)
    |(obtain⟨_,_,hc⟩:=hc
      split at hc<;>first
       |(cases hc;done)
       |(simp only[bd] at hc
         first
         |(obtain⟨_,_,_,_,_,_,hc⟩:=hc;cases hc;done)
         |(obtain⟨_,_,_,_,_,_,_,_,hc⟩:=hc;cases hc;done)
         |(obtain⟨_,_,_,_,_,_,_,_,_,_,hc⟩:=hc;cases hc;done)
         |(obtain⟨_,_,_,_,hc⟩:=hc;cases hc;done)
         |(obtain⟨_,_,_,_,hc⟩:=hc
           split at hc
           ·simp only[bd] at hc;grind
           ·cases hc)
         |(obtain⟨_,_,hc⟩:=hc
           split at hc<;>first
            |(cases hc;done)
            |(simp only[bd] at hc
              grind))))
    |(obtain⟨_,_,_,_,_,_,hc⟩:=hc
      split at hc<;>first
       |(cases hc;done)
       |(simp only[bd] at hc
         obtain⟨_,_,hc⟩:=hc
         split at hc<;>cases hc))
    |(obtain⟨_,_,_,_,hc⟩:=hc
      split at hc
      ·simp only[bd] at hc;grind
      ·cases hc)))
def WI (hc:cX P md dst op=some r):
 (∃q,r= .p q)\/ ∃c b,op= .call c/\c.callee= .builtin b/\cK P md dst b c.args.toList c.argTypes.toList=some r:=by
 unfold cX at hc
 split at hc
 ·simp only[bN] at hc
  obtain⟨d,hd,hc⟩:=hc
  split at hc
  ·simp only[bd] at hc
   grind
  ·cases hc
 ·simp only[bN] at hc
  obtain⟨d,hd,hc⟩:=hc
  split at hc
  ·simp only[bd] at hc
   grind
  ·cases hc
 ·split at hc
  ·cases hc
  ·simp only[DC] at hc
   grind
 ·simp only[DC] at hc
  grind
 ·rename_i c
  split at hc
  ·split at hc
   ·simp only[bN] at hc
    obtain⟨d,hd,hc⟩:=hc
    split at hc
    ·simp only[bd] at hc
     grind
    ·cases hc
   ·cases hc
  ·grind
  ·cases hc
 ·cases hc
def aOs (H:HR ι I h w) (A:AR ι I w n ρ a) {id:Nat} (aM:ι id=none) (hc:yU P md o.dst o.op=some (.a q)) (hv:l9 q ρ id=some (b,v)):
 NE P ι I h w id v (h.at id b) (execOp a.eval o):=by
 rcases N5 hc with h1|h1|h1
 ·rcases WI h1 with⟨q,h⟩|⟨c,b',-,-,hk⟩
  ·cases h
  ·rcases Ok hk with⟨_,_,_,_,_,_,_,_,_,_,_,_,_,_,_,_,_,_,_,_,h⟩|⟨_,_,_,_,_,_,_,_,_,h⟩|⟨_,_,_,_,_,_,_,_,_,_,_,_,h⟩|⟨_,_,_,_,_,_,_,_,_,_,_,_,_,_,_,h⟩<;>cases h
 ·exact aNk H A aM h1 hv
 ·cases h1
def aOr (H:HR ι I h w) (A:AR ι I w n ρ a) {id:Nat} (aM:ι id=none) (hc:yU P md o.dst o.op=some (.e q)) (hv:dL q ρ id h=some (v,h')):
 NE P ι I h w id v h' (execOp a.eval o):=by
 rcases N5 hc with h1|h1|h1
 ·rcases WI h1 with⟨q,h⟩|⟨c,b',eB,hb,hk⟩
  ·cases h
  ·obtain⟨dst,op,ty,pos,after,guard⟩:=o
   simp only at eB
   subst eB
   have key:NE P ι I h w id v h' (builtin b' c.argTypes ty (c.args.map fun| .const _=>true|_=>false) (c.args.map a.eval)):=by
    rcases Ok hk with⟨x,y,t,tx,ox,oy,e,k,za,i,rfl,iR,En,bV,lV,ht,AG,gq,hi,h0,h⟩|⟨_,_,_,_,_,_,_,_,_,h⟩|⟨x,t,ox,e,za,rfl,iR,En,bV,ht,gq,h0,h⟩|⟨x,y,t,tx,ox,oy,e,sz,rfl,iR,En,bV,lV,ht,aZ,h⟩
    ·cases h
     have ea:c.args= #[x,y]:=by grind
     have et:c.argTypes= #[t,tx]:=by grind
     obtain⟨i',z,av,hz,aZ,d9⟩:=Bd gq
     rw[hi] at av
     cases av
     have eF:=xa (ι:=ι) (I:=I) (w:=w) d9
     have:=(aGQ (P:=P) (ty:=ty) H aM ht AG hi hz aZ eF.1 eF.2 h0 (b9 A bV) (b9 A lV) rfl rfl hv).next
     rw[ea,et]
     simpa [builtin] using this
    ·cases h
    ·cases h
     have ea:c.args= #[x]:=by grind
     have et:c.argTypes= #[t]:=by grind
     obtain⟨i,z,hi,hz,aZ,d9⟩:=Bd gq
     have eF:=xa (ι:=ι) (I:=I) (w:=w) d9
     have:=(aHW (P:=P) (ty:=ty) H ht hi hz eF.1 eF.2 h0 id (b9 A bV) rfl hv).next
     rw[ea,et]
     simpa [builtin] using this
    ·cases h
     have ea:c.args= #[x,y]:=by grind
     have et:c.argTypes= #[t,tx]:=by grind
     have:=(aJh (P:=P) (ty:=ty) (tx:=tx) H ht aZ id (b9 A bV) (b9 A lV) rfl rfl hv).next
     rw[ea,et]
     simpa [builtin] using this
   obtain⟨x1,c1,w1,ι1,I1,hr,Kl⟩:=key
   refine⟨x1,c1,w1,ι1,I1,?_,Kl⟩
   simp only[execOp,resolve,hb,Sem.run_bind,Sem.run_pure,Result.andThen_ok,invoke]
   exact hr
 ·exact aNj H A aM h1 hv
 ·cases h1
end
end
section
open Go
section
variable {P:Program} {md:Mode} {ι:aO} {I:bR} {h:aa} {w:World}
def aHZ (hc:yz P md dst op=some r) (hr:(∃f as,r= .call f as)\/ ∃x as,r= .dyn x as):
 ∃c x,op= .call c/\c.callee= .value x/\
  ((∃f as,r= .call f as/\x= .func f/\dV P f=true/\rN md.pr c.args.toList=some as)\/
   ∃ox as,r= .dyn ox as/\bF md.pr x=some ox/\rN md.pr c.args.toList=some as):=by
 have hn: ∀q,r= .p q->False:=by grind
 have AO: ∀q,r= .a q->False:=by grind
 have aT: ∀q,r= .e q->False:=by grind
 unfold yz at hc
 split at hc
 case h_25 c=>
  split at hc
  ·rename_i f hf
   split at hc
   ·rename_i GU
    simp only[bN] at hc
    grind
   ·cases hc
  ·rename_i x pM hx
   simp only[bN] at hc
   grind
  ·rename_i b hb
   exfalso
   unfold C2 at hc
   split at hc<;>try simp only[bN] at hc
   ·grind
   ·obtain⟨_,_,_,_,_,_,_,_,hc⟩:=hc
    split at hc
    ·simp only[bd] at hc
     grind
    ·cases hc
   ·obtain⟨_,_,_,_,_,_,_,_,hc⟩:=hc
    split at hc
    ·simp only[bd] at hc;grind
    ·cases hc
   ·obtain⟨_,_,_,_,_,_,hc⟩:=hc
    split at hc
    ·simp only[bd] at hc;grind
    ·cases hc
   ·grind
   ·grind
   ·grind
   ·grind
   ·cases hc
  ·cases hc
 all_goals exfalso
 case h_7 t n parts=>
  simp only[bN] at hc
  obtain⟨d,hd,hc⟩:=hc
  split at hc
  ·simp only[bd] at hc
   grind
  ·cases hc
 case h_13 src afK x=>
  simp only[bN] at hc
  obtain⟨ox,bV,ds,CK,dd,uU,hc⟩:=hc
  split at hc
  ·grind
  ·simp only[bd] at hc
   grind
  ·simp only[bd] at hc
   grind
  ·simp only[bd] at hc
   grind
  ·cases hc
 case h_16 t l c=>
  simp only[bN] at hc
  obtain⟨d,hd,hc⟩:=hc
  split at hc
  ·simp only[bd] at hc
   obtain⟨_,_,_,_,hc⟩:=hc
   split at hc
   ·simp only[bd] at hc
    grind
   ·cases hc
  ·cases hc
 all_goals (first
  |(first|(exact hn _ (Option.some.inj hc).symm)|(exact AO _ (Option.some.inj hc).symm)|(exact aT _ (Option.some.inj hc).symm)|(cases hc;done))
  |(simp only[bN] at hc
    first
    |(obtain⟨_,_,hc⟩:=hc;first|(exact hn _ (Option.some.inj hc).symm)|(exact AO _ (Option.some.inj hc).symm)|(exact aT _ (Option.some.inj hc).symm)|(cases hc;done))
    |(obtain⟨_,_,_,_,hc⟩:=hc;first|(exact hn _ (Option.some.inj hc).symm)|(exact AO _ (Option.some.inj hc).symm)|(exact aT _ (Option.some.inj hc).symm)|(cases hc;done))
    |(obtain⟨_,_,_,_,_,_,hc⟩:=hc;grind)
    |(obtain⟨_,_,hc⟩:=hc
      split at hc<;>first
       |(first|(exact hn _ (Option.some.inj hc).symm)|(exact AO _ (Option.some.inj hc).symm)|(exact aT _ (Option.some.inj hc).symm)|(cases hc;done))
       |(simp only[bd] at hc
         first
         |(obtain⟨_,_,_,_,_,_,hc⟩:=hc;grind)
         |(obtain⟨_,_,_,_,_,_,_,_,hc⟩:=hc;grind)
         |(obtain⟨_,_,_,_,_,_,_,_,_,_,hc⟩:=hc;grind)
         |(obtain⟨_,_,_,_,hc⟩:=hc;first|(exact hn _ (Option.some.inj hc).symm)|(exact AO _ (Option.some.inj hc).symm)|(exact aT _ (Option.some.inj hc).symm)|(cases hc;done))
         |(obtain⟨_,_,_,_,hc⟩:=hc
           split at hc
           ·simp only[bd] at hc;grind
           grind)
         |(obtain⟨_,_,hc⟩:=hc
           split at hc<;>first
            |(first|(exact hn _ (Option.some.inj hc).symm)|(exact AO _ (Option.some.inj hc).symm)|(exact aT _ (Option.some.inj hc).symm)|(cases hc;done))
            |(simp only[bd] at hc
              grind))))
    |(obtain⟨_,_,_,_,_,_,hc⟩:=hc
      split at hc<;>first
       |(first|(exact hn _ (Option.some.inj hc).symm)|(exact AO _ (Option.some.inj hc).symm)|(exact aT _ (Option.some.inj hc).symm)|(cases hc;done))
       |(simp only[bd] at hc
         obtain⟨_,_,hc⟩:=hc
         split at hc<;>first|(exact hn _ (Option.some.inj hc).symm)|(exact AO _ (Option.some.inj hc).symm)|(exact aT _ (Option.some.inj hc).symm)|(cases hc)))
    |(obtain⟨_,_,_,_,hc⟩:=hc
      split at hc
      ·simp only[bd] at hc;grind
      grind)))
def ajS (hc:yU P md dst op=some r) (hr:(∃f as,r= .call f as)\/ ∃x as,r= .dyn x as):
 ∃c x,op= .call c/\c.callee= .value x/\
  ((∃f as,r= .call f as/\x= .func f/\dV P f=true/\rN md.pr c.args.toList=some as)\/
   ∃ox as,r= .dyn ox as/\bF md.pr x=some ox/\rN md.pr c.args.toList=some as):=by
 rcases N5 hc with h1|h1|h1
 ·exfalso
  rcases WI h1 with⟨q,rfl⟩|⟨c,b',-,-,hk⟩
  ·grind
  ·rcases Ok hk with⟨_,_,_,_,_,_,_,_,_,_,_,_,_,_,_,_,_,_,_,_,rfl⟩|⟨_,_,_,_,_,_,_,_,_,rfl⟩|⟨_,_,_,_,_,_,_,_,_,_,_,_,rfl⟩|⟨_,_,_,_,_,_,_,_,_,_,_,_,_,_,_,rfl⟩<;>(grind)
 ·exact aHZ h1 hr
 grind
def ah0 (hf:dV P f=true) (args) (w):(callFunc f args).run P w= .ok (.enter f args) w:=by
 unfold dV at hf
 split at hf
 ·rename_i fn mB
  simp only[fV,bne_iff_ne,ne_eq] at hf
  obtain⟨h1,h2⟩:=hf
  obtain⟨c,fA⟩:=Option.isSome_iff_exists.1 h2
  simp[callFunc,mB,h1,fA]
 ·cases hf
def aKS (A:AR ι I w n ρ a) (hc:yU P md o.dst o.op=some (.call f as)):
 ∃cU:Array Value,(execOp a.eval o).run P w= .ok (.enter f cU) w/\LR ι I w (as.map (aJ.ev ρ)) cU.toList:=by
 obtain⟨dst,op,ty,pos,after,guard⟩:=o
 obtain⟨c,x,rfl,hx,⟨f',as',h1,rfl,GU,has⟩|⟨_,_,h1,_,_⟩⟩:=ajS hc (.inl ⟨f,as,rfl⟩)
 ·cases h1
  refine⟨c.args.map a.eval,?_,by have:=CX A has;simp_all⟩
  simp only[execOp,resolve,hx,Act.eval,Deferred.ofValue,Sem.run_bind,Sem.run_pure,Result.andThen_ok,invoke]
  have:=ah0 GU (#[]++Array.map (Act.eval a) c.args++ #[]) w
  grind
 ·cases h1
def aLQ (A:AR ι I w n ρ a) (hc:yU P md o.dst o.op=some (.dyn x as)) (hx:x.ev ρ= .fn f fs cs) (hf:dV P f=true):
 ∃cU:Array Value,(execOp a.eval o).run P w= .ok (.enter f cU) w/\LR ι I w (fs++as.map (aJ.ev ρ)++cs) cU.toList:=by
 obtain⟨dst,op,ty,pos,after,guard⟩:=o
 obtain⟨c,y,rfl,hy,⟨_,_,h1,_,_,_⟩|⟨ox,as',h1,bV,has⟩⟩:=ajS hc (.inr ⟨x,as,rfl⟩)
 ·cases h1
 ·cases h1
  have hv:VR ι I w (x.ev ρ) (a.eval y):=b9 A bV
  rw[hx] at hv
  generalize hey:a.eval y=cy at hv
  cases hv
  rename_i gD b8 ir Em iq nR
  refine⟨gD.toArray++c.args.map a.eval++b8.toArray,?_,?_⟩
  ·simp only[execOp,resolve,hy,hey,Deferred.ofValue,Sem.run_bind,Sem.run_pure,Result.andThen_ok,invoke]
   exact ah0 hf _ w
  ·have h2:=CX A has
   have h3:=(LR.append (show LR ι I w fs gD from⟨ir,Em⟩) h2).append (show LR ι I w cs b8 from⟨iq,nR⟩)
   simpa using h3
end
end
section
open Go
def al (P:Program) (f:Nat) (args:List AV) (h:aa) (r:AV) (h':aa):Prop:=
 ∀(ι:aO) (I:bR) (w:World) (cU:Array Value),HR ι I h w->LR ι I w args cU.toList->
  Calls P f cU w fun e w'=> ∃v ι' I',e= .returned v/\VR ι' I' w' r v/\HR ι' I' h' w'/\Ext (h.next<= ·) ι I h w ι' I' h' w'
def dc (o:RO) (ρ:Env):Option Bool:=
 match o.guard with
 |none=>some true
 |some (g,b)=>match ρ g with
  | .bool c=>some (c==b)
  | .aE []=>some false
  |_=>none
def kB (P:Program) (op:iw) (id:Nat) (ρ:Env) (h:aa) (v:AV) (h':aa):Prop:=
 match op with
 | .p q=>bt q ρ h=some v/\h'=h
 | .a q=> ∃b,l9 q ρ id=some (b,v)/\h'=h.at id b
 | .e q=>dL q ρ id h=some (v,h')
 | .call f as=>al P f (as.map (aJ.ev ρ)) h v h'
 | .dyn x as=> ∃f fs cs,x.ev ρ= .fn f fs cs/\dV P f=true/\al P f (fs++as.map (aJ.ev ρ)++cs) h v h'
def bS (P:Program) (o:RO) (id:Nat) (ρ:Env) (h:aa) (r:Option AV) (h':aa):Prop:=
 match dc o ρ with
 |some true=> ∃v,r=some v/\kB P o.op id ρ h v h'
 |some false=>r=none/\h'=h
 |none=>False
def kU (r:Option AV):AV:=r.getD (.aE [])
def exec (P:Program):List RO->Env->aa->(Env->aa->Prop)->Prop
 |[],ρ,h,K=>K ρ h
 |o::os,ρ,h,K=> ∃r h',bS P o h.next ρ h r h'/\exec P os (put ρ o.dst (kU r)) h' K
section
variable {P:Program} {md:Mode} {ι:aO} {I:bR} {h:aa} {w:World}
def AR.put (A:AR ι I w n ρ a) (hd: ∀x,d=some x->x<n) (hv:VR ι I w v c):AR ι I w n (put ρ d v) (a.put d c):=by
 cases d with
 |none=>exact A
 |some d=>
  have Ey:=hd d rfl
  refine⟨A.defers,by simp[Act.put,A.size],fun t=>?_⟩
  simp only[Am.put,Act.put]
  by_cases ht:t=d
  ·subst ht
   simp only[dP]
   have:(a.tmps.setIfInBounds t c).getD t Go.undef=c:=by simp[Array.getD,A.size,Ey]
   grind
  ·simp only[ht,fj]
   have:(a.tmps.setIfInBounds d c).getD t Go.undef=a.tmps.getD t Go.undef:=by
    simp only[Lo,Array.getElem?_setIfInBounds_ne (Ne.symm ht)]
   rw[this];exact A.get t
def aj0:VR ι I w (.aE []) Go.undef:= .aE [] [] rfl (fun i v c h=>by simp at h)
def ajR (hc:A6 P md n ops o=some ro):yU P md o.dst o.op=some ro.op/\ro.dst=o.dst/\(∀x,o.dst=some x->x<n)/\
 (match o.guard with|none=>ro.guard=none|some (j,Lq)=> ∃d,(ops[j]?).bind (·.dst)=some d/\ro.guard=some (d,Lq)):=by
 simp only[A6,bd] at hc
 obtain⟨op,eB,g,hg,hc⟩:=hc
 split at hc
 ·rename_i hd
  cases hc
  refine⟨eB,rfl,?_,?_⟩
  ·intro x hx
   rw[hx] at hd
   simpa [aw1] using hd
  ·cases pQ:o.guard with
   |none=>simp[pQ,XI] at hg ⊢;exact hg.symm
   |some p=>
    obtain⟨j,Lq⟩:=p
    simp only[pQ,XI,DC] at hg ⊢
    grind
 ·cases hc
def ajE (A:AR ι I w n ρ a) (hc:A6 P md n ops o=some ro) (hg:dc ro ρ=some b):Region.wanted o (yielded ops a.tmps)=b:=by
 obtain⟨_,_,_,pQ⟩:=ajR hc
 unfold Region.wanted
 cases hog:o.guard with
 |none=>
  rw[hog] at pQ
  simp[dc,pQ] at hg
  simp[hg]
 |some p=>
  obtain⟨j,Lq⟩:=p
  rw[hog] at pQ
  obtain⟨d,hd,pQ⟩:=pQ
  simp only[dc,pQ] at hg
  have hv:=A.get d
  simp only[yielded,hd,me]
  split at hg
  ·rename_i c hρ
   rw[hρ] at hv
   cases hg
   have:a.tmps[d]? =some (.bool c):=by
    generalize hq:a.tmps.getD d Go.undef=u at hv
    cases hv
    cases hx:a.tmps[d]? with
    |none=>simp[Lo,hx,Go.undef] at hq
    |some y=>simp_all
   grind
  ·rename_i hρ
   rw[hρ] at hv
   cases hg
   generalize hq:a.tmps.getD d Go.undef=u at hv
   cases hv
   rename_i b8 hl ju
   cases hx:a.tmps[d]? with
   |none=>rfl
   |some y=>
    simp_all
  ·cases hg
def VU (H:HR ι I h w) (A:AR ι I w n ρ a) (hc:A6 P md n ops o=some ro) {id:Nat} (aM:ι id=none)
 (hs:bS P ro id ρ h r h')
 (hK: ∀a' w' ι' I',AR ι' I' w' n (put ρ ro.dst (kU r)) a'->HR ι' I' h' w'->Ext (fun b=>b=id\/h.next<=b) ι I h w ι' I' h' w'->K a' w'):
 if Region.wanted o (yielded ops a.tmps) then o.wp P a w K Q\/(o.asks P a w/\LetsOut Q) else K (a.put o.dst Go.undef) w:=by
 obtain⟨eB,LQ,Ey,_⟩:=ajR hc
 unfold bS at hs
 split at hs
 ·rename_i hg
  obtain⟨v,rfl,dm⟩:=hs
  rw[ajE A hc hg]
  simp only[dP]
  left
  unfold Oper.wp
  have jb: ∀c w' ι' I',VR ι' I' w' v c->HR ι' I' h' w'->Ext (fun b=>b=id\/h.next<=b) ι I h w ι' I' h' w'->K (a.put o.dst c) w':=by
   intro c w' ι' I' hv H' E
   refine hK _ w' ι' I' ?_ H' E
   rw[LQ]
   exact(A.mono (fun x v=>E.vr H)).put Ey hv
  unfold kB at dm
  split at dm
  ·rename_i q hq
   obtain⟨hv,rfl⟩:=dm
   rw[hq] at eB
   obtain⟨c,w',I',hr,lU,H',E⟩:=aOq H A eB hv
   rw[hr]
   exact jb c w' ι I' lU H' (E.mono (fun _ h=>h.elim))
  ·rename_i q hq
   obtain⟨b,hv,rfl⟩:=dm
   rw[hq] at eB
   obtain⟨x,c,w',ι',I',hr,hx,lU,H',E⟩:=aOs H A aM eB hv
   rw[hr]
   rcases hx with rfl|⟨rfl,rfl⟩
   ·exact jb c w' ι' I' lU H' (E.mono (fun _ h=> .inl h))
   ·exact jb _ w' ι' I' (.undef _) H' (E.mono (fun _ h=> .inl h))
  ·rename_i q hq
   rw[hq] at eB
   obtain⟨x,c,w',ι',I',hr,hx,lU,H',E⟩:=aOr H A aM eB dm
   rw[hr]
   rcases hx with rfl|⟨rfl,rfl⟩
   ·exact jb c w' ι' I' lU H' (E.mono (fun _ h=> .inl h))
   ·exact jb _ w' ι' I' (.undef _) H' (E.mono (fun _ h=> .inl h))
  ·rename_i f as hq
   rw[hq] at eB
   obtain⟨cU,hr,hl⟩:=aKS A eB
   rw[hr]
   refine(dm ι I w cU H hl).mono ?_
   rintro e w' ⟨v',ι',I',rfl,lU,H',E⟩
   exact jb v' w' ι' I' lU H' (E.mono (fun _ h=> .inr h))
  ·rename_i x as hq
   rw[hq] at eB
   obtain⟨f,fs,cs,hx,GU,dm⟩:=dm
   obtain⟨cU,hr,hl⟩:=aLQ A eB hx GU
   rw[hr]
   refine(dm ι I w cU H hl).mono ?_
   rintro e w' ⟨v',ι',I',rfl,lU,H',E⟩
   exact jb v' w' ι' I' lU H' (E.mono (fun _ h=> .inr h))
 ·rename_i hg
  obtain⟨rfl,rfl⟩:=hs
  rw[ajE A hc hg]
  simp only[nj,fj]
  refine hK _ w ι I ?_ H (.refl _ _ _ _ _)
  rw[LQ]
  exact A.put Ey aj0
 grind
theorem WJ: ∀{os:List Oper} {az:List RO},yy P md n ops os=some az->os.length=az.length/\ ∀(i:Nat) (o:Oper) (ro:RO),os[i]? =some o->az[i]? =some ro->A6 P md n ops o=some ro
 |[],az,hc=>by simp[yy] at hc;grind
 |o::os,az,hc=>by
  simp only[yy] at hc
  split at hc
  ·rename_i ro l h1 h2
   cases hc
   obtain⟨e1,e2⟩:=WJ h2
   grind
  ·cases hc
theorem ajb: ∀(az:List RO) (k:Nat) {ι:aO} {I:bR} {h:aa} {w:World} {ρ:Env} {a:Act},HR ι I h w->AR ι I w n ρ a->
 (∀i ro,az[i]? =some ro-> ∃o,ops[k+i]? =some o/\A6 P md n ops o=some ro)->exec P az ρ h K->
 (∀ρ' h' a' w' ι' I',K ρ' h'->AR ι' I' w' n ρ' a'->HR ι' I' h' w'->Ext (h.next<= ·) ι I h w ι' I' h' w'->Q .normal a' w')->
 wpOps P ops Q (List.range' k az.length) a w
 |[],k,ι,I,h,w,ρ,a,H,A,_,he,hQ=>by
  simp only[fI,List.range'_zero,wpOps]
  exact hQ ρ h a w ι I he A H (.refl _ _ _ _ _)
 |ro::az,k,ι,I,h,w,ρ,a,H,A,UU,he,hQ=>by
  obtain⟨r,h',hs,bP⟩:=he
  obtain⟨o,ho,hc⟩:=UU 0 ro rfl
  simp only[cQ,List.range'_succ,wpOps]
  rw[qG] at ho
  rw[ho]
  simp only[]
  have aM:ι h.next=none:=by
   cases hq:ι h.next with
   |none=>rfl
   |some l=>have:=H.dI _ _ hq;omega
  refine VU (Q:=Q) H A hc aM hs ?_
  intro a' w' ι' I' A' H' E
  have E':Ext (h.next<= ·) ι I h w ι' I' h' w':=E.mono (fun b hb=>by omega)
  refine ajb az (k+1) H' A' (fun i ro' hi=>?_) bP ?_
  ·obtain⟨o',eV,jN⟩:=UU (i+1) ro' (by simpa using hi)
   grind
  ·intro ρ2 h2 a2 w2 ι2 I2 hK A2 H2 E2
   exact hQ ρ2 h2 a2 w2 ι2 I2 hK A2 H2 (E'.trans E2 (fun b hb=>fm E'.next hb))
end
end
section
open Go
section
variable {P:Program} {md:Mode} {ι:aO} {I:bR} {h:aa} {w:World}
def HR.J9 (H:HR ι I h w) (jb: ∀b l,ι b=some l->b<h'.next) (ez: ∀b l x,ι b=some l->h'.get b=some x->h.get b=some x):HR ι I h' w where
 dI:=jb
 inside:=H.inside
 cells b cs l hg hb:=H.cells b cs l (ez b l _ hb hg) hb
 maps b es l hg hb:=H.maps b es l (ez b l _ hb hg) hb
 iE b l hg hb:=H.iE b l (ez b l _ hb hg) hb
 eN b b' l l' x x' k j aT hb cF hg dz:=H.eN b b' l l' x x' k j aT hb cF (ez b l x hb hg) (ez b' l' x' cF dz)
 bZ b l x k j hb hg:=H.bZ b l x k j hb (ez b l x hb hg)
 eP:=H.eP
 pl b cs cb o room hg hb:=H.pl b cs cb o room (ez b _ _ hb hg) hb
def HR.join (H:HR ι I h w) (G:HR ι' I' g w') (E:Ext N ι I g0 w ι' I' g w')
 (h0: ∀b l x,ι b=some l->g0.get b=some x->h.get b=some x)
 (jb:g.next<=J.next)
 (hJ: ∀b x,J.get b=some x->g.get b=some x\/(h.get b=some x/\g0.get b=none/\ ∃l,ι b=some l)\/ι' b=none):HR ι' I' J w':=by
 have kI: ∀a v,VR ι I w a v->VR ι' I' w' a v:=fun a v hv=>hv.mono E.more E.bZ (fun k j hk=>E.cell k j (H.eP k j hk) (fun⟨b,l,x,hb,hg,hl⟩=>H.bZ b l x k j hb (h0 b l x hb hg) hl hk))
 have Cq: ∀b l x k j,ι b=some l->h.get b=some x->g0.get b=none->l.has k j-> ¬fJ ι g0 k j:=by
  rintro b l x k j hb hg hn hl ⟨b',l',x',cF,dz,dG⟩
  by_cases pR:b'=b
  ·grind
  ·exact H.eN b' b l' l x' x k j pR cF hb (h0 b' l' x' cF dz) hg dG hl
 have aS: ∀b l k j,ι b=some l->l.has k j->k<w.heap.size:=fun b l k j hb hl=>by rw[Loc.Ff hl];exact H.inside b l hb
 have key: ∀b l x,ι' b=some l->J.get b=some x->g.get b=some x\/(h.get b=some x/\g0.get b=none/\ι b=some l):=by
  intro b l x hb hg
  rcases hJ b x hg with h1|⟨h1,h2,l',h3⟩|h1
  ·exact .inl h1
  ·have:=E.more b l' h3
   grind
  grind
 refine{dI:=fun b l hb=>bJ (G.dI b l hb) jb,inside:=G.inside,cells:=?_,maps:=?_,iE:=?_,eN:=?_,bZ:=?_,eP:=G.eP
        pl:=fun b cs cb o room hg hb n=>by
         rcases key b _ _ hb hg with h1|⟨h1,h2,h3⟩
         ·exact G.pl b cs cb o room h1 hb n
         ·rw[E.frozen cb n (H.inside b _ h3) (Cq b _ _ cb n h3 h1 h2 rfl)];exact H.pl b cs cb o room h1 h3 n}
 ·intro b cs l hg hb
  rcases key b l _ hb hg with h1|⟨h1,h2,h3⟩
  ·exact G.cells b cs l h1 hb
  ·obtain⟨cb,o,room,rfl,hle,eg,hc⟩:=H.cells b cs l h1 h3
   have aN:cb<w.heap.size:=H.inside b _ h3
   refine⟨cb,o,room,rfl,hle,eg,fun j hj=>?_⟩
   obtain⟨c,cN,cI,qo⟩:=hc j hj
   exact⟨c,by rw[E.cell _ _ aN (Cq b _ _ cb (o+j) h3 h1 h2 rfl)];exact cN,by rw[E.frozen _ _ aN (Cq b _ _ cb (o+j) h3 h1 h2 rfl)];exact cI,fun v hv=>kI _ _ (qo v hv)⟩
 ·intro b es l hg hb
  rcases key b l _ hb hg with h1|⟨h1,h2,h3⟩
  ·exact G.maps b es l h1 hb
  ·obtain⟨cb,bE,clock,rfl,hm,dG,hv⟩:=H.maps b es l h1 h3
   have aN:cb<w.heap.size:=H.inside b _ h3
   exact⟨cb,bE,clock,rfl,by rw[E.block cb aN (fun j=>Cq b _ _ cb j h3 h1 h2 rfl)];exact hm,dG,fun i k v e e1 e2=>⟨kI _ _ (hv i k v e e1 e2).1,kI _ _ (hv i k v e e1 e2).2⟩⟩
 ·intro b l hg hb
  rcases key b l _ hb hg with h1|⟨h1,h2,h3⟩
  ·exact G.iE b l h1 hb
  ·obtain⟨cb,lo,hi,rfl,hc⟩:=H.iE b l h1 h3
   have aN:cb<w.heap.size:=H.inside b _ h3
   refine⟨cb,lo,hi,rfl,fun j e1 e2=>?_⟩
   obtain⟨c,cN,cI⟩:=hc j e1 e2
   exact⟨c,by rw[E.cell _ _ aN (Cq b _ _ cb j h3 h1 h2 ⟨rfl,e1,e2⟩)];exact cN,by rw[E.frozen _ _ aN (Cq b _ _ cb j h3 h1 h2 ⟨rfl,e1,e2⟩)];exact cI⟩
 ·intro b b' l l' x x' k j aT hb cF hg dz hl dG
  have mix: ∀b b' l l' x x',b≠b'->ι' b=some l->g.get b=some x->l.has k j->h.get b'=some x'->g0.get b'=none->ι b'=some l'->l'.has k j->False:=by
   intro b b' l l' x x' aT hb hg hl h1 h2 h3 dG
   rcases E.own k j ⟨b,l,x,hb,hg,hl⟩ with ho|ho
   ·grind
   grind
  rcases key b l x hb hg with h1|⟨h1,h2,h3⟩<;>rcases key b' l' x' cF dz with br|⟨br,cB,mC⟩
  ·exact G.eN b b' l l' x x' k j aT hb cF h1 br hl dG
  ·grind
  ·grind
  ·exact H.eN b b' l l' x x' k j aT h3 mC h1 br hl dG
 ·intro b l x k j hb hg hl hI
  rcases key b l x hb hg with h1|⟨h1,h2,h3⟩
  ·exact G.bZ b l x k j hb h1 hl hI
  ·rcases E.jW k j hI with h4|h4|h4
   ·exact H.bZ b l x k j h3 h1 hl h4
   ·grind
   grind
def z6 (ρ ρ':Env) (l:List aJ):Prop:= ∀x∈l,x.ev ρ=x.ev ρ'
theorem aiv: ∀(ps:List (Nat×Nat×aJ)) (cs:List AV),z6 ρ ρ' (ps.map fun p=>p.2.2)->pA ρ cs ps=pA ρ' cs ps
 |[],cs,_=>rfl
 |(off,sz,x)::ps,cs,ha=>by
  have hx:=ha x (by simp)
  simp only[pA,hx]
  split
  ·exact aiv ps _ (fun y hy=>ha y (by grind))
  ·rfl
theorem VL: ∀(ps:List (Nat×aJ)) (rows:List (List AV)),z6 ρ ρ' (ps.map fun p=>p.2)->lK ρ sz rows ps=lK ρ' sz rows ps
 |[],rows,_=>rfl
 |(i,x)::ps,rows,ha=>by
  have hx:=ha x (by simp)
  simp only[lK,hx]
  split
  ·exact VL ps _ (fun y hy=>ha y (by grind))
  ·rfl
def map_congr (ha:z6 ρ ρ' l):l.map (aJ.ev ρ)=l.map (aJ.ev ρ'):=xX fun x hx=>ha x hx
theorem ahT: ∀(ys:List aJ) (x:AV),z6 ρ ρ' ys->tU mx ρ x ys=tU mx ρ' x ys
 |[],x,_=>rfl
 |y::ys,x,ha=>by
  simp only[tU,ha y (by simp)]
  congr 1
  funext z
  exact ahT ys z (fun y hy=>ha y (by simp[hy]))
def VE (ha:z6 ρ ρ' (Je x)):ei ρ d x=ei ρ' d x:=by
 cases x with
 |none=>rfl
 |some x=>simp only[ei,ha x (by simp[Je])]
def VQ (q) (h) (ha:z6 ρ ρ' q.fb):bt q ρ h=bt q ρ' h:=by
 cases q<;>simp only[bt]
 case build z ps=>rw[aiv ps _ ha]
 case Gg n z ps=>rw[VL ps _ ha]
 case Lx f a b=>rw[map_congr (fun x hx=>ha x (by simp[eh.fb,hx])),map_congr (l:=b) (fun x hx=>ha x (by simp[eh.fb,hx]))]
 case Fx mx x r=>rw[ha x (by simp[eh.fb]),ahT r _ (fun y hy=>ha y (by simp[eh.fb,hy]))]
 case nQ sz x lo hi mx=>
  have e1:=ha x (by simp[eh.fb])
  have e2: ∀d,ei ρ d lo=ei ρ' d lo:=fun d=>VE (fun y hy=>ha y (by simp[eh.fb,hy]))
  have e3: ∀d,ei ρ d hi=ei ρ' d hi:=fun d=>VE (fun y hy=>ha y (by simp[eh.fb,hy]))
  have e4: ∀d,ei ρ d mx=ei ρ' d mx:=fun d=>VE (fun y hy=>ha y (by simp[eh.fb,hy]))
  simp only[m9,e1,e2,e3,e4]
 case pick c a b=>rw[ha c (by simp[eh.fb]),ha a (by simp[eh.fb]),ha b (by simp[eh.fb])]
 all_goals first
  |rfl
  |(rename_i x y;rw[ha x (by simp[eh.fb]),ha y (by simp[eh.fb])];done)
  |(rename_i x;rw[ha x (by simp[eh.fb])];done)
def aFY (q) (id) (ha:z6 ρ ρ' q.fb):l9 q ρ id=l9 q ρ' id:=by
 cases q<;>simp only[l9]
 case box x=>rw[ha x (by simp[Bc.fb])]
 case II z b l c=>rw[ha l (by simp[Bc.fb]),ha c (by simp[Bc.fb])]
 case Ja n z ps=>rw[VL ps _ ha]
def aH7 (q) (id) (h) (ha:z6 ρ ρ' q.fb):dL q ρ id h=dL q ρ' id h:=by
 cases q<;>simp only[dL]
 case Db m k v=>rw[ha m (by simp[rq.fb]),ha k (by simp[rq.fb]),ha v (by simp[rq.fb])]
 case zp z x=>rw[ha x (by simp[rq.fb])]
 case mark x=>rw[ha x (by simp[rq.fb])]
 all_goals (rename_i x y;rw[ha x (by simp[rq.fb]),ha y (by simp[rq.fb])])
def aiK {id:Nat} (ha: ∀t∈o.zT,ρ t=ρ' t) (hs:bS P o id ρ h r h'):bS P o id ρ' h r h':=by
 have wZ:z6 ρ ρ' o.op.fb:=by
  intro x hx
  cases x with
  |const v=>rfl
  |tmp t=>exact ha t (by simp only[RO.zT,vW,List.mem_flatMap];exact .inl ⟨_,hx,by simp[aJ.slot]⟩)
 have hg:dc o ρ=dc o ρ':=by
  unfold dc
  cases pQ:o.guard with
  |none=>rfl
  |some p=>
   obtain⟨g,b⟩:=p
   simp only[]
   rw[ha g (by simp[RO.zT,pQ])]
 unfold bS at*
 rw[<-hg]
 split
 ·rename_i hq
  rw[hq] at hs
  obtain⟨v,hr,dm⟩:=hs
  refine⟨v,hr,?_⟩
  unfold kB at*
  cases eB:o.op with
  |p q=>rw[eB] at dm wZ;exact⟨by rw[<-VQ q h wZ];exact dm.1,dm.2⟩
  |a q=>rw[eB] at dm wZ;obtain⟨b,h1,h2⟩:=dm;exact⟨b,by rw[<-aFY q id wZ];exact h1,h2⟩
  |e q=>rw[eB] at dm wZ;simp only at*;rw[<-aH7 q id h wZ];exact dm
  |call f as=>rw[eB] at dm wZ;simp only at*;rw[<-map_congr (l:=as) wZ];exact dm
  |dyn x as=>
   rw[eB] at dm wZ
   obtain⟨f,fs,cs,h1,h2,h3⟩:=dm
   refine⟨f,fs,cs,by rw[<-wZ x (by simp[iw.fb])];exact h1,h2,?_⟩
   rw[<-map_congr (l:=as) (fun y hy=>wZ y (by simp[iw.fb,hy]))]
   exact h3
 ·grind
 grind
end
end
section
open Go
def tP (o:RO) (ρ:Env) (r:Option AV) (h':aa) (ok:RO) (d:Env×aa×Option AV):Prop:=
 if o.op.dO then(match d.2.2,ok.op with|some v, .p q=>bt q d.1 h'=some v|_,_=>True)
 else(match r,o.op with|some v, .p q=>bt q ρ d.2.1=some v|_,_=>True)
def sU (P:Program) (az:List RO) (un:List (List Nat)) (base:Nat):List RO->Nat->Env->aa->List (Env×aa×Option AV)->(Env->aa->Prop)->Prop
 |[],_,ρ,h,_,K=>K ρ h
 |o::os,i,ρ,h,done,K=> ∃r h',bS P o (base+i) ρ h r h'/\
   (∀k∈un.getD i [],∀ok d,az[k]? =some ok->done[k]? =some d->tP o ρ r h' ok d)/\
   (o.op.dO=true-> ∀j,i<j->j<az.length->h'.get (base+j)=none)/\
   sU P az un base os (i+1) (put ρ o.dst (kU r)) h' (done++[(ρ,h,r)]) K
def jF (tr:List (Env×aa×Option AV)) (ρ:Env) (h:aa) (i:Nat):Env×aa:=
 match tr[i]? with
 |some d=>(d.1,d.2.1)
 |none=>(ρ,h)
def afa (P:Program) (az:List RO) (un:List (List Nat)) (base:Nat) (tr:List (Env×aa×Option AV)) (ρ:Env) (h:aa):Prop:=
 ∀(i:Nat) (ro:RO) (d:Env×aa×Option AV),az[i]? =some ro->tr[i]? =some d->
  bS P ro (base+i) (jF tr ρ h i).1 (jF tr ρ h i).2 d.2.2 (jF tr ρ h (i+1)).2/\
  (jF tr ρ h (i+1)).1=put (jF tr ρ h i).1 ro.dst (kU d.2.2)/\
  (ro.op.dO=true-> ∀j,i<j->j<az.length->(jF tr ρ h (i+1)).2.get (base+j)=none)/\
  ∀k∈un.getD i [],∀ok dk,az[k]? =some ok->tr[k]? =some dk->k<i->tP ro (jF tr ρ h i).1 d.2.2 (jF tr ρ h (i+1)).2 ok dk
theorem aj2: ∀(os pre:List RO) (ρ:Env) (h:aa) (done:List (Env×aa×Option AV)),
 az=pre++os->done.length=pre.length->afa P az un base done ρ h->sU P az un base os pre.length ρ h done K->
 ∃(tr:List (Env×aa×Option AV)) (ρn:Env) (hn:aa),tr.length=az.length/\K ρn hn/\afa P az un base tr ρn hn/\(∀(i:Nat) (d:Env×aa×Option AV),done[i]? =some d->tr[i]? =some d)/\(done.length=0->jF tr ρn hn 0=(ρ,h))
 |[],pre,ρ,h,done,hr,hl,ha,he=>by
  refine⟨done,ρ,h,by grind,he,ha,fun i d hd=>hd,fun h0=>?_⟩
  have:done=[]:=List.eq_nil_of_length_eq_zero h0
  subst this
  rfl
 |o::os,pre,ρ,h,done,hr,hl,ha,he=>by
  obtain⟨r,h',hs,hc,ka,bP⟩:=he
  have bB:az[pre.length]? =some o:=by rw[hr];simp
  have fy: ∀i,i<=done.length->jF (done++[(ρ,h,r)]) (put ρ o.dst (kU r)) h' i=jF done ρ h i:=by
   intro i hi
   unfold jF
   grind
  have Hr:jF (done++[(ρ,h,r)]) (put ρ o.dst (kU r)) h' (done.length+1)=(put ρ o.dst (kU r),h'):=by simp[jF]
  have CO:afa P az un base (done++[(ρ,h,r)]) (put ρ o.dst (kU r)) h':=by
   intro i ro d hi hd
   by_cases aS:i<done.length
   ·rw[Hm aS] at hd
    obtain⟨a1,a2,a4,a3⟩:=ha i ro d hi hd
    grind
   ·have av:=(List.getElem?_eq_some_iff.1 hd).1
    simp at av
    have:i=done.length:=by omega
    subst this
    simp at hd
    subst hd
    rw[hl,bB] at hi
    cases hi
    rw[fy _ (ak _),Hr]
    have h0:jF done ρ h done.length=(ρ,h):=by simp[jF]
    grind
  obtain⟨tr,ρn,hn,e1,e2,e3,e4,e5⟩:=aj2 os (pre++[o]) _ h' (done++[(ρ,h,r)]) (by rw[hr];simp) (by simp[hl]) CO (by simpa using bP)
  refine⟨tr,ρn,hn,e1,e2,e3,fun i d hd=>e4 i d (by grind),fun h0=>?_⟩
  have:=e4 done.length (ρ,h,r) (by simp)
  rw[h0] at this
  simp[jF,this]
theorem ahS: ∀(os:List Oper) (acc:List (List Nat)),∃rest,jl os acc=acc++rest
 |[],acc=>⟨[],by simp[jl]⟩
 |o::os,acc=>by
  obtain⟨rest,hr⟩:=ahS os (acc++[(o.after.toList.filter fun e=>Region.binds .any e).flatMap fun e=>e.on::acc.getD e.on []])
  exact⟨_,by rw[jl,hr,eR]⟩
theorem aiU: ∀(os:List Oper) (acc:List (List Nat)) (i j:Nat),acc.length<=j->i∈(jl os acc).getD j []->
 (∀k o,os[k]? =some o-> ∀e∈o.after.toList,Region.binds .any e=true->e.on<acc.length+k)->
 ∃o e,os[j-acc.length]? =some o/\e∈o.after.toList/\Region.binds .any e=true/\(i=e.on\/i∈(jl os acc).getD e.on [])
 |[],acc,i,j,hj,hi,_=>by
  simp[jl,List.getD,GC hj] at hi
 |o::os,acc,i,j,hj,hi,hb=>by
  by_cases hjj:j=acc.length
  ·subst hjj
   obtain⟨rest,hr⟩:=ahS os (acc++[(o.after.toList.filter fun e=>Region.binds .any e).flatMap fun e=>e.on::acc.getD e.on []])
   have qY:jl (o::os) acc=acc++([(o.after.toList.filter fun e=>Region.binds .any e).flatMap fun e=>e.on::acc.getD e.on []]++rest):=by rw[jl,hr,eR]
   grind
  ·have mZ:acc.length+1<=j:=by omega
   obtain⟨o',e,h1,h2,h3,h4⟩:=aiU os _ i j (by simp;omega) (show i∈(jl os (acc++[(o.after.toList.filter fun e=>Region.binds .any e).flatMap fun e=>e.on::acc.getD e.on []])).getD j [] from hi)
    (fun k o' eV e he UZ=>by have:=hb (k+1) o' (by grind) e he UZ;simp;omega)
   refine⟨o',e,?_,h2,h3,h4⟩
   grind
def EZ {ops:Array Oper} (hb: ∀k o,ops.toList[k]? =some o-> ∀e∈o.after.toList,Region.binds .any e=true->e.on<k) {S:Nat->Prop}
 (hS: ∀j o,S j->ops.toList[j]? =some o-> ∀e∈o.after.toList,Region.binds .any e=true->S e.on):
 ∀(j i:Nat),pF (jl ops.toList []) i j=true->((∃o,ops.toList[j]? =some o/\ ∀e∈o.after.toList,Region.binds .any e=true->S e.on)\/S j)->S i:=by
 intro j
 induction j using Nat.strongRecOn with
 |_ j ih=>
  intro i ho hj
  have hi:i∈(jl ops.toList []).getD j []:=by simpa [pF] using ho
  obtain⟨o,e,h1,h2,h3,h4⟩:=aiU ops.toList [] i j (by simp) hi (fun k o ho e he UZ=>by grind)
  simp at h1
  have br:ops.toList[j]? =some o:=by simpa using h1
  have hse:S e.on:=by
   grind
  rcases h4 with rfl|h4
  ·exact hse
  ·exact ih e.on (hb j o br e h2 h3) i (by simpa [pF] using h4) (.inr hse)
section
variable {P:Program} {md:Mode}
def Ext.step (E:Ext N0 ι0 I0 h0 w0 ι I H w) (F:Ext N ι I G w ι' I' G' w')
 (hN: ∀b,N b->N0 b) (ez: ∀b l x,ι b=some l->G.get b=some x-> ∃y,H.get b=some y)
 (oO: ∀b l x,ι' b=some l->H'.get b=some x->(∃y,G'.get b=some y)\/(ι b=some l/\ ∃y,H.get b=some y))
 (jb:H.next<=H'.next) (Kn: ∀b,¬N0 b->ι0 b=none->H'.get b=h0.get b):Ext N0 ι0 I0 h0 w0 ι' I' H' w':=by
 have U1: ∀k j,fJ ι G k j->fJ ι0 h0 k j\/w0.heap.size<=k:=by
  rintro k j ⟨b,l,x,hb,hg,hl⟩
  obtain⟨y,hy⟩:=ez b l x hb hg
  exact E.own k j ⟨b,l,y,hb,hy,hl⟩
 exact
 {fN:=fun b hb=>(F.fN b (fun h=>hb (hN b h))).trans (E.fN b hb)
  more:=fun b l h=>F.more b l (E.more b l h)
  next:=fm E.next jb
  bZ:=fun k j h=>F.bZ k j (E.bZ k j h)
  os:=F.os.trans E.os
  tape:=F.tape.trans E.tape
  output:=F.output.trans E.output
  size:=fm E.size F.size
  block:=fun k hk ho=>(F.block k (bJ hk E.size) (fun j hj=>(U1 k j hj).elim (ho j) (fun h=>by omega))).trans (E.block k hk ho)
  cell:=fun k j hk ho=>(F.cell k j (bJ hk E.size) (fun hj=>(U1 k j hj).elim ho (fun h=>by omega))).trans (E.cell k j hk ho)
  frozen:=fun k j hk ho=>(F.frozen k j (bJ hk E.size) (fun hj=>(U1 k j hj).elim ho (fun h=>by omega))).trans (E.frozen k j hk ho)
  own:=by
   rintro k j ⟨b,l,x,hb,hg,hl⟩
   rcases oO b l x hb hg with⟨y,hy⟩|⟨cF,y,hy⟩
   ·rcases F.own k j ⟨b,l,y,hb,hy,hl⟩ with h|h
    ·exact U1 k j h
    ·exact .inr (fm E.size h)
   ·exact E.own k j ⟨b,l,y,cF,hy,hl⟩
  jW:=by
   intro k j h
   rcases F.jW k j h with h|h|h
   ·exact E.jW k j h
   ·grind
   ·exact .inr (.inr (fm E.size h))
  lost:=Kn}
structure TR (P:Program) (ops:Array Oper) (az:List RO) (un:List (List Nat)) (base:Nat) (ρs:Nat->Env) (hs:Nat->aa) (rs:Nat->Option AV):Prop where
 step: ∀(i:Nat) (ro:RO),az[i]? =some ro->bS P ro (base+i) (ρs i) (hs i) (rs i) (hs (i+1))/\ρs (i+1)=put (ρs i) ro.dst (kU (rs i))
 tP: ∀(i k:Nat) (ro ok:RO),az[i]? =some ro->az[k]? =some ok->k<i->k∈un.getD i []->tP ro (ρs i) (rs i) (hs (i+1)) ok (ρs k,hs k,rs k)
 amL: ∀j,j<az.length->(hs 0).get (base+j)=none
 amK: ∀(i:Nat) (ro:RO),az[i]? =some ro->ro.op.dO=true-> ∀j,i<j->j<az.length->(hs (i+1)).get (base+j)=none
 aNT:base+az.length<=(hs 0).next
 d1: ∀(i j:Nat) (ri rj:RO) (t:Nat),az[i]? =some ri->az[j]? =some rj->ri.dst=some t->rj.dst=some t->i=j
 d2: ∀(k:Nat) (o:Oper),ops.toList[k]? =some o-> ∀e∈o.after.toList,Region.binds .any e=true->e.on<k
 d3: ∀(i j:Nat) (ri rj:RO) (t:Nat),az[i]? =some ri->az[j]? =some rj->i≠j->t∈ri.zT->rj.dst=some t->if j<i then pF (jl ops.toList []) j i=true else pF (jl ops.toList []) i j=true
 d4: ∀(i j:Nat) (ri rj:RO),i<j->az[i]? =some ri->az[j]? =some rj->ri.op.dO=true->rj.op.dO=true->pF (jl ops.toList []) i j=true
 d5: ∀(i k:Nat) (ri rk:RO),k<i->az[i]? =some ri->az[k]? =some rk->((ri.op.reads=true/\rk.op.dO=true)\/(ri.op.dO=true/\rk.op.reads=true))->pF (jl ops.toList []) k i=false->k∈un.getD i []
section trace
variable {ops:Array Oper} {az:List RO} {un:List (List Nat)} {base:Nat} {ρs:Nat->Env} {hs:Nat->aa} {rs:Nat->Option AV} (T:TR P ops az un base ρs hs rs)
def aii {id:Nat} (he:ro.op.dO=false) (hs:bS P ro id ρ h r h'):h'=h\/ ∃Nf,h'=h.at id Nf:=by
 unfold bS at hs
 split at hs
 ·obtain⟨v,_,dm⟩:=hs
  unfold kB at dm
  cases eB:ro.op with
  |p q=>grind
  |a q=>grind
  |e q=>rw[eB] at he;cases he
  |call f as=>rw[eB] at he;cases he
  |dyn x as=>rw[eB] at he;cases he
 ·grind
 grind
include T in
def TR.one (hi:az[i]? =some ro) (he:ro.op.dO=false) (b) (hb:b≠base+i):(hs (i+1)).get b=(hs i).get b:=by
 rcases aii he (T.step i ro hi).1 with h|⟨Nf,h⟩
 ·rw[h]
 ·rw[h];simp[aa.at,hb]
def E8 (az:List RO) (i j:Nat):Prop:= ∀k ro,i<=k->k<j->az[k]? =some ro->ro.op.dO=false
include T in
def TR.C7: ∀(d i:Nat),i+d<=az.length->E8 az i (i+d)-> ∀b,(∀k,i<=k->k<i+d->b≠base+k)->(hs (i+d)).get b=(hs i).get b
 |0,i,_,_,b,_=>rfl
 |d+1,i,hle,hq,b,hb=>by
  have aS:i+d<az.length:=by omega
  have h1:=T.one (bn aS) (hq (i+d) _ (by omega) (by omega) (bn aS)) b (hb (i+d) (by omega) (by omega))
  have h2:=TR.C7 d i (by omega) (fun k ro h3 h4=>hq k ro h3 (by omega)) b (fun k h3 h4=>hb k h3 (by omega))
  grind
include T in
def TR.VY: ∀(d i:Nat),i+d<=az.length->E8 az i (i+d)->base+az.length<=(hs i).next->(hs (i+d)).next=(hs i).next
 |0,i,_,_,_=>rfl
 |d+1,i,hle,hq,hn=>by
  have aS:i+d<az.length:=by omega
  have h2:=TR.VY d i (by omega) (fun k ro h3 h4=>hq k ro h3 (by omega)) hn
  rw[show i+(d+1)=i+d+1 by omega,<-h2]
  rcases aii (hq (i+d) _ (by omega) (by omega) (bn aS)) (T.step (i+d) _ (bn aS)).1 with h|⟨Nf,h⟩
  ·rw[h]
  ·rw[h];simp only[aa.at];omega
include T in
def TR.fresh: ∀(i j:Nat),i<=j->j<az.length->(hs i).get (base+j)=none
 |0,j,_,hj=>T.amL j hj
 |i+1,j,AX,hj=>by
  have aS:i<az.length:=by omega
  have hi:=bn aS
  cases he:(az[i]).op.dO with
  |true=>exact T.amK i _ hi he j (by omega) hj
  |false=>rw[T.one hi he (base+j) (by omega)];exact TR.fresh i j (by omega) hj
include T in
def TR.env: ∀(i:Nat),i<=az.length->(∀t,(∀j ro,j<i->az[j]? =some ro->ro.dst≠some t)->ρs i t=ρs 0 t)/\
 (∀t j ro,j<i->az[j]? =some ro->ro.dst=some t->ρs i t=kU (rs j))
 |0,_=>⟨fun _ _=>rfl,fun t j ro h=>by omega⟩
 |i+1,hi=>by
  obtain⟨e1,e2⟩:=TR.env i (by omega)
  have aS:i<az.length:=by omega
  have bB:=bn aS
  have fy:=(T.step i _ bB).2
  refine⟨fun t ht=>?_,fun t j ro hj fR LQ=>?_⟩
  ·rw[fy]
   have aT:=ht i _ (by omega) bB
   have:put (ρs i) (az[i]).dst (kU (rs i)) t=ρs i t:=by
    cases hd:(az[i]).dst with
    |none=>rfl
    |some d=>
     have:t≠d:=fun h=>aT (by rw[hd,h])
     simp[put,this]
   grind
  ·rw[fy]
   by_cases jt:j=i
   ·subst jt
    rw[bB] at fR
    cases fR
    simp[put,LQ]
   ·have aT:(az[i]).dst≠some t:=fun h=>jt (T.d1 j i ro _ t fR bB LQ h)
    have:put (ρs i) (az[i]).dst (kU (rs i)) t=ρs i t:=by
     cases hd:(az[i]).dst with
     |none=>rfl
     |some d=>
      have:t≠d:=fun h=>aT (by rw[hd,h])
      simp[put,this]
    grind
end trace
end
end
end Go.Proofs.YtoioonbabnomkaaGreat.Am
